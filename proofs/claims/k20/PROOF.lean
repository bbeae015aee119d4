import PyProof.Rows.All
import Wide.All
import OpenK.AllK
import Wide.FinOn
import HandS.ForMost
import HandS.Flow
import HandS.Deep
import HandS.Style
import HandS.TupAny
import KE.KDictKeyed
import HandS.TupMul
import HandS.IsInst
import PyProof.WalksMore
import PyProof.WalkInts
import HandS.Dict
import HandS.TupLen
import HandS.Defaults
import HandS.Zip
import HandS.Conv
import KE.GoesMore
import KE.KDictZip
import HandS.Star
import HandS.ExcValue
import HandS.Comp
import HandS.MakeKw
import HandS.Words
import PySem.Challenge.RW_meantlog_k20_price_trees
set_option Elab.async false
set_option linter.all false
set_option maxRecDepth 100000
/-! A small language: what the defs of the program compute, over plain data. Lists and dicts that a name holds alone are owned by its slot; read as values they are frozen. -/
namespace Mt
open PySem

abbrev D := PyData
def SZ : Nat := 16777216

/-- a slot: nothing yet; data; an owned list, dict, list of owned lists, dict of owned lists (lk: being walked); the script, that is read alone -/
inductive Sl where
  | emp
  | dat (d : D)
  | lst (lk : Bool) (xs : List D)
  | dct (lk : Bool) (kvs : List (D × D))
  | dll (lk : Bool) (xss : List (List D))
  | ddl (lk : Bool) (kvs : List (D × List D))
  | scr (xs : List D)
abbrev MS := List Sl
def isEmp : Sl → Bool
  | .emp => true
  | _ => false

/-- what an expression gives: data, something new that nobody else holds, or what a slot holds -/
inductive R where
  | dat (d : D)
  | lst (xs : List D)
  | dct (kvs : List (D × D))
  | dll (xss : List (List D))
  | ddl (kvs : List (D × List D))
  | scr (xs : List D)
  | pl (i : Nat)
  | pl2 (i : Nat) (k : D)

/-- a default, a constant of the module -/
inductive Cn where
  | none | bool (b : Bool) | int (i : Int) | str (s : Str)
  deriving DecidableEq
def cnD : Cn → D
  | .none => .none
  | .bool b => .bool b
  | .int i => .int i
  | .str s => .str s
inductive Bop where | add | sub | mul | fdiv | mod | pow
  deriving DecidableEq
inductive Cop where | eq | ne | lt | le | gt | ge | isIn | notIn | is | isNot
  deriving DecidableEq
inductive Bi where
  | len | abs | int | min | max | sum | any | all | tuple | list | dict | sorted | isInt | isBool | isStr | isTup | get | index | str | set | vals
  deriving DecidableEq
inductive Mu where | append | extend | pop | insert | setdefault
  deriving DecidableEq

inductive Tg where
  | nm (i : Nat)
  | tup (ts : List Tg)

inductive E where
  | c (d : D)
  | v (i : Nat)
  | bin (op : Bop) (a b : E)
  | neg (a : E)
  | tru (a : E)
  | nt (a : E)
  | ntv (a : E)
  | at (es : List E)
  | ot (es : List E)
  | and (es : List E)
  | or (es : List E)
  | cmp (op : Cop) (a b : E)
  | chn (op op2 : Cop) (a b c : E)
  | ite (t a b : E)
  | tup (es : List E)
  | lst (es : List E)
  | dis (es : List E)
  | ix (a b : E)
  | sl (a lo hi : E)
  | rev (a : E)
  | call (f : Nat) (pat : List (Option Cn)) (as : List E)
  | bi (b : Bi) (es : List E)
  | mu (m : Mu) (i : Nat) (es : List E)
  | lc (vs : List Nat) (tg : Tg) (it cd elt : E)
  | dc (vs : List Nat) (tg : Tg) (it cd k e : E)
  | abs
  | ln (i : Nat)
  | ex (a : E)
  | bd (a : E)
  | wk (a : E)
  | rng (es : List E)
  | lrg (tp : Bool) (es : List E)
  | enum (e : E)
  | zip (es : List E)
  | zips (e : E)
  | items (e : E)

inductive T where
  | nm (i : Nat)
  | sub (i : Nat) (k : E)
  | tup (ts : List Tg)

inductive S where
  | set (i : Nat) (e : E)
  | par (ts : List T) (es : List E)
  | unp (ts : List Tg) (e : E)
  | seti (i : Nat) (k e : E)
  | seti2 (i : Nat) (j k e : E)
  | aug (i : Nat) (op : Bop) (e : E)
  | augi (i : Nat) (op : Bop) (k e : E)
  | ex (e : E)
  | app2 (i : Nat) (j e : E)
  | sdapp (i : Nat) (k e : E)
  | ife (t : E) (a b : List S)
  | fr (tg : Tg) (it : E) (body : List S)
  | whl (t : E) (body : List S)
  | ret (e : E)
  | retv (i : Nat)
  | retn
  | brk | cnt | pass

/-! ### slots -/
def gt : MS → Nat → Sl
  | [], _ => .emp
  | x :: _, 0 => x
  | _ :: xs, n + 1 => gt xs n
/-- what a result is, places looked up -/
def look (st : MS) : R → Option R
  | .pl i => match gt st i with
    | .emp => none
    | .dat d => some (.dat d)
    | .lst _ xs => some (.lst xs)
    | .dct _ kvs => some (.dct kvs)
    | .dll _ xss => some (.dll xss)
    | .ddl _ kvs => some (.ddl kvs)
    | .scr xs => some (.scr xs)
  | .pl2 _ _ => none
  | r => some r
def looks (st : MS) : List R → Option (List R)
  | [] => some []
  | r :: rs => match look st r, looks st rs with
    | some c, some cs => some (c :: cs)
    | _, _ => none
/-- as data; what was owned is so no longer -/
def frz (st : MS) : R → Option (D × MS)
  | .dat d => some (d, st)
  | .lst xs => some (.list xs, st)
  | .pl i => match gt st i with
    | .dat d => some (d, st)
    | .lst _ xs => some (.list xs, st.set i (.dat (.list xs)))
    | _ => none
  | _ => none
def asSl : R → Option Sl
  | .dat d => some (.dat d)
  | .lst xs => some (.lst false xs)
  | .dct kvs => some (.dct false kvs)
  | .dll xss => some (.dll false xss)
  | .ddl kvs => some (.ddl false kvs)
  | .scr xs => some (.scr xs)
  | _ => none
/-- ready to be held by a slot: places are frozen -/
def own (st : MS) : R → Option (Sl × MS)
  | .pl i => match frz st (.pl i) with
    | some (d, st) => some (.dat d, st)
    | none => none
  | r => match asSl r with
    | some s => some (s, st)
    | none => none

/-! ### keys -/
mutual
def keyOf : D → Option NestedKey
  | .none => some .none
  | .bool b => some (.num (if b then 1 else 0))
  | .int i => some (.num i)
  | .str x => some (.text x)
  | .tuple xs => match keysOf xs with
    | some ks => some (.tup ks)
    | none => none
  | _ => none
def keysOf : List D → Option (List NestedKey)
  | [] => some []
  | x :: xs => match keyOf x, keysOf xs with
    | some k, some ks => some (k :: ks)
    | _, _ => none
end
def isT : D → Bool
  | .tuple _ => true
  | _ => false
def isLf : D → Bool
  | .int _ => true
  | .str _ => true
  | _ => false
/-- the key of a dict all of whose keys are tuples, or all numbers and texts -/
def keyIn {α : Type} (kvs : List (D × α)) (k : D) : Option NestedKey :=
  match keyOf k with
  | some q => if ((isT k && kvs.all fun p => isT p.1) || (isLf k && kvs.all fun p => isLf p.1)) && decide (q.depth ≤ 8) then some q else none
  | none => none
def kGet {α : Type} : List (D × α) → NestedKey → Option α
  | [], _ => none
  | (k, x) :: r, q => if keyOf k = some q then some x else kGet r q
def kHas {α : Type} (kvs : List (D × α)) (q : NestedKey) : Bool := (kGet kvs q).isSome
def kPut {α : Type} : List (D × α) → NestedKey → D → α → List (D × α)
  | [], _, k, x => [(k, x)]
  | (k', y) :: r, q, k, x => if keyOf k' = some q then (k', x) :: r else (k', y) :: kPut r q k x

/-! ### operators, by contents -/
def asL : R → Option (List D)
  | .lst xs => some xs
  | .dat (.list xs) => some xs
  | _ => none
def asI : R → Option Int
  | .dat (.int i) => some i
  | _ => none
def asB : R → Option Bool
  | .dat (.bool b) => some b
  | _ => none
def mkT (xs : List D) : Option R := if xs.length ≤ SZ then some (.dat (.tuple xs)) else none
def mkL (xs : List D) : Option R := if xs.length ≤ SZ then some (.lst xs) else none
def opAdd (a b : R) : Option R :=
  match a, b with
  | .dat (.int x), .dat (.int y) => some (.dat (.int (x + y)))
  | .dat (.str x), .dat (.str y) => if x.length + y.length ≤ SZ then some (.dat (.str (x ++ y))) else none
  | .dat (.tuple x), .dat (.tuple y) => if x.length + y.length ≤ SZ then some (.dat (.tuple (x ++ y))) else none
  | a, b => match asL a, asL b with
    | some x, some y => if x.length + y.length ≤ SZ then some (.lst (x ++ y)) else none
    | _, _ => none
def opMul (a b : R) : Option R :=
  match a, b with
  | .dat (.int x), .dat (.int y) => if x.natAbs < 2 ^ 64 ∨ y.natAbs < 2 ^ 64 then some (.dat (.int (x * y))) else none
  | .dat (.tuple x), .dat (.int n) => if x.length * n.toNat ≤ SZ ∧ -(2 ^ 63) ≤ n ∧ n < 2 ^ 63 then some (.dat (.tuple (List.replicate n.toNat x).flatten)) else none
  | a, .dat (.int n) => match asL a with
    | some x => if x.length * n.toNat ≤ SZ ∧ -(2 ^ 63) ≤ n ∧ n < 2 ^ 63 then some (.lst (List.replicate n.toNat x).flatten) else none
    | none => none
  | _, _ => none
def opBin : Bop → R → R → Option R
  | .add, a, b => opAdd a b
  | .mul, a, b => opMul a b
  | .sub, .dat (.int x), .dat (.int y) => some (.dat (.int (x - y)))
  | .fdiv, .dat (.int x), .dat (.int y) => if 0 < y ∧ y < 1073741824 then some (.dat (.int (x / y))) else none
  | .mod, .dat (.int x), .dat (.int y) => if 0 < y then some (.dat (.int (x % y))) else none
  | .pow, .dat (.int x), .dat (.int y) => if 0 ≤ y ∧ y ≤ 1000000 ∧ x.natAbs < 2 ^ 64 then some (.dat (.int (x ^ y.toNat))) else none
  | _, _, _ => none
/-- as data, for what only reads -/
def vw : R → Option D
  | .dat d => some d
  | .lst xs => some (.list xs)
  | .dll xss => some (.list (xss.map PyData.list))
  | _ => none
def isScal : D → Bool
  | .none | .bool _ | .int _ | .str _ => true
  | _ => false
def eqD (a b : D) : Option Bool :=
  if (isScal a && isScal b) || (SeqAt.shaped a && SeqAt.shaped b) then some (PyData.eqv a b) else none
def inD (a : D) : D → Option Bool
  | .tuple xs => if SeqAt.shaped a && SeqAt.shaped (.tuple xs) then some (xs.any fun z => PyData.eqv z a) else none
  | .list xs => if SeqAt.shaped a && SeqAt.shaped (.list xs) then some (xs.any fun z => PyData.eqv z a) else none
  | _ => none
def isD (a : D) : D → Option Bool
  | .none => some (match a with | .none => true | _ => false)
  | .bool b => match a with
    | .bool c => some (c == b)
    | .int _ => some false
    | .none => some false
    | .str _ => some false
    | .tuple _ => some false
    | .list _ => some false
    | _ => none
  | _ => none
def opIn (a b : R) : Option Bool :=
  match vw a with
  | none => none
  | some x => match b with
    | .dct kvs => match keyIn kvs x with
      | some q => some (kHas kvs q)
      | none => none
    | .ddl kvs => match keyIn kvs x with
      | some q => some (kHas kvs q)
      | none => none
    | b => match vw b with
      | some y => inD x y
      | none => none
def opCmp : Cop → R → R → Option Bool
  | .eq, a, b => match vw a, vw b with | some x, some y => eqD x y | _, _ => none
  | .ne, a, b => match vw a, vw b with | some x, some y => (match eqD x y with | some c => some (!c) | none => none) | _, _ => none
  | .lt, .dat (.int x), .dat (.int y) => some (decide (x < y))
  | .le, .dat (.int x), .dat (.int y) => some (decide (x ≤ y))
  | .gt, .dat (.int x), .dat (.int y) => some (decide (y < x))
  | .ge, .dat (.int x), .dat (.int y) => some (decide (y ≤ x))
  | .isIn, a, b => opIn a b
  | .notIn, a, b => match opIn a b with | some c => some (!c) | none => none
  | .is, a, .dat y => match vw a with | some x => isD x y | none => none
  | .isNot, a, .dat y => match vw a with | some x => (match isD x y with | some c => some (!c) | none => none) | none => none
  | _, _, _ => none
def opTru : R → Option Bool
  | .dat .none => some false
  | .dat (.bool b) => some b
  | .dat (.int i) => some (i != 0)
  | .dat (.str s) => if s.length ≤ SZ then some (s.length != 0) else none
  | .dat (.tuple xs) => some (!xs.isEmpty)
  | .dat (.list xs) => some (!xs.isEmpty)
  | .lst xs => some (!xs.isEmpty)
  | .dll xs => some (!xs.isEmpty)
  | _ => none
/-- the place of an index -/
def ixOf (n : Nat) (i : Int) : Option Nat := L2.ixN n i
def atD (xs : List D) (i : Int) : Option D := match ixOf xs.length i with | some j => xs[j]? | none => none
def opIx (a b : R) : Option R :=
  match a with
  | .dat (.tuple xs) => match b with
    | .dat (.int i) => match atD xs i with | some d => some (.dat d) | none => none
    | _ => none
  | .dat (.str z) => match b with
    | .dat (.int i) => if z.length ≤ SZ then (match ixOf z.cps.size i with | some j => (match z.cps.toList[j]? with | some ch => some (.dat (.str ⟨#[ch]⟩)) | none => none) | none => none) else none
    | _ => none
  | .dct kvs => match b with
    | .dat k => match keyIn kvs k with
      | some q => match kGet kvs q with | some d => some (.dat d) | none => none
      | none => none
    | _ => none
  | .scr xs => match b with
    | .dat (.int i) => match atD xs i with | some d => some (.dat d) | none => none
    | _ => none
  | a => match asL a, b with
    | some xs, .dat (.int i) => match atD xs i with | some d => some (.dat d) | none => none
    | _, _ => none
def cutD (xs : List D) (lo hi : Option Int) : List D := (xs.drop (HT.sIx xs.length 0 lo)).take (HT.sIx xs.length xs.length hi - HT.sIx xs.length 0 lo)
def opSl (a : R) (lo hi : Option Int) : Option R :=
  match a with
  | .dat (.tuple xs) => some (.dat (.tuple (cutD xs lo hi)))
  | a => match asL a with
    | some xs => some (.lst (cutD xs lo hi))
    | none => none
def intsD : List D → Option (List Int)
  | [] => some []
  | .int i :: r => match intsD r with | some ns => some (i :: ns) | none => none
  | _ => none
def boolsD : List D → Option (List Bool)
  | [] => some []
  | .bool b :: r => match boolsD r with | some bs => some (b :: bs) | none => none
  | _ => none
def leastI : List Int → Option Int
  | [] => none
  | x :: r => some (r.foldl (fun a b => if b < a then b else a) x)
def mostI : List Int → Option Int
  | [] => none
  | x :: r => some (r.foldl (fun a b => if b > a then b else a) x)
def opLen : R → Option Int
  | .dat (.str z) => if z.length ≤ SZ then some z.length else none
  | .dat (.tuple xs) => some xs.length
  | .dat (.list xs) => some xs.length
  | .lst xs => some xs.length
  | .dll xs => some xs.length
  | .dct kvs => if kvs.length ≤ SZ then some kvs.length else none
  | .scr xs => some xs.length
  | _ => none
def iI (i : Int) : R := .dat (.int i)
def iB (b : Bool) : R := .dat (.bool b)
/-- the first place of an item -/
def findAt (d : D) : List D → Nat → Option Nat
  | [], _ => none
  | x :: r, n => if PyData.eqv x d then some n else findAt d r (n + 1)
def dictOfPairs : List D → List (D × D) → Option (List (D × D))
  | [], acc => some acc
  | .tuple [k, x] :: r, acc => match keyIn acc k with
    | some q => dictOfPairs r (kPut acc q k x)
    | none => none
  | _, _ => none
def one (cs : List R) (f : R → Option R) : Option R :=
  match cs with
  | [a] => f a
  | _ => none
def two (cs : List R) (f : R → R → Option R) : Option R :=
  match cs with
  | [a, b] => f a b
  | _ => none
def listOf : R → Option (List D)
  | .dat (.tuple xs) => some xs
  | a => asL a
def tupleOf : R → Option (List D)
  | .dat (.tuple xs) => some xs
  | a => asL a
def seqOf (a : R) : Option (List D) := match vw a with
  | some (.tuple xs) => some xs
  | some (.list xs) => some xs
  | _ => none
/-- isinstance of a built-in type -/
def isKind : Bi → D → Bool
  | .isInt, .int _ => true
  | .isInt, .bool _ => true
  | .isBool, .bool _ => true
  | .isStr, .str _ => true
  | .isTup, .tuple _ => true
  | _, _ => false
def opBi (b : Bi) (cs : List R) : Option R :=
  match b with
  | .len => one cs fun a => (opLen a).map iI
  | .abs => one cs fun a => (asI a).map fun i => iI (if i < 0 then -i else i)
  | .int => one cs fun a => match a with
    | .dat (.int i) => some (iI i)
    | .dat (.bool b) => some (iI (if b then 1 else 0))
    | _ => none
  | .min => match cs with
    | [a] => (tupleOf a).bind fun xs => (intsD xs).bind fun ns => (leastI ns).map iI
    | _ => two cs fun a b => (asI a).bind fun i => (asI b).map fun j => iI (if j < i then j else i)
  | .max => match cs with
    | [a] => (tupleOf a).bind fun xs => (intsD xs).bind fun ns => (mostI ns).map iI
    | _ => two cs fun a b => (asI a).bind fun i => (asI b).map fun j => iI (if j > i then j else i)
  | .sum => one cs fun a => (asL a).bind fun xs => (intsD xs).map fun ns => iI ns.sum
  | .any => one cs fun a => (asL a).bind fun xs => (boolsD xs).map fun bs => iB (bs.any id)
  | .all => one cs fun a => (asL a).bind fun xs => (boolsD xs).map fun bs => iB (bs.all id)
  | .tuple => one cs fun a => (tupleOf a).map fun xs => .dat (.tuple xs)
  | .list => one cs fun a => (listOf a).map .lst
  | .dict => one cs fun a => (asL a).bind fun xs => (dictOfPairs xs []).map .dct
  | .isInt => one cs fun a => (vw a).map fun d => iB (isKind .isInt d)
  | .isBool => one cs fun a => (vw a).map fun d => iB (isKind .isBool d)
  | .isStr => one cs fun a => (vw a).map fun d => iB (isKind .isStr d)
  | .isTup => one cs fun a => (vw a).map fun d => iB (isKind .isTup d)
  | .get => match cs with
    | [.dct kvs, .dat k, .dat x] => (keyIn kvs k).map fun q => .dat ((kGet kvs q).getD x)
    | [.dct kvs, .dat k] => (keyIn kvs k).map fun q => .dat ((kGet kvs q).getD .none)
    | _ => none
  | .index => match cs with
    | [a, .dat d] => (vw a).bind fun v => (seqOf a).bind fun xs => if SeqAt.shaped d && SeqAt.shaped v then (findAt d xs 0).map fun j => iI j else none
    | _ => none
  | .vals => match cs with
    | [.dct kvs] => some (.lst (kvs.map (·.2)))
    | _ => none
  | _ => none

/-! ### what a slot's method changes -/
def opMu (m : Mu) (s : Sl) (xs : List D) : Option (R × Sl) :=
  match m with
  | .append => match s with
    | .lst false ys => match xs with
      | [d] => if ys.length < SZ then some (.dat .none, .lst false (ys ++ [d])) else none
      | _ => none
    | _ => none
  | .extend => match s with
    | .lst false ys => match xs with
      | [d] => match d with
        | .list zs => if ys.length + zs.length ≤ SZ then some (.dat .none, .lst false (ys ++ zs)) else none
        | _ => none
      | _ => none
    | _ => none
  | .pop => match s with
    | .lst false ys => match xs with
      | [] => match ys.getLast? with | some d => some (.dat d, .lst false ys.dropLast) | none => none
      | [d] => match d with
        | .int i => if -(2 ^ 63) ≤ i ∧ i < 2 ^ 63 then (match ixOf ys.length i with | some j => (match ys[j]? with | some d => some (.dat d, .lst false (ys.eraseIdx j)) | none => none) | none => none) else none
        | _ => none
      | _ => none
    | _ => none
  | .setdefault => match s with
    | .dct false kvs => match xs with
      | [k, x] => match keyIn kvs k with
        | some q => match kGet kvs q with
          | some y => some (.dat y, .dct false kvs)
          | none => if kvs.length < SZ then some (.dat x, .dct false (kPut kvs q k x)) else none
        | none => none
      | _ => none
    | _ => none
  | .insert => none
def muOk (m : Mu) (s : Sl) : Bool :=
  match s with
  | .lst .. => m != .setdefault
  | .dct .. => m == .setdefault
  | _ => false
def opSet (s : Sl) (k : D) (x : D) : Option Sl :=
  match s with
  | .lst false xs => match k with
    | .int i => match ixOf xs.length i with | some j => some (.lst false (xs.set j x)) | none => none
    | _ => none
  | .dct false kvs => match keyIn kvs k with
    | some q => if kvs.length < SZ then some (.dct false (kPut kvs q k x)) else none
    | none => none
  | _ => none

/-! ### targets -/
def zipTg (f : Tg → D → MS → Option MS) : List Tg → List D → MS → Option MS
  | [], [], st => some st
  | t :: ts, x :: xs, st => match f t x st with
    | some st => zipTg f ts xs st
    | none => none
  | _, _, _ => none
mutual
def putT : Tg → D → MS → Option MS
  | .nm i, d, st => some (st.set i (.dat d))
  | .tup ts, .tuple xs, st => putTs ts xs st
  | _, _, _ => none
def putTs : List Tg → List D → MS → Option MS
  | [], [], st => some st
  | t :: ts, x :: xs, st => match putT t x st with
    | some st => putTs ts xs st
    | none => none
  | _, _, _ => none
end

/-! ### walking -/
def lockS : Sl → Sl
  | .lst _ xs => .lst true xs
  | .dct _ kvs => .dct true kvs
  | .dll _ xss => .dll true xss
  | .ddl _ kvs => .ddl true kvs
  | s => s
def isOpen : Sl → Bool
  | .lst false _ | .dct false _ | .dll false _ | .ddl false _ => true
  | _ => false
def unlockS : Sl → Sl
  | .lst true xs => .lst false xs
  | .dct true kvs => .dct false kvs
  | .dll true xss => .dll false xss
  | .ddl true kvs => .ddl false kvs
  | s => s
def lockAll (st : MS) : List Nat → MS
  | [] => st
  | i :: r => lockAll (st.set i (lockS (gt st i))) r
def unlockAll (st : MS) : List Nat → MS
  | [] => st
  | i :: r => unlockAll (st.set i (unlockS (gt st i))) r
def opens (st : MS) (is : List Nat) : List Nat := is.filter fun i => isOpen (gt st i)
/-- the items that a content walks -/
def itemsOf : R → Option (List D)
  | .dat (.tuple xs) => some xs
  | .dat (.list xs) => some xs
  | .lst xs => some xs
  | .scr xs => some xs
  | _ => none
/-- a tuple, or a list -/
def isTp : R → Bool
  | .dat (.tuple _) => true
  | _ => false
def plOf : R → List Nat
  | .pl i => [i]
  | _ => []
def enumD : Int → List D → List D
  | _, [] => []
  | n, x :: r => .tuple [.int n, x] :: enumD (n + 1) r
def zipD : List D → List D → List D
  | x :: r, y :: q => .tuple [x, y] :: zipD r q
  | _, _ => []
def zipD3 : List D → List D → List D → List D
  | x :: r, y :: q, z :: p => .tuple [x, y, z] :: zipD3 r q p
  | _, _, _ => []
/-- columns of rows -/
def heads : List (List D) → Option (List D × List (List D))
  | [] => some ([], [])
  | (x :: r) :: q => match heads q with | some (hs, ts) => some (x :: hs, r :: ts) | none => none
  | [] :: _ => none
def columns : Nat → List (List D) → List D
  | 0, _ => []
  | n + 1, rows => match heads rows with
    | some (hs, ts) => .tuple hs :: columns n ts
    | none => []
def tups : List D → Option (List (List D))
  | [] => some []
  | .tuple xs :: r => match tups r with | some q => some (xs :: q) | none => none
  | _ => none
/-- the length that all of some rows have -/
def sqn : List (List D) → Option Nat
  | r :: rs => if decide (0 < r.length) && decide (r.length ≤ SZ) && rs.all (fun q => decide (q.length = r.length)) then some r.length else none
  | [] => none
def colsD (n : Nat) (rows : List (List D)) : List D := (List.range n).map fun i => PyData.tuple (rows.map fun r => r.getD i .none)
def rangeD (lo hi : Int) : List D := (List.range (hi - lo).toNat).map fun (k : Nat) => PyData.int (lo + (k : Int))
def okR (i : Int) : Bool := decide (-(2 ^ 62) ≤ i) && decide (i < 2 ^ 62)

/-- forget, put back the slots of a comprehension's own names -/
def wipeS (st : MS) : List Nat → MS
  | [] => st
  | i :: r => (wipeS st r).set i .emp
def backS (old st : MS) : List Nat → MS
  | [] => st
  | i :: r => (backS old st r).set i (gt old i)

/-- a comprehension's turns: f gives nothing where the test fails -/
def lcL {α : Type} (f : D → MS → Option (Option α × MS)) : List D → List α → MS → Option (List α × MS)
  | [], acc, st => some (acc, st)
  | x :: xs, acc, st => match f x st with
    | some (some y, st) => if acc.length < SZ then lcL f xs (acc ++ [y]) st else none
    | some (none, st) => lcL f xs acc st
    | none => none
def dcL (f : D → MS → Option (Option (D × D) × MS)) : List D → List (D × D) → MS → Option (List (D × D) × MS)
  | [], acc, st => some (acc, st)
  | x :: xs, acc, st => match f x st with
    | some (some (k, y), st) => match keyIn acc k with
      | some q => if acc.length < SZ then dcL f xs (kPut acc q k y) st else none
      | none => none
    | some (none, st) => dcL f xs acc st
    | none => none

/-- a call's arguments: lent slots, or values -/
inductive AV where
  | ln (i : Nat)
  | sl (s : Sl)
def argSl (st : MS) : List AV → List Sl
  | [] => []
  | .ln i :: r => gt st i :: argSl st r
  | .sl s :: r => s :: argSl st r
def isOwn : Sl → Bool
  | .lst .. | .dct .. | .dll .. | .ddl .. => true
  | _ => false
def lents (st : MS) : List AV → List Nat
  | [] => []
  | .ln i :: r => if isOwn (gt st i) then i :: lents st r else lents st r
  | .sl _ :: r => lents st r
/-- at which place a slot is lent -/
def posOf : List AV → Nat → Option Nat
  | [], _ => none
  | .ln k :: r, i => if k = i then some 0 else (posOf r i).map (· + 1)
  | .sl _ :: r, i => (posOf r i).map (· + 1)
def gbk (avs : List AV) (ss : List Sl) : MS → Nat → MS
  | [], _ => []
  | s :: r, i => (if isOwn s then (match posOf avs i with | some j => gt ss j | none => s) else s) :: gbk avs ss r (i + 1)
def giveBack (avs : List AV) (ss : List Sl) (st : MS) : MS := gbk avs ss st 0
/-- the arguments in the parameters' order, defaults among them -/
def arr : List (Option Cn) → List AV → Option (List AV)
  | [], [] => some []
  | none :: p, a :: r => match arr p r with
    | some z => some (a :: z)
    | none => none
  | some d :: p, r => match arr p r with
    | some z => some (.sl (.dat (cnD d)) :: z)
    | none => none
  | _, _ => none
abbrev Call := Nat → List Sl → Option (R × List Sl)
def emps (ss : List Sl) : Bool := ss.any fun s => match s with | .emp => true | _ => false
def doCall (cl : Call) (f : Nat) (avs : List AV) (st : MS) : Option (R × MS) :=
  if decide (lents st avs).Nodup && !(emps (argSl st avs)) then
    match cl f (argSl st avs) with
    | some (r, ss) => some (r, giveBack avs ss st)
    | none => none
  else none

/-- keys and values in turn, stored one behind another -/
def putAll : List D → List (D × D) → Option (List (D × D))
  | [], acc => some acc
  | k :: x :: r, acc => match keyIn acc k with
    | some q => if acc.length < SZ then putAll r (kPut acc q k x) else none
    | none => none
  | [_], _ => none
def opOr : Option Int → Int → Int
  | some i, _ => i
  | none, d => d
mutual
def evE (cl : Call) : E → MS → Option (R × MS)
  | .c d, st => some (.dat d, st)
  | .v i, st => match gt st i with
    | .emp => none
    | .dat d => some (.dat d, st)
    | _ => some (.pl i, st)
  | .bin op a b, st => match evE cl a st with
    | some (x, st) => match evE cl b st with
      | some (y, st) => match look st x, look st y with
        | some x, some y => match opBin op x y with
          | some r => some (r, st)
          | none => none
        | _, _ => none
      | none => none
    | none => none
  | .neg a, st => match evE cl a st with
    | some (x, st) => match asI x with
      | some i => some (iI (-i), st)
      | none => none
    | none => none
  | .tru a, st => match evE cl a st with
    | some (x, st) => match look st x with
      | some x => match opTru x with
        | some b => some (iB b, st)
        | none => none
      | none => none
    | none => none
  | .nt a, st => match evE cl a st with
    | some (x, st) => match asB x with
      | some b => some (iB (!b), st)
      | none => none
    | none => none
  | .ntv a, st => match evE cl a st with
    | some (x, st) => match look st x with
      | some x => match opTru x with
        | some b => some (iB (!b), st)
        | none => none
      | none => none
    | none => none
  | .at es, st => evAt cl es st
  | .ot es, st => evOt cl es st
  | .and es, st => evAnd cl es st
  | .or es, st => evOr cl es st
  | .cmp op a b, st => match evE cl a st with
    | some (x, st) => match evE cl b st with
      | some (y, st) => match look st x, look st y with
        | some x, some y => match opCmp op x y with
          | some r => some (iB r, st)
          | none => none
        | _, _ => none
      | none => none
    | none => none
  | .chn op op2 a b c, st => match evE cl a st with
    | some (x, st) => match evE cl b st with
      | some (y, st) => match look st x, look st y with
        | some x', some y' => match opCmp op x' y' with
          | some true => match evE cl c st with
            | some (z, st) => match look st y, look st z with
              | some y, some z => match opCmp op2 y z with
                | some r => some (iB r, st)
                | none => none
              | _, _ => none
            | none => none
          | some false => some (iB false, st)
          | none => none
        | _, _ => none
      | none => none
    | none => none
  | .ite t a b, st => match evE cl t st with
    | some (x, st) => match asB x with
      | some true => evE cl a st
      | some false => evE cl b st
      | none => none
    | none => none
  | .tup es, st => match evVs cl es st with
    | some (xs, st) => match mkT xs with
      | some r => some (r, st)
      | none => none
    | none => none
  | .lst es, st => match evVs cl es st with
    | some (xs, st) => match mkL xs with
      | some r => some (r, st)
      | none => none
    | none => none
  | .dis es, st => match evVs cl es st with
    | some (xs, st) => match putAll xs [] with
      | some kvs => some (.dct kvs, st)
      | none => none
    | none => none
  | .ix a b, st => match evE cl a st with
    | some (x, st) => match evE cl b st with
      | some (y, st) => match look st x, look st y with
        | some x, some y => match opIx x y with
          | some r => some (r, st)
          | none => none
        | _, _ => none
      | none => none
    | none => none
  | .sl a lo hi, st => match evE cl a st with
    | some (x, st) => match evO cl lo st with
      | some (i, st) => match evO cl hi st with
        | some (j, st) => match look st x with
          | some x => match opSl x i j with
            | some r => some (r, st)
            | none => none
          | none => none
        | none => none
      | none => none
    | none => none
  | .rev a, st => match evE cl a st with
    | some (x, st) => match look st x with
      | some x => match asL x with
        | some xs => some (.lst xs.reverse, st)
        | none => none
      | none => none
    | none => none
  | .call f pat as, st => match evAs cl as st with
    | some (avs, st) => match arr pat avs with
      | some bvs => doCall cl f bvs st
      | none => none
    | none => none
  | .bi b es, st => match evEs cl es st with
    | some (rs, st) => match looks st rs with
      | some rs => match opBi b rs with
        | some r => some (r, st)
        | none => none
      | none => none
    | none => none
  | .mu m i es, st => if muOk m (gt st i) then (match evVs cl es st with
    | some (xs, st) => match opMu m (gt st i) xs with
      | some (r, s) => some (r, st.set i s)
      | none => none
    | none => none) else none
  | .lc vs tg it cd elt, st => match evI cl it st with
    | some (xs, ps, st0) => if vs.any (fun i => isOwn (gt st0 i)) then none else (match lcL (fun x st => match putT tg x st with
        | some st => match evE cl cd st with
          | some (t, st) => match asB t with
            | some true => match evE cl elt st with
              | some (r, st) => match frz st r with
                | some (d, st) => some (some d, wipeS st vs)
                | none => none
              | none => none
            | some false => some (none, wipeS st vs)
            | none => none
          | none => none
        | none => none) xs [] (wipeS (lockAll st0 (opens st0 ps)) vs) with
      | some (ys, st) => some (R.lst ys, unlockAll (backS (lockAll st0 (opens st0 ps)) st vs) (opens st0 ps))
      | none => none)
    | none => none
  | .dc vs tg it cd k e, st => match evI cl it st with
    | some (xs, ps, st0) => match dcL (fun x st => match putT tg x (wipeS st vs) with
        | some st => match evE cl cd st with
          | some (t, st) => match asB t with
            | some true => match evE cl k st with
              | some (a, st) => match frz st a with
                | some (a, st) => match evE cl e st with
                  | some (r, st) => match frz st r with
                    | some (d, st) => some (some (a, d), wipeS st vs)
                    | none => none
                  | none => none
                | none => none
              | none => none
            | some false => some (none, wipeS st vs)
            | none => none
          | none => none
        | none => none) xs [] (wipeS (lockAll st0 (opens st0 ps)) vs) with
      | some (ys, st) => some (R.dct ys, unlockAll (backS (lockAll st0 (opens st0 ps)) st vs) (opens st0 ps))
      | none => none
    | none => none
  | .lrg tp [a], st => match evE cl a st with
    | some (x, st) => match asI x with
      | some n => if okR n && decide (n.toNat ≤ SZ) then some (if tp then .dat (.tuple (rangeD 0 n)) else .lst (rangeD 0 n), st) else none
      | none => none
    | none => none
  | .lrg tp [a, b], st => match evE cl a st with
    | some (x, st) => match evE cl b st with
      | some (y, st) => match asI x, asI y with
        | some m, some n => if okR m && okR n && decide ((n - m).toNat ≤ SZ) then some (if tp then .dat (.tuple (rangeD m n)) else .lst (rangeD m n), st) else none
        | _, _ => none
      | none => none
    | none => none
  | .lrg _ _, _ => none
  | .abs, _ => none
  | .ln _, _ => none
  | .ex _, _ => none
  | .bd _, _ => none
  | .wk _, _ => none
  | .rng _, _ => none
  | .enum _, _ => none
  | .zip _, _ => none
  | .zips e, st => match evE cl e st with
    | some (.dat (.tuple xs), st) => match tups xs with
      | some rows => match sqn rows with
        | some n => some (.lst (colsD n rows), st)
        | none => none
      | none => none
    | _ => none
  | .items _, _ => none
/-- a test: and, or -/
def evAt (cl : Call) : List E → MS → Option (R × MS)
  | [], st => some (iB true, st)
  | e :: r, st => match evE cl e st with
    | some (x, st) => match asB x with
      | some true => evAt cl r st
      | some false => some (iB false, st)
      | none => none
    | none => none
def evOt (cl : Call) : List E → MS → Option (R × MS)
  | [], st => some (iB false, st)
  | e :: r, st => match evE cl e st with
    | some (x, st) => match asB x with
      | some false => evOt cl r st
      | some true => some (iB true, st)
      | none => none
    | none => none
/-- and, or of values -/
def evAnd (cl : Call) : List E → MS → Option (R × MS)
  | [], _ => none
  | [e], st => evE cl e st
  | e :: r, st => match evE cl e st with
    | some (x, st) => match look st x with
      | some y => match opTru y with
        | some true => evAnd cl r st
        | some false => some (x, st)
        | none => none
      | none => none
    | none => none
def evOr (cl : Call) : List E → MS → Option (R × MS)
  | [], _ => none
  | [e], st => evE cl e st
  | e :: r, st => match evE cl e st with
    | some (x, st) => match look st x with
      | some y => match opTru y with
        | some false => evOr cl r st
        | some true => some (x, st)
        | none => none
      | none => none
    | none => none
/-- operands -/
def evEs (cl : Call) : List E → MS → Option (List R × MS)
  | [], st => some ([], st)
  | e :: r, st => match evE cl e st with
    | some (x, st) => match evEs cl r st with
      | some (xs, st) => some (x :: xs, st)
      | none => none
    | none => none
/-- values, frozen one by one -/
def evVs (cl : Call) : List E → MS → Option (List D × MS)
  | [], st => some ([], st)
  | e :: r, st => match evE cl e st with
    | some (x, st) => match frz st x with
      | some (d, st) => match evVs cl r st with
        | some (xs, st) => some (d :: xs, st)
        | none => none
      | none => none
    | none => none
/-- arguments -/
def evAs (cl : Call) : List E → MS → Option (List AV × MS)
  | [], st => some ([], st)
  | .ln i :: r, st => if isEmp (gt st i) then none else match evAs cl r st with
    | some (xs, st) => some (.ln i :: xs, st)
    | none => none
  | .ex e :: r, st => match evE cl e st with
    | some (x, st) => match own st x with
      | some (s, st) => match evAs cl r st with
        | some (xs, st) => some (.sl s :: xs, st)
        | none => none
      | none => none
    | none => none
  | _ :: _, _ => none
/-- a bound of a slice -/
def evO (cl : Call) : E → MS → Option (Option Int × MS)
  | .abs, st => some (none, st)
  | .bd e, st => match evE cl e st with
    | some (x, st) => match asI x with
      | some i => some (some i, st)
      | none => none
    | none => none
  | _, _ => none
/-- what is walked: the items, the places that are walked -/
def evI (cl : Call) : E → MS → Option (List D × List Nat × MS)
  | .rng [a], st => match evE cl a st with
    | some (x, st) => match asI x with
      | some n => if okR n then some (rangeD 0 n, [], st) else none
      | none => none
    | none => none
  | .rng [a, b], st => match evE cl a st with
    | some (x, st) => match evE cl b st with
      | some (y, st) => match asI x, asI y with
        | some m, some n => if okR m && okR n then some (rangeD m n, [], st) else none
        | _, _ => none
      | none => none
    | none => none
  | .enum e, st => match evE cl e st with
    | some (x, st) => match look st x with
      | some c => match itemsOf c with
        | some xs => if isTp c then none else some (enumD 0 xs, plOf x, st)
        | none => none
      | none => none
    | none => none
  | .zip [a, b], st => match evE cl a st with
    | some (x, st) => match evE cl b st with
      | some (y, st) => match look st x, look st y with
        | some c, some e => match itemsOf c, itemsOf e with
          | some xs, some ys => if isTp c == isTp e then some (zipD xs ys, plOf x ++ plOf y, st) else none
          | _, _ => none
        | _, _ => none
      | none => none
    | none => none
  | .zip [a, b, c], st => match evE cl a st with
    | some (x, st) => match evE cl b st with
      | some (y, st) => match evE cl c st with
        | some (z, st) => match look st x, look st y, look st z with
          | some c, some e, some f => match itemsOf c, itemsOf e, itemsOf f with
            | some xs, some ys, some zs => some (zipD3 xs ys zs, plOf x ++ plOf y ++ plOf z, st)
            | _, _, _ => none
          | _, _, _ => none
        | none => none
      | none => none
    | none => none
  | .zips e, st => match evE cl e st with
    | some (x, st) => match look st x with
      | some c => match itemsOf c with
        | some xs => match tups xs with
          | some (r :: rs) => some (columns r.length (r :: rs), plOf x, st)
          | _ => none
        | none => none
      | none => none
    | none => none
  | .items e, st => match evE cl e st with
    | some (x, st) => match look st x with
      | some (.dct kvs) => some (kvs.map fun p => .tuple [p.1, p.2], plOf x, st)
      | _ => none
    | none => none
  | .wk e, st => match evE cl e st with
    | some (x, st) => match look st x with
      | some c => match itemsOf c with
        | some xs => some (xs, plOf x, st)
        | none => none
      | none => none
    | none => none
  | _, _ => none
end

/-! ### statements -/
inductive Fl where
  | nx | bk | ct
  | rt (r : R)

def loopF {α β : Type} (step : α → Option (α ⊕ β)) (a : α) : Option β :=
  match step a with
  | none => none
  | some (.inr b) => some b
  | some (.inl a) => loopF step a
partial_fixpoint

/-- a walk's turns -/
def forL (f : D → MS → Option (Fl × MS)) : List D → MS → Option (Fl × MS)
  | [], st => some (.nx, st)
  | x :: xs, st => match f x st with
    | some (.nx, st) => forL f xs st
    | some (.ct, st) => forL f xs st
    | some (.bk, st) => some (.nx, st)
    | some (.rt r, st) => some (.rt r, st)
    | none => none

/-- values to be held -/
def slsOf : List AV → Option (List Sl)
  | [] => some []
  | .sl s :: r => match slsOf r with
    | some ss => some (s :: ss)
    | none => none
  | .ln _ :: _ => none
/-- the key, as data -/
def evK (cl : Call) (e : E) (st : MS) : Option (D × MS) :=
  match evE cl e st with
  | some (x, st) => frz st x
  | none => none
def slR : Sl → R
  | .dat d => .dat d
  | _ => .dat .none
def opAug : Bop → Int → Int → Option Int
  | .add, a, b => some (a + b)
  | .sub, a, b => some (a - b)
  | _, _, _ => none
def exT (cl : Call) (t : T) (s : Sl) (st : MS) : Option MS :=
  match t with
  | .nm i => some (st.set i s)
  | .sub i k => match s with
    | .dat d => if isEmp (gt st i) then none else match evK cl k st with
      | some (k, st) => match opSet (gt st i) k d with
        | some s => some (st.set i s)
        | none => none
      | none => none
    | _ => none
  | .tup ts => match s with
    | .dat (.tuple xs) => putTs ts xs st
    | _ => none
def exTs (cl : Call) : List T → List Sl → MS → Option MS
  | [], [], st => some st
  | t :: ts, s :: ss, st => match exT cl t s st with
    | some st => exTs cl ts ss st
    | none => none
  | _, _, _ => none
/-- an owned list within an owned one -/
def inner (s : Sl) (j : D) : Option (List D) :=
  match s with
  | .dll _ xss => match j with
    | .int i => match ixOf xss.length i with | some n => xss[n]? | none => none
    | _ => none
  | .ddl _ kvs => match keyIn kvs j with
    | some q => kGet kvs q
    | none => none
  | _ => none
def putInner (s : Sl) (j : D) (ys : List D) : Option Sl :=
  match s with
  | .dll false xss => match j with
    | .int i => match ixOf xss.length i with | some n => some (.dll false (xss.set n ys)) | none => none
    | _ => none
  | .ddl false kvs => match keyIn kvs j with
    | some q => if kvs.length < SZ then some (.ddl false (kPut kvs q j ys)) else none
    | none => none
  | _ => none
def isDeep : Sl → Bool
  | .dll .. | .ddl .. => true
  | _ => false

mutual
def exS (cl : Call) : S → MS → Option (Fl × MS)
  | .set i e, st => match evE cl e st with
    | some (x, st) => match own st x with
      | some (s, st) => some (.nx, st.set i s)
      | none => none
    | none => none
  | .par ts es, st => match evAs cl es st with
    | some (avs, st) => match slsOf avs with
      | some ss => match exTs cl ts ss st with
        | some st => some (.nx, st)
        | none => none
      | none => none
    | none => none
  | .unp ts e, st => match evE cl e st with
    | some (.dat (.tuple xs), st) => match putTs ts xs st with
      | some st => some (.nx, st)
      | none => none
    | _ => none
  | .seti i k e, st => match evE cl e st with
    | some (x, st) => match frz st x with
      | some (d, st) => if isEmp (gt st i) then none else match evK cl k st with
        | some (k, st) => match opSet (gt st i) k d with
          | some s => some (.nx, st.set i s)
          | none => none
        | none => none
      | none => none
    | none => none
  | .seti2 i j k e, st => match evK cl e st with
    | some (d, st) => match evK cl j st with
      | some (j, st) => match evK cl k st with
        | some (k, st) => match inner (gt st i) j with
          | some ys => match opSet (.lst false ys) k d with
            | some (.lst _ ys) => match putInner (gt st i) j ys with
              | some s => some (.nx, st.set i s)
              | none => none
            | _ => none
          | none => none
        | none => none
      | none => none
    | none => none
  | .aug i op e, st => match asI (slR (gt st i)) with
    | some a => match evE cl e st with
      | some (x, st) => match asI x with
        | some b => match opAug op a b with
          | some d => some (.nx, st.set i (.dat (.int d)))
          | none => none
        | none => none
      | none => none
    | none => none
  | .augi i op k e, st => match evK cl k st with
    | some (k, st) => match look st (.pl i) with
      | some c => match opIx c (.dat k) with
        | some (.dat old) => match evE cl e st with
          | some (.dat x, st) => match opBin op (.dat old) (.dat x) with
            | some (.dat d) => match opSet (gt st i) k d with
              | some s => some (.nx, st.set i s)
              | none => none
            | _ => none
          | _ => none
        | _ => none
      | none => none
    | none => none
  | .ex e, st => match evE cl e st with
    | some (_, st) => some (.nx, st)
    | none => none
  | .app2 i j e, st => match evK cl j st with
    | some (j, st) => match inner (gt st i) j with
      | some _ => match evK cl e st with
        | some (d, st) => match inner (gt st i) j with
          | some ys => if ys.length < SZ then (match putInner (gt st i) j (ys ++ [d]) with
            | some s => some (.nx, st.set i s)
            | none => none) else none
          | none => none
        | none => none
      | none => none
    | none => none
  | .sdapp i k e, st => match evK cl k st with
    | some (k, st) => match gt st i with
      | .ddl false kvs => match keyIn kvs k with
        | some q => if kvs.length < SZ then (match evK cl e (st.set i (.ddl false (match kGet kvs q with | some _ => kvs | none => kPut kvs q k []))) with
          | some (d, st) => match inner (gt st i) k with
            | some ys => if ys.length < SZ then (match putInner (gt st i) k (ys ++ [d]) with
              | some s => some (.nx, st.set i s)
              | none => none) else none
            | none => none
          | none => none) else none
        | none => none
      | _ => none
    | none => none
  | .ife t a b, st => match evE cl t st with
    | some (x, st) => match asB x with
      | some true => exSs cl a st
      | some false => exSs cl b st
      | none => none
    | none => none
  | .fr tg it body, st => match evI cl it st with
    | some (xs, ps, st) => match forL (fun x st => match putT tg x st with
        | some st => exSs cl body st
        | none => none) xs (lockAll st (opens st ps)) with
      | some (f, st') => some (f, unlockAll st' (opens st ps))
      | none => none
    | none => none
  | .whl t body, st => loopF (fun st => match evE cl t st with
      | some (x, st) => match asB x with
        | some true => match exSs cl body st with
          | some (.nx, st) => some (.inl st)
          | some (.ct, st) => some (.inl st)
          | some (.bk, st) => some (.inr (Fl.nx, st))
          | some (.rt r, st) => some (.inr (Fl.rt r, st))
          | none => none
        | some false => some (.inr (Fl.nx, st))
        | none => none
      | none => none) st
  | .ret e, st => match evE cl e st with
    | some (.pl i, st) => match frz st (.pl i) with
      | some (d, st) => some (.rt (.dat d), st)
      | none => none
    | some (x, st) => some (.rt x, st)
    | none => none
  | .retv i, st => match gt st i with
    | .emp => none
    | .dat d => some (.rt (.dat d), st)
    | .lst _ xs => some (.rt (.lst xs), st.set i .emp)
    | .dct _ kvs => some (.rt (.dct kvs), st.set i .emp)
    | .dll _ xss => some (.rt (.dll xss), st.set i .emp)
    | .ddl _ kvs => some (.rt (.ddl kvs), st.set i .emp)
    | .scr _ => none
  | .retn, st => some (.rt (.dat .none), st)
  | .brk, st => some (.bk, st)
  | .cnt, st => some (.ct, st)
  | .pass, st => some (.nx, st)
def exSs (cl : Call) : List S → MS → Option (Fl × MS)
  | [], st => some (.nx, st)
  | s :: r, st => match exS cl s st with
    | some (.nx, st) => exSs cl r st
    | some (f, st) => some (f, st)
    | none => none
end

/-- a def: how many parameters, how many slots; the slots that it stores -/
structure Fn where
  np : Nat
  ns : Nat
  asg : List Nat
  body : List S
/-- a parameter that is stored is not given back -/
def maskS (asg : List Nat) : Nat → List Sl → List Sl
  | _, [] => []
  | i, s :: r => (if asg.contains i then .emp else s) :: maskS asg (i + 1) r
def runF (cl : Call) (f : Fn) (args : List Sl) : Option (R × List Sl) :=
  if args.length = f.np then
    match exSs cl f.body (args ++ List.replicate (f.ns - f.np) .emp) with
    | some (.rt r, st) => some (r, maskS f.asg 0 (st.take f.np))
    | some (.nx, st) => some (.dat .none, maskS f.asg 0 (st.take f.np))
    | _ => none
  else none
/-- the program, so many calls deep -/
def sem (P : List Fn) : Nat → Call
  | 0 => fun _ _ => none
  | k + 1 => fun f args => match P[f]? with
    | some fn => runF (sem P k) fn args
    | none => none
end Mt

set_option Elab.async false
set_option linter.all false
set_option maxRecDepth 100000
/-! How the small language's state lies in the heap. -/
namespace Mt
open PySem PySem.Spec PyProof.Rows L2

/-! ### data -/
/-- a list that is read, never written again: its address is in F -/
def SqLF (K : PySem.W.Frag) (F : Addr → Prop) (H : Hp) (a : Addr) (xs : List V) : Prop := F a ∧ H a = some (.lst xs)
theorem SqLF.sq {K : PySem.W.Frag} {F : Addr → Prop} {H : Hp} {a : Addr} {xs : List V} (h : SqLF K F H a xs) : SqL K H a xs := SqL.of h.2
/-- the script: known to the object, or the module's own; nobody writes it -/
def ScrL (K : PySem.W.Frag) (H : Hp) (a : Addr) (xs : List V) : Prop :=
  (∃ o, H a = some (.frz o (.lst xs))) ∨
    ∃ (o : Obj) (its : Array Value) (n : Nat), K.lookup a = some o ∧ o.cls = .type "list" ∧ o.dict = none ∧ o.data = .seq its n ∧ its.size ≤ sizeLine ∧ Vals xs its.toList
theorem ScrL.sq {K : PySem.W.Frag} {H : Hp} {a : Addr} {xs : List V} (h : ScrL K H a xs) : SqL K H a xs := by
  rcases h with ⟨o, h⟩ | h
  · exact .inl (.inr ⟨o, h⟩)
  · exact .inr h
mutual
inductive Rp (K : PySem.W.Frag) (F : Addr → Prop) (H : Hp) : V → D → Prop
  | non : Rp K F H .non .none
  | bl (b : Bool) : Rp K F H (.bl b) (.bool b)
  | int (i : Int) : Rp K F H (.int i) (.int i)
  | str (x : Str) : Rp K F H (.str x) (.str x)
  | lst {a : Addr} {xs : List V} {ds : List D} : SqLF K F H a xs → RpA K F H xs ds → Rp K F H (.ref a) (.list ds)
  | tup {a : Addr} {xs : List V} {ds : List D} : SqT K H a xs → RpA K F H xs ds → Rp K F H (.ref a) (.tuple ds)
inductive RpA (K : PySem.W.Frag) (F : Addr → Prop) (H : Hp) : List V → List D → Prop
  | nil : RpA K F H [] []
  | cons {v : V} {vs : List V} {d : D} {ds : List D} : Rp K F H v d → RpA K F H vs ds → RpA K F H (v :: vs) (d :: ds)
end
section
variable {K : PySem.W.Frag} {F F' : Addr → Prop} {H H' : Hp}
mutual
theorem Rp.dp : ∀ {v : V} {d : D}, Rp K F H v d → Dp K H v d
  | _, _, .non => .non
  | _, _, .bl b => .bl b
  | _, _, .int i => .int i
  | _, _, .str x => .str x
  | _, _, .lst h r => .lst h.sq r.dp
  | _, _, .tup h r => .tup h r.dp
theorem RpA.dp : ∀ {v : List V} {d : List D}, RpA K F H v d → DpAll K H v d
  | _, _, .nil => .nil
  | _, _, .cons h r => .cons h.dp r.dp
end
/-- what may be written -/
def Mb : HO → Prop
  | .lst _ => True
  | .ext _ => True
  | _ => False
/- the heap changed at O alone, what is frozen and the tuples stand -/
mutual
theorem Rp.mono (hs : ∀ b, F b → F' b) (kl : ∀ b xs, F b → H b = some (.lst xs) → H' b = some (.lst xs)) (kt : ∀ b xs, Rd H b (.tup xs) → Rd H' b (.tup xs)) : ∀ {v : V} {d : D}, Rp K F H v d → Rp K F' H' v d
  | _, _, .non => .non
  | _, _, .bl b => .bl b
  | _, _, .int i => .int i
  | _, _, .str x => .str x
  | _, _, .lst h r => .lst ⟨hs _ h.1, kl _ _ h.1 h.2⟩ (RpA.mono hs kl kt r)
  | _, _, .tup h r => .tup (by
      rcases h with h | h
      · exact .inl (kt _ _ h)
      · exact .inr h) (RpA.mono hs kl kt r)
theorem RpA.mono (hs : ∀ b, F b → F' b) (kl : ∀ b xs, F b → H b = some (.lst xs) → H' b = some (.lst xs)) (kt : ∀ b xs, Rd H b (.tup xs) → Rd H' b (.tup xs)) : ∀ {v : List V} {d : List D}, RpA K F H v d → RpA K F' H' v d
  | _, _, .nil => .nil
  | _, _, .cons h r => .cons (Rp.mono hs kl kt h) (RpA.mono hs kl kt r)
end
theorem RpA.len : ∀ {v : List V} {d : List D}, RpA K F H v d → v.length = d.length
  | _, _, .nil => rfl
  | _, _, .cons _ r => by rw [List.length_cons, List.length_cons, r.len]
theorem RpA.get : ∀ {v : List V} {d : List D} {i : Nat} {x : V}, RpA K F H v d → v[i]? = some x → ∃ y, d[i]? = some y ∧ Rp K F H x y
  | _, _, _, _, .nil, e => by simp at e
  | _, _, 0, _, .cons r _, e => by simp at e; subst e; exact ⟨_, rfl, r⟩
  | _, _, i + 1, x, .cons _ t, e => by
    obtain ⟨u, h1, h2⟩ := RpA.get (i := i) (x := x) t (by simpa using e)
    exact ⟨u, by simpa using h1, h2⟩
theorem RpA.getD : ∀ {v : List V} {d : List D} {i : Nat} {y : D}, RpA K F H v d → d[i]? = some y → ∃ x, v[i]? = some x ∧ Rp K F H x y
  | _, _, _, _, .nil, e => by simp at e
  | _, _, 0, _, .cons r _, e => by simp at e; subst e; exact ⟨_, rfl, r⟩
  | _, _, i + 1, x, .cons _ t, e => by
    obtain ⟨u, h1, h2⟩ := RpA.getD (i := i) (y := x) t (by simpa using e)
    exact ⟨u, by simpa using h1, h2⟩
theorem RpA.append : ∀ {v w : List V} {d e : List D}, RpA K F H v d → RpA K F H w e → RpA K F H (v ++ w) (d ++ e)
  | _, _, _, _, .nil, s => s
  | _, _, _, _, .cons r t, s => .cons r (RpA.append t s)
theorem RpA.one {v : V} {d : D} (h : Rp K F H v d) : RpA K F H [v] [d] := .cons h .nil
theorem RpA.take : ∀ {v : List V} {d : List D} (n : Nat), RpA K F H v d → RpA K F H (v.take n) (d.take n)
  | _, _, 0, _ => .nil
  | _, _, _ + 1, .nil => .nil
  | _, _, n + 1, .cons r t => .cons r (RpA.take n t)
theorem RpA.drop : ∀ {v : List V} {d : List D} (n : Nat), RpA K F H v d → RpA K F H (v.drop n) (d.drop n)
  | _, _, 0, r => r
  | _, _, _ + 1, .nil => .nil
  | _, _, n + 1, .cons _ t => RpA.drop n t
theorem RpA.set {x : V} {y : D} (h : Rp K F H x y) : ∀ {v : List V} {d : List D} (i : Nat), RpA K F H v d → RpA K F H (v.set i x) (d.set i y)
  | _, _, _, .nil => .nil
  | _, _, 0, .cons _ t => .cons h t
  | _, _, i + 1, .cons q t => .cons q (RpA.set h i t)
theorem RpA.reverse {v : List V} {d : List D} (h : RpA K F H v d) : RpA K F H v.reverse d.reverse := by
  induction v generalizing d with
  | nil => cases h; exact .nil
  | cons x v ih =>
    cases h with
    | cons r t => rw [List.reverse_cons, List.reverse_cons]; exact (ih t).append (.one r)
theorem RpA.erase : ∀ {v : List V} {d : List D} (i : Nat), RpA K F H v d → RpA K F H (v.eraseIdx i) (d.eraseIdx i)
  | _, _, _, .nil => .nil
  | _, _, 0, .cons _ t => t
  | _, _, i + 1, .cons q t => .cons q (RpA.erase i t)
theorem RpA.rep {v : List V} {d : List D} (h : RpA K F H v d) : ∀ n : Nat, RpA K F H (List.replicate n v).flatten (List.replicate n d).flatten
  | 0 => .nil
  | n + 1 => by rw [List.replicate_succ, List.replicate_succ, List.flatten_cons, List.flatten_cons]; exact h.append (RpA.rep h n)
theorem RpA.dropLast {v : List V} {d : List D} (h : RpA K F H v d) : RpA K F H v.dropLast d.dropLast := by
  rw [List.dropLast_eq_take, List.dropLast_eq_take, h.len]
  exact h.take _
end

/-! ### dicts -/
def dictO (a : Addr) (es : Array DictEntry) : HO := .ext fun h => ∃ ep, h.DictRaw a es ep
/-- the keys: all tuples, or all numbers and texts; of different worth; not too deep -/
def keysOk {α : Type} (kvs : List (D × α)) : Prop :=
  ((∀ p ∈ kvs, isT p.1 = true) ∨ ∀ p ∈ kvs, isLf p.1 = true) ∧ (kvs.map fun p => keyOf p.1).Nodup ∧ ∀ p ∈ kvs, ∃ k, keyOf p.1 = some k ∧ k.depth ≤ 8
/-- an entry's key and value -/
def EntK (K : PySem.W.Frag) (w : World) (F : Addr → Prop) (H : Hp) (e : DictEntry) (k : D) : Prop :=
  ∃ kv q, RelV kv e.key ∧ Rp K F H kv k ∧ keyOf k = some q ∧ e.hash = q.hash w
def EntV (K : PySem.W.Frag) (F : Addr → Prop) (H : Hp) (e : DictEntry) (x : D) : Prop := ∃ xv, RelV xv e.val ∧ Rp K F H xv x

/-! ### slots -/
section
variable (K : PySem.W.Frag) (w : World) (F : Addr → Prop) (H : Hp)
/-- an owned list of data at an address -/
def OwnL (a : Addr) (xs : List D) : Prop := ∃ vs, H a = some (.lst vs) ∧ RpA K F H vs xs
def SlR (s : Sl) (v : Option V) (as : List Addr) : Prop :=
  match s with
  | .emp => as = []
  | .dat d => as = [] ∧ ∃ x, v = some x ∧ Rp K F H x d
  | .lst _ xs => ∃ a, as = [a] ∧ v = some (.ref a) ∧ OwnL K F H a xs
  | .dct _ kvs => ∃ a es, as = [a] ∧ v = some (.ref a) ∧ H a = some (dictO a es) ∧ (a == sysModules) = false ∧ keysOk kvs ∧ Paired (fun e (p : D × D) => EntK K w F H e p.1 ∧ EntV K F H e p.2) es.toList kvs
  | .dll _ xss => ∃ a bs, as = a :: bs ∧ v = some (.ref a) ∧ H a = some (.lst (bs.map V.ref)) ∧ Paired (fun b xs => OwnL K F H b xs) bs xss
  | .scr xs => as = [] ∧ ∃ a vs, v = some (.ref a) ∧ ScrL K H a vs ∧ RpA K F H vs xs
  | .ddl _ kvs => ∃ a es bs, as = a :: bs ∧ v = some (.ref a) ∧ H a = some (dictO a es) ∧ (a == sysModules) = false ∧ keysOk kvs ∧ Paired (fun e (p : D × List D) => EntK K w F H e p.1) es.toList kvs ∧
      es.toList.map (·.val) = bs.map Value.ref ∧ Paired (fun b (p : D × List D) => OwnL K F H b p.2) bs kvs
end
section
variable {K : PySem.W.Frag} {w : World} {F F' : Addr → Prop} {H H' : Hp}
theorem prMono {α β : Type} {P Q : α → β → Prop} : ∀ {l₁ : List α} {l₂ : List β}, Paired P l₁ l₂ → (∀ a, a ∈ l₁ → ∀ b, P a b → Q a b) → Paired Q l₁ l₂
  | _, _, .nil, _ => .nil
  | _, _, .cons r t, f => .cons (f _ List.mem_cons_self _ r) (prMono t fun a h => f a (List.mem_cons_of_mem _ h))
theorem OwnL.mono (hs : ∀ b, F b → F' b) (kl : ∀ b xs, F b → H b = some (.lst xs) → H' b = some (.lst xs)) (kt : ∀ b xs, Rd H b (.tup xs) → Rd H' b (.tup xs)) {a : Addr} {xs : List D} (e : ∀ o, H a = some o → H' a = some o) (h : OwnL K F H a xs) : OwnL K F' H' a xs := by
  obtain ⟨vs, h, r⟩ := h
  exact ⟨vs, e _ h, r.mono hs kl kt⟩
theorem SlR.mono (hs : ∀ b, F b → F' b) (kl : ∀ b xs, F b → H b = some (.lst xs) → H' b = some (.lst xs)) (kt : ∀ b xs, Rd H b (.tup xs) → Rd H' b (.tup xs)) (kz : ∀ b o u, H b = some (.frz o u) → H' b = some (.frz o u)) {s : Sl} {v : Option V} {as : List Addr}
    (e : ∀ a ∈ as, ∀ o, H a = some o → H' a = some o) (h : SlR K w F H s v as) : SlR K w F' H' s v as := by
  cases s with
  | emp => exact h
  | dat d => obtain ⟨h1, x, h2, h3⟩ := h; exact ⟨h1, x, h2, h3.mono hs kl kt⟩
  | lst lk xs => obtain ⟨a, rfl, h2, h3⟩ := h; exact ⟨a, rfl, h2, h3.mono hs kl kt (e a (by simp))⟩
  | dct lk kvs =>
    obtain ⟨a, es, rfl, h2, h3, h4, h5, h6⟩ := h
    exact ⟨a, es, rfl, h2, e a (by simp) _ h3, h4, h5, prMono h6 fun _ _ _ ⟨⟨kv, q, h1, h2, h3⟩, xv, g1, g2⟩ => ⟨⟨kv, q, h1, h2.mono hs kl kt, h3⟩, xv, g1, g2.mono hs kl kt⟩⟩
  | dll lk xss =>
    obtain ⟨a, bs, rfl, h2, h3, h4⟩ := h
    exact ⟨a, bs, rfl, h2, e a (by simp) _ h3, prMono h4 fun b hb _ q => q.mono hs kl kt (e b (by simp [hb]))⟩
  | scr xs =>
    obtain ⟨h0, a, vs, h1, h2, h3⟩ := h
    refine ⟨h0, a, vs, h1, ?_, h3.mono hs kl kt⟩
    rcases h2 with ⟨o, h2⟩ | h2
    · exact .inl ⟨o, kz _ _ _ h2⟩
    · exact .inr h2
  | ddl lk kvs =>
    obtain ⟨a, es, bs, rfl, h2, h3, h4, h5, h6, h7, h8⟩ := h
    exact ⟨a, es, bs, rfl, h2, e a (by simp) _ h3, h4, h5, prMono h6 fun _ _ _ ⟨kv, q, h1, h2, h3⟩ => ⟨kv, q, h1, h2.mono hs kl kt, h3⟩, h7, prMono h8 fun b hb _ q => q.mono hs kl kt (e b (by simp [hb]))⟩
/-- what is owned can be written -/
theorem SlR.mu {s : Sl} {v : Option V} {as : List Addr} (h : SlR K w F H s v as) : ∀ a ∈ as, ∃ o, H a = some o ∧ Mb o := by
  have pr : ∀ {β : Type} {P : Addr → β → Prop} {l : List Addr} {m : List β}, Paired P l m → (∀ a b, P a b → ∃ o, H a = some o ∧ Mb o) → ∀ a ∈ l, ∃ o, H a = some o ∧ Mb o := by
    intro β P l m h f a ha
    induction h with
    | nil => simp at ha
    | cons r t ih =>
      rcases List.mem_cons.mp ha with rfl | ha
      · exact f _ _ r
      · exact ih ha
  have ol : ∀ {a : Addr} {xs : List D}, OwnL K F H a xs → ∃ o, H a = some o ∧ Mb o := fun ⟨vs, h, _⟩ => ⟨_, h, trivial⟩
  intro a ha
  cases s with
  | emp => cases (show as = [] from h); simp at ha
  | dat d => obtain ⟨rfl, _⟩ := h; simp at ha
  | lst lk xs => obtain ⟨b, rfl, h2, h3⟩ := h; simp at ha; subst ha; exact ol h3
  | dct lk kvs => obtain ⟨b, es, rfl, h2, h3, _⟩ := h; simp at ha; subst ha; exact ⟨_, h3, trivial⟩
  | dll lk xss =>
    obtain ⟨b, bs, rfl, h2, h3, h4⟩ := h
    rcases List.mem_cons.mp ha with rfl | ha
    · exact ⟨_, h3, trivial⟩
    · exact pr h4 (fun _ _ q => ol q) a ha
  | scr xs => obtain ⟨rfl, _⟩ := h; simp at ha
  | ddl lk kvs =>
    obtain ⟨b, es, bs, rfl, h2, h3, h4, h5, h6, h7, h8⟩ := h
    rcases List.mem_cons.mp ha with rfl | ha
    · exact ⟨_, h3, trivial⟩
    · exact pr h8 (fun _ _ q => ol q) a ha
end

/-! ### the state -/
/-- what is frozen; what each slot owns -/
structure Gs where
  F : Addr → Prop
  as : List (List Addr)
def ga : List (List Addr) → Nat → List Addr
  | [], _ => []
  | x :: _, 0 => x
  | _ :: xs, n + 1 => ga xs n
def gv : L2.St → Nat → Option V
  | [], _ => none
  | x :: _, 0 => x
  | _ :: xs, n + 1 => gv xs n
theorem gv_get : ∀ {σ : L2.St} {i : Nat} {x : V}, gv σ i = some x → σ[i]? = some (some x)
  | [], _, _, h => by cases h
  | y :: _, 0, _, h => by simp only [gv] at h; simp [h]
  | _ :: xs, n + 1, _, h => by simp only [gv] at h; simpa using gv_get h
theorem gv_of : ∀ {σ : L2.St} {i : Nat} {x : V}, σ[i]? = some (some x) → gv σ i = some x
  | [], _, _, h => by simp at h
  | y :: _, 0, _, h => by simp at h; simp [gv, h]
  | _ :: xs, n + 1, _, h => by simp only [gv]; exact gv_of (by simpa using h)
theorem gv_set : ∀ {σ : L2.St} {i j : Nat} {x : Option V}, i < σ.length → gv (σ.set i x) j = if j = i then x else gv σ j
  | [], _, _, _, h => by simp at h
  | y :: ys, 0, 0, x, _ => by simp [gv]
  | y :: ys, 0, j + 1, x, _ => by simp [gv]
  | y :: ys, i + 1, 0, x, _ => by simp [gv]
  | y :: ys, i + 1, j + 1, x, h => by
    simp only [List.set_cons_succ, gv]
    rw [gv_set (by simpa using h)]
    simp
theorem gt_set : ∀ {st : MS} {i j : Nat} {x : Sl}, i < st.length → gt (st.set i x) j = if j = i then x else gt st j
  | [], _, _, _, h => by simp at h
  | y :: ys, 0, 0, x, _ => by simp [gt]
  | y :: ys, 0, j + 1, x, _ => by simp [gt]
  | y :: ys, i + 1, 0, x, _ => by simp [gt]
  | y :: ys, i + 1, j + 1, x, h => by
    simp only [List.set_cons_succ, gt]
    rw [gt_set (by simpa using h)]
    simp
theorem ga_set : ∀ {as : List (List Addr)} {i j : Nat} {x : List Addr}, i < as.length → ga (as.set i x) j = if j = i then x else ga as j
  | [], _, _, _, h => by simp at h
  | y :: ys, 0, 0, x, _ => by simp [ga]
  | y :: ys, 0, j + 1, x, _ => by simp [ga]
  | y :: ys, i + 1, 0, x, _ => by simp [ga]
  | y :: ys, i + 1, j + 1, x, h => by
    simp only [List.set_cons_succ, ga]
    rw [ga_set (by simpa using h)]
    simp
theorem gt_out : ∀ {st : MS} {i : Nat}, st.length ≤ i → gt st i = .emp
  | [], _, _ => rfl
  | _ :: _, 0, h => by simp at h
  | _ :: xs, n + 1, h => by simp only [gt]; exact gt_out (by simpa using h)
theorem ga_out : ∀ {st : List (List Addr)} {i : Nat}, st.length ≤ i → ga st i = []
  | [], _, _ => rfl
  | _ :: _, 0, h => by simp at h
  | _ :: xs, n + 1, h => by simp only [ga]; exact ga_out (by simpa using h)
theorem gv_out : ∀ {st : L2.St} {i : Nat}, st.length ≤ i → gv st i = none
  | [], _, _ => rfl
  | _ :: _, 0, h => by simp at h
  | _ :: xs, n + 1, h => by simp only [gv]; exact gv_out (by simpa using h)
theorem gt_lt {st : MS} {i : Nat} (h : gt st i ≠ .emp) : i < st.length := by
  by_cases q : i < st.length
  · exact q
  · exact absurd (gt_out (by omega)) h
theorem mem_ga : ∀ {as : List (List Addr)} {b : Addr}, b ∈ as.flatten ↔ ∃ i, b ∈ ga as i
  | [], b => by simp [ga]
  | x :: xs, b => by
    rw [List.flatten_cons, List.mem_append, mem_ga (as := xs)]
    constructor
    · rintro (h | ⟨i, h⟩)
      · exact ⟨0, h⟩
      · exact ⟨i + 1, h⟩
    · rintro ⟨i, h⟩
      cases i with
      | zero => exact .inl h
      | succ i => exact .inr ⟨i, h⟩
theorem ga_nodup : ∀ {as : List (List Addr)}, as.flatten.Nodup ↔ (∀ i, (ga as i).Nodup) ∧ ∀ i j b, b ∈ ga as i → b ∈ ga as j → i = j
  | [] => by simp [ga]
  | x :: xs => by
    rw [List.flatten_cons, List.nodup_append, ga_nodup (as := xs)]
    constructor
    · rintro ⟨h1, ⟨h2, h3⟩, h4⟩
      refine ⟨fun i => ?_, fun i j b hi hj => ?_⟩
      · cases i with
        | zero => exact h1
        | succ i => exact h2 i
      · cases i with
        | zero =>
          cases j with
          | zero => rfl
          | succ j => exact absurd rfl (h4 b hi b (mem_ga.mpr ⟨j, hj⟩))
        | succ i =>
          cases j with
          | zero => exact absurd rfl (h4 b hj b (mem_ga.mpr ⟨i, hi⟩))
          | succ j => rw [h3 i j b hi hj]
    · rintro ⟨h1, h2⟩
      refine ⟨h1 0, ⟨fun i => h1 (i + 1), fun i j b hi hj => ?_⟩, fun a ha b hb e => ?_⟩
      · have := h2 (i + 1) (j + 1) b hi hj
        omega
      · subst e
        obtain ⟨i, hi⟩ := mem_ga.mp hb
        have := h2 0 (i + 1) a ha hi
        omega

structure Rel (K : PySem.W.Frag) (w : World) (st : MS) (σ : L2.St) (H : Hp) (g : Gs) : Prop where
  len : σ.length = st.length
  lena : g.as.length = st.length
  rep : ∀ i, SlR K w g.F H (gt st i) (gv σ i) (ga g.as i)
  one : ∀ i, (ga g.as i).Nodup
  dis : ∀ i j b, b ∈ ga g.as i → b ∈ ga g.as j → i = j
  nof : ∀ i b, b ∈ ga g.as i → ¬ g.F b
  trk : ∀ b, g.F b → ∃ o, H b = some o
/-- what may be written now -/
def Opn (st : MS) (g : Gs) (b : Addr) : Prop := ∃ i, isOpen (gt st i) = true ∧ b ∈ ga g.as i
def Own (g : Gs) (b : Addr) : Prop := ∃ i, b ∈ ga g.as i
structure Stp (st : MS) (g : Gs) (H : Hp) (st' : MS) (g' : Gs) (H' : Hp) : Prop where
  keep : ∀ b o, H b = some o → ¬ Opn st g b → H' b = some o
  sub : ∀ b, g.F b → g'.F b
  new : ∀ b, g'.F b → g.F b ∨ Own g b ∨ H b = none
  opn : ∀ b, Opn st' g' b → Opn st g b ∨ H b = none
  all : ∀ i b, b ∈ ga g'.as i → b ∈ ga g.as i ∨ H b = none
  there : ∀ b, H b ≠ none → H' b ≠ none
section
variable {K : PySem.W.Frag} {w : World} {st st' st2 : MS} {σ σ' : L2.St} {H H' H2 : Hp} {g g' g2 : Gs}
theorem Opn.own {b : Addr} (h : Opn st g b) : Own g b := let ⟨i, _, h⟩ := h; ⟨i, h⟩
theorem Stp.refl : Stp st g H st g H := ⟨fun _ _ h _ => h, fun _ h => h, fun _ h => .inl h, fun _ h => .inl h, fun _ _ h => .inl h, fun _ h => h⟩
theorem Stp.trans (a : Stp st g H st' g' H') (b : Stp st' g' H' st2 g2 H2) : Stp st g H st2 g2 H2 where
  keep := fun c o e n => b.keep c o (a.keep c o e n) fun q => by
    rcases a.opn c q with q | q
    · exact n q
    · rw [e] at q; cases q
  sub := fun c h => b.sub c (a.sub c h)
  new := fun c h => by
    have fin : H' c = none → g.F c ∨ Own g c ∨ H c = none := fun q => by
      by_cases z : H c = none
      · exact .inr (.inr z)
      · exact absurd q (a.there c z)
    rcases b.new c h with q | ⟨i, q⟩ | q
    · exact a.new c q
    · rcases a.all i c q with q | q
      · exact .inr (.inl ⟨i, q⟩)
      · exact .inr (.inr q)
    · exact fin q
  opn := fun c h => by
    rcases b.opn c h with q | q
    · exact a.opn c q
    · by_cases z : H c = none
      · exact .inr z
      · exact absurd q (a.there c z)
  all := fun i c h => by
    rcases b.all i c h with q | q
    · exact a.all i c q
    · by_cases z : H c = none
      · exact .inr z
      · exact absurd q (a.there c z)
  there := fun c h => b.there c (a.there c h)

theorem Rel.opnMu (r : Rel K w st σ H g) {b : Addr} (h : Own g b) : ∃ o, H b = some o ∧ Mb o := let ⟨i, h⟩ := h; (r.rep i).mu b h
/-- frozen lists, tuples stand through a step -/
theorem Rel.kl (r : Rel K w st σ H g) (s : Stp st g H st' g' H') : ∀ b xs, g.F b → H b = some (.lst xs) → H' b = some (.lst xs) := fun b xs f h =>
  s.keep b _ h fun ⟨i, _, q⟩ => r.nof i b q f
theorem Rel.kz (r : Rel K w st σ H g) (s : Stp st g H st' g' H') : ∀ b o u, H b = some (.frz o u) → H' b = some (.frz o u) := fun b o u h =>
  s.keep b _ h fun q => by obtain ⟨x, e, m⟩ := r.opnMu q.own; rw [h] at e; cases e; exact m
theorem Rel.kt (r : Rel K w st σ H g) (s : Stp st g H st' g' H') : ∀ b xs, Rd H b (.tup xs) → Rd H' b (.tup xs) := fun b xs h => by
  rcases h with h | ⟨o, h⟩
  · exact .inl (s.keep b _ h fun q => by obtain ⟨u, e, m⟩ := r.opnMu q.own; rw [h] at e; cases e; exact m)
  · exact .inr ⟨o, s.keep b _ h fun q => by obtain ⟨u, e, m⟩ := r.opnMu q.own; rw [h] at e; cases e; exact m⟩
theorem Rel.rp (r : Rel K w st σ H g) (s : Stp st g H st' g' H') {v : V} {d : D} (h : Rp K g.F H v d) : Rp K g'.F H' v d := h.mono s.sub (r.kl s) (r.kt s)
theorem Rel.rpA (r : Rel K w st σ H g) (s : Stp st g H st' g' H') {v : List V} {d : List D} (h : RpA K g.F H v d) : RpA K g'.F H' v d := h.mono s.sub (r.kl s) (r.kt s)
/-- the heap grew -/
theorem Rel.grow (r : Rel K w st σ H g) (h : Same H H') : Rel K w st σ H' g := by
  refine ⟨r.len, r.lena, fun i => ?_, r.one, r.dis, r.nof, fun b f => let ⟨o, e⟩ := r.trk b f; ⟨o, h b o e⟩⟩
  refine (r.rep i).mono (fun _ h => h) (fun b xs _ q => h _ _ q) (fun b xs q => ?_) (fun b o u q => h _ _ q) fun a _ o e => h a o e
  · rcases q with q | ⟨o, q⟩
    · exact .inl (h _ _ q)
    · exact .inr ⟨o, h _ _ q⟩
theorem Stp.grow (h : Same H H') : Stp st g H st g H' := ⟨fun b o e _ => h b o e, fun _ h => h, fun _ h => .inl h, fun _ h => .inl h, fun _ _ h => .inl h, fun b n e => by
  cases q : H b with
  | none => exact n q
  | some o => rw [h b o q] at e; cases e⟩
end

/-! ### results -/
section
variable (K : PySem.W.Frag) (w : World) (F : Addr → Prop) (H : Hp) (σ : L2.St)
def RR (r : R) (v : V) (ts : List Addr) : Prop :=
  match r with
  | .pl i => ts = [] ∧ gv σ i = some v
  | .pl2 _ _ => False
  | r => match asSl r with
    | some s => SlR K w F H s (some v) ts
    | none => False
end
/-- new, held by nobody -/
structure Fsh (g : Gs) (ts : List Addr) : Prop where
  nd : ts.Nodup
  nf : ∀ t ∈ ts, ¬ g.F t
  no : ∀ t ∈ ts, ¬ Own g t
section
variable {K : PySem.W.Frag} {w : World} {st st' : MS} {σ : L2.St} {H H' : Hp} {g g' : Gs} {r : R} {v : V} {ts : List Addr}
theorem Fsh.nil : Fsh g [] := ⟨List.nodup_nil, fun _ h => (nomatch h), fun _ h => (nomatch h)⟩
theorem RR.mu (h : RR K w g.F H σ r v ts) : ∀ t ∈ ts, ∃ o, H t = some o ∧ Mb o := by
  unfold RR at h
  split at h
  · obtain ⟨rfl, _⟩ := h; intro t ht; simp at ht
  · exact h.elim
  · split at h
    · exact h.mu
    · exact h.elim
/-- a result is carried over a step -/
theorem RR.step (h : RR K w g.F H σ r v ts) (f : Fsh g ts) (R : Rel K w st σ H g) (s : Stp st g H st' g' H') : RR K w g'.F H' σ r v ts ∧ Fsh g' ts := by
  have tr := h.mu
  have kp : ∀ t ∈ ts, ∀ o, H t = some o → H' t = some o := fun t ht o e => s.keep t o e fun q => f.no t ht q.own
  refine ⟨?_, f.nd, fun t ht q => ?_, fun t ht ⟨i, q⟩ => ?_⟩
  · unfold RR at h ⊢
    split
    · exact h
    · exact h
    · rename_i n1 n2
      split at h
      · exact absurd rfl (n1 _)
      · exact absurd rfl (n2 _ _)
      · cases e : asSl r with
        | none => rw [e] at h; exact h
        | some sl =>
          rw [e] at h
          exact h.mono s.sub (R.kl s) (R.kt s) (R.kz s) kp
  · obtain ⟨o, e, _⟩ := tr t ht
    rcases s.new t q with z | z | z
    · exact f.nf t ht z
    · exact f.no t ht z
    · rw [e] at z; cases z
  · obtain ⟨o, e, _⟩ := tr t ht
    rcases s.all i t q with z | z
    · exact f.no t ht ⟨i, z⟩
    · rw [e] at z; cases z
theorem RR.dat {d : D} (h : Rp K g.F H v d) : RR K w g.F H σ (.dat d) v [] := ⟨rfl, v, rfl, h⟩
theorem RR.dat_inv {d : D} (h : RR K w g.F H σ (.dat d) v ts) : ts = [] ∧ Rp K g.F H v d := by
  obtain ⟨h1, x, h2, h3⟩ := h
  cases h2
  exact ⟨h1, h3⟩
end

/-! ### reading -/
section
variable {K : PySem.W.Frag} {w : World} {st st' : MS} {σ : L2.St} {H H' : Hp} {g g' : Gs} {r c : R} {v : V} {ts : List Addr}
/-- a looked up result, as a slot at its value -/
theorem look_rep (h : RR K w g.F H σ r v ts) (R : Rel K w st σ H g) (e : look st r = some c) : ∃ s as, asSl c = some s ∧ SlR K w g.F H s (some v) as := by
  cases r with
  | pl i =>
    obtain ⟨rfl, hv⟩ := h
    have q := R.rep i
    rw [hv] at q
    simp only [look] at e
    cases hs : gt st i with
    | emp => rw [hs] at e; cases e
    | dat d => rw [hs] at e q; cases e; exact ⟨_, _, rfl, q⟩
    | lst lk xs => rw [hs] at e q; cases e; exact ⟨.lst false xs, _, rfl, q⟩
    | dct lk xs => rw [hs] at e q; cases e; exact ⟨.dct false xs, _, rfl, q⟩
    | dll lk xs => rw [hs] at e q; cases e; exact ⟨.dll false xs, _, rfl, q⟩
    | ddl lk xs => rw [hs] at e q; cases e; exact ⟨.ddl false xs, _, rfl, q⟩
    | scr xs => rw [hs] at e q; cases e; exact ⟨.scr xs, _, rfl, q⟩
  | pl2 i k => exact h.elim
  | dat d => cases e; exact ⟨_, _, rfl, h⟩
  | lst xs => cases e; exact ⟨_, _, rfl, h⟩
  | dct xs => cases e; exact ⟨_, _, rfl, h⟩
  | dll xs => cases e; exact ⟨_, _, rfl, h⟩
  | ddl xs => cases e; exact ⟨_, _, rfl, h⟩
  | scr xs => cases e; exact ⟨_, _, rfl, h⟩
end
/-- what a content is at a value (for reading alone) -/
def CR (K : PySem.W.Frag) (w : World) (F : Addr → Prop) (H : Hp) (c : R) (v : V) : Prop := ∃ s as, asSl c = some s ∧ SlR K w F H s (some v) as
section
variable {K : PySem.W.Frag} {w : World} {F : Addr → Prop} {H : Hp} {c : R} {v : V}
theorem CR.dat {d : D} (h : CR K w F H (.dat d) v) : Rp K F H v d := by
  obtain ⟨s, as, e, h⟩ := h
  cases e
  obtain ⟨_, x, e, h⟩ := h
  cases e
  exact h
theorem CR.lst {xs : List D} (h : CR K w F H (.lst xs) v) : ∃ a vs, v = .ref a ∧ H a = some (.lst vs) ∧ RpA K F H vs xs := by
  obtain ⟨s, as, e, h⟩ := h
  cases e
  obtain ⟨a, _, e, vs, h1, h2⟩ := h
  cases e
  exact ⟨a, vs, rfl, h1, h2⟩
theorem OwnL.dp {a : Addr} {xs : List D} (h : OwnL K F H a xs) : Dp K H (.ref a) (.list xs) := by
  obtain ⟨vs, h1, h2⟩ := h
  exact .lst (SqL.of h1) h2.dp
theorem dllDp : ∀ {bs : List Addr} {xss : List (List D)}, Paired (fun b xs => OwnL K F H b xs) bs xss → DpAll K H (bs.map V.ref) (xss.map PyData.list)
  | _, _, .nil => .nil
  | _, _, .cons r t => .cons r.dp (dllDp t)
/-- as data that is read -/
theorem CR.vw {d : D} (h : CR K w F H c v) (e : vw c = some d) : Dp K H v d := by
  cases c with
  | dat d' => cases e; exact h.dat.dp
  | lst xs =>
    cases e
    obtain ⟨a, vs, rfl, h1, h2⟩ := h.lst
    exact .lst (SqL.of h1) h2.dp
  | dll xss =>
    cases e
    obtain ⟨s, as, e, h⟩ := h
    cases e
    obtain ⟨a, bs, _, e, h1, h2⟩ := h
    cases e
    exact .lst (SqL.of h1) (dllDp h2)
  | dct _ => cases e
  | ddl _ => cases e
  | scr _ => cases e
  | pl _ => cases e
  | pl2 _ _ => cases e
/-- a list, to be read -/
theorem CR.asL {xs : List D} (h : CR K w F H c v) (e : asL c = some xs) : ∃ a vs, v = .ref a ∧ H a = some (.lst vs) ∧ RpA K F H vs xs := by
  cases c with
  | dat d =>
    cases d with
    | list ys =>
      cases e
      have q := h.dat
      cases q with
      | lst q r => exact ⟨_, _, rfl, q.2, r⟩
    | _ => cases e
  | lst ys =>
    cases e
    obtain ⟨a, vs, rfl, h1, h2⟩ := h.lst
    exact ⟨a, vs, rfl, h1, h2⟩
  | dct _ => cases e
  | ddl _ => cases e
  | scr _ => cases e
  | dll _ => cases e
  | pl _ => cases e
  | pl2 _ _ => cases e
end
end Mt

set_option Elab.async false
set_option linter.all false
set_option maxRecDepth 100000
set_option maxHeartbeats 4000000
/-! The operators and built-ins that only read, or lay something new. -/
namespace Mt
open PySem PySem.Spec PyProof.Rows L2

def Out (K : PySem.W.Frag) (w : World) (F : Addr → Prop) (H : Hp) (r : R) (v : V) (H' : Hp) (ts : List Addr) : Prop :=
  Same H H' ∧ (∃ s, asSl r = some s ∧ SlR K w F H' s (some v) ts) ∧ ts.Nodup ∧ ∀ t ∈ ts, H t = none
section
variable {K : PySem.W.Frag} {w : World} {F : Addr → Prop} {H H' : Hp} {v : V}
theorem Rp.int_inv {i : Int} (h : Rp K F H v (.int i)) : v = .int i := by cases h; rfl
theorem Rp.bl_inv {i : Bool} (h : Rp K F H v (.bool i)) : v = .bl i := by cases h; rfl
theorem Rp.str_inv {i : Str} (h : Rp K F H v (.str i)) : v = .str i := by cases h; rfl
theorem Rp.non_inv (h : Rp K F H v .none) : v = .non := by cases h; rfl
theorem Rp.tup_inv {ds : List D} (h : Rp K F H v (.tuple ds)) : ∃ a xs, v = .ref a ∧ SqT K H a xs ∧ RpA K F H xs ds := by
  cases h with
  | tup h r => exact ⟨_, _, rfl, h, r⟩
theorem Rp.lst_inv {ds : List D} (h : Rp K F H v (.list ds)) : ∃ a xs, v = .ref a ∧ F a ∧ H a = some (.lst xs) ∧ RpA K F H xs ds := by
  cases h with
  | lst h r => exact ⟨_, _, rfl, h.1, h.2, r⟩
theorem Rp.grow (h : Same H H') {d : D} (r : Rp K F H v d) : Rp K F H' v d := r.mono (fun _ h => h) (fun b xs _ q => h _ _ q) fun b xs q => by
  rcases q with q | ⟨o, q⟩
  · exact .inl (h _ _ q)
  · exact .inr ⟨o, h _ _ q⟩
theorem RpA.grow (h : Same H H') {v : List V} {d : List D} (r : RpA K F H v d) : RpA K F H' v d := r.mono (fun _ h => h) (fun b xs _ q => h _ _ q) fun b xs q => by
  rcases q with q | ⟨o, q⟩
  · exact .inl (h _ _ q)
  · exact .inr ⟨o, h _ _ q⟩
theorem same_new {p : Addr} {o : HO} (h : H p = none) : Same H (upd H p o) := fun b x e => by
  rw [upd_ne (ne_of_none e h)]; exact e
theorem Out.dat {d : D} (h : Rp K F H v d) : Out K w F H (.dat d) v H [] := ⟨Same.refl H, ⟨_, rfl, rfl, v, rfl, h⟩, List.nodup_nil, fun _ h => nomatch h⟩
theorem Out.int (i : Int) : Out K w F H (iI i) (.int i) H [] := .dat (.int i)
theorem Out.bool (b : Bool) : Out K w F H (iB b) (.bl b) H [] := .dat (.bl b)
theorem Out.tup {p : Addr} {vs : List V} {xs : List D} (h : H p = none) (r : RpA K F H vs xs) : Out K w F H (.dat (.tuple xs)) (.ref p) (upd H p (.tup vs)) [] :=
  ⟨same_new h, ⟨_, rfl, rfl, _, rfl, .tup (SqT.of upd_same) (r.grow (same_new h))⟩, List.nodup_nil, fun _ h => nomatch h⟩
theorem Out.lst {p : Addr} {vs : List V} {xs : List D} (h : H p = none) (r : RpA K F H vs xs) : Out K w F H (.lst xs) (.ref p) (upd H p (.lst vs)) [p] :=
  ⟨same_new h, ⟨_, rfl, p, rfl, rfl, vs, upd_same, r.grow (same_new h)⟩, by simp, fun t ht => by simp at ht; rw [ht]; exact h⟩
theorem sz_line : SZ = sizeLine := by rw [sizeLine_eq]; rfl
theorem sz_le {n : Nat} (h : n ≤ SZ) : n ≤ sizeLine := by rw [← sz_line]; exact h
theorem sz_lt {n : Nat} (h : n < SZ) : n < sizeLine := by rw [← sz_line]; exact h
end

/-! ### operators of two -/
def rOp (K : PySem.W.Frag) (w : World) (fin : R → R → Option R) : R2 := fun x y H Q => ∃ F cx cy r, CR K w F H cx x ∧ CR K w F H cy y ∧ fin cx cy = some r ∧ ∀ v H' ts, Out K w F H r v H' ts → Q v H'
def opOf : Bop → Operator
  | .add => .Add | .sub => .Sub | .mul => .Mult | .fdiv => .FloorDiv | .mod => .Mod | .pow => .Pow
section
variable {X : Cx}
/-- a tuple times any int -/
theorem tuple_mul_same (l : Addr) (items : Array Value) (n : Nat) (sl : Array (Option Value)) (dd : Option Addr) (x : Int) (u : Tok) (c0 : (decide (x < -(2 ^ 63)) || decide (x ≥ 2 ^ 63)) = false) (c1 : (items.isEmpty || x == 1) = true) :
    Meets (Builtin.«tuple.__mul__» ⟨[.ref l, .int x u], []⟩) (fun _ R s => s.heap.get? l = some { cls := .type "tuple", dict := dd, data := .seq items n, slots := sl } ∧
      R (.ok (.ret (Value.ref l))) s) :=
  .of_wp fun prog w A R s h => by
    obtain ⟨hp, g, d, tk, os⟩ := s
    obtain ⟨hl, h⟩ := h
    have f1 := AutoSeq1.idx_int
    have f2 := AutoSeq1.sub_tuple_tuple
    wp_walk using wpAny_loadPart' hl
    repeat (first
      | (refine wpAny_ite_false (decide_eq_false (by rw [c0]; exact Bool.false_ne_true)) ?_; wp_walk using wpAny_loadPart' hl)
      | (refine wpAny_ite_true (decide_eq_true (by rw [c1])) ?_; wp_walk using wpAny_loadPart' hl))
    exact ⟨_, rfl, h⟩
theorem tuple_mul_none (l : Addr) (items : Array Value) (n : Nat) (sl : Array (Option Value)) (dd : Option Addr) (x : Int) (u : Tok) (c0 : (decide (x < -(2 ^ 63)) || decide (x ≥ 2 ^ 63)) = false) (c1 : (items.isEmpty || x == 1) = false) (c2 : (decide (x ≤ 0) || items.isEmpty) = true) :
    Meets (Builtin.«tuple.__mul__» ⟨[.ref l, .int x u], []⟩) (fun _ R s => s.heap.get? l = some { cls := .type "tuple", dict := dd, data := .seq items n, slots := sl } ∧
      R (.ok (.ret (Value.ref s.heap.objs.size))) { s with heap := s.heap.push { cls := Value.type "tuple", data := Data.seq #[] }, toks := s.toks }) :=
  .of_wp fun prog w A R s h => by
    obtain ⟨hp, g, d, tk, os⟩ := s
    obtain ⟨hl, h⟩ := h
    have f1 := AutoSeq1.idx_int
    wp_walk using wpAny_loadPart' hl
    repeat (first
      | (refine wpAny_ite_false (decide_eq_false (by rw [c0]; exact Bool.false_ne_true)) ?_; wp_walk using wpAny_loadPart' hl)
      | (refine wpAny_ite_false (decide_eq_false (by rw [c1]; exact Bool.false_ne_true)) ?_; wp_walk using wpAny_loadPart' hl)
      | (refine wpAny_ite_true (decide_eq_true (by rw [c2])) ?_; wp_walk using wpAny_loadPart' hl))
    exact ⟨_, rfl, h⟩
def rMulT (K : PySem.W.Frag) : R2 := fun x y H Q => ∃ l k xs, x = .ref l ∧ y = .int k ∧ SqT K H l xs ∧ -(2 ^ 63) ≤ k ∧ k < 2 ^ 63 ∧ xs.length * k.toNat ≤ sizeLine ∧
  (xs = [] ∨ k = 1 → Q (.ref l) H) ∧ (∀ p, H p = none → Q (.ref p) (upd H p (.tup (List.replicate k.toNat xs).flatten)))
theorem op_mulT : OpR X (binaryOp .Mult) (rMulT X.K) := by
  intro pins s σ H x y v u Q I rx ry h
  obtain ⟨l, k, xs, rfl, rfl, hT, h1, h2, hz, q1, q2⟩ := h
  cases rx
  obtain ⟨t, rfl⟩ := ry
  obtain ⟨its, r, ⟨⟨cls, dd, data, sl⟩, ho, hc, n, hd⟩, hs⟩ := I.tuple hT
  simp only at hc hd
  subst hc hd
  have hle : its.length = xs.length := r.length.symm
  have c0 : (decide (k < -(2 ^ 63)) || decide (k ≥ 2 ^ 63)) = false := by
    rw [decide_eq_false (by omega), decide_eq_false (by omega)] <;> rfl
  have road : ∀ {Q' : Value → Shared → Prop}, (codeAny (model X.prog X.w) X.A (.call (.builtin "tuple.__mul__") ⟨[.ref l, .int k t], []⟩) (fun r s' => ∃ u, r = .ok (.ret u) ∧ Q' u s') s) → True := fun _ => trivial
  by_cases hsame : xs = [] ∨ k = 1
  · have c1 : (its.toArray.isEmpty || k == 1) = true := by
      rcases hsame with e | e
      · have : its = [] := List.eq_nil_of_length_eq_zero (by rw [hle, e]; rfl)
        rw [this]; rfl
      · rw [e]; simp
    refine wpAny_binaryOp_repeat_ref (T := "tuple") (U := "int") (by decide) ⟨_, ho, rfl⟩ (fun s' => typeIs_int s' k t) noFill_tuple_mul F.fills_int_mul F.slot_int_rmul repeat_tuple F.slot_int_index.lookup
      (call_meets F.slot_int_rmul (typeIs_int s k t) F.entry_int_rmul (F.args_int_rmul_2 _ _) (int_rmul_tuple k t l its.toArray n dd sl)
        ⟨ho, rfl, ⟨_, ho, rfl⟩, call_meets F.slot_tuple_mul ⟨_, ho, rfl⟩ F.entry_tuple_mul (F.args_tuple_mul_2 _ _) (tuple_mul_same l its.toArray n sl dd k t c0 c1) ⟨ho, ?_⟩⟩)
    exact ⟨.ref l, H, I, rfl, q1 hsame⟩
  · have hne : xs ≠ [] := fun e => hsame (.inl e)
    have hk1 : k ≠ 1 := fun e => hsame (.inr e)
    have hn : its ≠ [] := fun e => hne (by
      rw [e] at hle
      exact List.eq_nil_of_length_eq_zero hle.symm)
    have hi : its.toArray.isEmpty = false := by
      cases its with
      | nil => exact absurd rfl hn
      | cons a b => rfl
    have c1 : (its.toArray.isEmpty || k == 1) = false := by
      rw [hi, Bool.false_or]
      exact beq_eq_false_iff_ne.mpr hk1
    by_cases hk0 : k ≤ 0
    · have c2 : (decide (k ≤ 0) || its.toArray.isEmpty) = true := by rw [decide_eq_true hk0]; rfl
      have e0 : k.toNat = 0 := by omega
      refine wpAny_binaryOp_repeat_ref (T := "tuple") (U := "int") (by decide) ⟨_, ho, rfl⟩ (fun s' => typeIs_int s' k t) noFill_tuple_mul F.fills_int_mul F.slot_int_rmul repeat_tuple F.slot_int_index.lookup
        (call_meets F.slot_int_rmul (typeIs_int s k t) F.entry_int_rmul (F.args_int_rmul_2 _ _) (int_rmul_tuple k t l its.toArray n dd sl)
          ⟨ho, rfl, ⟨_, ho, rfl⟩, call_meets F.slot_tuple_mul ⟨_, ho, rfl⟩ F.entry_tuple_mul (F.args_tuple_mul_2 _ _) (tuple_mul_none l its.toArray n sl dd k t c0 c1 c2) ⟨ho, ?_⟩⟩)
      have q := q2 s.heap.objs.size (I.hok.fresh (Nat.le_refl _))
      rw [e0] at q
      refine ⟨.ref s.heap.objs.size, _, I.laid (t' := s.toks) (o := .tup []) (fun b ob q => Heap.get?_push_of_some _ q) (Nat.le_refl _) ?_, rfl, q⟩
      exact ⟨Nat.zero_le _, [], .nil, IsTup.new _ _⟩
    · have c2 : (decide (k ≤ 0) || its.toArray.isEmpty) = false := by
        rw [hi, Bool.or_false]
        exact decide_eq_false hk0
      have hsz0 : its.toArray.size = xs.length := by rw [List.size_toArray, hle]
      have hmul : ((its.toArray.size : Nat) : Int) * k = ((xs.length * k.toNat : Nat) : Int) := by
        rw [hsz0, Int.natCast_mul, Int.toNat_of_nonneg (by omega)]
      have hline : ((xs.length * k.toNat : Nat) : Int) ≤ 16777216 := by
        have := hz
        rw [sizeLine_eq] at this
        omega
      have flen : (List.replicate k.toNat its).flatten.length ≤ sizeLine := by
        rw [PyProof.Rows.lm_len_rep_flat, hle, Nat.mul_comm]
        exact hz
      have c4 : Builtin.Tuple.tupleTooMany (((its.toArray.size : Nat) : Int) * k) = false := by
        unfold Builtin.Tuple.tupleTooMany
        rw [sizeLine_eq, hmul]
        exact decide_eq_false (by omega)
      refine wpAny_binaryOp_repeat_ref (T := "tuple") (U := "int") (by decide) ⟨_, ho, rfl⟩ (fun s' => typeIs_int s' k t) noFill_tuple_mul F.fills_int_mul F.slot_int_rmul repeat_tuple F.slot_int_index.lookup
        (call_meets F.slot_int_rmul (typeIs_int s k t) F.entry_int_rmul (F.args_int_rmul_2 _ _) (int_rmul_tuple k t l its.toArray n dd sl)
          ⟨ho, rfl, ⟨_, ho, rfl⟩, call_meets F.slot_tuple_mul ⟨_, ho, rfl⟩ F.entry_tuple_mul (F.args_tuple_mul_2 _ _) (tuple_mulW l its.toArray n dd sl k t c0 c1 c2 (by rw [hmul]; omega) c4 (by rw [size_rep, List.size_toArray]; exact flen)) ⟨ho, ?_⟩⟩)
      rw [size_rep]
      refine ⟨.ref s.heap.objs.size, _, I.laid (t' := s.toks) (o := .tup (List.replicate k.toNat xs).flatten) (fun b ob q => Heap.get?_push_of_some _ q) (Nat.le_refl _) ?_, rfl, q2 _ (I.hok.fresh (Nat.le_refl _))⟩
      exact ⟨by rw [PyProof.Rows.lm_len_rep_flat, Nat.mul_comm]; exact hz, _, r.rep k.toNat, IsTup.new _ _⟩

theorem flat_nil {α : Type} (n : Nat) : (List.replicate n ([] : List α)).flatten = [] := by
  induction n with
  | zero => rfl
  | succ n ih => rw [List.replicate_succ, List.flatten_cons, ih]; rfl
theorem flat_one {α : Type} (xs : List α) : (List.replicate 1 xs).flatten = xs := by
  rw [List.replicate_succ, List.flatten_cons]
  exact List.append_nil _

/-- lists, by contents -/
theorem opAdd_ok : OpR X (binaryOp .Add) (rOp X.K X.w opAdd) := by
  intro pins s σ H x y v u Q I rx ry ⟨F, cx, cy, r, hx, hy, e, q⟩
  unfold opAdd at e
  split at e
  · cases e
    cases hx.dat.int_inv
    cases hy.dat.int_inv
    exact op_add pins s σ H _ _ v u Q I rx ry ⟨_, _, rfl, rfl, q _ _ _ (.int _)⟩
  · split at e
    · cases e
      cases hx.dat.str_inv
      cases hy.dat.str_inv
      rename_i hl
      exact op_add_str pins s σ H _ _ v u Q I rx ry ⟨_, _, rfl, rfl, sz_le hl, q _ _ _ (.dat (.str _))⟩
    · cases e
  · split at e
    · cases e
      rename_i hl
      obtain ⟨a, vs, rfl, h1, r1⟩ := hx.dat.tup_inv
      obtain ⟨b, ws, rfl, h2, r2⟩ := hy.dat.tup_inv
      rw [← r1.len, ← r2.len] at hl
      refine op_catA pins s σ H _ _ v u Q I rx ry ⟨a, b, vs, ws, rfl, rfl, h1, h2, sz_le hl, fun e => ?_, fun _ e => ?_, fun _ _ p hp => ?_⟩
      · subst e
        cases r1
        exact q _ _ _ (.dat (.tup h2 r2))
      · subst e
        cases r2
        rw [List.append_nil] at q
        exact q _ _ _ (.dat (.tup h1 r1))
      · exact q _ _ _ (.tup hp (r1.append r2))
    · cases e
  · split at e
    · rename_i xs ys ex ey
      split at e
      · cases e
        rename_i hl
        obtain ⟨a, vs, rfl, h1, r1⟩ := hx.asL ex
        obtain ⟨b, ws, rfl, h2, r2⟩ := hy.asL ey
        rw [← r1.len, ← r2.len] at hl
        exact op_cat pins s σ H _ _ v u Q I rx ry ⟨a, b, vs, ws, rfl, rfl, h1, h2, sz_le hl, fun p hp => q _ _ _ (.lst hp (r1.append r2))⟩
      · cases e
    · cases e
theorem opMul_ok : OpR X (binaryOp .Mult) (rOp X.K X.w opMul) := by
  intro pins s σ H x y v u Q I rx ry ⟨F, cx, cy, r, hx, hy, e, q⟩
  unfold opMul at e
  split at e
  · split at e
    · cases e
      cases hx.dat.int_inv
      cases hy.dat.int_inv
      rename_i hc
      exact op_mul pins s σ H _ _ v u Q I rx ry ⟨_, _, rfl, rfl, (by unfold CMul; omega), q _ _ _ (.int _)⟩
    · cases e
  · split at e
    · cases e
      rename_i hl
      obtain ⟨a, vs, rfl, h1, r1⟩ := hx.dat.tup_inv
      cases hy.dat.int_inv
      obtain ⟨hl1, hl2, hl3⟩ := hl
      rw [← r1.len] at hl1
      refine op_mulT pins s σ H _ _ v u Q I rx ry ⟨a, _, vs, rfl, rfl, h1, hl2, hl3, sz_le hl1, fun e => ?_, fun p hp => q _ _ _ (.tup hp (r1.rep _))⟩
      rcases e with e | e
      · subst e
        cases r1
        rw [flat_nil] at q
        exact q _ _ _ (.dat (.tup h1 .nil))
      · subst e
        rw [show (1 : Int).toNat = 1 from rfl, flat_one] at q
        exact q _ _ _ (.dat (.tup h1 r1))
    · cases e
  · split at e
    · rename_i xs ex
      split at e
      · cases e
        rename_i hl
        obtain ⟨a, vs, rfl, h1, r1⟩ := hx.asL ex
        cases hy.dat.int_inv
        obtain ⟨hl1, hl2, hl3⟩ := hl
        rw [← r1.len] at hl1
        exact op_rep pins s σ H _ _ v u Q I rx ry ⟨a, _, vs, rfl, rfl, h1, hl2, hl3, sz_le hl1, fun p hp => q _ _ _ (.lst hp (r1.rep _))⟩
      · cases e
    · cases e
  · cases e
theorem opBin_ok (op : Bop) : OpR X (binaryOp (opOf op)) (rOp X.K X.w (opBin op)) := by
  cases op with
  | add => exact opAdd_ok
  | mul => exact opMul_ok
  | sub =>
    intro pins s σ H x y v u Q I rx ry ⟨F, cx, cy, r, hx, hy, e, q⟩
    unfold opBin at e
    split at e <;> first | (rename_i h; cases h; done) | cases e
    cases hx.dat.int_inv
    cases hy.dat.int_inv
    exact op_sub pins s σ H _ _ v u Q I rx ry ⟨_, _, rfl, rfl, q _ _ _ (.int _)⟩
  | fdiv =>
    intro pins s σ H x y v u Q I rx ry ⟨F, cx, cy, r, hx, hy, e, q⟩
    unfold opBin at e
    split at e <;> first | (rename_i h; cases h; done) | skip
    · split at e
      · cases e
        rename_i hc
        cases hx.dat.int_inv
        cases hy.dat.int_inv
        exact op_fdiv pins s σ H _ _ v u Q I rx ry ⟨_, _, rfl, rfl, hc, q _ _ _ (.int _)⟩
      · cases e
    · cases e
  | mod =>
    intro pins s σ H x y v u Q I rx ry ⟨F, cx, cy, r, hx, hy, e, q⟩
    unfold opBin at e
    split at e <;> first | (rename_i h; cases h; done) | skip
    · split at e
      · cases e
        rename_i hc
        cases hx.dat.int_inv
        cases hy.dat.int_inv
        exact op_mod pins s σ H _ _ v u Q I rx ry ⟨_, _, rfl, rfl, hc, q _ _ _ (.int _)⟩
      · cases e
    · cases e
  | pow =>
    intro pins s σ H x y v u Q I rx ry ⟨F, cx, cy, r, hx, hy, e, q⟩
    unfold opBin at e
    split at e <;> first | (rename_i h; cases h; done) | skip
    · split at e
      · cases e
        rename_i hc
        cases hx.dat.int_inv
        cases hy.dat.int_inv
        exact op_pow pins s σ H _ _ v u Q I rx ry ⟨_, _, rfl, rfl, hc, q _ _ _ (.int _)⟩
      · cases e
    · cases e
end
end Mt

set_option Elab.async false
set_option linter.all false
set_option maxRecDepth 100000
set_option maxHeartbeats 4000000
/-! Comparisons, truth, indexes, slices, built-ins. -/
namespace Mt
open PySem PySem.Spec PyProof.Rows L2

/-! ### comparisons -/
def rCm (K : PySem.W.Frag) (w : World) (fin : R → R → Option Bool) : R2 := fun x y H Q => ∃ F cx cy b, CR K w F H cx x ∧ CR K w F H cy y ∧ fin cx cy = some b ∧ Q (.bl b) H
def copOf : Cop → CmpOp
  | .eq => .Eq | .ne => .NotEq | .lt => .Lt | .le => .LtE | .gt => .Gt | .ge => .GtE | .isIn => .In | .notIn => .NotIn | .is => .Is | .isNot => .IsNot
section
variable {X : Cx}
theorem shaped_bool (b : Bool) : SeqAt.shaped (.bool b) = true := rfl
theorem shaped_int (i : Int) : SeqAt.shaped (.int i) = true := rfl
theorem eq_case {K : PySem.W.Frag} {H : Hp} {x y : V} {a b : D} {c : Bool} (hx : Dp K H x a) (hy : Dp K H y b) (e : eqD a b = some c) :
    (scal x y = true ∧ c = decide (x = y)) ∨ (SeqAt.shaped a = true ∧ SeqAt.shaped b = true ∧ c = PyData.eqv a b) := by
  unfold eqD at e
  split at e
  · cases e
    rename_i h
    rw [Bool.or_eq_true] at h
    rcases h with h | h
    · rw [Bool.and_eq_true] at h
      cases hx <;> cases hy <;> first
        | (left; refine ⟨rfl, ?_⟩; simp [PyData.eqv]; done)
        | (right; exact ⟨rfl, rfl, rfl⟩)
        | (exfalso; simp [isScal] at h; done)
        | skip
      all_goals (left; refine ⟨rfl, ?_⟩; simp only [PyData.eqv]; rw [Bool.eq_iff_iff]; simp)
    · rw [Bool.and_eq_true] at h
      exact .inr ⟨h.1, h.2, rfl⟩
  · cases e
theorem inv2 {c d : Option D} {f : D → D → Option Bool} {b : Bool} (e : (match c, d with | some x, some y => f x y | _, _ => none) = some b) : ∃ x y, c = some x ∧ d = some y ∧ f x y = some b := by
  cases c with
  | none => cases e
  | some x =>
    cases d with
    | none => cases e
    | some y => exact ⟨x, y, rfl, rfl, e⟩
theorem notB {c : Option Bool} {b : Bool} (e : (match c with | some c => some (!c) | none => none) = some b) : ∃ c', c = some c' ∧ b = !c' := by
  cases c with
  | none => cases e
  | some c' => cases e; exact ⟨c', rfl, rfl⟩
theorem opEq_ok (hu : X.A.units + 64 < cLine) : OpR X (compareOp .Eq) (rCm X.K X.w (opCmp .eq)) := by
  intro pins s σ H x y v u Q I rx ry ⟨F, cx, cy, b, hx, hy, e, q⟩
  obtain ⟨a, b', ea, eb, e⟩ := inv2 (f := eqD) e
  have dx := hx.vw ea
  have dy := hy.vw eb
  rcases eq_case dx dy e with ⟨h, rfl⟩ | ⟨h1, h2, rfl⟩
  · exact op_eq pins s σ H _ _ v u Q I rx ry ⟨h, q⟩
  · exact op_eqD hu pins s σ H _ _ v u Q I rx ry ⟨_, _, dx, dy, h1, h2, q⟩
theorem opNe_ok (hu : X.A.units + 64 < cLine) : OpR X (compareOp .NotEq) (rCm X.K X.w (opCmp .ne)) := by
  intro pins s σ H x y v u Q I rx ry ⟨F, cx, cy, b, hx, hy, e, q⟩
  obtain ⟨a, b', ea, eb, e⟩ := inv2 (f := fun x y => match eqD x y with | some c => some (!c) | none => none) e
  obtain ⟨c, e2, rfl⟩ := notB e
  have dx := hx.vw ea
  have dy := hy.vw eb
  rcases eq_case dx dy e2 with ⟨h, rfl⟩ | ⟨h1, h2, rfl⟩
  · exact op_ne pins s σ H _ _ v u Q I rx ry ⟨h, q⟩
  · exact op_neD hu pins s σ H _ _ v u Q I rx ry ⟨_, _, dx, dy, h1, h2, q⟩
/-- orders of whole numbers -/
theorem ord_ok {op : Cop} {f : Int → Int → Bool} {cop : CmpOp} (ho : OpR X (compareOp cop) (rI0 fun i j => .bl (f i j))) (hf : ∀ cx cy b, opCmp op cx cy = some b → ∃ i j, cx = .dat (.int i) ∧ cy = .dat (.int j) ∧ b = f i j) : OpR X (compareOp cop) (rCm X.K X.w (opCmp op)) := by
  intro pins s σ H x y v u Q I rx ry ⟨F, cx, cy, b, hx, hy, e, q⟩
  obtain ⟨i, j, rfl, rfl, rfl⟩ := hf _ _ _ e
  cases hx.dat.int_inv
  cases hy.dat.int_inv
  exact ho pins s σ H _ _ v u Q I rx ry ⟨_, _, rfl, rfl, q⟩
theorem lt_inv : ∀ cx cy b, opCmp .lt cx cy = some b → ∃ i j, cx = .dat (.int i) ∧ cy = .dat (.int j) ∧ b = decide (i < j) := by
  intro cx cy b e
  cases cx with
  | dat d =>
    cases d <;> try (cases e; done)
    cases cy with
    | dat d' =>
      cases d' <;> try (cases e; done)
      cases e
      exact ⟨_, _, rfl, rfl, rfl⟩
    | _ => cases e
  | _ => cases e
theorem le_inv : ∀ cx cy b, opCmp .le cx cy = some b → ∃ i j, cx = .dat (.int i) ∧ cy = .dat (.int j) ∧ b = decide (i ≤ j) := by
  intro cx cy b e
  cases cx with
  | dat d =>
    cases d <;> try (cases e; done)
    cases cy with
    | dat d' =>
      cases d' <;> try (cases e; done)
      cases e
      exact ⟨_, _, rfl, rfl, rfl⟩
    | _ => cases e
  | _ => cases e
theorem gt_inv : ∀ cx cy b, opCmp .gt cx cy = some b → ∃ i j, cx = .dat (.int i) ∧ cy = .dat (.int j) ∧ b = decide (j < i) := by
  intro cx cy b e
  cases cx with
  | dat d =>
    cases d <;> try (cases e; done)
    cases cy with
    | dat d' =>
      cases d' <;> try (cases e; done)
      cases e
      exact ⟨_, _, rfl, rfl, rfl⟩
    | _ => cases e
  | _ => cases e
theorem ge_inv : ∀ cx cy b, opCmp .ge cx cy = some b → ∃ i j, cx = .dat (.int i) ∧ cy = .dat (.int j) ∧ b = decide (j ≤ i) := by
  intro cx cy b e
  cases cx with
  | dat d =>
    cases d <;> try (cases e; done)
    cases cy with
    | dat d' =>
      cases d' <;> try (cases e; done)
      cases e
      exact ⟨_, _, rfl, rfl, rfl⟩
    | _ => cases e
  | _ => cases e
/-- the value behind data -/
theorem plain_bool {K : PySem.W.Frag} {H : Hp} {x : V} {d : D} {v : Value} {b : Bool} (h : Dp K H x d) (r : RelV x v) : plainIs v (.bool b) = true := by
  cases h with
  | non => cases r; rfl
  | bl => cases r; rfl
  | int => obtain ⟨t, rfl⟩ := r; rfl
  | str => obtain ⟨t, rfl⟩ := r; rfl
  | lst => cases r; rfl
  | tup => cases r; rfl
/-- is, by data -/
theorem is_case {K : PySem.W.Frag} {H : Hp} {x y : V} {d : D} {e : D} {v u : Value} {b : Bool} (hx : Dp K H x d) (hy : Dp K H y e) (rx : RelV x v) (ry : RelV y u) (h : isD d e = some b) :
    (y = .non ∧ b = decide (x = .non)) ∨ (plainIs v u = true ∧ ((b = true ∧ v = u) ∨ (b = false ∧ v ≠ u))) := by
  unfold isD at h
  split at h
  · left
    cases hy
    cases h
    cases hx <;> exact ⟨rfl, rfl⟩
  · right
    cases hy
    cases ry
    refine ⟨plain_bool hx rx, ?_⟩
    cases hx with
    | non => cases h; cases rx; exact .inr ⟨rfl, fun z => nomatch z⟩
    | bl c =>
      cases h
      cases rx
      rename_i c2
      by_cases q : c = c2
      · subst q; exact .inl ⟨by simp, rfl⟩
      · exact .inr ⟨by simp [q], fun z => q (Value.bool.inj z)⟩
    | int => cases h; obtain ⟨t, rfl⟩ := rx; exact .inr ⟨rfl, fun z => nomatch z⟩
    | str => cases h; obtain ⟨t, rfl⟩ := rx; exact .inr ⟨rfl, fun z => nomatch z⟩
    | lst => cases h; cases rx; exact .inr ⟨rfl, fun z => nomatch z⟩
    | tup => cases h; cases rx; exact .inr ⟨rfl, fun z => nomatch z⟩
  · cases h
theorem is_inv {cx cy : R} {b : Bool} (e : opCmp .is cx cy = some b) : ∃ x y, vw cx = some x ∧ cy = .dat y ∧ isD x y = some b := by
  cases cy with
  | dat y =>
    simp only [opCmp] at e
    cases h : vw cx with
    | none => rw [h] at e; cases e
    | some x => rw [h] at e; exact ⟨x, y, rfl, rfl, e⟩
  | _ => cases e
theorem isNot_inv {cx cy : R} {b : Bool} (e : opCmp .isNot cx cy = some b) : ∃ x y c, vw cx = some x ∧ cy = .dat y ∧ isD x y = some c ∧ b = !c := by
  cases cy with
  | dat y =>
    simp only [opCmp] at e
    cases h : vw cx with
    | none => rw [h] at e; cases e
    | some x =>
      rw [h] at e
      obtain ⟨c, e1, e2⟩ := notB e
      exact ⟨x, y, c, rfl, rfl, e1, e2⟩
  | _ => cases e
theorem opIs_ok : OpR X (compareOp .Is) (rCm X.K X.w (opCmp .is)) := by
  intro pins s σ H x y v u Q I rx ry ⟨F, cx, cy, b, hx, hy, e, q⟩
  obtain ⟨d, d', e1, rfl, e2⟩ := is_inv e
  rcases is_case (hx.vw e1) hy.dat.dp rx ry e2 with ⟨rfl, rfl⟩ | ⟨h, ⟨rfl, rfl⟩ | ⟨rfl, hn⟩⟩
  · exact op_isN pins s σ H _ _ v u Q I rx ry ⟨rfl, q⟩
  · exact wpAny_is_self h ⟨.bl true, H, I, rfl, q⟩
  · exact wpAny_is_other h hn ⟨.bl false, H, I, rfl, q⟩
theorem opIsNot_ok : OpR X (compareOp .IsNot) (rCm X.K X.w (opCmp .isNot)) := by
  intro pins s σ H x y v u Q I rx ry ⟨F, cx, cy, b, hx, hy, e, q⟩
  obtain ⟨d, d', c, e1, rfl, e2, rfl⟩ := isNot_inv e
  rcases is_case (hx.vw e1) hy.dat.dp rx ry e2 with ⟨rfl, rfl⟩ | ⟨h, ⟨rfl, rfl⟩ | ⟨rfl, hn⟩⟩
  · exact op_notN pins s σ H _ _ v u Q I rx ry ⟨rfl, q⟩
  · exact wpAny_isNot_self h ⟨.bl false, H, I, rfl, q⟩
  · exact wpAny_isNot_other h hn ⟨.bl true, H, I, rfl, q⟩
/-- in, by data -/
theorem op_inT (hu : X.A.units + 65 < cLine) : OpR X (compareOp .In) (fun x y H Q => ∃ d ds, Dp X.K H x d ∧ Dp X.K H y (.tuple ds) ∧ SeqAt.shaped d = true ∧ SeqAt.shaped (.tuple ds) = true ∧ Q (.bl (ds.any fun z => PyData.eqv z d)) H) := by
  intro pins s σ H x y v u Q I rx ry h
  obtain ⟨d, ds, hd, he, sd, se, q⟩ := h
  obtain ⟨as, r1⟩ := Dp.reads I d x v hd rx
  obtain ⟨bs, r2⟩ := Dp.reads I (.tuple ds) y u he ry
  exact SeqAt.in_tuple_reads r2 r1 (SeqAt.canLay_of_shaped se) (SeqAt.canLay_of_shaped sd) (room_in_shaped sd hu) ⟨.bl _, H, I, rfl, q⟩
theorem op_notInT (hu : X.A.units + 65 < cLine) : OpR X (compareOp .NotIn) (fun x y H Q => ∃ d ds, Dp X.K H x d ∧ Dp X.K H y (.tuple ds) ∧ SeqAt.shaped d = true ∧ SeqAt.shaped (.tuple ds) = true ∧ Q (.bl (!ds.any fun z => PyData.eqv z d)) H) := by
  intro pins s σ H x y v u Q I rx ry h
  obtain ⟨d, ds, hd, he, sd, se, q⟩ := h
  obtain ⟨as, r1⟩ := Dp.reads I d x v hd rx
  obtain ⟨bs, r2⟩ := Dp.reads I (.tuple ds) y u he ry
  exact SeqAt.notIn_tuple_reads r2 r1 (SeqAt.canLay_of_shaped se) (SeqAt.canLay_of_shaped sd) (room_in_shaped sd hu) ⟨.bl _, H, I, rfl, q⟩

/-- in, not in of sequences of data -/
theorem opInD_ok (hu : X.A.units + 65 < cLine) {pins : List (Addr × Obj)} {s : Shared} {σ : L2.St} {H : Hp} {x y : V} {v u : Value} {Q : VK} (I : L2.Inv X pins σ H s) (rx : RelV x v) (ry : RelV y u) {a c : D} {b : Bool}
    (ha : Dp X.K H x a) (hc : Dp X.K H y c) (e : inD a c = some b) :
    (Q (.bl b) H → wpAny (model X.prog X.w) X.A (compareOp .In v u) (EP X pins σ Q) X.xe s) ∧ (Q (.bl !b) H → wpAny (model X.prog X.w) X.A (compareOp .NotIn v u) (EP X pins σ Q) X.xe s) := by
  unfold inD at e
  split at e
  · split at e
    · rename_i h
      rw [Bool.and_eq_true] at h
      cases e
      exact ⟨fun q => op_inT hu pins s σ H _ _ v u Q I rx ry ⟨_, _, ha, hc, h.1, h.2, q⟩, fun q => op_notInT hu pins s σ H _ _ v u Q I rx ry ⟨_, _, ha, hc, h.1, h.2, q⟩⟩
    · cases e
  · split at e
    · rename_i h
      rw [Bool.and_eq_true] at h
      cases e
      exact ⟨fun q => op_inD hu pins s σ H _ _ v u Q I rx ry ⟨_, _, ha, hc, h.1, h.2, q⟩, fun q => op_notInD hu pins s σ H _ _ v u Q I rx ry ⟨_, _, ha, hc, h.1, h.2, q⟩⟩
    · cases e
  · cases e

/-! ### truth -/
theorem seq_truV {K : PySem.W.Frag} {w : World} {F : Addr → Prop} {H : Hp} {c : R} {x : V} {b : Bool} (h : CR K w F H c x) (e : opTru c = some b) : TruV K x H b := by
  cases c with
  | dat d =>
    have q := h.dat
    cases d with
    | none => cases e; cases q; rfl
    | bool c => cases e; cases q; rfl
    | int i => cases e; cases q; rfl
    | str z =>
      simp only [opTru] at e
      split at e
      · cases e
        cases q
        rename_i hl
        refine ⟨sz_le hl, ?_⟩
        rw [Bool.eq_iff_iff]
        simp
      · cases e
    | tuple xs =>
      cases e
      obtain ⟨a, vs, rfl, h1, r⟩ := q.tup_inv
      refine .inr (.inl ⟨vs, h1, ?_⟩)
      cases r <;> rfl
    | list xs =>
      cases e
      obtain ⟨a, vs, rfl, _, h1, r⟩ := q.lst_inv
      refine .inl ⟨vs, SqL.of h1, ?_⟩
      cases r <;> rfl
    | dict _ => cases e
  | lst xs =>
    cases e
    obtain ⟨a, vs, rfl, h1, r⟩ := h.lst
    refine .inl ⟨vs, SqL.of h1, ?_⟩
    cases r <;> rfl
  | dll xs =>
    cases e
    obtain ⟨s, as, e, h⟩ := h
    cases e
    obtain ⟨a, bs, _, e, h1, h2⟩ := h
    cases e
    refine .inl ⟨_, SqL.of h1, ?_⟩
    cases h2 <;> rfl
  | dct _ => cases e
  | ddl _ => cases e
  | scr _ => cases e
  | pl _ => cases e
  | pl2 _ _ => cases e

/-! ### indexes -/
theorem atD_atI {K : PySem.W.Frag} {F : Addr → Prop} {H : Hp} {vs : List V} {xs : List D} {i : Int} {d : D} (r : RpA K F H vs xs) (e : atD xs i = some d) : ∃ x, atI vs i = some x ∧ Rp K F H x d := by
  unfold atD ixOf at e
  unfold atI
  rw [r.len]
  cases h : ixN xs.length i with
  | none => rw [h] at e; cases e
  | some j =>
    rw [h] at e
    exact r.getD e
end
end Mt

set_option Elab.async false
set_option linter.all false
set_option maxRecDepth 100000
set_option maxHeartbeats 4000000
/-! Indexes, slices, built-ins by contents. -/
namespace Mt
open PySem PySem.Spec PyProof.Rows L2

def rSlc (K : PySem.W.Frag) (w : World) : V → Option Int → Option Int → Hp → VK → Prop := fun x lo hi H Q => ∃ F cx r, CR K w F H cx x ∧ opSl cx lo hi = some r ∧ ∀ v H' ts, Out K w F H r v H' ts → Q v H'
inductive CRs (K : PySem.W.Frag) (w : World) (F : Addr → Prop) (H : Hp) : List R → List V → Prop
  | nil : CRs K w F H [] []
  | cons {c : R} {v : V} {cs : List R} {vs : List V} : CR K w F H c v → CRs K w F H cs vs → CRs K w F H (c :: cs) (v :: vs)
def rCl (K : PySem.W.Frag) (w : World) (fin : List R → Option R) : List V → Hp → VK → Prop := fun xs H Q => ∃ F cs r, CRs K w F H cs xs ∧ fin cs = some r ∧ ∀ v H' ts, Out K w F H r v H' ts → Q v H'
section
variable {K : PySem.W.Frag} {w : World} {F : Addr → Prop} {H : Hp}
theorem CRs.one {c : R} {vs : List V} (h : CRs K w F H [c] vs) : ∃ v, vs = [v] ∧ CR K w F H c v := by
  cases h with
  | cons h t => cases t; exact ⟨_, rfl, h⟩
theorem CRs.two {c d : R} {vs : List V} (h : CRs K w F H [c, d] vs) : ∃ v u, vs = [v, u] ∧ CR K w F H c v ∧ CR K w F H d u := by
  cases h with
  | cons h t =>
    obtain ⟨u, rfl, h2⟩ := t.one
    exact ⟨_, u, rfl, h, h2⟩
theorem CRs.three {c d e : R} {vs : List V} (h : CRs K w F H [c, d, e] vs) : ∃ v u z, vs = [v, u, z] ∧ CR K w F H c v ∧ CR K w F H d u ∧ CR K w F H e z := by
  cases h with
  | cons h t =>
    obtain ⟨u, z, rfl, h2, h3⟩ := t.two
    exact ⟨_, u, z, rfl, h, h2, h3⟩
theorem RpA.cut {vs : List V} {xs : List D} (r : RpA K F H vs xs) (lo hi : Option Int) : RpA K F H (cutV vs lo hi) (cutD xs lo hi) := by
  unfold cutV cutD
  rw [r.len]
  exact (r.drop _).take _
theorem CR.scr {xs : List D} {v : V} (h : CR K w F H (.scr xs) v) : ∃ a vs, v = .ref a ∧ SqL K H a vs ∧ RpA K F H vs xs := by
  obtain ⟨s, as, e, h⟩ := h
  cases e
  obtain ⟨_, a, vs, e, h1, h2⟩ := h
  cases e
  exact ⟨a, vs, rfl, h1.sq, h2⟩
theorem CR.dll {xss : List (List D)} {v : V} (h : CR K w F H (.dll xss) v) : ∃ a bs, v = .ref a ∧ H a = some (.lst (bs.map V.ref)) ∧ Paired (fun b xs => OwnL K F H b xs) bs xss := by
  obtain ⟨s, as, e, h⟩ := h
  cases e
  obtain ⟨a, bs, _, e, h1, h2⟩ := h
  cases e
  exact ⟨a, bs, rfl, h1, h2⟩
end

section
variable {X : Cx}
/-- a[i], but of dicts -/
theorem opIx_seq {pins : List (Addr × Obj)} {s : Shared} {σ : L2.St} {H : Hp} {x y : V} {v u : Value} {Q : VK} {F : Addr → Prop} {cx cy r : R} (hnd : ∀ kvs, cx ≠ .dct kvs) (hx : CR X.K X.w F H cx x) (hy : CR X.K X.w F H cy y) (e : opIx cx cy = some r)
    (q : ∀ v H' ts, Out X.K X.w F H r v H' ts → Q v H') : rIx X.K x y H Q := by
  have list_case : ∀ xs, ∀ a vs, SqL X.K H a vs → RpA X.K F H vs xs → x = .ref a → ∀ i, cy = .dat (.int i) → (match atD xs i with | some d => some (R.dat d) | none => none) = some r → rIx X.K x y H Q := by
    intro xs a vs h1 r1 ex i ei e3
    subst ex ei
    cases hd : atD xs i with
    | none => rw [hd] at e3; cases e3
    | some d =>
      rw [hd] at e3
      cases e3
      obtain ⟨z, h2, h3⟩ := atD_atI r1 hd
      cases hy.dat.int_inv
      exact .inl ⟨a, vs, i, z, rfl, rfl, h1, h2, q _ _ _ (.dat h3)⟩
  cases cx with
  | dat d =>
    cases d with
    | tuple xs =>
      cases cy with
      | dat d' =>
        cases d' with
        | int i =>
          obtain ⟨a, vs, rfl, h1, r1⟩ := hx.dat.tup_inv
          have e1 : (match atD xs i with | some d => some (R.dat d) | none => none) = some r := e
          cases hd : atD xs i with
          | none => rw [hd] at e1; cases e1
          | some d =>
            rw [hd] at e1
            cases e1
            obtain ⟨z, h2, h3⟩ := atD_atI r1 hd
            cases hy.dat.int_inv
            exact .inr (.inl ⟨a, vs, i, z, rfl, rfl, h1, h2, q _ _ _ (.dat h3)⟩)
        | _ => cases e
      | _ => cases e
    | str z =>
      cases cy with
      | dat d' =>
        cases d' with
        | int i =>
          have e1 : (if z.length ≤ SZ then (match ixOf z.cps.size i with | some j => (match z.cps.toList[j]? with | some ch => some (R.dat (.str ⟨#[ch]⟩)) | none => none) | none => none) else none) = some r := e
          by_cases hl : z.length ≤ SZ
          · rw [if_pos hl] at e1
            cases hj : ixOf z.cps.size i with
            | none => rw [hj] at e1; cases e1
            | some j =>
              rw [hj] at e1
              simp only at e1
              cases hc : z.cps.toList[j]? with
              | none => rw [hc] at e1; cases e1
              | some ch =>
                rw [hc] at e1
                cases e1
                cases hx.dat.str_inv
                cases hy.dat.int_inv
                refine .inr (.inr ⟨z, i, ch, rfl, rfl, sz_le hl, ?_, q _ _ _ (.dat (.str _))⟩)
                unfold atI
                unfold ixOf at hj
                rw [Array.length_toList, hj]
                exact hc
          · rw [if_neg hl] at e1; cases e1
        | _ => cases e
      | _ => cases e
    | list xs =>
      cases cy with
      | dat d' =>
        cases d' with
        | int i =>
          obtain ⟨a, vs, rfl, _, h1, r1⟩ := hx.dat.lst_inv
          exact list_case xs a vs (SqL.of h1) r1 rfl i rfl e
        | _ => cases e
      | _ => cases e
    | _ => cases e
  | lst xs =>
    cases cy with
    | dat d' =>
      cases d' with
      | int i =>
        obtain ⟨a, vs, rfl, h1, r1⟩ := hx.lst
        exact list_case xs a vs (SqL.of h1) r1 rfl i rfl e
      | _ => cases e
    | _ => cases e
  | scr xs =>
    cases cy with
    | dat d' =>
      cases d' with
      | int i =>
        obtain ⟨a, vs, rfl, h1, r1⟩ := hx.scr
        exact list_case xs a vs h1 r1 rfl i rfl e
      | _ => cases e
    | _ => cases e
  | dct kvs => exact absurd rfl (hnd kvs)
  | _ => cases e
theorem opSl_ok : L2.SlR X (rSlc X.K X.w) := by
  intro pins s σ H x v vl vu lo hi sl Q I rx hs pl pu ⟨F, cx, r, hx, e, q⟩
  unfold opSl at e
  split at e
  · cases e
    obtain ⟨a, vs, rfl, h1, r1⟩ := hx.dat.tup_inv
    refine sl_tupA pins s σ H _ v vl vu lo hi sl Q I rx hs pl pu ⟨a, vs, rfl, h1, fun hw => ?_, fun _ p hp => q _ _ _ (.tup hp (r1.cut lo hi))⟩
    have ew : cutV vs lo hi = vs := by
      unfold cutV
      rw [hw.1, hw.2]
      simp
    have := r1.cut lo hi
    rw [ew] at this
    exact q _ _ _ (.dat (.tup h1 this))
  · cases ex : asL cx with
    | none => rw [ex] at e; cases e
    | some xs =>
      rw [ex] at e
      cases e
      obtain ⟨a, vs, rfl, h1, r1⟩ := hx.asL ex
      exact sl_list pins s σ H _ v vl vu lo hi sl Q I rx hs pl pu ⟨a, vs, rfl, SqL.of h1, fun p hp => q _ _ _ (.lst hp (r1.cut lo hi))⟩

/-! ### built-ins -/
theorem c1_inv {f : R → Option R} {cs : List R} {r : R} (e : (match cs with | [a] => f a | _ => none) = some r) : ∃ a, cs = [a] ∧ f a = some r := by
  match cs, e with
  | [a], e => exact ⟨a, rfl, e⟩
  | [], e => cases e
  | _ :: _ :: _, e => cases e
theorem len_ok (hnd : True) : CallR X (.builtin "len") (fun xs H Q => ∃ F c x n, xs = [x] ∧ CR X.K X.w F H c x ∧ (∀ kvs, c ≠ .dct kvs) ∧ (∀ kvs, c ≠ .ddl kvs) ∧ opLen c = some n ∧ Q (.int n) H) := by
  intro pins s σ H xs us Q I r ⟨F, c, x, n, e1, hx, n1, n2, e, q⟩
  subst e1
  refine call_len pins s σ H _ us Q I r ?_
  cases c with
  | dat d =>
    cases d with
    | str z =>
      simp only [opLen] at e
      split at e
      · cases e
        cases hx.dat.str_inv
        rename_i hl
        exact ⟨_, _, rfl, ⟨sz_le hl, rfl⟩, q⟩
      · cases e
    | tuple xs =>
      cases e
      obtain ⟨a, vs, rfl, h1, r1⟩ := hx.dat.tup_inv
      exact ⟨_, _, rfl, .inr ⟨vs, h1, by rw [r1.len]⟩, q⟩
    | list xs =>
      cases e
      obtain ⟨a, vs, rfl, _, h1, r1⟩ := hx.dat.lst_inv
      exact ⟨_, _, rfl, .inl ⟨vs, SqL.of h1, by rw [r1.len]⟩, q⟩
    | _ => cases e
  | lst xs =>
    cases e
    obtain ⟨a, vs, rfl, h1, r1⟩ := hx.lst
    exact ⟨_, _, rfl, .inl ⟨vs, SqL.of h1, by rw [r1.len]⟩, q⟩
  | scr xs =>
    cases e
    obtain ⟨a, vs, rfl, h1, r1⟩ := hx.scr
    exact ⟨_, _, rfl, .inl ⟨vs, h1, by rw [r1.len]⟩, q⟩
  | dll xss =>
    cases e
    obtain ⟨a, bs, rfl, h1, r1⟩ := hx.dll
    exact ⟨_, _, rfl, .inl ⟨_, SqL.of h1, by rw [List.length_map, Paired.length r1]⟩, q⟩
  | dct kvs => exact absurd rfl (n1 kvs)
  | ddl kvs => exact absurd rfl (n2 kvs)
  | pl _ => cases e
  | pl2 _ _ => cases e
end
end Mt

set_option Elab.async false
set_option linter.all false
set_option maxRecDepth 100000
set_option maxHeartbeats 8000000
/-! max, min of a tuple of ints. -/
namespace Mt
open PySem PySem.Spec PyProof.Rows L2
section
variable {prog : Program} {w : World} {A : Around} {E : Value → Shared → Prop} {s : Shared} {l : Addr} {xs : Array (Int × Tok)} {Q : Value → Shared → Prop}
theorem tupInts_iter {a : Array Value} (ht : s.heap.IsTuple l a) {R : Value → Shared → Prop}
    (h : ∀ s₂ : Shared, s₂ = { s with heap := s.heap.push { cls := .type "tuple_iterator", data := .fields #[.ref l, .int 0 0] } } → (s₂.heap.IsTupleIter s.heap.objs.size l 0 ∧ s₂.heap.IsTuple l a) → (∀ b ∈ [s.heap.objs.size, l], b < s₂.heap.objs.size) → l ≠ s.heap.objs.size → R (.ref s.heap.objs.size) s₂) :
    wpAny (model prog w) A (pyIter (.ref l)) R E s := by
  obtain ⟨o, ho, _⟩ := id ht
  have hlt := Heap.lt_size ho
  refine wpAny_pyIter_tuple ht (h _ rfl ⟨⟨_, Heap.get?_push_size _ rfl, rfl, rfl⟩, ht.at fun o e => Heap.get?_push_of_some _ e⟩ (fun b hb => ?_) (Nat.ne_of_lt hlt))
  show b < (s.heap.push _).objs.size
  rw [Heap.size_push]
  rcases List.mem_cons.mp hb with rfl | hb
  · exact Nat.lt_succ_self _
  · rw [List.mem_singleton.mp hb]; exact Nat.lt_succ_of_lt hlt
theorem max_tup (hh : A.handled = none) (hl : s.heap.IsTuple l (intItems xs)) (hne : 0 < xs.size)
    (h : ∀ v h' tk, (intItems xs)[argBest (fun i j => decide (numAt xs i > numAt xs j)) (xs.size - 1)]? = some v → (∀ b o, s.heap.get? b = some o → h'.get? b = some o) → Q v { s with heap := h', toks := tk }) :
    wpAny (model prog w) A (call (.builtin "max") [.ref l]) Q E s := by
  refine call_max_walk (tupInts_iter hl fun s₂ e st hfp hlI => ?_)
  subst e
  refine ⟨_, _, _, _, _, _, _, rfl, Walks.tuple (A := A.in1) hh _ l hlI (intItems xs), st, hfp, by simpa [intItems] using hne, CmpOf.ints_gt (numAt xs) (fun _ _ => intItems_at), fun v h' tk hP hk => ?_⟩
  refine h v h' tk (by simpa [intItems] using hP) fun b o e => hk b o (fun hm => ?_) (Heap.get?_push_of_some _ e)
  exact absurd (List.mem_singleton.mp hm ▸ Heap.lt_size e) (Nat.lt_irrefl _)
theorem max_rawT {its : List Value} {ns : List Int} (hh : A.handled = none) (hl : s.heap.IsTuple l its.toArray) (hi : IntsAre its ns) (hne : 0 < ns.length)
    (h : ∀ h' tk M t', (∀ b o, s.heap.get? b = some o → h'.get? b = some o) → M ∈ ns → (∀ a, a ∈ ns → a ≤ M) → Q (.int M t') { s with heap := h', toks := tk }) : wpAny (model prog w) A (call (.builtin "max") [.ref l]) Q E s := by
  obtain ⟨ys, e⟩ := hi.allInts.items
  have hn : numsOf (intItems ys).toList = ns := by rw [← e]; exact hi.numsOf
  rw [nums_intItems] at hn
  subst hn
  rw [e] at hl
  have hz : 0 < ys.size := by simpa using hne
  refine max_tup hh hl hz fun v h' tk hv hk => ?_
  obtain ⟨t, rfl⟩ := intItems_at hv
  obtain ⟨h1, h2⟩ := argBest_gt (numAt ys) (ys.size - 1)
  refine h h' tk _ t hk ?_ fun a ha => ?_
  · rw [numAt_eq]
    exact PySem.getD_mem (by rw [List.length_map, Array.length_toList]; omega)
  · obtain ⟨j, hj, rfl⟩ := mem_getD ha
    rw [List.length_map, Array.length_toList] at hj
    rw [← numAt_eq]
    exact h2 j (by omega)
theorem min_tup (hh : A.handled = none) (hl : s.heap.IsTuple l (intItems xs)) (hne : 0 < xs.size)
    (h : ∀ v h' tk, (intItems xs)[argBest (fun i j => decide (numAt xs i < numAt xs j)) (xs.size - 1)]? = some v → (∀ b o, s.heap.get? b = some o → h'.get? b = some o) → Q v { s with heap := h', toks := tk }) :
    wpAny (model prog w) A (call (.builtin "min") [.ref l]) Q E s := by
  refine call_min_walk (tupInts_iter hl fun s₂ e st hfp hlI => ?_)
  subst e
  refine ⟨_, _, _, _, _, _, _, rfl, Walks.tuple (A := A.in1) hh _ l hlI (intItems xs), st, hfp, by simpa [intItems] using hne, CmpOf.ints_lt (numAt xs) (fun _ _ => intItems_at), fun v h' tk hP hk => ?_⟩
  refine h v h' tk (by simpa [intItems] using hP) fun b o e => hk b o (fun hm => ?_) (Heap.get?_push_of_some _ e)
  exact absurd (List.mem_singleton.mp hm ▸ Heap.lt_size e) (Nat.lt_irrefl _)
theorem min_rawT {its : List Value} {ns : List Int} (hh : A.handled = none) (hl : s.heap.IsTuple l its.toArray) (hi : IntsAre its ns) (hne : 0 < ns.length)
    (h : ∀ h' tk M t', (∀ b o, s.heap.get? b = some o → h'.get? b = some o) → M ∈ ns → (∀ a, a ∈ ns → M ≤ a) → Q (.int M t') { s with heap := h', toks := tk }) : wpAny (model prog w) A (call (.builtin "min") [.ref l]) Q E s := by
  obtain ⟨ys, e⟩ := hi.allInts.items
  have hn : numsOf (intItems ys).toList = ns := by rw [← e]; exact hi.numsOf
  rw [nums_intItems] at hn
  subst hn
  rw [e] at hl
  have hz : 0 < ys.size := by simpa using hne
  refine min_tup hh hl hz fun v h' tk hv hk => ?_
  obtain ⟨t, rfl⟩ := intItems_at hv
  obtain ⟨h1, h2⟩ := argBest_lt (numAt ys) (ys.size - 1)
  refine h h' tk _ t hk ?_ fun a ha => ?_
  · rw [numAt_eq]
    exact PySem.getD_mem (by rw [List.length_map, Array.length_toList]; omega)
  · obtain ⟨j, hj, rfl⟩ := mem_getD ha
    rw [List.length_map, Array.length_toList] at hj
    rw [← numAt_eq]
    exact h2 j (by omega)
end
def rMaxT (K : PySem.W.Frag) : List V → Hp → VK → Prop := fun vs H Q => ∃ (a : Addr) (ns : List Int), vs = [V.ref a] ∧ SqT K H a (ns.map V.int) ∧ 0 < ns.length ∧ ∀ m, m ∈ ns → (∀ y, y ∈ ns → y ≤ m) → Q (.int m) H
def rMinT (K : PySem.W.Frag) : List V → Hp → VK → Prop := fun vs H Q => ∃ (a : Addr) (ns : List Int), vs = [V.ref a] ∧ SqT K H a (ns.map V.int) ∧ 0 < ns.length ∧ ∀ m, m ∈ ns → (∀ y, y ∈ ns → m ≤ y) → Q (.int m) H
section
variable {X : Cx}
theorem cr_maxT (hc : X.calm = true) : CallR X (.builtin "max") (rMaxT X.K) := by
  intro pins s σ H vs us Q I r h
  obtain ⟨a, ns, rfl, hs, hne, q⟩ := h
  obtain ⟨its, rv, hl, _⟩ := I.tuple hs
  rw [Vals.ref1 r]
  exact max_rawT (I.ok.hd hc) hl rv.ints hne fun h' tk m t' hk h1 h2 => ⟨.int _, H, I.kept hk, ⟨_, rfl⟩, q m h1 h2⟩
theorem cr_minT (hc : X.calm = true) : CallR X (.builtin "min") (rMinT X.K) := by
  intro pins s σ H vs us Q I r h
  obtain ⟨a, ns, rfl, hs, hne, q⟩ := h
  obtain ⟨its, rv, hl, _⟩ := I.tuple hs
  rw [Vals.ref1 r]
  exact min_rawT (I.ok.hd hc) hl rv.ints hne fun h' tk m t' hk h1 h2 => ⟨.int _, H, I.kept hk, ⟨_, rfl⟩, q m h1 h2⟩
end
end Mt

set_option Elab.async false
set_option linter.all false
set_option maxRecDepth 100000
set_option maxHeartbeats 8000000
/-! Dicts in the heap. -/
namespace Mt
open PySem PySem.Spec PyProof.Rows L2

section
variable {X : Cx} {pins : List (Addr × Obj)} {σ : L2.St} {H : Hp} {s : Shared} {F : Addr → Prop}
mutual
theorem nestedIs (I : L2.Inv X pins σ H s) : ∀ {k : D} {q : NestedKey} {v : V} {u : Value}, keyOf k = some q → Rp X.K F H v k → RelV v u → NestedIs s.heap q u
  | .none, q, _, u, e, .non, r => by
    simp only [keyOf] at e
    cases e
    cases r
    exact .none
  | .bool b, q, _, u, e, .bl _, r => by
    simp only [keyOf] at e
    cases e
    cases r
    exact .bool rfl
  | .int i, q, _, u, e, .int _, r => by
    simp only [keyOf] at e
    cases e
    obtain ⟨t, rfl⟩ := r
    exact .int _ _
  | .str x, q, _, u, e, .str _, r => by
    simp only [keyOf] at e
    cases e
    obtain ⟨t, rfl⟩ := r
    exact .text _ _
  | .tuple ds, q, _, u, e, .tup h ra, r => by
    simp only [keyOf] at e
    split at e
    · rename_i ks hk
      cases e
      obtain ⟨its, rv, ht, _⟩ := I.tuple h
      cases r
      obtain ⟨o, ho, hc, n, hd⟩ := ht
      exact .tup ho hc hd (nestedAll I hk ra rv)
    · cases e
  | .list ds, q, _, u, e, _, r => by simp only [keyOf] at e; cases e
  | .dict ds, q, _, u, e, _, r => by simp only [keyOf] at e; cases e
theorem nestedAll (I : L2.Inv X pins σ H s) : ∀ {k : List D} {q : List NestedKey} {v : List V} {u : List Value}, keysOf k = some q → RpA X.K F H v k → Vals v u → NestedAll s.heap q u
  | [], q, _, u, e, .nil, r => by
    simp only [keysOf] at e
    cases e
    cases r
    exact .nil
  | d :: ds, q, _, u, e, .cons h t, r => by
    simp only [keysOf] at e
    split at e
    · rename_i k ks h1 h2
      cases e
      cases r with
      | cons r1 r2 => exact .cons (nestedIs I h1 h r1) (nestedAll I h2 t r2)
    · cases e
end
/-- an entry -/
def EntP (K : PySem.W.Frag) (w : World) (F : Addr → Prop) (H : Hp) {α : Type} (PV : Value → α → Prop) (e : DictEntry) (p : D × α) : Prop := EntK K w F H e p.1 ∧ PV e.val p.2
variable {α : Type} {PV : Value → α → Prop} {kvs : List (D × α)}
/-- with tuples for keys -/
def RT (K : PySem.W.Frag) (F : Addr → Prop) (H : Hp) (PV : Value → α → Prop) (x : NestedKey × Addr × Value) (p : D × α) : Prop := keyOf p.1 = some x.1 ∧ Rp K F H (.ref x.2.1) p.1 ∧ PV x.2.2 p.2
theorem rt_of : ∀ {es : List DictEntry} {kvs : List (D × α)}, Paired (EntP X.K X.w F H PV) es kvs → (∀ p ∈ kvs, isT p.1 = true) → ∃ xs, es = xs.map (entryOfKey (nestedKind X.prog X.w)) ∧ Paired (RT X.K F H PV) xs kvs
  | _, _, .nil, _ => ⟨[], rfl, .nil⟩
  | e :: es, p :: kvs, .cons h t, hT => by
    obtain ⟨xs, e1, h1⟩ := rt_of t fun p hp => hT p (List.mem_cons_of_mem _ hp)
    obtain ⟨⟨kv, q, r1, r2, r3, r4⟩, pv⟩ := h
    have ht := hT p List.mem_cons_self
    cases hp : p.1 with
    | tuple ds =>
      rw [hp] at r2
      cases r2 with
      | @tup a xs' _ hS ra =>
        have ek : e.key = .ref a := r1
        refine ⟨(q, a, e.val) :: xs, ?_, .cons ⟨r3, by rw [hp]; exact .tup hS ra, pv⟩ h1⟩
        rw [List.map_cons, ← e1]
        have : e = entryOfKey (nestedKind X.prog X.w) (q, a, e.val) := by
          show e = ⟨q.hash X.w, .ref a, e.val⟩
          rw [← r4, ← ek]
        rw [← this]
    | _ => rw [hp] at ht; cases ht
theorem rt_mem {xs : List (NestedKey × Addr × Value)} (h : Paired (RT X.K F H PV) xs kvs) (I : L2.Inv X pins σ H s) (hd : ∀ p ∈ kvs, ∃ k, keyOf p.1 = some k ∧ k.depth ≤ 8) : ∀ x ∈ xs, (nestedKind X.prog X.w).is s.heap x.1 x.2.1 := by
  induction h with
  | nil => intro x hx; cases hx
  | @cons x p xs kvs h t ih =>
    intro y hy
    rcases List.mem_cons.mp hy with rfl | hy
    · obtain ⟨k, e1, e2⟩ := hd p List.mem_cons_self
      obtain ⟨h1, h2, _⟩ := h
      rw [h1] at e1
      cases e1
      exact ⟨nestedIs I h1 h2 rfl, e2⟩
    · exact ih (fun p hp => hd p (List.mem_cons_of_mem _ hp)) y hy
theorem rt_keys {xs : List (NestedKey × Addr × Value)} (h : Paired (RT X.K F H PV) xs kvs) : (kvs.map fun p => keyOf p.1) = (xs.map (·.1)).map some := by
  induction h with
  | nil => rfl
  | cons h t ih => rw [List.map_cons, List.map_cons, List.map_cons, ih, h.1]
theorem nodup_some {β : Type} {l : List β} (h : (l.map some).Nodup) : l.Nodup := by
  induction l with
  | nil => exact List.nodup_nil
  | cons x l ih =>
    rw [List.map_cons, List.nodup_cons] at h
    exact List.nodup_cons.mpr ⟨fun hx => h.1 (List.mem_map_of_mem hx), ih h.2⟩
theorem rt_get {xs : List (NestedKey × Addr × Value)} {q : NestedKey} (h : Paired (RT X.K F H PV) xs kvs) : (kGet kvs q = none ∧ atKey xs q = none) ∨ ∃ x a v, kGet kvs q = some x ∧ atKey xs q = some (a, v) ∧ PV v x := by
  induction h with
  | nil => exact .inl ⟨rfl, rfl⟩
  | @cons x p xs kvs h t ih =>
    obtain ⟨h1, h2, h3⟩ := h
    obtain ⟨pk, px⟩ := p
    simp only [kGet]
    have h1 : keyOf pk = some x.1 := h1
    rw [h1]
    by_cases hq : x.1 = q
    · subst hq
      refine .inr ⟨px, x.2.1, x.2.2, by simp, ?_, h3⟩
      simp [atKey]
    · have e1 : atKey (x :: xs) q = atKey xs q := by simp [atKey, hq]
      rw [e1, if_neg (fun e => hq (Option.some.inj e))]
      exact ih
theorem rt_put {xs : List (NestedKey × Addr × Value)} {q : NestedKey} {k : D} {x : α} {a : Addr} {v : Value} (h : Paired (RT X.K F H PV) xs kvs) (nd : (xs.map (·.1)).Nodup) (hk : keyOf k = some q) (hr : Rp X.K F H (.ref a) k) (pv : PV v x) : Paired (RT X.K F H PV) (storedH xs q a v) (kPut kvs q k x) := by
  have old : ∀ {xs : List (NestedKey × Addr × Value)} {kvs : List (D × α)}, Paired (RT X.K F H PV) xs kvs → (xs.map (·.1)).Nodup → (atKey xs q).isSome = true → Paired (RT X.K F H PV) (xs.map (putAt q v)) (kPut kvs q k x) := by
    intro xs kvs h
    induction h with
    | nil => intro _ h; cases h
    | @cons y p ys kvs h t ih =>
      intro nd hs
      obtain ⟨h1, h2, h3⟩ := h
      obtain ⟨pk, px⟩ := p
      rw [List.map_cons, List.nodup_cons] at nd
      have h1 : keyOf pk = some y.1 := h1
      simp only [kPut, List.map_cons]
      rw [h1]
      by_cases hq : y.1 = q
      · subst hq
        rw [if_pos rfl]
        have rest : ys.map (putAt y.1 v) = ys := by
          have : ∀ z ∈ ys, putAt y.1 v z = z := fun z hz => by
            unfold putAt
            rw [if_neg]
            intro e
            exact nd.1 (by rw [← e]; exact List.mem_map_of_mem hz)
          rw [List.map_congr_left this, List.map_id']
        rw [rest]
        refine .cons ?_ t
        unfold putAt
        rw [if_pos rfl]
        exact ⟨h1, h2, pv⟩
      · rw [if_neg (fun e => hq (Option.some.inj e))]
        have e1 : atKey (y :: ys) q = atKey ys q := by simp [atKey, hq]
        rw [e1] at hs
        refine .cons ?_ (ih nd.2 hs)
        unfold putAt
        rw [if_neg hq]
        exact ⟨h1, h2, h3⟩
  have new : ∀ {xs : List (NestedKey × Addr × Value)} {kvs : List (D × α)}, Paired (RT X.K F H PV) xs kvs → atKey xs q = none → Paired (RT X.K F H PV) (xs ++ [(q, a, v)]) (kPut kvs q k x) := by
    intro xs kvs h
    induction h with
    | nil => intro _; exact .cons ⟨hk, hr, pv⟩ .nil
    | @cons y p ys kvs h t ih =>
      intro hs
      obtain ⟨pk, px⟩ := p
      have h1 : keyOf pk = some y.1 := h.1
      have hq : y.1 ≠ q := fun e => by
        subst e
        simp [atKey] at hs
      have e1 : atKey (y :: ys) q = atKey ys q := by simp [atKey, hq]
      rw [e1] at hs
      simp only [kPut, List.cons_append]
      rw [h1, if_neg (fun e => hq (Option.some.inj e))]
      exact .cons h (ih hs)
  unfold storedH
  split
  · rename_i hs
    exact old h nd hs
  · rename_i hs
    exact new h (by simpa using hs)
theorem rt_back : ∀ {xs : List (NestedKey × Addr × Value)} {kvs : List (D × α)}, Paired (RT X.K F H PV) xs kvs → Paired (EntP X.K X.w F H PV) (xs.map (entryOfKey (nestedKind X.prog X.w))) kvs
  | _, _, .nil => .nil
  | x :: xs, p :: kvs, .cons h t => .cons ⟨⟨.ref x.2.1, x.1, rfl, h.2.1, h.1, rfl⟩, h.2.2⟩ (rt_back t)

/-- with numbers and texts for keys -/
def keyD : Key → D
  | .inl i => .int i
  | .inr x => .str x
def RLf (PV : Value → α → Prop) (x : Key × Value) (p : D × α) : Prop := p.1 = keyD x.1 ∧ PV x.2 p.2
def keyN : Key → NestedKey
  | .inl i => .num i
  | .inr x => .text x
theorem keyOf_keyD (k : Key) : keyOf (keyD k) = some (keyN k) := by cases k <;> simp only [keyD, keyOf, keyN]
theorem keyN_inj {a b : Key} (h : keyN a = keyN b) : a = b := by
  cases a <;> cases b <;> simp only [keyN] at h <;> cases h <;> rfl
theorem lf_of : ∀ {es : List DictEntry} {kvs : List (D × α)}, Paired (EntP X.K X.w F H PV) es kvs → (∀ p ∈ kvs, isLf p.1 = true) →
    ∃ vs, Pairs (mixKind X.prog X.w) es vs ∧ Paired (RLf PV) vs kvs ∧ ∀ e ∈ es, ∃ k, (mixKind X.prog X.w).is k e.key = true ∧ e.hash = (mixKind X.prog X.w).hash k
  | _, _, .nil, _ => ⟨[], .nil, .nil, fun e he => nomatch he⟩
  | e :: es, p :: kvs, .cons h t, hT => by
    obtain ⟨vs, h1, h2, h3⟩ := lf_of t fun p hp => hT p (List.mem_cons_of_mem _ hp)
    obtain ⟨⟨kv, q, r1, r2, r3, r4⟩, pv⟩ := h
    have ht := hT p List.mem_cons_self
    have key : ∃ k : Key, p.1 = keyD k ∧ (mixKind X.prog X.w).is k e.key = true ∧ e.hash = (mixKind X.prog X.w).hash k := by
      cases hp : p.1 with
      | int i =>
        rw [hp] at r2 r3
        cases r2
        obtain ⟨t', et⟩ := (show ∃ t, e.key = Value.int i t from r1)
        simp only [keyOf] at r3
        cases r3
        exact ⟨.inl i, rfl, by rw [et]; exact mixKind_int _ _ _ _, r4⟩
      | str x =>
        rw [hp] at r2 r3
        cases r2
        obtain ⟨t', et⟩ := (show ∃ t, e.key = Value.str x t from r1)
        simp only [keyOf] at r3
        cases r3
        exact ⟨.inr x, rfl, by rw [et]; exact mixKind_str _ _ _ _, r4⟩
      | _ => rw [hp] at ht; cases ht
    obtain ⟨k, k1, k2, k3⟩ := key
    refine ⟨(k, e.val) :: vs, .cons k2 rfl h1, .cons ⟨k1, pv⟩ h2, fun e' he' => ?_⟩
    rcases List.mem_cons.mp he' with rfl | he'
    · exact ⟨k, k2, k3⟩
    · exact h3 e' he'
theorem lf_keys {vs : List (Key × Value)} (h : Paired (RLf PV) vs kvs) : (kvs.map fun p => keyOf p.1) = (vs.map (·.1)).map fun k => some (keyN k) := by
  induction h with
  | nil => rfl
  | cons h t ih => rw [List.map_cons, List.map_cons, List.map_cons, ih, h.1, keyOf_keyD]
theorem nodup_lf {l : List Key} (h : (l.map fun k => some (keyN k)).Nodup) : l.Nodup := by
  induction l with
  | nil => exact List.nodup_nil
  | cons x l ih =>
    rw [List.map_cons, List.nodup_cons] at h
    exact List.nodup_cons.mpr ⟨fun hx => h.1 (List.mem_map_of_mem (f := fun k => some (keyN k)) hx), ih h.2⟩
theorem lf_get {vs : List (Key × Value)} {k : Key} (h : Paired (RLf PV) vs kvs) : (kGet kvs (keyN k) = none ∧ valueAt vs k = none) ∨ ∃ x v, kGet kvs (keyN k) = some x ∧ valueAt vs k = some v ∧ PV v x := by
  induction h with
  | nil => exact .inl ⟨rfl, rfl⟩
  | @cons y p vs kvs h t ih =>
    obtain ⟨pk, px⟩ := p
    obtain ⟨h1, h2⟩ := h
    have h1 : pk = keyD y.1 := h1
    subst h1
    simp only [kGet]
    rw [keyOf_keyD]
    by_cases hq : y.1 = k
    · subst hq
      exact .inr ⟨px, y.2, by simp, by simp [valueAt], h2⟩
    · have e1 : valueAt (y :: vs) k = valueAt vs k := by simp [valueAt, hq]
      rw [e1, if_neg (fun e => hq (keyN_inj (Option.some.inj e)))]
      exact ih
theorem lf_put {vs : List (Key × Value)} {k : Key} {x : α} {v : Value} (h : Paired (RLf PV) vs kvs) (nd : (vs.map (·.1)).Nodup) (pv : PV v x) : Paired (RLf PV) (stored vs k v) (kPut kvs (keyN k) (keyD k) x) := by
  have old : ∀ {vs : List (Key × Value)} {kvs : List (D × α)}, Paired (RLf PV) vs kvs → (vs.map (·.1)).Nodup → (vs.any fun kv => decide (kv.1 = k)) = true → Paired (RLf PV) (vs.map fun kv => if kv.1 = k then (kv.1, v) else kv) (kPut kvs (keyN k) (keyD k) x) := by
    intro vs kvs h
    induction h with
    | nil => intro _ h; cases h
    | @cons y p ys kvs h t ih =>
      intro nd hs
      obtain ⟨pk, px⟩ := p
      obtain ⟨h1, h2⟩ := h
      have h1 : pk = keyD y.1 := h1
      subst h1
      rw [List.map_cons, List.nodup_cons] at nd
      simp only [kPut, List.map_cons]
      rw [keyOf_keyD]
      by_cases hq : y.1 = k
      · subst hq
        rw [if_pos rfl]
        have rest : (ys.map fun kv => if kv.1 = y.1 then (kv.1, v) else kv) = ys := by
          have : ∀ z ∈ ys, (if z.1 = y.1 then (z.1, v) else z) = z := fun z hz => by
            rw [if_neg]
            intro e
            exact nd.1 (by rw [← e]; exact List.mem_map_of_mem hz)
          rw [List.map_congr_left this, List.map_id']
        rw [rest, if_pos rfl]
        exact .cons ⟨rfl, pv⟩ t
      · rw [if_neg (fun e => hq (keyN_inj (Option.some.inj e)))]
        have hs : (ys.any fun kv => decide (kv.1 = k)) = true := by
          rw [List.any_cons, Bool.or_eq_true, decide_eq_true_eq] at hs
          exact hs.resolve_left hq
        refine .cons ?_ (ih nd.2 hs)
        rw [if_neg hq]
        exact ⟨rfl, h2⟩
  have new : ∀ {vs : List (Key × Value)} {kvs : List (D × α)}, Paired (RLf PV) vs kvs → (vs.any fun kv => decide (kv.1 = k)) = false → Paired (RLf PV) (vs ++ [(k, v)]) (kPut kvs (keyN k) (keyD k) x) := by
    intro vs kvs h
    induction h with
    | nil => intro _; exact .cons ⟨rfl, pv⟩ .nil
    | @cons y p ys kvs h t ih =>
      intro hs
      obtain ⟨pk, px⟩ := p
      have h1 : pk = keyD y.1 := h.1
      rw [List.any_cons, Bool.or_eq_false_iff, decide_eq_false_iff_not] at hs
      simp only [kPut, List.cons_append]
      subst h1
      rw [keyOf_keyD, if_neg (fun e => hs.1 (keyN_inj (Option.some.inj e)))]
      exact .cons h (ih hs.2)
  unfold stored
  split
  · rename_i hs
    exact old h nd hs
  · rename_i hs
    exact new h (by
      cases hh : (vs.any fun kv => decide (kv.1 = k)) with
      | false => rfl
      | true => exact absurd hh hs)
end
end Mt

set_option Elab.async false
set_option linter.all false
set_option maxRecDepth 100000
set_option maxHeartbeats 8000000
/-! Dicts: in, d[k], d[k] = x, get, setdefault, len. -/
namespace Mt
open PySem PySem.Spec PyProof.Rows L2

theorem keyIn_inv {α : Type} {kvs : List (D × α)} {k : D} {q : NestedKey} (h : keyIn kvs k = some q) : keyOf k = some q ∧ q.depth ≤ 8 ∧ ((isT k = true ∧ ∀ p ∈ kvs, isT p.1 = true) ∨ (isLf k = true ∧ ∀ p ∈ kvs, isLf p.1 = true)) := by
  unfold keyIn at h
  split at h
  · rename_i q' hq
    split at h
    · rename_i hc
      cases h
      rw [Bool.and_eq_true, Bool.or_eq_true, Bool.and_eq_true, Bool.and_eq_true, decide_eq_true_eq, List.all_eq_true, List.all_eq_true] at hc
      exact ⟨hq, hc.2, hc.1.elim (fun z => .inl z) fun z => .inr z⟩
    · cases h
  · cases h
theorem kPut_keys {α : Type} {kvs : List (D × α)} {q : NestedKey} {k : D} {x : α} (hk : keyOf k = some q) : ∀ p ∈ kPut kvs q k x, p.1 = k ∨ ∃ p' ∈ kvs, p.1 = p'.1 := by
  induction kvs with
  | nil => intro p hp; exact .inl (by simp [kPut] at hp; rw [hp])
  | cons y r ih =>
    obtain ⟨yk, yx⟩ := y
    intro p hp
    simp only [kPut] at hp
    split at hp
    · rcases List.mem_cons.mp hp with rfl | hp
      · exact .inr ⟨_, List.mem_cons_self, rfl⟩
      · exact .inr ⟨p, List.mem_cons_of_mem _ hp, rfl⟩
    · rcases List.mem_cons.mp hp with rfl | hp
      · exact .inr ⟨_, List.mem_cons_self, rfl⟩
      · rcases ih p hp with h | ⟨p', h1, h2⟩
        · exact .inl h
        · exact .inr ⟨p', List.mem_cons_of_mem _ h1, h2⟩
theorem kPut_nd {α : Type} {kvs : List (D × α)} {q : NestedKey} {k : D} {x : α} (hk : keyOf k = some q) (nd : (kvs.map fun p => keyOf p.1).Nodup) : ((kPut kvs q k x).map fun p => keyOf p.1).Nodup := by
  have sub : ∀ {kvs : List (D × α)} {o : Option NestedKey}, o ∈ (kPut kvs q k x).map (fun p => keyOf p.1) → o = some q ∨ o ∈ kvs.map fun p => keyOf p.1 := fun {kvs o} h => by
    obtain ⟨p, hp, rfl⟩ := List.mem_map.mp h
    rcases kPut_keys hk p hp with h | ⟨p', h1, h2⟩
    · rw [h, hk]; exact .inl rfl
    · rw [h2]; exact .inr (List.mem_map_of_mem (f := fun p => keyOf p.1) h1)
  induction kvs with
  | nil => simp [kPut]
  | cons y r ih =>
    obtain ⟨yk, yx⟩ := y
    rw [List.map_cons, List.nodup_cons] at nd
    simp only [kPut]
    split
    · exact List.nodup_cons.mpr nd
    · rename_i hn
      rw [List.map_cons, List.nodup_cons]
      refine ⟨fun h => ?_, ih nd.2⟩
      rcases sub h with h | h
      · exact hn h
      · exact nd.1 h
theorem keysOk_put {α : Type} {kvs : List (D × α)} {q : NestedKey} {k : D} {x : α} (h : keysOk kvs) (hi : keyIn kvs k = some q) : keysOk (kPut kvs q k x) := by
  obtain ⟨h1, h2, h3⟩ := keyIn_inv hi
  refine ⟨?_, kPut_nd h1 h.2.1, fun p hp => ?_⟩
  · rcases h3 with ⟨a, b⟩ | ⟨a, b⟩
    · refine .inl fun p hp => ?_
      rcases kPut_keys h1 p hp with e | ⟨p', e1, e2⟩
      · rw [e]; exact a
      · rw [e2]; exact b p' e1
    · refine .inr fun p hp => ?_
      rcases kPut_keys h1 p hp with e | ⟨p', e1, e2⟩
      · rw [e]; exact a
      · rw [e2]; exact b p' e1
  · rcases kPut_keys h1 p hp with e | ⟨p', e1, e2⟩
    · rw [e]; exact ⟨q, h1, h2⟩
    · rw [e2]; exact h.2.2 p' e1
theorem kPut_len {α : Type} {kvs : List (D × α)} {q : NestedKey} {k : D} {x : α} : (kPut kvs q k x).length ≤ kvs.length + 1 := by
  induction kvs with
  | nil => exact Nat.le_refl _
  | cons y r ih =>
    obtain ⟨yk, yx⟩ := y
    simp only [kPut]
    split
    · simp
    · simp only [List.length_cons]; omega
theorem keysOk_nil {α : Type} : keysOk ([] : List (D × α)) := ⟨.inl (fun p hp => (nomatch hp)), List.nodup_nil, fun p hp => (nomatch hp)⟩

section
variable {X : Cx} {pins : List (Addr × Obj)} {σ : L2.St} {H : Hp} {s : Shared} {F : Addr → Prop} {α : Type} {PV : Value → α → Prop} {kvs : List (D × α)} {d : Addr} {es : Array DictEntry} {k : D} {q : NestedKey} {y : V} {u : Value}
theorem dict_raw (I : L2.Inv X pins σ H s) (hd : H d = some (dictO d es)) : ∃ ep, s.heap.DictRaw d es ep := (show ObjOk X.prog X.w H s.heap d (dictO d es) from I.hok d _ hd).1
theorem dictOk {h' : Heap} {H' : Hp} {P : Program} {w : World} {es' : Array DictEntry} {ep : Nat} (h : h'.DictRaw d es' ep) : ObjOk P w H' h' d (dictO d es') :=
  ⟨⟨ep, h⟩, let ⟨o, e, _⟩ := h; ⟨o, e⟩, fun h1 h2 ⟨ep, x⟩ st => ⟨ep, x.at st⟩⟩
theorem dict_T (I : L2.Inv X pins σ H s) (hd : H d = some (dictO d es)) (hk : keysOk kvs) (hp : Paired (EntP X.K X.w F H PV) es.toList kvs) (hT : ∀ p ∈ kvs, isT p.1 = true) :
    ∃ xs, s.heap.DictOfH (nestedKind X.prog X.w) d xs ∧ Paired (RT X.K F H PV) xs kvs ∧ (xs.map (·.1)).Nodup := by
  obtain ⟨xs, e1, h1⟩ := rt_of hp hT
  obtain ⟨ep, o, ho, hc, hdat⟩ := dict_raw I hd
  have nd : (xs.map (·.1)).Nodup := nodup_some (by rw [← rt_keys h1]; exact hk.2.1)
  exact ⟨xs, ⟨o, es, ep, ho, hc, hdat, e1, rt_mem h1 I hk.2.2, nd⟩, h1, nd⟩
theorem dict_L (I : L2.Inv X pins σ H s) (hd : H d = some (dictO d es)) (hk : keysOk kvs) (hp : Paired (EntP X.K X.w F H PV) es.toList kvs) (hL : ∀ p ∈ kvs, isLf p.1 = true) :
    ∃ vs, s.heap.DictOf (mixKind X.prog X.w) d vs ∧ Paired (RLf PV) vs kvs ∧ (vs.map (·.1)).Nodup := by
  obtain ⟨vs, h1, h2, h3⟩ := lf_of hp hL
  obtain ⟨ep, o, ho, hc, hdat⟩ := dict_raw I hd
  have nd : (vs.map (·.1)).Nodup := nodup_lf (by rw [← lf_keys h2]; exact hk.2.1)
  exact ⟨vs, ⟨o, es, ep, ho, hc, hdat, fun e he => h3 e (by simpa using he), h1, nd⟩, h2, nd⟩
theorem lf_back : ∀ {es : List DictEntry} {vs : List (Key × Value)} {kvs : List (D × α)}, Pairs (mixKind X.prog X.w) es vs → Paired (RLf PV) vs kvs → (∀ e ∈ es, ∃ k, (mixKind X.prog X.w).is k e.key = true ∧ e.hash = (mixKind X.prog X.w).hash k) → Paired (EntP X.K X.w F H PV) es kvs
  | _, _, _, .nil, .nil, _ => .nil
  | e :: es, kv :: vs, p :: kvs, .cons h1 h2 h3, .cons g1 g2, hh => by
    refine .cons ⟨?_, by rw [h2]; exact g1.2⟩ (lf_back h3 g2 fun e' he' => hh e' (List.mem_cons_of_mem _ he'))
    obtain ⟨k', a1, a2⟩ := hh e List.mem_cons_self
    have ek : k' = kv.1 := (mixKind X.prog X.w).inj _ _ _ a1 h1
    subst ek
    rw [g1.1]
    rcases keyIs_shape (show keyIs kv.1 e.key = true from h1) with ⟨i, t, e1, e2⟩ | ⟨x, t, e1, e2⟩
    · rw [e1] at a2 ⊢
      exact ⟨.int i, .num i, ⟨t, e2⟩, .int i, by simp only [keyD, keyOf], a2⟩
    · rw [e1] at a2 ⊢
      exact ⟨.str x, .text x, ⟨t, e2⟩, .str x, by simp only [keyD, keyOf], a2⟩
/-- a leaf key at a value -/
theorem lf_key {hL : isLf k = true} (hk : keyOf k = some q) (ry : Rp X.K F H y k) (ru : RelV y u) : ∃ κ : Key, k = keyD κ ∧ q = keyN κ ∧ (mixKind X.prog X.w).is κ u = true := by
  cases k with
  | int i =>
    simp only [keyOf] at hk
    cases hk
    cases ry
    obtain ⟨t, rfl⟩ := ru
    exact ⟨.inl i, rfl, rfl, mixKind_int _ _ _ _⟩
  | str x =>
    simp only [keyOf] at hk
    cases hk
    cases ry
    obtain ⟨t, rfl⟩ := ru
    exact ⟨.inr x, rfl, rfl, mixKind_str _ _ _ _⟩
  | _ => cases hL
theorem t_key (hT : isT k = true) (ry : Rp X.K F H y k) : ∃ a, y = .ref a := by
  cases k with
  | tuple ds => cases ry with | @tup a _ _ _ _ => exact ⟨a, rfl⟩
  | _ => cases hT
/-- d[k], there -/
theorem d_get {Q : Value → Shared → Prop} {E : Value → Shared → Prop} (hu : X.A.units + 200 < cLine) (I : L2.Inv X pins σ H s) (hd : H d = some (dictO d es)) (hk : keysOk kvs) (hp : Paired (EntP X.K X.w F H PV) es.toList kvs) (hi : keyIn kvs k = some q) (ry : Rp X.K F H y k) (ru : RelV y u) {x : α} (hx : kGet kvs q = some x)
    (h : ∀ v s', L2.Inv X pins σ H s' → PV v x → Q v s') : wpAny (model X.prog X.w) X.A (getItem (.ref d) u) Q E s := by
  obtain ⟨h1, h2, ⟨a, b⟩ | ⟨a, b⟩⟩ := keyIn_inv hi
  · obtain ⟨xs, D1, D2, _⟩ := dict_T I hd hk hp b
    obtain ⟨c, rfl⟩ := t_key a ry
    cases ru
    rcases rt_get (q := q) D2 with ⟨e, _⟩ | ⟨x', a', v, e1, e2, e3⟩
    · rw [hx] at e; cases e
    · rw [hx] at e1
      cases e1
      exact wpAny_getItem_heap (knd := nestedKind X.prog X.w) (by show X.A.in1.units + 8 < cLine; simp only [Around.in1]; omega) ⟨nestedIs I h1 ry rfl, h2⟩ D1 e2 (h v _ (I.tok _) e3)
  · obtain ⟨vs, D1, D2, _⟩ := dict_L I hd hk hp b
    obtain ⟨κ, rfl, rfl, hκ⟩ := lf_key (hL := a) h1 ry ru
    rcases lf_get (k := κ) D2 with ⟨e, _⟩ | ⟨x', v, e1, e2, e3⟩
    · rw [hx] at e; cases e
    · rw [hx] at e1
      cases e1
      exact wpAny_getItem_of hκ D1.mapOf e2 (h v _ (I.tok _) e3)
theorem d_in {Q : Value → Shared → Prop} {E : Value → Shared → Prop} (hu : X.A.units + 200 < cLine) (I : L2.Inv X pins σ H s) (hd : H d = some (dictO d es)) (hs : (d == sysModules) = false) (hk : keysOk kvs) (hp : Paired (EntP X.K X.w F H PV) es.toList kvs) (hi : keyIn kvs k = some q) (ry : Rp X.K F H y k) (ru : RelV y u) :
    ((∀ s', L2.Inv X pins σ H s' → Q (.bool (kHas kvs q)) s') → wpAny (model X.prog X.w) X.A (compareOp .In u (.ref d)) Q E s) ∧
    ((∀ s', L2.Inv X pins σ H s' → Q (.bool (!(kHas kvs q))) s') → wpAny (model X.prog X.w) X.A (compareOp .NotIn u (.ref d)) Q E s) := by
  obtain ⟨h1, h2, ⟨a, b⟩ | ⟨a, b⟩⟩ := keyIn_inv hi
  · obtain ⟨xs, D1, D2, _⟩ := dict_T I hd hk hp b
    obtain ⟨c, rfl⟩ := t_key a ry
    cases ru
    have e0 : (atKey xs q).isSome = kHas kvs q := by
      unfold kHas
      rcases rt_get (q := q) D2 with ⟨e, e'⟩ | ⟨x', a', v, e1, e2, e3⟩
      · rw [e, e']; rfl
      · rw [e1, e2]; rfl
    have hr : (nestedKind X.prog X.w).room X.A.in1 := by show X.A.in1.units + 8 < cLine; simp only [Around.in1]; omega
    refine ⟨fun h => wpAny_in_heap hr ⟨nestedIs I h1 ry rfl, h2⟩ hs D1 ?_, fun h => wpAny_notIn_heap hr ⟨nestedIs I h1 ry rfl, h2⟩ hs D1 ?_⟩
    · rw [e0]; exact h _ (I.tok _)
    · rw [e0]; exact h _ (I.tok _)
  · obtain ⟨vs, D1, D2, _⟩ := dict_L I hd hk hp b
    obtain ⟨κ, rfl, rfl, hκ⟩ := lf_key (hL := a) h1 ry ru
    have e0 : (valueAt vs κ).isSome = kHas kvs (keyN κ) := by
      unfold kHas
      rcases lf_get (k := κ) D2 with ⟨e, e'⟩ | ⟨x', v, e1, e2, e3⟩
      · rw [e, e']; rfl
      · rw [e1, e2]; rfl
    refine ⟨fun h => wpAny_in_of hκ hs D1.mapOf ?_, fun h => wpAny_notIn_of hκ hs D1.mapOf ?_⟩
    · rw [e0]; exact h _ (I.tok _)
    · rw [e0]; exact h _ (I.tok _)
theorem d_set {Q : Unit → Shared → Prop} {E : Value → Shared → Prop} {x : α} {v : Value} (hu : X.A.units + 200 < cLine) (I : L2.Inv X pins σ H s) (hd : H d = some (dictO d es)) (hk : keysOk kvs) (hp : Paired (EntP X.K X.w F H PV) es.toList kvs) (hl : kvs.length < SZ) (hi : keyIn kvs k = some q) (ry : Rp X.K F H y k) (ru : RelV y u) (pv : PV v x)
    (h : ∀ es' s', L2.Inv X pins σ (upd H d (dictO d es')) s' → Paired (EntP X.K X.w F H PV) es'.toList (kPut kvs q k x) → Q () s') : wpAny (model X.prog X.w) X.A (setItem (.ref d) u v) Q E s := by
  obtain ⟨h1, h2, ⟨a, b⟩ | ⟨a, b⟩⟩ := keyIn_inv hi
  · obtain ⟨xs, D1, D2, nd⟩ := dict_T I hd hk hp b
    obtain ⟨c, rfl⟩ := t_key a ry
    cases ru
    refine wpAny_setItem_heap (knd := nestedKind X.prog X.w) (hsz := by rw [Paired.length D2]; exact Nat.le_of_lt (sz_lt hl)) (by show X.A.in1.units + 8 < cLine; simp only [Around.in1]; omega) ⟨nestedIs I h1 ry rfl, h2⟩ D1 fun h' D' hs => ?_
    obtain ⟨o, es', ep, e1, e2, e3, e4, _⟩ := D'
    refine h es' _ (d_write I (by rw [hd]; trivial) hs ⟨o, e1⟩ (dictOk ⟨o, e1, e2, e3⟩)) ?_
    rw [e4]
    exact rt_back (rt_put D2 nd h1 ry pv)
  · obtain ⟨vs, D1, D2, nd⟩ := dict_L I hd hk hp b
    obtain ⟨κ, rfl, rfl, hκ⟩ := lf_key (hL := a) h1 ry ru
    refine wpAny_setItem_pairs (hsz := by rw [Paired.length D2]; exact Nat.le_of_lt (sz_lt hl)) hκ D1 fun h' D' hs => ?_
    obtain ⟨o, es', ep, e1, e2, e3, e4, e5, _⟩ := D'
    refine h es' _ (d_write I (by rw [hd]; trivial) hs ⟨o, e1⟩ (dictOk ⟨o, e1, e2, e3⟩)) ?_
    exact lf_back e5 (lf_put D2 nd pv) fun e he => e4 e (by simpa using he)
/-- the store of a display -/
theorem d_put {Q : Unit → Shared → Prop} {E : Value → Shared → Prop} {x : α} {v : Value} (hu : X.A.units + 200 < cLine) (I : L2.Inv X pins σ H s) (hd : H d = some (dictO d es)) (hk : keysOk kvs) (hp : Paired (EntP X.K X.w F H PV) es.toList kvs) (hl : kvs.length < SZ) (hi : keyIn kvs k = some q) (ry : Rp X.K F H y k) (ru : RelV y u) (pv : PV v x)
    (h : ∀ es' s', L2.Inv X pins σ (upd H d (dictO d es')) s' → Paired (EntP X.K X.w F H PV) es'.toList (kPut kvs q k x) → Q () s') : wpAny (model X.prog X.w) X.A (dictSet d u v) Q E s := by
  obtain ⟨h1, h2, ⟨a, b⟩ | ⟨a, b⟩⟩ := keyIn_inv hi
  · obtain ⟨xs, D1, D2, nd⟩ := dict_T I hd hk hp b
    obtain ⟨c, rfl⟩ := t_key a ry
    cases ru
    refine wpAny_dictSet_heap (knd := nestedKind X.prog X.w) (hsz := by rw [Paired.length D2]; exact Nat.le_of_lt (sz_lt hl)) (by show X.A.units + 8 < cLine; omega) ⟨nestedIs I h1 ry rfl, h2⟩ D1 fun h' D' hs => ?_
    obtain ⟨o, es', ep, e1, e2, e3, e4, _⟩ := D'
    refine h es' _ (d_write I (by rw [hd]; trivial) hs ⟨o, e1⟩ (dictOk ⟨o, e1, e2, e3⟩)) ?_
    rw [e4]
    exact rt_back (rt_put D2 nd h1 ry pv)
  · obtain ⟨vs, D1, D2, nd⟩ := dict_L I hd hk hp b
    obtain ⟨κ, rfl, rfl, hκ⟩ := lf_key (hL := a) h1 ry ru
    refine wpAny_dictSet_pairs (hsz := by rw [Paired.length D2]; exact Nat.le_of_lt (sz_lt hl)) hκ D1 fun h' D' hs => ?_
    obtain ⟨o, es', ep, e1, e2, e3, e4, e5, _⟩ := D'
    refine h es' _ (d_write I (by rw [hd]; trivial) hs ⟨o, e1⟩ (dictOk ⟨o, e1, e2, e3⟩)) ?_
    exact lf_back e5 (lf_put D2 nd pv) fun e he => e4 e (by simpa using he)
/-- the value of a slot's dict -/
abbrev PVd (K : PySem.W.Frag) (F : Addr → Prop) (H : Hp) : Value → D → Prop := fun v x => ∃ xv, RelV xv v ∧ Rp K F H xv x
theorem CR.dct {K : PySem.W.Frag} {w : World} {F : Addr → Prop} {H : Hp} {kvs : List (D × D)} {v : V} (h : CR K w F H (.dct kvs) v) : ∃ a es, v = .ref a ∧ H a = some (dictO a es) ∧ (a == sysModules) = false ∧ keysOk kvs ∧ Paired (EntP K w F H (PVd K F H)) es.toList kvs := by
  obtain ⟨s, as, e, h⟩ := h
  cases e
  obtain ⟨a, es, _, e, h1, h2, h3, h4⟩ := h
  cases e
  exact ⟨a, es, rfl, h1, h2, h3, h4⟩
theorem CR.ddl {K : PySem.W.Frag} {w : World} {F : Addr → Prop} {H : Hp} {kvs : List (D × List D)} {v : V} (h : CR K w F H (.ddl kvs) v) : ∃ a es, v = .ref a ∧ H a = some (dictO a es) ∧ (a == sysModules) = false ∧ keysOk kvs ∧ Paired (EntP K w F H fun _ _ => True) es.toList kvs := by
  obtain ⟨s, as, e, h⟩ := h
  cases e
  obtain ⟨a, es, bs, _, e, h1, h2, h3, h4, _⟩ := h
  cases e
  exact ⟨a, es, rfl, h1, h2, h3, prMono h4 fun _ _ _ q => ⟨q, trivial⟩⟩
theorem keyIn_dat {α : Type} {kvs : List (D × α)} {c : R} {k : D} {q : NestedKey} (e : vw c = some k) (h : keyIn kvs k = some q) : c = .dat k := by
  obtain ⟨_, _, h3⟩ := keyIn_inv h
  have nl : ∀ xs, k ≠ .list xs := fun xs e => by
    subst e
    rcases h3 with ⟨a, _⟩ | ⟨a, _⟩ <;> cases a
  cases c with
  | dat d => cases e; rfl
  | lst xs => cases e; exact absurd rfl (nl _)
  | dll xs => cases e; exact absurd rfl (nl _)
  | _ => cases e
end
end Mt

set_option Elab.async false
set_option linter.all false
set_option maxRecDepth 100000
set_option maxHeartbeats 4000000
/-! Readings: the small language's run is what the model does. -/
namespace Mt
open PySem PySem.Spec PyProof.Rows L2

theorem peimp {X : Cx} {e : Expr} {t t' : TE} (h : PE X e t) (f : ∀ σ H Q, t' σ H Q → t σ H Q) : PE X e t' := ⟨fun pins s σ H Q I q => h.run pins s σ H Q I (f _ _ _ q)⟩
theorem ptimp {X : Cx} {e : Expr} {t t' : TT} (h : PT X e t) (f : ∀ σ H Q, t' σ H Q → t σ H Q) : PT X e t' := ⟨fun pins s σ H Q I q => h.run pins s σ H Q I (f _ _ _ q)⟩
theorem pwimp {X : Cx} {e : Expr} {t t' : TT} (h : PW X e t) (f : ∀ σ H Q, t' σ H Q → t σ H Q) : PW X e t' := ⟨fun wh pins s σ H Q I q => h.run wh pins s σ H Q I (f _ _ _ q)⟩
theorem paimp {X : Cx} {e : List Expr} {t t' : TA} (h : PA X e t) (f : ∀ σ H Q, t' σ H Q → t σ H Q) : PA X e t' := ⟨fun pos pins s σ H Q I q => h.run pos pins s σ H Q I (f _ _ _ q)⟩
theorem psimp {X : Cx} {e : Stmt} {t t' : TS} (h : PS X e t) (f : ∀ D σ H, t' D σ H → t D σ H) : PS X e t' := ⟨fun pins s σ H D I q => h.run pins s σ H D I (f _ _ _ q)⟩
theorem pssimp {X : Cx} {e : List Stmt} {t t' : TS} (h : PSs X e t) (f : ∀ D σ H, t' D σ H → t D σ H) : PSs X e t' := ⟨fun pins s σ H D I q => h.run pins s σ H D I (f _ _ _ q)⟩

/-- behind an expression -/
structure Pst (K : PySem.W.Frag) (w : World) (σ : L2.St) (st : MS) (g : Gs) (H : Hp) (st' : MS) (r : R) (v : V) (H' : Hp) (g' : Gs) (ts : List Addr) : Prop where
  rl : Rel K w st' σ H' g'
  sp : Stp st g H st' g' H'
  rr : RR K w g'.F H' σ r v ts
  fs : Fsh g' ts
  nw : ∀ t ∈ ts, H t = none
section
variable (K : PySem.W.Frag) (w : World)
def tD (ev : MS → Option (R × MS)) : TE := fun σ H Q => ∃ st g r st', Rel K w st σ H g ∧ ev st = some (r, st') ∧ ∀ v H' g' ts, Pst K w σ st g H st' r v H' g' ts → Q v H'
/-- a test -/
def tB (ev : MS → Option (R × MS)) : TT := fun σ H Q => ∃ st g b st', Rel K w st σ H g ∧ ev st = some (iB b, st') ∧ ∀ H' g', Rel K w st' σ H' g' → Stp st g H st' g' H' → Q b H'
end
abbrev EV (X : Cx) (e : Expr) (ev : MS → Option (R × MS)) : Prop := PE X e (tD X.K X.w ev)
abbrev EB (X : Cx) (e : Expr) (ev : MS → Option (R × MS)) : Prop := PT X e (tB X.K X.w ev)

section
variable {K : PySem.W.Frag} {w : World} {σ : L2.St} {st st1 st2 st' : MS} {g g1 g2 : Gs} {H H1 H2 H3 : Hp} {r x y : R} {v u : V} {ts us : List Addr}
theorem none_back (S : Stp st g H st1 g1 H1) {t : Addr} (h : H1 t = none) : H t = none := by
  by_cases q : H t = none
  · exact q
  · exact absurd h (S.there t q)
/-- one behind another -/
theorem Pst.seq (P : Pst K w σ st g H st1 x v H1 g1 ts) (P2 : Pst K w σ st1 g1 H1 st2 y u H2 g2 us) : Pst K w σ st g H st2 x v H2 g2 ts ∧ Pst K w σ st g H st2 y u H2 g2 us := by
  obtain ⟨h1, h2⟩ := P.rr.step P.fs P.rl P2.sp
  exact ⟨⟨P2.rl, P.sp.trans P2.sp, h1, h2, P.nw⟩, ⟨P2.rl, P.sp.trans P2.sp, P2.rr, P2.fs, fun t ht => none_back P.sp (P2.nw t ht)⟩⟩
theorem Pst.of_step (S : Stp st g H st1 g1 H1) (P2 : Pst K w σ st1 g1 H1 st2 y u H2 g2 us) : Pst K w σ st g H st2 y u H2 g2 us :=
  ⟨P2.rl, S.trans P2.sp, P2.rr, P2.fs, fun t ht => none_back S (P2.nw t ht)⟩
theorem RR.of_sl {F : Addr → Prop} {s : Sl} (e : asSl r = some s) (h : SlR K w F H s (some v) ts) : RR K w F H σ r v ts := by
  cases r with
  | pl i => cases e
  | pl2 i k => cases e
  | dat d => cases e; exact h
  | lst d => cases e; exact h
  | dct d => cases e; exact h
  | dll d => cases e; exact h
  | ddl d => cases e; exact h
  | scr d => cases e; exact h
theorem fresh_own (R : Rel K w st σ H g) {t : Addr} (h : H t = none) : ¬ g.F t ∧ ¬ Own g t := by
  refine ⟨fun f => ?_, fun o => ?_⟩
  · obtain ⟨o, e⟩ := R.trk t f
    rw [h] at e; cases e
  · obtain ⟨o, e, _⟩ := R.opnMu o
    rw [h] at e; cases e
/-- something new is laid behind a step -/
theorem Pst.out (R : Rel K w st1 σ H1 g1) (S : Stp st g H st1 g1 H1) (o : Out K w g1.F H1 r v H2 ts) : Pst K w σ st g H st1 r v H2 g1 ts := by
  obtain ⟨sm, ⟨s, e, h⟩, nd, nw⟩ := o
  exact ⟨R.grow sm, S.trans (.grow sm), .of_sl e h, ⟨nd, fun t ht => (fresh_own R (nw t ht)).1, fun t ht => (fresh_own R (nw t ht)).2⟩, fun t ht => none_back S (nw t ht)⟩
/-- a content -/
theorem Pst.cr {c : R} (P : Pst K w σ st g H st1 x v H1 g1 ts) (e : look st1 x = some c) : CR K w g1.F H1 c v := look_rep P.rr P.rl e
/-- data -/
theorem Pst.dat {d : D} (P : Pst K w σ st g H st1 (.dat d) v H1 g1 ts) : Rp K g1.F H1 v d := P.rr.dat_inv.2
theorem Pst.mk' {d : D} (R : Rel K w st1 σ H1 g1) (S : Stp st g H st1 g1 H1) (h : Rp K g1.F H1 v d) : Pst K w σ st g H st1 (.dat d) v H1 g1 [] :=
  ⟨R, S, .dat h, .nil, fun _ h => nomatch h⟩
end

/-! ### the plain forms -/
section
variable {X : Cx} {cl : Call}
theorem ev_c {e : Expr} {v : V} {d : D} (h : PE X e (tC v)) (r : ∀ F H, Rp X.K F H v d) : EV X e (evE cl (.c d)) := peimp h fun σ H Q ⟨st, g, x, st', R, e, q⟩ => by
  simp only [evE] at e
  cases e
  exact q _ _ _ _ (.mk' R .refl (r _ _))
theorem ev_v {e : Expr} {i : Nat} (h : PE X e (tVar i)) : EV X e (evE cl (.v i)) := peimp h fun σ H Q ⟨st, g, x, st', R, e, q⟩ => by
  simp only [evE] at e
  have rp := R.rep i
  have own : ∀ a, gv σ i = some (.ref a) → some (Mt.R.pl i, st) = some (x, st') → tVar i σ H Q := fun a hv e => by
    cases e
    exact ⟨.ref a, gv_get hv, q _ _ _ [] ⟨R, .refl, ⟨rfl, hv⟩, .nil, fun _ h => nomatch h⟩⟩
  cases hs : gt st i with
  | emp => rw [hs] at e; cases e
  | dat d =>
    rw [hs] at e rp
    cases e
    obtain ⟨_, v, hv, rd⟩ := rp
    exact ⟨v, gv_get hv, q _ _ _ _ (.mk' R .refl rd)⟩
  | lst lk xs => rw [hs] at e rp; obtain ⟨a, _, hv, _⟩ := rp; exact own a hv e
  | dct lk xs => rw [hs] at e rp; obtain ⟨a, _, _, hv, _⟩ := rp; exact own a hv e
  | dll lk xs => rw [hs] at e rp; obtain ⟨a, _, _, hv, _⟩ := rp; exact own a hv e
  | ddl lk xs => rw [hs] at e rp; obtain ⟨a, _, _, _, hv, _⟩ := rp; exact own a hv e
  | scr xs => rw [hs] at e rp; obtain ⟨_, a, _, hv, _⟩ := rp; exact own a hv e

/-- two operands -/
def ev2 (eva evb : MS → Option (R × MS)) (fin : R → R → Option R) (st : MS) : Option (R × MS) :=
  match eva st with
  | some (x, st) => match evb st with
    | some (y, st) => match look st x, look st y with
      | some x, some y => match fin x y with
        | some r => some (r, st)
        | none => none
      | _, _ => none
    | none => none
  | none => none
theorem ev2_inv {eva evb : MS → Option (R × MS)} {fin : R → R → Option R} {st st' : MS} {r : R} (e : ev2 eva evb fin st = some (r, st')) :
    ∃ x st1 y c d, eva st = some (x, st1) ∧ evb st1 = some (y, st') ∧ look st' x = some c ∧ look st' y = some d ∧ fin c d = some r := by
  unfold ev2 at e
  split at e
  · rename_i x st1 h1
    split at e
    · rename_i y st2 h2
      split at e
      · rename_i c d h3 h4
        split at e
        · cases e
          rename_i h5
          exact ⟨_, _, _, _, _, h1, h2, h3, h4, h5⟩
        · cases e
      · cases e
    · cases e
  · cases e
theorem tD_two {K : PySem.W.Frag} {w : World} {eva evb : MS → Option (R × MS)} {fin : R → R → Option R} {op2 : R2}
    (h : ∀ F H cx cy r x y Q, CR K w F H cx x → CR K w F H cy y → fin cx cy = some r → (∀ v H' ts, Out K w F H r v H' ts → Q v H') → op2 x y H Q) :
    ∀ σ H Q, tD K w (ev2 eva evb fin) σ H Q → tOp op2 (tD K w eva) (tD K w evb) σ H Q := fun σ H Q ⟨st, g, r, st', R, e, q⟩ => by
  obtain ⟨x, st1, y, c, d, e1, e2, e3, e4, e5⟩ := ev2_inv e
  refine ⟨st, g, x, st1, R, e1, fun v1 H1 g1 ts1 P1 => ⟨st1, g1, y, st', P1.rl, e2, fun v2 H2 g2 ts2 P2 => ?_⟩⟩
  obtain ⟨Q1, Q2⟩ := P1.seq P2
  exact h _ _ _ _ _ _ _ _ (Q1.cr e3) (Q2.cr e4) e5 fun v H' ts o => q v H' g2 ts (.out Q1.rl Q1.sp o)
theorem bin_eq (op : Bop) (a b : E) : evE cl (.bin op a b) = ev2 (evE cl a) (evE cl b) (opBin op) := by
  funext st
  simp only [evE, ev2]
  try rfl
def finB (f : R → R → Option Bool) (x y : R) : Option R := match f x y with | some b => some (iB b) | none => none
theorem finB_inv {f : R → R → Option Bool} {x y r : R} (e : finB f x y = some r) : ∃ b, f x y = some b ∧ r = iB b := by
  unfold finB at e
  split at e
  · cases e; rename_i h; exact ⟨_, h, rfl⟩
  · cases e
theorem cmp_eq (op : Cop) (a b : E) : evE cl (.cmp op a b) = ev2 (evE cl a) (evE cl b) (finB (opCmp op)) := by
  funext st
  simp only [evE, ev2, finB]
  cases evE cl a st with
  | none => rfl
  | some p =>
    obtain ⟨x, st1⟩ := p
    simp only
    cases evE cl b st1 with
    | none => rfl
    | some p2 =>
      obtain ⟨y, st2⟩ := p2
      simp only
      cases look st2 x with
      | none => rfl
      | some c =>
        cases look st2 y with
        | none => rfl
        | some d =>
          simp only
          cases opCmp op c d <;> rfl
theorem ix_eq (a b : E) : evE cl (.ix a b) = ev2 (evE cl a) (evE cl b) opIx := by
  funext st
  simp only [evE, ev2]
  try rfl
theorem ev_bin {a b : Expr} {a' b' : E} {op : Bop} {pos : Pos} (ha : EV X a (evE cl a')) (hb : EV X b (evE cl b')) : EV X (.BinOp a (opOf op) b pos) (evE cl (.bin op a' b')) := by
  rw [bin_eq]
  exact peimp (pe_op (opBin_ok op) ha hb) (tD_two fun F H cx cy r x y Q hx hy e q => ⟨F, cx, cy, r, hx, hy, e, q⟩)
theorem ev_neg {a : Expr} {a' : E} {pos : Pos} (ha : EV X a (evE cl a')) : EV X (.UnaryOp .USub a pos) (evE cl (.neg a')) :=
  peimp (pe_un un_neg ha) fun σ H Q ⟨st, g, r, st', R, e, q⟩ => by
    simp only [evE] at e
    split at e
    · rename_i x st1 h1
      split at e
      · rename_i i hi
        cases e
        refine ⟨st, g, x, st', R, h1, fun v H1 g1 ts P => ?_⟩
        have ex : x = .dat (.int i) := by
          cases x with
          | dat d => cases d <;> first | (cases hi; rfl) | cases hi
          | _ => cases hi
        subst ex
        cases P.dat.int_inv
        exact ⟨i, rfl, q _ _ g1 _ (.mk' P.rl P.sp (.int _))⟩
      · cases e
    · cases e
end
end Mt

set_option Elab.async false
set_option linter.all false
set_option maxRecDepth 100000
set_option maxHeartbeats 4000000
/-! Tests, and, or, displays. -/
namespace Mt
open PySem PySem.Spec PyProof.Rows L2

section
variable {X : Cx} {cl : Call}
theorem opIn_both (hu : X.A.units + 200 < cLine) {pins : List (Addr × Obj)} {s : Shared} {σ : L2.St} {H : Hp} {x y : V} {v u : Value} {Q : VK} {F : Addr → Prop} {cx cy : R} {b : Bool} (I : L2.Inv X pins σ H s) (rx : RelV x v) (ry : RelV y u) (hx : CR X.K X.w F H cx x) (hy : CR X.K X.w F H cy y) (e : opIn cx cy = some b) :
    (Q (.bl b) H → wpAny (model X.prog X.w) X.A (compareOp .In v u) (EP X pins σ Q) X.xe s) ∧ (Q (.bl !b) H → wpAny (model X.prog X.w) X.A (compareOp .NotIn v u) (EP X pins σ Q) X.xe s) := by
  unfold opIn at e
  split at e
  · cases e
  · rename_i d hd
    have dx := hx.vw hd
    split at e
    · rename_i kvs
      split at e
      · rename_i q hq
        cases e
        cases keyIn_dat hd hq
        obtain ⟨a, es, rfl, h1, h2, h3, h4⟩ := hy.dct
        obtain rfl : u = Value.ref a := ry
        obtain ⟨k1, k2⟩ := d_in (Q := EP X pins σ Q) (E := X.xe) hu I h1 h2 h3 h4 hq hx.dat rx
        exact ⟨fun q => k1 fun s' I' => ⟨.bl _, H, I', rfl, q⟩, fun q => k2 fun s' I' => ⟨.bl _, H, I', rfl, q⟩⟩
      · cases e
    · rename_i kvs
      split at e
      · rename_i q hq
        cases e
        cases keyIn_dat hd hq
        obtain ⟨a, es, rfl, h1, h2, h3, h4⟩ := hy.ddl
        obtain rfl : u = Value.ref a := ry
        obtain ⟨k1, k2⟩ := d_in (Q := EP X pins σ Q) (E := X.xe) hu I h1 h2 h3 h4 hq hx.dat rx
        exact ⟨fun q => k1 fun s' I' => ⟨.bl _, H, I', rfl, q⟩, fun q => k2 fun s' I' => ⟨.bl _, H, I', rfl, q⟩⟩
      · cases e
    · split at e
      · rename_i d2 hd2
        exact opInD_ok (by omega) I rx ry dx (hy.vw hd2) e
      · cases e
theorem opIn_ok (hu : X.A.units + 200 < cLine) : OpR X (compareOp .In) (rCm X.K X.w (opCmp .isIn)) := by
  intro pins s σ H x y v u Q I rx ry ⟨F, cx, cy, b, hx, hy, e, q⟩
  exact (opIn_both hu I rx ry hx hy e).1 q
theorem opNotIn_ok (hu : X.A.units + 200 < cLine) : OpR X (compareOp .NotIn) (rCm X.K X.w (opCmp .notIn)) := by
  intro pins s σ H x y v u Q I rx ry ⟨F, cx, cy, b, hx, hy, e, q⟩
  obtain ⟨c, e2, rfl⟩ := notB (show (match opIn cx cy with | some c => some (!c) | none => none) = some b from e)
  exact (opIn_both hu I rx ry hx hy e2).2 q
theorem opCmp_ok (hu : X.A.units + 200 < cLine) (op : Cop) : OpR X (compareOp (copOf op)) (rCm X.K X.w (opCmp op)) := by
  cases op with
  | eq => exact opEq_ok (by omega)
  | ne => exact opNe_ok (by omega)
  | lt => exact ord_ok op_lt lt_inv
  | le => exact ord_ok op_le le_inv
  | gt => exact ord_ok op_gt gt_inv
  | ge => exact ord_ok op_ge ge_inv
  | isIn => exact opIn_ok hu
  | notIn => exact opNotIn_ok hu
  | is => exact opIs_ok
  | isNot => exact opIsNot_ok
theorem cm_two {op : Cop} {F : Addr → Prop} {H : Hp} {cx cy r : R} {x y : V} {Q : VK} (hx : CR X.K X.w F H cx x) (hy : CR X.K X.w F H cy y) (e : finB (opCmp op) cx cy = some r) (q : ∀ v H' ts, Out X.K X.w F H r v H' ts → Q v H') : rCm X.K X.w (opCmp op) x y H Q := by
  obtain ⟨b, e1, rfl⟩ := finB_inv e
  exact ⟨F, cx, cy, b, hx, hy, e1, q _ _ _ (.bool b)⟩
theorem ev_cmp {a b : Expr} {a' b' : E} {op : Cop} {pos : Pos} (hu : X.A.units + 200 < cLine) (ha : EV X a (evE cl a')) (hb : EV X b (evE cl b')) (hm : behindInMarks (copOf op) b = false) : EV X (.Compare a [copOf op] [b] pos) (evE cl (.cmp op a' b')) := by
  rw [cmp_eq]
  exact peimp (pe_cmpR (opCmp_ok hu op) ha hb hm) (tD_two fun F H cx cy r x y Q hx hy e q => cm_two hx hy e q)
/-- a value's reading that ends in a truth, as a test -/
theorem tB_of {K : PySem.W.Frag} {w : World} {ev : MS → Option (R × MS)} {t : TE} (h : ∀ σ H Q, tD K w ev σ H Q → t σ H Q) : ∀ σ H Q, tB K w ev σ H Q → tTest t σ H Q := fun σ H Q ⟨st, g, b, st', R, e, q⟩ =>
  h σ H _ ⟨st, g, iB b, st', R, e, fun v H' g' ts P => ⟨b, P.dat.bl_inv, q _ _ P.rl P.sp⟩⟩
theorem eb_cmp {a b : Expr} {a' b' : E} {op : Cop} {pos : Pos} (hu : X.A.units + 200 < cLine) (ha : EV X a (evE cl a')) (hb : EV X b (evE cl b')) (hm : behindInMarks (copOf op) b = false) : EB X (.Compare a [copOf op] [b] pos) (evE cl (.cmp op a' b')) := by
  rw [cmp_eq]
  exact ptimp (pt_cmpR (opCmp_ok hu op) ha hb hm) (tB_of (tD_two fun F H cx cy r x y Q hx hy e q => cm_two hx hy e q))
theorem tru_inv {a : E} {st st' : MS} {r : R} (e : evE cl (.tru a) st = some (r, st')) : ∃ x c b, evE cl a st = some (x, st') ∧ look st' x = some c ∧ opTru c = some b ∧ r = iB b := by
  simp only [evE] at e
  split at e
  · rename_i x st1 h1
    split at e
    · rename_i c h2
      split at e
      · rename_i b h3
        cases e
        exact ⟨_, _, _, h1, h2, h3, rfl⟩
      · cases e
    · cases e
  · cases e
theorem iB_inj {b c : Bool} (h : iB b = iB c) : b = c := by
  injection h with h
  injection h
theorem eb_tru {a : Expr} {a' : E} (ha : EV X a (evE cl a')) (he : ∀ whole, isTrue a X.env whole = (do let v ← whole; standAt a.pos; holding [v] (truthy v))) : EB X a (evE cl (.tru a')) :=
  ptimp (pt_truth ha he) fun σ H Q ⟨st, g, b, st', R, e, q⟩ => by
    obtain ⟨x, c, b', e1, e2, e3, e4⟩ := tru_inv e
    cases iB_inj e4
    exact ⟨st, g, x, st', R, e1, fun v H1 g1 ts P => ⟨b, seq_truV (P.cr e2) e3, q _ _ P.rl P.sp⟩⟩
theorem nt_inv {a : E} {st st' : MS} {r : R} (e : evE cl (.nt a) st = some (r, st')) : ∃ b, evE cl a st = some (iB b, st') ∧ r = iB (!b) := by
  simp only [evE] at e
  split at e
  · rename_i x st1 h1
    split at e
    · rename_i b h2
      cases e
      refine ⟨b, ?_, rfl⟩
      rw [h1]
      cases x with
      | dat d => cases d <;> first | (cases h2; rfl) | cases h2
      | _ => cases h2
    · cases e
  · cases e
theorem eb_nt {a : Expr} {a' : E} {pos : Pos} (ha : EB X a (evE cl a')) : EB X (.UnaryOp .Not a pos) (evE cl (.nt a')) :=
  ptimp (pt_not ha) fun σ H Q ⟨st, g, b, st', R, e, q⟩ => by
    obtain ⟨c, e1, e2⟩ := nt_inv e
    cases iB_inj e2
    exact ⟨st, g, c, st', R, e1, fun H1 g1 R1 S1 => q _ _ R1 S1⟩
theorem ntv_inv {a : E} {st st' : MS} {r : R} (e : evE cl (.ntv a) st = some (r, st')) : ∃ x c b, evE cl a st = some (x, st') ∧ look st' x = some c ∧ opTru c = some b ∧ r = iB (!b) := by
  simp only [evE] at e
  split at e
  · rename_i x st1 h1
    split at e
    · rename_i c h2
      split at e
      · rename_i b h3
        cases e
        exact ⟨_, _, _, h1, h2, h3, rfl⟩
      · cases e
    · cases e
  · cases e
theorem ev_nt {a : Expr} {a' : E} {pos : Pos} (ha : EV X a (evE cl a')) : EV X (.UnaryOp .Not a pos) (evE cl (.ntv a')) :=
  peimp (pe_notT ha) fun σ H Q ⟨st, g, r, st', R, e, q⟩ => by
    obtain ⟨x, d, b', e2, e3, e4, rfl⟩ := ntv_inv e
    exact ⟨st, g, x, st', R, e2, fun v H1 g1 ts P => ⟨b', seq_truV (P.cr e3) e4, q _ _ _ _ (.mk' P.rl P.sp (.bl _))⟩⟩
/-- the lists of and, or -/
inductive EBs (X : Cx) (cl : Call) : List Expr → List E → Prop
  | nil : EBs X cl [] []
  | cons {a : Expr} {a' : E} {es : List Expr} {es' : List E} : EB X a (evE cl a') → EBs X cl es es' → EBs X cl (a :: es) (a' :: es')
theorem at_inv {a : E} {es : List E} {st st' : MS} {r : R} (e : evAt cl (a :: es) st = some (r, st')) : (∃ st1, evE cl a st = some (iB true, st1) ∧ evAt cl es st1 = some (r, st')) ∨ (evE cl a st = some (iB false, st') ∧ r = iB false) := by
  simp only [evAt] at e
  split at e
  · rename_i x st1 h1
    have hx : ∀ b, asB x = some b → x = iB b := fun b h => by
      cases x with
      | dat d => cases d <;> first | (cases h; rfl) | cases h
      | _ => cases h
    split at e
    · rename_i h2
      rw [hx _ h2] at h1
      exact .inl ⟨st1, h1, e⟩
    · rename_i h2
      rw [hx _ h2] at h1
      cases e
      exact .inr ⟨h1, rfl⟩
    · cases e
  · cases e
theorem ot_inv {a : E} {es : List E} {st st' : MS} {r : R} (e : evOt cl (a :: es) st = some (r, st')) : (∃ st1, evE cl a st = some (iB false, st1) ∧ evOt cl es st1 = some (r, st')) ∨ (evE cl a st = some (iB true, st') ∧ r = iB true) := by
  simp only [evOt] at e
  split at e
  · rename_i x st1 h1
    have hx : ∀ b, asB x = some b → x = iB b := fun b h => by
      cases x with
      | dat d => cases d <;> first | (cases h; rfl) | cases h
      | _ => cases h
    split at e
    · rename_i h2
      rw [hx _ h2] at h1
      exact .inl ⟨st1, h1, e⟩
    · rename_i h2
      rw [hx _ h2] at h1
      cases e
      exact .inr ⟨h1, rfl⟩
    · cases e
  · cases e
theorem pw_at {pos : Pos} : ∀ {a : Expr} {es : List Expr} {a' : E} {es' : List E}, EB X a (evE cl a') → EBs X cl es es' → PW X (.BoolOp .And (a :: es) pos) (tB X.K X.w (evAt cl (a' :: es')))
  | a, [], a', _, ha, .nil => pwimp (pw_and1 ha) fun σ H Q ⟨st, g, b, st', R, e, q⟩ => by
    rcases at_inv e with ⟨st1, h1, h2⟩ | ⟨h1, h2⟩
    · simp only [evAt] at h2
      cases h2
      exact ⟨st, g, true, st', R, h1, fun H1 g1 R1 S1 => q _ _ R1 S1⟩
    · cases iB_inj h2
      exact ⟨st, g, false, st', R, h1, fun H1 g1 R1 S1 => q _ _ R1 S1⟩
  | a, b :: es, a', _, ha, .cons hb hr => pwimp (pw_and ha (pw_at hb hr)) fun σ H Q ⟨st, g, c, st', R, e, q⟩ => by
    rcases at_inv e with ⟨st1, h1, h2⟩ | ⟨h1, h2⟩
    · exact ⟨st, g, true, st1, R, h1, fun H1 g1 R1 S1 => iteT ⟨st1, g1, c, st', R1, h2, fun H2 g2 R2 S2 => q _ _ R2 (S1.trans S2)⟩⟩
    · cases iB_inj h2
      exact ⟨st, g, false, st', R, h1, fun H1 g1 R1 S1 => iteF (q _ _ R1 S1)⟩
theorem pw_ot {pos : Pos} : ∀ {a : Expr} {es : List Expr} {a' : E} {es' : List E}, EB X a (evE cl a') → EBs X cl es es' → PW X (.BoolOp .Or (a :: es) pos) (tB X.K X.w (evOt cl (a' :: es')))
  | a, [], a', _, ha, .nil => pwimp (pw_or1 ha) fun σ H Q ⟨st, g, b, st', R, e, q⟩ => by
    rcases ot_inv e with ⟨st1, h1, h2⟩ | ⟨h1, h2⟩
    · simp only [evOt] at h2
      cases h2
      exact ⟨st, g, false, st', R, h1, fun H1 g1 R1 S1 => q _ _ R1 S1⟩
    · cases iB_inj h2
      exact ⟨st, g, true, st', R, h1, fun H1 g1 R1 S1 => q _ _ R1 S1⟩
  | a, b :: es, a', _, ha, .cons hb hr => pwimp (pw_or ha (pw_ot hb hr)) fun σ H Q ⟨st, g, c, st', R, e, q⟩ => by
    rcases ot_inv e with ⟨st1, h1, h2⟩ | ⟨h1, h2⟩
    · exact ⟨st, g, false, st1, R, h1, fun H1 g1 R1 S1 => iteF ⟨st1, g1, c, st', R1, h2, fun H2 g2 R2 S2 => q _ _ R2 (S1.trans S2)⟩⟩
    · cases iB_inj h2
      exact ⟨st, g, true, st', R, h1, fun H1 g1 R1 S1 => iteT (q _ _ R1 S1)⟩
theorem eb_at {pos : Pos} {a : Expr} {es : List Expr} {a' : E} {es' : List E} (ha : EB X a (evE cl a')) (hr : EBs X cl es es') : EB X (.BoolOp .And (a :: es) pos) (evE cl (.at (a' :: es'))) := by
  have : evE cl (.at (a' :: es')) = evAt cl (a' :: es') := by funext st; simp only [evE]
  rw [this]
  exact (pw_at ha hr).pt
theorem eb_ot {pos : Pos} {a : Expr} {es : List Expr} {a' : E} {es' : List E} (ha : EB X a (evE cl a')) (hr : EBs X cl es es') : EB X (.BoolOp .Or (a :: es) pos) (evE cl (.ot (a' :: es'))) := by
  have : evE cl (.ot (a' :: es')) = evOt cl (a' :: es') := by funext st; simp only [evE]
  rw [this]
  exact (pw_ot ha hr).pt
theorem ite_inv {t a b : E} {st st' : MS} {r : R} (e : evE cl (.ite t a b) st = some (r, st')) : ∃ c st1, evE cl t st = some (iB c, st1) ∧ (if c = true then evE cl a st1 else evE cl b st1) = some (r, st') := by
  simp only [evE] at e
  split at e
  · rename_i x st1 h1
    have hx : ∀ b, asB x = some b → x = iB b := fun b h => by
      cases x with
      | dat d => cases d <;> first | (cases h; rfl) | cases h
      | _ => cases h
    split at e
    · rename_i h2
      rw [hx _ h2] at h1
      exact ⟨true, st1, h1, by rw [if_pos rfl]; exact e⟩
    · rename_i h2
      rw [hx _ h2] at h1
      exact ⟨false, st1, h1, by rw [if_neg Bool.false_ne_true]; exact e⟩
    · cases e
  · cases e
theorem ev_ite {t a b : Expr} {t' a' b' : E} {pos : Pos} (ht : EB X t (evE cl t')) (ha : EV X a (evE cl a')) (hb : EV X b (evE cl b')) : EV X (.IfExp t a b pos) (evE cl (.ite t' a' b')) :=
  peimp (pe_ifExp ht ha hb) fun σ H Q ⟨st, g, r, st', R, e, q⟩ => by
    obtain ⟨c, st1, h1, h2⟩ := ite_inv e
    refine ⟨st, g, c, st1, R, h1, fun H1 g1 R1 S1 => ?_⟩
    cases c with
    | true =>
      rw [if_pos rfl] at h2
      exact iteT ⟨st1, g1, r, st', R1, h2, fun v H2 g2 ts P => q _ _ _ _ (.of_step S1 P)⟩
    | false =>
      rw [if_neg Bool.false_ne_true] at h2
      exact iteF ⟨st1, g1, r, st', R1, h2, fun v H2 g2 ts P => q _ _ _ _ (.of_step S1 P)⟩
theorem isTrue_ifExp {M : Model} {A : Around} {E : Value → Shared → Prop} {s : Shared} {t a b : Expr} {env : Env} {pos : Pos} {wh : Sem Value} {Q : Bool → Shared → Prop}
    (h : wpAny M A (isTrue t env (eval t env)) (fun c s1 => if c = true then wpAny M A (isTrue a env (eval a env)) Q E s1 else wpAny M A (isTrue b env (eval b env)) Q E s1) E s) : wpAny M A (isTrue (.IfExp t a b pos) env wh) Q E s := by
  rw [PySem.isTrue]
  refine wpAny_bind (thn h fun c s1 q => ?_)
  cases c with
  | true => exact q
  | false => exact q
theorem pt_ifExp {t a b : Expr} {pos : Pos} {tt ta tb : TT} (ht : PT X t tt) (ha : PT X a ta) (hb : PT X b tb) : PT X (.IfExp t a b pos) (fun σ H Q => tt σ H fun c H1 => if c = true then ta σ H1 Q else tb σ H1 Q) := by
  refine ⟨fun pins s σ H Q I h => ?_⟩
  refine isTrue_ifExp (thn (ht.run pins s σ H _ I h) fun d s1 ⟨H1, I1, q1⟩ => ?_)
  cases d with
  | true => exact ha.run pins s1 σ H1 Q I1 q1
  | false => exact hb.run pins s1 σ H1 Q I1 q1
theorem eb_ite {t a b : Expr} {t' a' b' : E} {pos : Pos} (ht : EB X t (evE cl t')) (ha : EB X a (evE cl a')) (hb : EB X b (evE cl b')) : EB X (.IfExp t a b pos) (evE cl (.ite t' a' b')) :=
  ptimp (pt_ifExp ht ha hb) fun σ H Q ⟨st, g, r, st', R, e, q⟩ => by
    obtain ⟨c, st1, h1, h2⟩ := ite_inv e
    refine ⟨st, g, c, st1, R, h1, fun H1 g1 R1 S1 => ?_⟩
    cases c with
    | true =>
      rw [if_pos rfl] at h2
      exact iteT ⟨st1, g1, r, st', R1, h2, fun H2 g2 R2 S2 => q _ _ R2 (S1.trans S2)⟩
    | false =>
      rw [if_neg Bool.false_ne_true] at h2
      exact iteF ⟨st1, g1, r, st', R1, h2, fun H2 g2 R2 S2 => q _ _ R2 (S1.trans S2)⟩
end
end Mt

set_option Elab.async false
set_option linter.all false
set_option maxRecDepth 100000
set_option maxHeartbeats 4000000
/-! Freezing; values, operands, displays, slices. -/
namespace Mt
open PySem PySem.Spec PyProof.Rows L2

/-- behind an expression, ready to be held by a slot -/
structure Pso (K : PySem.W.Frag) (w : World) (σ : L2.St) (st : MS) (g : Gs) (H : Hp) (st' : MS) (s : Sl) (v : V) (H' : Hp) (g' : Gs) (ts : List Addr) : Prop where
  rl : Rel K w st' σ H' g'
  sp : Stp st g H st' g' H'
  sr : SlR K w g'.F H' s (some v) ts
  fs : Fsh g' ts
  nw : ∀ t ∈ ts, H t = none
section
variable {K : PySem.W.Frag} {w : World} {σ : L2.St} {st st1 st2 : MS} {g g1 : Gs} {H H1 : Hp} {r : R} {v : V} {ts : List Addr} {d : D} {s : Sl}
/-- a temporary list is frozen -/
theorem frz_tmp {xs : List D} (P : Pst K w σ st g H st1 (.lst xs) v H1 g1 ts) : ∃ g2, Pst K w σ st g H st1 (.dat (.list xs)) v H1 g2 [] := by
  obtain ⟨R, S, X, F, N⟩ := P
  obtain ⟨a, rfl, e, vs, hA, rA⟩ := X
  cases e
  have nF := F.nf a (by simp)
  have nO := F.no a (by simp)
  refine ⟨⟨fun b => g1.F b ∨ b = a, g1.as⟩, ⟨R.len, R.lena, fun i => ?_, R.one, R.dis, fun i b hb f => ?_, fun b f => ?_⟩, ⟨S.keep, fun b f => .inl (S.sub b f), fun b f => ?_, S.opn, S.all, S.there⟩, .dat (.lst ⟨.inr rfl, hA⟩ ?_), .nil, fun _ h => nomatch h⟩
  · exact (R.rep i).mono (fun _ h => .inl h) (fun _ _ _ h => h) (fun _ _ h => h) (fun _ _ _ h => h) fun _ _ _ h => h
  · rcases f with f | rfl
    · exact R.nof i b hb f
    · exact nO ⟨i, hb⟩
  · rcases f with f | rfl
    · exact R.trk b f
    · exact ⟨_, hA⟩
  · rcases f with f | rfl
    · exact S.new b f
    · exact .inr (.inr (N b (by simp)))
  · exact rA.mono (fun _ h => .inl h) (fun _ _ _ h => h) (fun _ _ h => h)
/-- an owned list is frozen where it lies -/
theorem frz_own {i : Nat} {lk : Bool} {xs : List D} (R : Rel K w st1 σ H1 g1) (S : Stp st g H st1 g1 H1) (hs : gt st1 i = .lst lk xs) (hv : gv σ i = some v) : ∃ g2, Pst K w σ st g H (st1.set i (.dat (.list xs))) (.dat (.list xs)) v H1 g2 [] := by
  have rp := R.rep i
  rw [hs, hv] at rp
  obtain ⟨a, ha, e, vs, hA, rA⟩ := rp
  cases e
  have hi : i < st1.length := gt_lt (by rw [hs]; exact fun h => nomatch h)
  have hia : i < g1.as.length := by rw [R.lena]; exact hi
  have mA : a ∈ ga g1.as i := by rw [ha]; simp
  have rA' : RpA K (fun b => g1.F b ∨ b = a) H1 vs xs := rA.mono (fun _ h => .inl h) (fun _ _ _ h => h) (fun _ _ h => h)
  refine ⟨⟨fun b => g1.F b ∨ b = a, g1.as.set i []⟩, ⟨?_, ?_, fun j => ?_, fun j => ?_, fun j k b hj hk => ?_, fun j b hb f => ?_, fun b f => ?_⟩, ⟨S.keep, fun b f => .inl (S.sub b f), fun b f => ?_, fun b ⟨j, o, hb⟩ => ?_, fun j b hb => ?_, S.there⟩, .dat (.lst ⟨.inr rfl, hA⟩ rA'), .nil, fun _ h => nomatch h⟩
  · rw [List.length_set]; exact R.len
  · rw [List.length_set, List.length_set]; exact R.lena
  · rw [gt_set hi, ga_set hia]
    by_cases hj : j = i
    · subst hj
      rw [if_pos rfl, if_pos rfl]
      exact ⟨rfl, _, hv, .lst ⟨.inr rfl, hA⟩ rA'⟩
    · rw [if_neg hj, if_neg hj]
      exact (R.rep j).mono (fun _ h => .inl h) (fun _ _ _ h => h) (fun _ _ h => h) (fun _ _ _ h => h) fun _ _ _ h => h
  · rw [ga_set hia]
    split
    · exact List.nodup_nil
    · exact R.one j
  · rw [ga_set hia] at hj hk
    split at hj
    · simp at hj
    · split at hk
      · simp at hk
      · exact R.dis j k b hj hk
  · rw [ga_set hia] at hb
    split at hb
    · simp at hb
    · rename_i hj
      rcases f with f | rfl
      · exact R.nof j b hb f
      · exact hj (R.dis j i b hb mA)
  · rcases f with f | rfl
    · exact R.trk b f
    · exact ⟨_, hA⟩
  · rcases f with f | rfl
    · exact S.new b f
    · rcases S.all i b mA with h | h
      · exact .inr (.inl ⟨i, h⟩)
      · exact .inr (.inr h)
  · rw [gt_set hi] at o
    rw [ga_set hia] at hb
    split at hb
    · simp at hb
    · rename_i hj
      rw [if_neg hj] at o
      exact S.opn b ⟨j, o, hb⟩
  · rw [ga_set hia] at hb
    split at hb
    · simp at hb
    · exact S.all j b hb
theorem frz_ok (P : Pst K w σ st g H st1 r v H1 g1 ts) (e : frz st1 r = some (d, st2)) : ∃ g2, Pst K w σ st g H st2 (.dat d) v H1 g2 [] := by
  cases r with
  | dat d' =>
    cases e
    exact ⟨g1, .mk' P.rl P.sp P.dat⟩
  | lst xs =>
    cases e
    exact frz_tmp P
  | pl i =>
    obtain ⟨R, S, ⟨rfl, hv⟩, F, N⟩ := P
    simp only [frz] at e
    split at e
    · rename_i d' hs
      cases e
      have rp := R.rep i
      rw [hs, hv] at rp
      obtain ⟨_, x, ex, rd⟩ := rp
      cases ex
      exact ⟨g1, .mk' R S rd⟩
    · rename_i lk xs hs
      cases e
      exact frz_own R S hs hv
    · cases e
  | _ => cases e
theorem own_ok (P : Pst K w σ st g H st1 r v H1 g1 ts) (e : own st1 r = some (s, st2)) : ∃ g2 ts2, Pso K w σ st g H st2 s v H1 g2 ts2 := by
  have fin : ∀ s, asSl r = some s → (match asSl r with | some s => some (s, st1) | none => none) = some (s, st2) → RR K w g1.F H1 σ r v ts = SlR K w g1.F H1 s (some v) ts → ∃ g2 ts2, Pso K w σ st g H st2 s v H1 g2 ts2 := fun s h1 h2 h3 => by
    rw [h1] at h2
    cases h2
    exact ⟨g1, ts, P.rl, P.sp, h3 ▸ P.rr, P.fs, P.nw⟩
  cases r with
  | pl i =>
    simp only [own] at e
    split at e
    · rename_i d st3 h
      cases e
      obtain ⟨g2, Q⟩ := frz_ok P h
      exact ⟨g2, [], Q.rl, Q.sp, ⟨rfl, v, rfl, Q.dat⟩, .nil, fun _ h => nomatch h⟩
    · cases e
  | pl2 i k => exact P.rr.elim
  | dat d => cases e; exact fin _ rfl rfl rfl
  | lst d => cases e; exact fin _ rfl rfl rfl
  | dct d => cases e; exact fin _ rfl rfl rfl
  | dll d => cases e; exact fin _ rfl rfl rfl
  | ddl d => cases e; exact fin _ rfl rfl rfl
  | scr d => cases e; exact fin _ rfl rfl rfl
end

/-! ### values, operands -/
def noStar : Expr → Bool
  | .Starred _ _ => false
  | _ => true
theorem star_cons {e : Expr} {es : List Expr} {env : Env} (h : noStar e = true) : starEach (e :: es) env = (false, eval e env) :: starEach es env := by
  cases e <;> first | rfl | cases h
section
variable (K : PySem.W.Frag) (w : World)
/-- frozen values -/
def tV (ev : MS → Option (List D × MS)) : TA := fun σ H Q => ∃ st g ds st', Rel K w st σ H g ∧ ev st = some (ds, st') ∧ ∀ vs H' g', Rel K w st' σ H' g' → Stp st g H st' g' H' → RpA K g'.F H' vs ds → Q vs H'
/-- operands -/
def tL (ev : MS → Option (List R × MS)) : TA := fun σ H Q => ∃ st g rs st', Rel K w st σ H g ∧ ev st = some (rs, st') ∧ ∀ vs H' g', Rel K w st' σ H' g' → Stp st g H st' g' H' → Paired (fun r v => ∃ ts, RR K w g'.F H' σ r v ts ∧ Fsh g' ts) rs vs → Q vs H'
end
inductive EVs (X : Cx) (cl : Call) : List Expr → List E → Prop
  | nil : EVs X cl [] []
  | cons {a : Expr} {a' : E} {es : List Expr} {es' : List E} : noStar a = true → EV X a (evE cl a') → EVs X cl es es' → EVs X cl (a :: es) (a' :: es')
section
variable {X : Cx} {cl : Call}
theorem evVs_inv {e : E} {es : List E} {st st' : MS} {ds : List D} (h : evVs cl (e :: es) st = some (ds, st')) : ∃ x st1 d st2 r, evE cl e st = some (x, st1) ∧ frz st1 x = some (d, st2) ∧ evVs cl es st2 = some (r, st') ∧ ds = d :: r := by
  simp only [evVs] at h
  split at h
  · rename_i x st1 h1
    split at h
    · rename_i d st2 h2
      split at h
      · rename_i r st3 h3
        cases h
        exact ⟨_, _, _, _, _, h1, h2, h3, rfl⟩
      · cases h
    · cases h
  · cases h
theorem pa_vs : ∀ {es : List Expr} {es' : List E}, EVs X cl es es' → PA X es (tV X.K X.w (evVs cl es'))
  | _, _, .nil => paimp pa_nil fun σ H Q ⟨st, g, ds, st', R, e, q⟩ => by
    simp only [evVs] at e
    cases e
    exact q _ _ _ R .refl .nil
  | _, _, .cons hs ha hr => paimp (pa_cons ha (pa_vs hr) (star_cons hs)) fun σ H Q ⟨st, g, ds, st', R, e, q⟩ => by
    obtain ⟨x, st1, d, st2, r, h1, h2, h3, rfl⟩ := evVs_inv e
    refine ⟨st, g, x, st1, R, h1, fun v H1 g1 ts P => ?_⟩
    obtain ⟨g2, P2⟩ := frz_ok P h2
    refine ⟨st2, g2, r, st', P2.rl, h3, fun vs H3 g3 R3 S3 rs => ?_⟩
    exact q _ _ g3 R3 (P2.sp.trans S3) (.cons (P2.rl.rp S3 P2.dat) rs)
theorem evEs_inv {e : E} {es : List E} {st st' : MS} {ds : List R} (h : evEs cl (e :: es) st = some (ds, st')) : ∃ x st1 r, evE cl e st = some (x, st1) ∧ evEs cl es st1 = some (r, st') ∧ ds = x :: r := by
  simp only [evEs] at h
  split at h
  · rename_i x st1 h1
    split at h
    · rename_i r st3 h3
      cases h
      exact ⟨_, _, _, h1, h3, rfl⟩
    · cases h
  · cases h
theorem pa_es : ∀ {es : List Expr} {es' : List E}, EVs X cl es es' → PA X es (tL X.K X.w (evEs cl es'))
  | _, _, .nil => paimp pa_nil fun σ H Q ⟨st, g, ds, st', R, e, q⟩ => by
    simp only [evEs] at e
    cases e
    exact q _ _ _ R .refl .nil
  | _, _, .cons hs ha hr => paimp (pa_cons ha (pa_es hr) (star_cons hs)) fun σ H Q ⟨st, g, ds, st', R, e, q⟩ => by
    obtain ⟨x, st1, r, h1, h3, rfl⟩ := evEs_inv e
    refine ⟨st, g, x, st1, R, h1, fun v H1 g1 ts P => ?_⟩
    refine ⟨st1, g1, r, st', P.rl, h3, fun vs H3 g3 R3 S3 rs => ?_⟩
    obtain ⟨q1, q2⟩ := P.rr.step P.fs P.rl S3
    exact q _ _ g3 R3 (P.sp.trans S3) (.cons ⟨ts, q1, q2⟩ rs)
theorem looks_cr {K : PySem.W.Frag} {w : World} {st : MS} {σ : L2.St} {H : Hp} {g : Gs} (Rh : Rel K w st σ H g) : ∀ {rs : List R} {vs : List V} {cs : List R}, Paired (fun r v => ∃ ts, RR K w g.F H σ r v ts ∧ Fsh g ts) rs vs → looks st rs = some cs → CRs K w g.F H cs vs
  | _, _, _, .nil, e => by cases e; exact .nil
  | r :: rs, _, _, .cons ⟨ts, h, _⟩ t, e => by
    simp only [looks] at e
    split at e
    · rename_i c cs h1 h2
      cases e
      exact .cons (look_rep h Rh h1) (looks_cr Rh t h2)
    · cases e
/-- a built-in upon operands -/
theorem bi_inv {b : Bi} {es : List E} {st st' : MS} {r : R} (h : evE cl (.bi b es) st = some (r, st')) : ∃ rs cs, evEs cl es st = some (rs, st') ∧ looks st' rs = some cs ∧ opBi b cs = some r := by
  simp only [evE] at h
  split at h
  · rename_i rs st1 h1
    split at h
    · rename_i cs h2
      split at h
      · rename_i r' h3
        cases h
        exact ⟨_, _, h1, h2, h3⟩
      · cases h
    · cases h
  · cases h
theorem tL_bi {K : PySem.W.Frag} {w : World} {b : Bi} {es : List E} {rd : List V → Hp → VK → Prop}
    (h : ∀ F H cs r vs Q, CRs K w F H cs vs → opBi b cs = some r → (∀ v H' ts, Out K w F H r v H' ts → Q v H') → rd vs H Q) : ∀ σ H Q, tD K w (evE cl (.bi b es)) σ H Q → tCB rd (tL K w (evEs cl es)) σ H Q := fun σ H Q ⟨st, g, r, st', R, e, q⟩ => by
  obtain ⟨rs, cs, h1, h2, h3⟩ := bi_inv e
  refine ⟨st, g, rs, st', R, h1, fun vs H' g' R' S' ps => ?_⟩
  show rd vs H' Q
  exact h _ _ _ _ _ _ (looks_cr R' ps h2) h3 fun v H2 ts o => q v H2 g' ts (.out R' S' o)

/-! ### displays -/
theorem ev_tup {es : List Expr} {es' : List E} {k : Nat} {pos : Pos} (h : EVs X cl es es') : EV X (.Tuple es k pos) (evE cl (.tup es')) :=
  peimp (pe_tup (pa_vs h)) fun σ H Q ⟨st, g, r, st', R, e, q⟩ => by
    simp only [evE] at e
    split at e
    · rename_i xs st1 h1
      split at e
      · rename_i r' h2
        cases e
        unfold mkT at h2
        split at h2
        · cases h2
          rename_i hl
          refine ⟨st, g, xs, st', R, h1, fun vs H1 g1 R1 S1 rs => ⟨sz_le (by rw [rs.len]; exact hl), fun p hp => q _ _ g1 _ (.out R1 S1 (.tup hp rs))⟩⟩
        · cases h2
      · cases e
    · cases e
theorem ev_lst {es : List Expr} {es' : List E} {pos : Pos} (h : EVs X cl es es') : EV X (.List es pos) (evE cl (.lst es')) :=
  peimp (pe_lst (pa_vs h)) fun σ H Q ⟨st, g, r, st', R, e, q⟩ => by
    simp only [evE] at e
    split at e
    · rename_i xs st1 h1
      split at e
      · rename_i r' h2
        cases e
        unfold mkL at h2
        split at h2
        · cases h2
          rename_i hl
          refine ⟨st, g, xs, st', R, h1, fun vs H1 g1 R1 S1 rs => ⟨sz_le (by rw [rs.len]; exact hl), fun p hp => q _ _ g1 _ (.out R1 S1 (.lst hp rs))⟩⟩
        · cases h2
      · cases e
    · cases e
/-! ### slices, indexes -/
inductive EO (X : Cx) (cl : Call) : Option Expr → E → Prop
  | none : EO X cl none .abs
  | some {e : Expr} {a : E} : EV X e (evE cl a) → EO X cl (some e) (.bd a)
def tOb (K : PySem.W.Frag) (w : World) (ev : MS → Option (Option Int × MS)) : TO := fun σ H Q => ∃ st g o st', Rel K w st σ H g ∧ ev st = some (o, st') ∧ ∀ H' g', Rel K w st' σ H' g' → Stp st g H st' g' H' → Q o H'
theorem poimp {e : Option Expr} {t t' : TO} (h : PO X e t) (f : ∀ σ H Q, t' σ H Q → t σ H Q) : PO X e t' := ⟨fun pins s σ H Q I q => h.run pins s σ H Q I (f _ _ _ q)⟩
theorem asI_inv {x : R} {i : Int} (h : asI x = some i) : x = .dat (.int i) := by
  cases x with
  | dat d => cases d <;> first | (cases h; rfl) | cases h
  | _ => cases h
theorem po_ok : ∀ {o : Option Expr} {a : E}, EO X cl o a → PO X o (tOb X.K X.w (evO cl a))
  | _, _, .none => poimp po_none fun σ H Q ⟨st, g, o, st', R, e, q⟩ => by
    simp only [evO] at e
    cases e
    exact q _ _ R .refl
  | _, _, .some h => poimp (po_some h) fun σ H Q ⟨st, g, o, st', R, e, q⟩ => by
    simp only [evO] at e
    split at e
    · rename_i x st1 h1
      split at e
      · rename_i i hi
        cases e
        cases asI_inv hi
        exact ⟨st, g, _, st', R, h1, fun v H1 g1 ts P => ⟨i, P.dat.int_inv, q _ _ P.rl P.sp⟩⟩
      · cases e
    · cases e
theorem sl_inv {a lo hi : E} {st st' : MS} {r : R} (h : evE cl (.sl a lo hi) st = some (r, st')) : ∃ x st1 i st2 j c, evE cl a st = some (x, st1) ∧ evO cl lo st1 = some (i, st2) ∧ evO cl hi st2 = some (j, st') ∧ look st' x = some c ∧ opSl c i j = some r := by
  simp only [evE] at h
  split at h
  · rename_i x st1 h1
    split at h
    · rename_i i st2 h2
      split at h
      · rename_i j st3 h3
        split at h
        · rename_i c h4
          split at h
          · rename_i r' h5
            cases h
            exact ⟨_, _, _, _, _, _, h1, h2, h3, h4, h5⟩
          · cases h
        · cases h
      · cases h
    · cases h
  · cases h
theorem ev_sl {a : Expr} {lo hi : Option Expr} {a' lo' hi' : E} {p2 pos : Pos} (ha : EV X a (evE cl a')) (hl : EO X cl lo lo') (hh : EO X cl hi hi') : EV X (.Subscript a (.Slice lo hi none p2) pos) (evE cl (.sl a' lo' hi')) :=
  peimp (pe_slice opSl_ok ha (po_ok hl) (po_ok hh)) fun σ H Q ⟨st, g, r, st', R, e, q⟩ => by
    obtain ⟨x, st1, i, st2, j, c, h1, h2, h3, h4, h5⟩ := sl_inv e
    refine ⟨st, g, x, st1, R, h1, fun v H1 g1 ts P => ⟨st1, g1, i, st2, P.rl, h2, fun H2 g2 R2 S2 => ⟨st2, g2, j, st', R2, h3, fun H3 g3 R3 S3 => ?_⟩⟩⟩
    have S := S2.trans S3
    obtain ⟨q1, q2⟩ := P.rr.step P.fs P.rl S
    exact ⟨g3.F, c, r, look_rep q1 R3 h4, h5, fun v H' ts o => q v H' g3 ts (.out R3 (P.sp.trans S) o)⟩
end
end Mt

set_option Elab.async false
set_option linter.all false
set_option maxRecDepth 100000
set_option maxHeartbeats 4000000
/-! Built-ins, indexes. -/
namespace Mt
open PySem PySem.Spec PyProof.Rows L2

section
variable {K : PySem.W.Frag} {F : Addr → Prop} {H : Hp}
theorem intsD_eq : ∀ {xs : List D} {ns : List Int}, intsD xs = some ns → xs = ns.map PyData.int
  | [], ns, h => by cases h; rfl
  | .int i :: r, ns, h => by
    simp only [intsD] at h
    split at h
    · rename_i q hq
      cases h
      rw [List.map_cons, intsD_eq hq]
    · cases h
  | .none :: _, _, h => by cases h
  | .bool _ :: _, _, h => by cases h
  | .str _ :: _, _, h => by cases h
  | .list _ :: _, _, h => by cases h
  | .tuple _ :: _, _, h => by cases h
  | .dict _ :: _, _, h => by cases h
theorem boolsD_eq : ∀ {xs : List D} {ns : List Bool}, boolsD xs = some ns → xs = ns.map PyData.bool
  | [], ns, h => by cases h; rfl
  | .bool i :: r, ns, h => by
    simp only [boolsD] at h
    split at h
    · rename_i q hq
      cases h
      rw [List.map_cons, boolsD_eq hq]
    · cases h
  | .none :: _, _, h => by cases h
  | .int _ :: _, _, h => by cases h
  | .str _ :: _, _, h => by cases h
  | .list _ :: _, _, h => by cases h
  | .tuple _ :: _, _, h => by cases h
  | .dict _ :: _, _, h => by cases h
theorem RpA.intsV : ∀ {vs : List V} {ns : List Int}, RpA K F H vs (ns.map PyData.int) → vs = ns.map V.int
  | _, [], .nil => rfl
  | _, n :: ns, .cons h t => by rw [h.int_inv, RpA.intsV t]; rfl
theorem RpA.boolsV : ∀ {vs : List V} {ns : List Bool}, RpA K F H vs (ns.map PyData.bool) → vs = ns.map V.bl
  | _, [], .nil => rfl
  | _, n :: ns, .cons h t => by rw [h.bl_inv, RpA.boolsV t]; rfl
end
theorem foldMin (l : List Int) : ∀ a, let m := l.foldl (fun a b => if b < a then b else a) a; (m = a ∨ m ∈ l) ∧ m ≤ a ∧ ∀ y ∈ l, m ≤ y := by
  induction l with
  | nil => intro a; exact ⟨.inl rfl, Int.le_refl _, fun _ h => nomatch h⟩
  | cons x r ih =>
    intro a
    have h := ih (if x < a then x else a)
    simp only [List.foldl_cons]
    obtain ⟨h1, h2, h3⟩ := h
    refine ⟨?_, ?_, fun y hy => ?_⟩
    · rcases h1 with h1 | h1
      · rw [h1]
        split
        · exact .inr List.mem_cons_self
        · exact .inl rfl
      · exact .inr (List.mem_cons_of_mem _ h1)
    · split at h2 <;> rename_i q
      · simp only [q, if_true]; omega
      · simp only [q, if_false]; exact h2
    · rcases List.mem_cons.mp hy with rfl | hy
      · split at h2 <;> rename_i q
        · simp only [q, if_true]; exact h2
        · simp only [q, if_false]; omega
      · exact h3 y hy
theorem foldMax (l : List Int) : ∀ a, let m := l.foldl (fun a b => if b > a then b else a) a; (m = a ∨ m ∈ l) ∧ a ≤ m ∧ ∀ y ∈ l, y ≤ m := by
  induction l with
  | nil => intro a; exact ⟨.inl rfl, Int.le_refl _, fun _ h => nomatch h⟩
  | cons x r ih =>
    intro a
    have h := ih (if x > a then x else a)
    simp only [List.foldl_cons]
    obtain ⟨h1, h2, h3⟩ := h
    refine ⟨?_, ?_, fun y hy => ?_⟩
    · rcases h1 with h1 | h1
      · rw [h1]
        split
        · exact .inr List.mem_cons_self
        · exact .inl rfl
      · exact .inr (List.mem_cons_of_mem _ h1)
    · split at h2 <;> rename_i q
      · simp only [q, if_true]; omega
      · simp only [q, if_false]; exact h2
    · rcases List.mem_cons.mp hy with rfl | hy
      · split at h2 <;> rename_i q
        · simp only [q, if_true]; exact h2
        · simp only [q, if_false]; omega
      · exact h3 y hy
theorem leastI_spec {ns : List Int} {m : Int} (h : leastI ns = some m) : 0 < ns.length ∧ ∀ k, k ∈ ns → (∀ y ∈ ns, k ≤ y) → k = m := by
  cases ns with
  | nil => cases h
  | cons x r =>
    cases h
    obtain ⟨h1, h2, h3⟩ := foldMin r x
    refine ⟨by simp, fun k hk hy => ?_⟩
    have a1 : k ≤ r.foldl (fun a b => if b < a then b else a) x := by
      rcases h1 with h1 | h1
      · rw [h1]; exact hy _ List.mem_cons_self
      · exact hy _ (List.mem_cons_of_mem _ h1)
    have a2 : r.foldl (fun a b => if b < a then b else a) x ≤ k := by
      rcases List.mem_cons.mp hk with rfl | hk
      · exact h2
      · exact h3 k hk
    omega
theorem mostI_spec {ns : List Int} {m : Int} (h : mostI ns = some m) : 0 < ns.length ∧ ∀ k, k ∈ ns → (∀ y ∈ ns, y ≤ k) → k = m := by
  cases ns with
  | nil => cases h
  | cons x r =>
    cases h
    obtain ⟨h1, h2, h3⟩ := foldMax r x
    refine ⟨by simp, fun k hk hy => ?_⟩
    have a1 : r.foldl (fun a b => if b > a then b else a) x ≤ k := by
      rcases h1 with h1 | h1
      · rw [h1]; exact hy _ List.mem_cons_self
      · exact hy _ (List.mem_cons_of_mem _ h1)
    have a2 : k ≤ r.foldl (fun a b => if b > a then b else a) x := by
      rcases List.mem_cons.mp hk with rfl | hk
      · exact h2
      · exact h3 k hk
    omega
theorem tupleOf_inv {c : R} {ys : List D} (h : tupleOf c = some ys) : c = .dat (.tuple ys) ∨ Mt.asL c = some ys := by
  unfold tupleOf at h
  split at h
  · cases h; exact .inl rfl
  · exact .inr h
/-- a list of ints -/
theorem CR.ints {K : PySem.W.Frag} {w : World} {F : Addr → Prop} {H : Hp} {c : R} {v : V} {xs : List D} {ns : List Int} (h : CR K w F H c v) (e : Mt.asL c = some xs) (e2 : intsD xs = some ns) : ∃ a, v = .ref a ∧ SqL K H a (ns.map V.int) := by
  obtain ⟨a, vs, rfl, h1, r1⟩ := h.asL e
  rw [intsD_eq e2] at r1
  rw [r1.intsV] at h1
  exact ⟨a, rfl, SqL.of h1⟩
theorem CR.bools {K : PySem.W.Frag} {w : World} {F : Addr → Prop} {H : Hp} {c : R} {v : V} {xs : List D} {ns : List Bool} (h : CR K w F H c v) (e : Mt.asL c = some xs) (e2 : boolsD xs = some ns) : ∃ a, v = .ref a ∧ SqL K H a (ns.map V.bl) := by
  obtain ⟨a, vs, rfl, h1, r1⟩ := h.asL e
  rw [boolsD_eq e2] at r1
  rw [r1.boolsV] at h1
  exact ⟨a, rfl, SqL.of h1⟩

section
variable {X : Cx}
theorem len_dict : CallR X (.builtin "len") (fun xs H Q => ∃ F c x n, xs = [x] ∧ CR X.K X.w F H c x ∧ ((∃ kvs, c = .dct kvs) ∨ ∃ kvs, c = .ddl kvs) ∧ opLen c = some n ∧ Q (.int n) H) := by
  intro pins s σ H xs us Q I r ⟨F, c, x, n, e0, hx, hc, e, q⟩
  subst e0
  obtain ⟨u, rfl, rx⟩ := vals1 r
  rcases hc with ⟨kvs, rfl⟩ | ⟨kvs, rfl⟩
  · obtain ⟨a, es, rfl, h1, h2, h3, h4⟩ := hx.dct
    obtain rfl : u = Value.ref a := rx
    simp only [opLen] at e
    split at e
    · rename_i hl
      cases e
      have hz : (kvs.length : Int) < 2 ^ 63 := by unfold SZ at hl; omega
      rcases h3.1 with b | b
      · obtain ⟨xs, D1, D2, _⟩ := dict_T I h1 h3 h4 b
        have el := Paired.length D2
        refine call_len_dictH h2 D1 (by rw [el]; exact hz) ?_
        rw [el]
        exact ⟨.int _, H, I.tok _, ⟨_, rfl⟩, q⟩
      · obtain ⟨vs, D1, D2, _⟩ := dict_L I h1 h3 h4 b
        have el := Paired.length D2
        refine call_len_dict h2 D1 (by rw [el]; exact hz) ?_
        rw [el]
        exact ⟨.int _, H, I.tok _, ⟨_, rfl⟩, q⟩
    · cases e
  · cases e
theorem ixD_ok (hu : X.A.units + 200 < cLine) : IxR X (fun x y H Q => ∃ F kvs cy r, CR X.K X.w F H (.dct kvs) x ∧ CR X.K X.w F H cy y ∧ opIx (.dct kvs) cy = some r ∧ ∀ v H' ts, Out X.K X.w F H r v H' ts → Q v H') := by
  intro value slice pins s σ H x y v u Q I rx ry ⟨F, kvs, cy, r, hx, hy, e, q⟩ hs
  obtain ⟨a, es, rfl, h1, h2, h3, h4⟩ := hx.dct
  obtain rfl : v = Value.ref a := rx
  cases cy with
  | dat k =>
    simp only [opIx] at e
    split at e
    · rename_i qk hq
      split at e
      · rename_i d hd
        cases e
        obtain ⟨ep, hr⟩ := dict_raw I h1
        refine tail_any (PySem.Heap.DictRaw.typeIs hr) slot_dict_getitem.lookup (d_get hu I h1 h3 h4 hq hy.dat ry hd fun w' s' I' ⟨xv, r1, r2⟩ => ⟨xv, H, I', r1, q _ _ _ (.dat r2)⟩) hs
      · cases e
    · cases e
  | _ => cases e
theorem opIx_ok (hu : X.A.units + 200 < cLine) : IxR X (rOp X.K X.w opIx) := by
  intro value slice pins s σ H x y v u Q I rx ry ⟨F, cx, cy, r, hx, hy, e, q⟩ hs
  by_cases hd : ∃ kvs, cx = .dct kvs
  · obtain ⟨kvs, rfl⟩ := hd
    exact ixD_ok hu value slice pins s σ H x y v u Q I rx ry ⟨F, kvs, cy, r, hx, hy, e, q⟩ hs
  · exact ix_seq value slice pins s σ H x y v u Q I rx ry (opIx_seq (pins := pins) (s := s) (σ := σ) (v := v) (u := u) (fun kvs e => hd ⟨kvs, e⟩) hx hy e q) hs
theorem one_inv {cs : List R} {f : R → Option R} {r : R} (e : one cs f = some r) : ∃ a, cs = [a] ∧ f a = some r := by
  match cs, e with
  | [a], e => exact ⟨a, rfl, e⟩
  | [], e => cases e
  | _ :: _ :: _, e => cases e
theorem two_inv {cs : List R} {f : R → R → Option R} {r : R} (e : two cs f = some r) : ∃ a b, cs = [a, b] ∧ f a b = some r := by
  match cs, e with
  | [a, b], e => exact ⟨a, b, rfl, e⟩
  | [], e => cases e
  | [_], e => cases e
  | _ :: _ :: _ :: _, e => cases e
theorem mp {α β : Type} {o : Option α} {f : α → β} {r : β} (e : o.map f = some r) : ∃ a, o = some a ∧ r = f a := by
  cases o with
  | none => cases e
  | some a => cases e; exact ⟨a, rfl, rfl⟩
theorem bd {α β : Type} {o : Option α} {f : α → Option β} {r : β} (e : o.bind f = some r) : ∃ a, o = some a ∧ f a = some r := by
  cases o with
  | none => cases e
  | some a => exact ⟨a, rfl, e⟩
theorem bLen_ok : CallR X (.builtin "len") (rCl X.K X.w (opBi .len)) := by
  intro pins s σ H xs us Q I rx ⟨F, cs, r, hc, e, q⟩
  obtain ⟨c, rfl, e1⟩ := one_inv e
  obtain ⟨n, e2, rfl⟩ := mp e1
  obtain ⟨x, rfl, hx⟩ := hc.one
  by_cases hd : (∃ kvs, c = .dct kvs) ∨ ∃ kvs, c = .ddl kvs
  · exact len_dict pins s σ H _ us Q I rx ⟨F, c, x, n, rfl, hx, hd, e2, q _ _ _ (.int n)⟩
  · exact len_ok trivial pins s σ H _ us Q I rx ⟨F, c, x, n, rfl, hx, fun kvs z => hd (.inl ⟨kvs, z⟩), fun kvs z => hd (.inr ⟨kvs, z⟩), e2, q _ _ _ (.int n)⟩
theorem bAbs_ok : CallR X (.builtin "abs") (rCl X.K X.w (opBi .abs)) := by
  intro pins s σ H xs us Q I rx ⟨F, cs, r, hc, e, q⟩
  obtain ⟨c, rfl, e1⟩ := one_inv e
  obtain ⟨n, e2, rfl⟩ := mp e1
  cases asI_inv e2
  obtain ⟨x, rfl, hx⟩ := hc.one
  cases hx.dat.int_inv
  exact call_abs pins s σ H _ us Q I rx ⟨n, rfl, q _ _ _ (.int _)⟩
theorem bInt_ok : CallR X (.type "int") (rCl X.K X.w (opBi .int)) := by
  intro pins s σ H xs us Q I rx ⟨F, cs, r, hc, e, q⟩
  obtain ⟨c, rfl, e1⟩ := one_inv e
  obtain ⟨x, rfl, hx⟩ := hc.one
  cases c with
  | dat d =>
    cases d with
    | int i =>
      cases e1
      cases hx.dat.int_inv
      exact call_int1 pins s σ H _ us Q I rx (.inl ⟨i, rfl, q _ _ _ (.int _)⟩)
    | bool i =>
      cases e1
      cases hx.dat.bl_inv
      exact call_int1 pins s σ H _ us Q I rx (.inr ⟨i, rfl, q _ _ _ (.int _)⟩)
    | _ => cases e1
  | _ => cases e1
theorem bMin_ok (hk : X.calm = true) : CallR X (.builtin "min") (rCl X.K X.w (opBi .min)) := by
  intro pins s σ H xs us Q I rx ⟨F, cs, r, hc, e, q⟩
  simp only [opBi] at e
  split at e
  · obtain ⟨ys, h1, e⟩ := bd e
    obtain ⟨ns, h2, e⟩ := bd e
    obtain ⟨i, h3, rfl⟩ := mp e
    obtain ⟨x, rfl, hx⟩ := hc.one
    obtain ⟨h5, h6⟩ := leastI_spec h3
    rcases tupleOf_inv h1 with rfl | h1
    · obtain ⟨a, vs, rfl, h4, r1⟩ := hx.dat.tup_inv
      rw [intsD_eq h2] at r1
      rw [r1.intsV] at h4
      exact cr_minT hk pins s σ H _ us Q I rx ⟨a, ns, rfl, h4, h5, fun m hm hy => by rw [h6 m hm hy]; exact q _ _ _ (.int _)⟩
    obtain ⟨a, rfl, h4⟩ := hx.ints h1 h2
    exact cr_min hk pins s σ H _ us Q I rx ⟨a, ns, rfl, h4, h5, fun m hm hy => by rw [h6 m hm hy]; exact q _ _ _ (.int _)⟩
  · obtain ⟨a, b, rfl, e⟩ := two_inv e
    obtain ⟨i, h1, e⟩ := bd e
    obtain ⟨j, h2, rfl⟩ := mp e
    cases asI_inv h1
    cases asI_inv h2
    obtain ⟨x, y, rfl, hx, hy⟩ := hc.two
    cases hx.dat.int_inv
    cases hy.dat.int_inv
    exact call_min2 hk pins s σ H _ us Q I rx ⟨i, j, rfl, q _ _ _ (.int _)⟩
theorem bMax_ok (hk : X.calm = true) : CallR X (.builtin "max") (rCl X.K X.w (opBi .max)) := by
  intro pins s σ H xs us Q I rx ⟨F, cs, r, hc, e, q⟩
  simp only [opBi] at e
  split at e
  · obtain ⟨ys, h1, e⟩ := bd e
    obtain ⟨ns, h2, e⟩ := bd e
    obtain ⟨i, h3, rfl⟩ := mp e
    obtain ⟨x, rfl, hx⟩ := hc.one
    obtain ⟨h5, h6⟩ := mostI_spec h3
    rcases tupleOf_inv h1 with rfl | h1
    · obtain ⟨a, vs, rfl, h4, r1⟩ := hx.dat.tup_inv
      rw [intsD_eq h2] at r1
      rw [r1.intsV] at h4
      exact cr_maxT hk pins s σ H _ us Q I rx ⟨a, ns, rfl, h4, h5, fun m hm hy => by rw [h6 m hm hy]; exact q _ _ _ (.int _)⟩
    obtain ⟨a, rfl, h4⟩ := hx.ints h1 h2
    exact cr_max hk pins s σ H _ us Q I rx ⟨a, ns, rfl, h4, h5, fun m hm hy => by rw [h6 m hm hy]; exact q _ _ _ (.int _)⟩
  · obtain ⟨a, b, rfl, e⟩ := two_inv e
    obtain ⟨i, h1, e⟩ := bd e
    obtain ⟨j, h2, rfl⟩ := mp e
    cases asI_inv h1
    cases asI_inv h2
    obtain ⟨x, y, rfl, hx, hy⟩ := hc.two
    cases hx.dat.int_inv
    cases hy.dat.int_inv
    exact call_max2 hk pins s σ H _ us Q I rx ⟨i, j, rfl, q _ _ _ (.int _)⟩
theorem bSum_ok (hk : X.calm = true) : CallR X (.builtin "sum") (rCl X.K X.w (opBi .sum)) := by
  intro pins s σ H xs us Q I rx ⟨F, cs, r, hc, e, q⟩
  obtain ⟨c, rfl, e⟩ := one_inv e
  obtain ⟨ys, h1, e⟩ := bd e
  obtain ⟨ns, h2, rfl⟩ := mp e
  obtain ⟨x, rfl, hx⟩ := hc.one
  obtain ⟨a, rfl, h4⟩ := hx.ints h1 h2
  exact cr_sum hk pins s σ H _ us Q I rx ⟨a, ns, rfl, h4, q _ _ _ (.int _)⟩
theorem bAny_ok (hk : X.calm = true) : CallR X (.builtin "any") (rCl X.K X.w (opBi .any)) := by
  intro pins s σ H xs us Q I rx ⟨F, cs, r, hc, e, q⟩
  obtain ⟨c, rfl, e⟩ := one_inv e
  obtain ⟨ys, h1, e⟩ := bd e
  obtain ⟨ns, h2, rfl⟩ := mp e
  obtain ⟨x, rfl, hx⟩ := hc.one
  obtain ⟨a, rfl, h4⟩ := hx.bools h1 h2
  exact cr_any hk pins s σ H _ us Q I rx ⟨a, ns, rfl, h4, q _ _ _ (.bool _)⟩
theorem bAll_ok (hk : X.calm = true) : CallR X (.builtin "all") (rCl X.K X.w (opBi .all)) := by
  intro pins s σ H xs us Q I rx ⟨F, cs, r, hc, e, q⟩
  obtain ⟨c, rfl, e⟩ := one_inv e
  obtain ⟨ys, h1, e⟩ := bd e
  obtain ⟨ns, h2, rfl⟩ := mp e
  obtain ⟨x, rfl, hx⟩ := hc.one
  obtain ⟨a, rfl, h4⟩ := hx.bools h1 h2
  exact cr_all hk pins s σ H _ us Q I rx ⟨a, ns, rfl, h4, q _ _ _ (.bool _)⟩
/-- a sequence, as tuple() and list() read it -/
theorem CR.tupleOf {K : PySem.W.Frag} {w : World} {F : Addr → Prop} {H : Hp} {c : R} {x : V} {xs : List D} (h : CR K w F H c x) (e : Mt.tupleOf c = some xs) : (c = .dat (.tuple xs) ∧ ∃ a vs, x = .ref a ∧ SqT K H a vs ∧ RpA K F H vs xs) ∨ ∃ a vs, x = .ref a ∧ H a = some (.lst vs) ∧ RpA K F H vs xs := by
  cases c with
  | dat d =>
    cases d with
    | tuple ys => cases e; exact .inl ⟨rfl, h.dat.tup_inv⟩
    | list ys => cases e; exact .inr (h.asL rfl)
    | _ => cases e
  | lst ys => cases e; exact .inr (h.asL rfl)
  | _ => cases e
theorem bTuple_ok : CallR X (.type "tuple") (rCl X.K X.w (opBi .tuple)) := by
  intro pins s σ H xs us Q I rx ⟨F, cs, r, hc, e, q⟩
  obtain ⟨c, rfl, e⟩ := one_inv e
  obtain ⟨ys, h1, rfl⟩ := mp e
  obtain ⟨x, rfl, hx⟩ := hc.one
  rcases hx.tupleOf h1 with ⟨_, a, vs, rfl, h2, r2⟩ | ⟨a, vs, rfl, h2, r2⟩
  · exact call_tuple_of pins s σ H _ us Q I rx ⟨a, vs, rfl, .inr ⟨h2, q _ _ _ (.dat (.tup h2 r2))⟩⟩
  · exact call_tuple_of pins s σ H _ us Q I rx ⟨a, vs, rfl, .inl ⟨SqL.of h2, fun p hp => q _ _ _ (.tup hp r2)⟩⟩
theorem bList_ok : CallR X (.type "list") (rCl X.K X.w (opBi .list)) := by
  intro pins s σ H xs us Q I rx ⟨F, cs, r, hc, e, q⟩
  obtain ⟨c, rfl, e⟩ := one_inv e
  obtain ⟨ys, h1, rfl⟩ := mp e
  obtain ⟨x, rfl, hx⟩ := hc.one
  by_cases hd : ∃ kvs, c = .dct kvs
  · obtain ⟨kvs, rfl⟩ := hd
    cases h1
  · have h2 : Mt.tupleOf c = some ys := by
      cases c with
      | dct kvs => exact absurd ⟨kvs, rfl⟩ hd
      | dat d => cases d <;> first | exact h1 | cases h1
      | _ => exact h1
    rcases hx.tupleOf h2 with ⟨_, a, vs, rfl, h2, r2⟩ | ⟨a, vs, rfl, h2, r2⟩
    · exact call_list_of pins s σ H _ us Q I rx ⟨a, vs, rfl, .inr h2, fun p hp => q _ _ _ (.lst hp r2)⟩
    · exact call_list_of pins s σ H _ us Q I rx ⟨a, vs, rfl, .inl (SqL.of h2), fun p hp => q _ _ _ (.lst hp r2)⟩
/-- isinstance: the type of data -/
def kindOf : D → String
  | .none => "NoneType" | .bool _ => "bool" | .int _ => "int" | .str _ => "str" | .list _ => "list" | .tuple _ => "tuple" | .dict _ => "dict"
theorem tyX_of {K : PySem.W.Frag} {H : Hp} {x : V} {d : D} (h : Dp K H x d) (hl : ∀ a xs, SqL K H a xs → (∃ ys, H a = some (.lst ys)) ∨ (∃ o ys, H a = some (.frz o (.lst ys))) ∨ ∃ o, K.lookup a = some o ∧ o.cls = .type "list") : TyX K H x (.type (kindOf d)) := by
  cases h with
  | non => exact .base .non
  | bl b => exact .base (.bl b)
  | int b => exact .base (.int b)
  | str b => exact .base (.str b)
  | lst h r =>
    rcases h with (h | ⟨o, h⟩) | ⟨o, its, n, h, h2, _⟩
    · exact .base (.lst h)
    · exact .base (.frz h)
    · exact .kList h h2
  | tup h r =>
    rcases h with (h | ⟨o, h⟩) | ⟨o, its, n, h, h2, _⟩
    · exact .base (.tup h)
    · exact .fTuple h
    · exact .kTuple h h2
def tyOf : Bi → String
  | .isInt => "int" | .isBool => "bool" | .isStr => "str" | .isTup => "tuple" | _ => ""
def isIs : Bi → Bool
  | .isInt | .isBool | .isStr | .isTup => true
  | _ => false
theorem kit_all (b : Bi) (d : D) (hb : isIs b = true) (hd : ∀ kvs, d ≠ .dict kvs) : kitB (kindOf d) (tyOf b) = some (isKind b d) := by
  cases b <;> first | cases hb | skip
  all_goals cases d <;> first | exact absurd rfl (hd _) | (simp only [kindOf, tyOf, isKind]; decide +kernel)
theorem bIs_ok (b : Bi) (hb : isIs b = true) : CallR X (.builtin "isinstance") (fun xs H Q => ∃ x F cs r, xs = [x, .ty (tyOf b)] ∧ CRs X.K X.w F H cs [x] ∧ opBi b cs = some r ∧ ∀ v H' ts, Out X.K X.w F H r v H' ts → Q v H') := by
  intro pins s σ H xs us Q I rx ⟨x, F, cs, r, e0, hc, e, q⟩
  subst e0
  have e1 : one cs (fun a => (vw a).map fun d => iB (isKind b d)) = some r := by
    cases b <;> first | exact e | cases hb
  obtain ⟨c, rfl, e1⟩ := one_inv e1
  obtain ⟨d, h1, rfl⟩ := mp e1
  obtain ⟨x', e2, hx⟩ := hc.one
  cases e2
  have dp := hx.vw h1
  have hd : ∀ kvs, d ≠ .dict kvs := fun kvs z => by subst z; cases dp
  exact call_isi pins s σ H _ us Q I rx ⟨x, .ty (tyOf b), _, .type (tyOf b), isKind b d, rfl, .ty _, tyX_of dp (fun a xs h => by
    rcases h with (h | ⟨o, h⟩) | ⟨o, its, n, h, h2, _⟩
    · exact .inl ⟨_, h⟩
    · exact .inr (.inl ⟨_, _, h⟩)
    · exact .inr (.inr ⟨o, h, h2⟩)), kit_ty (kit_all b d hb hd), q _ _ _ (.bool _)⟩
end
end Mt

set_option Elab.async false
set_option linter.all false
set_option maxRecDepth 100000
set_option maxHeartbeats 4000000
/-! Calls of the program's own defs. -/
namespace Mt
open PySem PySem.Spec PyProof.Rows L2

/-! ### arguments -/
section
variable (K : PySem.W.Frag) (w : World) (F : Addr → Prop) (H : Hp) (σ : L2.St)
inductive AVs : List AV → List V → List (List Addr) → Prop
  | nil : AVs [] [] []
  | ln {i : Nat} {v : V} {avs : List AV} {vs : List V} {tss : List (List Addr)} : gv σ i = some v → AVs avs vs tss → AVs (.ln i :: avs) (v :: vs) ([] :: tss)
  | sl {s : Sl} {v : V} {ts : List Addr} {avs : List AV} {vs : List V} {tss : List (List Addr)} : SlR K w F H s (some v) ts → AVs avs vs tss → AVs (.sl s :: avs) (v :: vs) (ts :: tss)
end
def asA (g : Gs) : List AV → List (List Addr) → List (List Addr)
  | .ln i :: r, _ :: q => ga g.as i :: asA g r q
  | .sl _ :: r, ts :: q => ts :: asA g r q
  | _, _ => []
section
variable {K : PySem.W.Frag} {w : World} {st st' st0 : MS} {σ : L2.St} {H H' H0 : Hp} {g g' g0 : Gs}
theorem AVs.step {avs : List AV} {vs : List V} {tss : List (List Addr)} (h : AVs K w g.F H σ avs vs tss) (f : Fsh g tss.flatten) (R : Rel K w st σ H g) (s : Stp st g H st' g' H') : AVs K w g'.F H' σ avs vs tss := by
  induction h with
  | nil => exact .nil
  | ln e _ ih => exact .ln e (ih (by simpa using f))
  | @sl s' v ts avs vs tss h t ih =>
    rw [List.flatten_cons] at f
    refine .sl (h.mono s.sub (R.kl s) (R.kt s) (R.kz s) fun a ha o e => s.keep a o e fun q => f.no a (List.mem_append_left _ ha) q.own) (ih ⟨(List.nodup_append.mp f.nd).2.1, fun t ht => f.nf t (List.mem_append_right _ ht), fun t ht => f.no t (List.mem_append_right _ ht)⟩)
theorem AVs.mu {avs : List AV} {vs : List V} {tss : List (List Addr)} (h : AVs K w g.F H σ avs vs tss) : ∀ t ∈ tss.flatten, ∃ o, H t = some o ∧ Mb o := by
  induction h with
  | nil => intro t ht; simp at ht
  | ln e _ ih => intro t ht; exact ih t (by simpa using ht)
  | sl h _ ih =>
    intro t ht
    rw [List.flatten_cons] at ht
    rcases List.mem_append.mp ht with ht | ht
    · exact h.mu t ht
    · exact ih t ht
theorem AVs.len {avs : List AV} {vs : List V} {tss : List (List Addr)} {F : Addr → Prop} (h : AVs K w F H σ avs vs tss) : vs.length = avs.length := by
  induction h with
  | nil => rfl
  | ln _ _ ih => rw [List.length_cons, List.length_cons, ih]
  | sl _ _ ih => rw [List.length_cons, List.length_cons, ih]
theorem AVs.append {F : Addr → Prop} {avs bvs : List AV} {vs us : List V} {tss uss : List (List Addr)} (h : AVs K w F H σ avs vs tss) (h2 : AVs K w F H σ bvs us uss) : AVs K w F H σ (avs ++ bvs) (vs ++ us) (tss ++ uss) := by
  induction h with
  | nil => exact h2
  | ln e _ ih => exact .ln e ih
  | sl e _ ih => exact .sl e ih
theorem Rel.cons {s : Sl} {v : Option V} {a : List Addr} {F : Addr → Prop} {as : List (List Addr)} (h : SlR K w F H s v a) (nd : a.Nodup) (nf : ∀ b ∈ a, ¬ F b) (no : ∀ b ∈ a, ∀ j, b ∉ ga as j) (R : Rel K w st σ H ⟨F, as⟩) :
    Rel K w (s :: st) (v :: σ) H ⟨F, a :: as⟩ := by
  refine ⟨congrArg Nat.succ R.len, congrArg Nat.succ R.lena, fun i => ?_, fun i => ?_, fun i j b hi hj => ?_, fun i b hb => ?_, R.trk⟩
  · cases i with
    | zero => exact h
    | succ i => exact R.rep i
  · cases i with
    | zero => exact nd
    | succ i => exact R.one i
  · cases i with
    | zero =>
      cases j with
      | zero => rfl
      | succ j => exact absurd hj (no b hi j)
    | succ i =>
      cases j with
      | zero => exact absurd hi (no b hj i)
      | succ j => exact congrArg Nat.succ (R.dis i j b hi hj)
  · cases i with
    | zero => exact nf b hb
    | succ i => exact R.nof i b hb
theorem own_of_mem {F : Addr → Prop} {s : Sl} {v : Option V} {a : List Addr} {b : Addr} (h : SlR K w F H s v a) (hb : b ∈ a) : isOwn s = true := by
  cases s with
  | emp => cases (show a = [] from h); simp at hb
  | dat d => obtain ⟨rfl, _⟩ := h; simp at hb
  | scr d => obtain ⟨rfl, _⟩ := h; simp at hb
  | _ => rfl
/-- the callee's view -/
theorem args_rel (R : Rel K w st σ H g) : ∀ {avs : List AV} {vs : List V} {tss : List (List Addr)}, AVs K w g.F H σ avs vs tss → Fsh g tss.flatten → (lents st avs).Nodup →
    Rel K w (argSl st avs) (vs.map some) H ⟨g.F, asA g avs tss⟩ ∧ ∀ j b, b ∈ ga (asA g avs tss) j → (∃ i, i ∈ lents st avs ∧ b ∈ ga g.as i) ∨ b ∈ tss.flatten
  | _, _, _, .nil, _, _ => ⟨⟨rfl, rfl, fun i => rfl, fun i => List.nodup_nil, fun i j b h => (nomatch h), fun i b h => (nomatch h), R.trk⟩, fun j b h => (nomatch h)⟩
  | _, _, _, .ln (i := i) (v := v) (avs := avs) (tss := tss) e t, f, nd => by
    have rp := R.rep i
    rw [e] at rp
    have f' : Fsh g tss.flatten := by simpa using f
    have nd' : (lents st avs).Nodup := by
      unfold lents at nd
      split at nd
      · exact (List.nodup_cons.mp nd).2
      · exact nd
    obtain ⟨ih, im⟩ := args_rel R t f' nd'
    refine ⟨Rel.cons rp (R.one i) (R.nof i) (fun b hb j hj => ?_) ih, fun j b hb => ?_⟩
    · have hown : isOwn (gt st i) = true := own_of_mem rp hb
      rcases im j b hj with ⟨k, hk, hbk⟩ | hb2
      · have : k = i := R.dis k i b hbk hb
        subst this
        unfold lents at nd
        rw [if_pos hown] at nd
        exact (List.nodup_cons.mp nd).1 hk
      · exact f'.no b hb2 ⟨i, hb⟩
    · have sub : ∀ k, k ∈ lents st avs → k ∈ lents st (.ln i :: avs) := fun k hk => by
        unfold lents
        split
        · exact List.mem_cons_of_mem _ hk
        · exact hk
      cases j with
      | zero =>
        have hb : b ∈ ga g.as i := hb
        refine .inl ⟨i, ?_, hb⟩
        unfold lents
        rw [if_pos (own_of_mem rp hb)]
        exact List.mem_cons_self
      | succ j =>
        rcases im j b hb with ⟨k, hk, hbk⟩ | hb2
        · exact .inl ⟨k, sub k hk, hbk⟩
        · exact .inr (by simpa using hb2)
  | _, _, _, .sl (s := s) (ts := ts) (avs := avs) (tss := tss) h t, f, nd => by
    rw [List.flatten_cons] at f
    obtain ⟨n1, n2, n3⟩ := List.nodup_append.mp f.nd
    have f' : Fsh g tss.flatten := ⟨n2, fun t ht => f.nf t (List.mem_append_right _ ht), fun t ht => f.no t (List.mem_append_right _ ht)⟩
    obtain ⟨ih, im⟩ := args_rel R t f' nd
    refine ⟨Rel.cons h n1 (fun b hb => f.nf b (List.mem_append_left _ hb)) (fun b hb j hj => ?_) ih, fun j b hb => ?_⟩
    · rcases im j b hj with ⟨k, hk, hbk⟩ | hb2
      · exact f.no b (List.mem_append_left _ hb) ⟨k, hbk⟩
      · exact n3 b hb b hb2 rfl
    · cases j with
      | zero => exact .inr (by rw [List.flatten_cons]; exact List.mem_append_left _ hb)
      | succ j =>
        rcases im j b hb with ⟨k, hk, hbk⟩ | hb2
        · exact .inl ⟨k, hk, hbk⟩
        · exact .inr (by rw [List.flatten_cons]; exact List.mem_append_right _ hb2)
theorem posOf_as : ∀ {avs : List AV} {vs : List V} {tss : List (List Addr)} {F : Addr → Prop} {i j : Nat}, AVs K w F H σ avs vs tss → posOf avs i = some j → ga (asA g avs tss) j = ga g.as i ∧ gv (vs.map some) j = gv σ i
  | _, _, _, _, i, j, .nil, e => by cases e
  | _, _, _, _, i, j, .ln (i := k) h t, e => by
    simp only [posOf] at e
    split at e
    · rename_i hk
      cases e
      subst hk
      exact ⟨rfl, h.symm⟩
    · obtain ⟨j', e1, rfl⟩ := Option.map_eq_some_iff.mp e
      have q := posOf_as t e1
      exact q
  | _, _, _, _, i, j, .sl h t, e => by
    simp only [posOf] at e
    obtain ⟨j', e1, rfl⟩ := Option.map_eq_some_iff.mp e
    have q := posOf_as t e1
    exact q
theorem posOf_inj : ∀ {avs : List AV} {i k j : Nat}, posOf avs i = some j → posOf avs k = some j → i = k
  | [], _, _, _, e, _ => by cases e
  | .ln m :: r, i, k, j, e1, e2 => by
    simp only [posOf] at e1 e2
    split at e1
    · rename_i h1
      cases e1
      split at e2
      · rename_i h2; exact h1.symm.trans h2
      · obtain ⟨j', _, e⟩ := Option.map_eq_some_iff.mp e2
        cases e
    · obtain ⟨j', e3, rfl⟩ := Option.map_eq_some_iff.mp e1
      split at e2
      · cases e2
      · obtain ⟨j2, e4, e5⟩ := Option.map_eq_some_iff.mp e2
        have : j2 = j' := by omega
        subst this
        exact posOf_inj e3 e4
  | .sl s :: r, i, k, j, e1, e2 => by
    simp only [posOf] at e1 e2
    obtain ⟨j', e3, rfl⟩ := Option.map_eq_some_iff.mp e1
    obtain ⟨j2, e4, e5⟩ := Option.map_eq_some_iff.mp e2
    have : j2 = j' := by omega
    subst this
    exact posOf_inj e3 e4
theorem posOf_lent : ∀ {avs : List AV} {i : Nat}, i ∈ lents st avs → ∃ j, posOf avs i = some j
  | [], _, h => by simp [lents] at h
  | .ln m :: r, i, h => by
    simp only [posOf]
    split
    · exact ⟨_, rfl⟩
    · rename_i hm
      unfold lents at h
      have h' : i ∈ lents st r := by
        split at h
        · rcases List.mem_cons.mp h with e | h
          · exact absurd e.symm hm
          · exact h
        · exact h
      obtain ⟨j, e⟩ := posOf_lent h'
      exact ⟨j + 1, by rw [e]; rfl⟩
  | .sl s :: r, i, h => by
    simp only [posOf]
    obtain ⟨j, e⟩ := posOf_lent (avs := r) (i := i) h
    exact ⟨j + 1, by rw [e]; rfl⟩
theorem gbk_gt (avs : List AV) (ss : List Sl) : ∀ (st : MS) (k i : Nat), gt (gbk avs ss st k) i = if isOwn (gt st i) = true then (match posOf avs (k + i) with | some j => gt ss j | none => gt st i) else gt st i
  | [], k, i => by simp [gbk, gt, isOwn]
  | s :: r, k, 0 => by simp only [gbk, gt, Nat.add_zero]; rfl
  | s :: r, k, i + 1 => by
    simp only [gbk, gt]
    rw [gbk_gt avs ss r (k + 1) i, show k + 1 + i = k + (i + 1) by omega]
    rfl
theorem gbk_len (avs : List AV) (ss : List Sl) : ∀ (st : MS) (k : Nat), (gbk avs ss st k).length = st.length
  | [], _ => rfl
  | s :: r, k => by simp only [gbk, List.length_cons]; rw [gbk_len avs ss r (k + 1)]
/-- the same for what is owned -/
def gba (avs : List AV) (bs : List (List Addr)) : MS → List (List Addr) → Nat → List (List Addr)
  | s :: r, a :: q, i => (if isOwn s then (match posOf avs i with | some j => ga bs j | none => a) else a) :: gba avs bs r q (i + 1)
  | _, _, _ => []
theorem gba_ga (avs : List AV) (bs : List (List Addr)) : ∀ (st : MS) (as : List (List Addr)) (k i : Nat), as.length = st.length → ga (gba avs bs st as k) i = if isOwn (gt st i) = true then (match posOf avs (k + i) with | some j => ga bs j | none => ga as i) else ga as i
  | [], [], k, i, _ => by simp [gba, ga, gt, isOwn]
  | s :: r, a :: q, k, 0, _ => by simp only [gba, ga, gt, Nat.add_zero]; rfl
  | s :: r, a :: q, k, i + 1, h => by
    simp only [gba, ga, gt]
    rw [gba_ga avs bs r q (k + 1) i (by simpa using h), show k + 1 + i = k + (i + 1) by omega]
    rfl
theorem gba_len (avs : List AV) (bs : List (List Addr)) : ∀ (st : MS) (as : List (List Addr)) (k : Nat), as.length = st.length → (gba avs bs st as k).length = st.length
  | [], [], _, _ => rfl
  | s :: r, a :: q, k, h => by simp only [gba, List.length_cons]; rw [gba_len avs bs r q (k + 1) (by simpa using h)]
end

/-- what a def promises -/
def spF (K : PySem.W.Frag) (w : World) (cl : Call) (f : Nat) : Sp := fun vs H Q _ => ∃ args g r ss, Rel K w args (vs.map some) H g ∧ cl f args = some (r, ss) ∧ emps args = false ∧
  ∀ v H' g' ts, Rel K w ss (vs.map some) H' g' → Stp args g H ss g' H' → RR K w g'.F H' [] r v ts → Fsh g' ts → (∀ t ∈ ts, H t = none) → Q v H'
section
variable {K : PySem.W.Frag} {w : World} {st st' st0 : MS} {σ : L2.St} {H H' H0 : Hp} {g g' g0 : Gs}
theorem RR.nopl {F : Addr → Prop} {r : R} {v : V} {ts : List Addr} (h : RR K w F H [] r v ts) : RR K w F H σ r v ts := by
  cases r with
  | pl i => obtain ⟨_, e⟩ := h; cases e
  | pl2 i k => exact h.elim
  | _ => exact h
theorem doCall_ok {cl : Call} {f : Nat} {avs : List AV} {vs : List V} {tss : List (List Addr)} {r : R} {Q : VK} {E : XK} (R : Rel K w st σ H g) (S : Stp st0 g0 H0 st g H) (A : AVs K w g.F H σ avs vs tss) (f0 : Fsh g tss.flatten) (nw : ∀ t ∈ tss.flatten, H0 t = none)
    (e : doCall cl f avs st = some (r, st')) (q : ∀ v H' g' ts, Pst K w σ st0 g0 H0 st' r v H' g' ts → Q v H') : spF K w cl f vs H Q E := by
  unfold doCall at e
  split at e
  · rename_i hc
    rw [Bool.and_eq_true] at hc
    have nd : (lents st avs).Nodup := of_decide_eq_true hc.1
    have hem : emps (argSl st avs) = false := by simpa using hc.2
    split at e
    · rename_i r' ss ec
      cases e
      obtain ⟨RA, MA⟩ := args_rel R A f0 nd
      refine ⟨argSl st avs, ⟨g.F, asA g avs tss⟩, r, ss, RA, ec, hem, fun v H' g1 ts R1 S1 X1 F1 N1 => ?_⟩
      have hgt : ∀ i, gt (giveBack avs ss st) i = if isOwn (gt st i) = true then (match posOf avs i with | some j => gt ss j | none => gt st i) else gt st i := fun i => by
        unfold giveBack
        rw [gbk_gt, Nat.zero_add]
      have hga : ∀ i, ga (gba avs g1.as st g.as 0) i = if isOwn (gt st i) = true then (match posOf avs i with | some j => ga g1.as j | none => ga g.as i) else ga g.as i := fun i => by
        rw [gba_ga _ _ _ _ _ _ R.lena, Nat.zero_add]
      -- each slot: given back, or as it was
      have cs : ∀ i, (∃ j, isOwn (gt st i) = true ∧ posOf avs i = some j ∧ gt (giveBack avs ss st) i = gt ss j ∧ ga (gba avs g1.as st g.as 0) i = ga g1.as j) ∨ ((isOwn (gt st i) = true → posOf avs i = none) ∧ gt (giveBack avs ss st) i = gt st i ∧ ga (gba avs g1.as st g.as 0) i = ga g.as i) := fun i => by
        rw [hgt, hga]
        by_cases ho : isOwn (gt st i) = true
        · rw [if_pos ho, if_pos ho]
          cases hp : posOf avs i with
          | none => exact .inr ⟨fun _ => rfl, rfl, rfl⟩
          | some j => exact .inl ⟨j, ho, rfl, rfl, rfl⟩
        · rw [if_neg ho, if_neg ho]
          exact .inr ⟨fun h => absurd h ho, rfl, rfl⟩
      have H0n : ∀ {b : Addr}, H b = none → H0 b = none := fun h => none_back S h
      have trk : ∀ {i : Nat} {b : Addr}, b ∈ ga g.as i → H b ≠ none := fun hb z => by
        obtain ⟨o, e, _⟩ := R.opnMu ⟨_, hb⟩
        rw [z] at e; cases e
      -- where a lent slot's addresses come from
      have from1 : ∀ {i j : Nat} {b : Addr}, posOf avs i = some j → b ∈ ga g1.as j → b ∈ ga g.as i ∨ H b = none := fun {i j b} hp hb => by
        rcases S1.all j b hb with z | z
        · rw [← (posOf_as (g := g) A hp).1]; exact .inl z
        · exact .inr z
      have opA : ∀ {b : Addr}, Opn (argSl st avs) ⟨g.F, asA g avs tss⟩ b → Opn st g b ∨ b ∈ tss.flatten := by
        have key : ∀ {avs : List AV} {vs : List V} {tss : List (List Addr)}, AVs K w g.F H σ avs vs tss → ∀ (j : Nat) (b : Addr), isOpen (gt (argSl st avs) j) = true → b ∈ ga (asA g avs tss) j → Opn st g b ∨ b ∈ tss.flatten := by
          intro avs vs tss h
          induction h with
          | nil => intro j b _ hb; exact (nomatch hb)
          | @ln i v avs vs tss _ _ ih =>
            intro j b ho hb
            cases j with
            | zero => exact .inl ⟨i, ho, hb⟩
            | succ j =>
              rcases ih j b ho hb with z | z
              · exact .inl z
              · exact .inr (by simpa using z)
          | sl _ _ ih =>
            intro j b ho hb
            rw [List.flatten_cons]
            cases j with
            | zero => exact .inr (List.mem_append_left _ hb)
            | succ j =>
              rcases ih j b ho hb with z | z
              · exact .inl z
              · exact .inr (List.mem_append_right _ z)
        intro b h
        obtain ⟨j, ho, hb⟩ := h
        exact key A j _ ho hb
      have keepH : ∀ {b : Addr} {o : HO}, H b = some o → ¬ Opn st g b → b ∉ tss.flatten → H' b = some o := fun e1 n1 n2 => S1.keep _ _ e1 fun z => (opA z).elim n1 n2
      have R2 : Rel K w (giveBack avs ss st) σ H' ⟨g1.F, gba avs g1.as st g.as 0⟩ := by
        refine ⟨?_, ?_, fun i => ?_, fun i => ?_, fun i k b hi hk => ?_, fun i b hb => ?_, R1.trk⟩
        · unfold giveBack; rw [gbk_len]; exact R.len
        · unfold giveBack
          show (gba avs g1.as st g.as 0).length = _
          rw [gba_len _ _ _ _ _ R.lena, gbk_len]
        · rcases cs i with ⟨j, ho, hp, e1, e2⟩ | ⟨hn, e1, e2⟩
          · show SlR K w g1.F H' (gt (giveBack avs ss st) i) (gv σ i) (ga (gba avs g1.as st g.as 0) i)
            rw [e1, e2, ← (posOf_as (g := g) A hp).2]
            exact R1.rep j
          · show SlR K w g1.F H' (gt (giveBack avs ss st) i) (gv σ i) (ga (gba avs g1.as st g.as 0) i)
            rw [e1, e2]
            refine (R.rep i).mono S1.sub (fun b xs f h => RA.kl S1 b xs f h) (fun b xs h => RA.kt S1 b xs h) (fun b o u h => RA.kz S1 b o u h) fun a ha o eo => S1.keep a o eo fun ⟨j, hj1, hj2⟩ => ?_
            rcases MA j a hj2 with ⟨k, hk, hak⟩ | ht
            · have : k = i := R.dis k i a hak ha
              subst this
              obtain ⟨j', hj'⟩ := posOf_lent hk
              rw [hn (own_of_mem (R.rep k) ha)] at hj'
              cases hj'
            · exact f0.no a ht ⟨i, ha⟩
        · rcases cs i with ⟨j, ho, hp, e1, e2⟩ | ⟨hn, e1, e2⟩
          · show (ga (gba avs g1.as st g.as 0) i).Nodup
            rw [e2]; exact R1.one j
          · show (ga (gba avs g1.as st g.as 0) i).Nodup
            rw [e2]; exact R.one i
        · have hi : b ∈ ga (gba avs g1.as st g.as 0) i := hi
          have hk : b ∈ ga (gba avs g1.as st g.as 0) k := hk
          rcases cs i with ⟨j, ho, hp, _, e2⟩ | ⟨hn, _, e2⟩ <;> rcases cs k with ⟨j', ho', hp', _, e2'⟩ | ⟨hn', _, e2'⟩ <;> rw [e2] at hi <;> rw [e2'] at hk
          · have : j = j' := R1.dis j j' b hi hk
            subst this
            exact posOf_inj hp hp'
          · rcases from1 hp hi with z | z
            · exact R.dis i k b z hk
            · exact absurd z (trk hk)
          · rcases from1 hp' hk with z | z
            · exact R.dis i k b hi z
            · exact absurd z (trk hi)
          · exact R.dis i k b hi hk
        · have hb : b ∈ ga (gba avs g1.as st g.as 0) i := hb
          rcases cs i with ⟨j, ho, hp, _, e2⟩ | ⟨hn, _, e2⟩ <;> rw [e2] at hb
          · exact R1.nof j b hb
          · intro f
            rcases S1.new b f with z | ⟨j, z⟩ | z
            · exact R.nof i b hb z
            · rcases MA j b z with ⟨k, hk, hbk⟩ | ht
              · have : k = i := R.dis k i b hbk hb
                subst this
                obtain ⟨j', hj'⟩ := posOf_lent hk
                rw [hn (own_of_mem (R.rep k) hb)] at hj'
                cases hj'
              · exact f0.no b ht ⟨i, hb⟩
            · exact trk hb z
      refine q v H' ⟨g1.F, gba avs g1.as st g.as 0⟩ ts ⟨R2, ⟨fun b o e1 n1 => ?_, fun b h => S1.sub b (S.sub b h), fun b h => ?_, fun b ⟨i, ho, hb⟩ => ?_, fun i b hb => ?_, fun b h => S1.there b (S.there b h)⟩, X1.nopl, ⟨F1.nd, F1.nf, fun t ht ⟨i, hi⟩ => ?_⟩, fun t ht => H0n (N1 t ht)⟩
      · refine keepH (S.keep b o e1 n1) (fun z => ?_) fun z => ?_
        · rcases S.opn b z with z | z
          · exact n1 z
          · rw [e1] at z; cases z
        · rw [nw b z] at e1; cases e1
      · rcases S1.new b h with z | ⟨j, z⟩ | z
        · exact S.new b z
        · rcases MA j b z with ⟨k, hk, hbk⟩ | ht
          · rcases S.all k b hbk with z | z
            · exact .inr (.inl ⟨k, z⟩)
            · exact .inr (.inr z)
          · exact .inr (.inr (nw b ht))
        · exact .inr (.inr (H0n z))
      · have hb : b ∈ ga (gba avs g1.as st g.as 0) i := hb
        rcases cs i with ⟨j, _, hp, e1, e2⟩ | ⟨hn, e1, e2⟩ <;> rw [e1] at ho <;> rw [e2] at hb
        · rcases S1.opn b ⟨j, ho, hb⟩ with z | z
          · rcases opA z with z | z
            · exact S.opn b z
            · exact .inr (nw b z)
          · exact .inr (H0n z)
        · exact S.opn b ⟨i, ho, hb⟩
      · have hb : b ∈ ga (gba avs g1.as st g.as 0) i := hb
        rcases cs i with ⟨j, _, hp, _, e2⟩ | ⟨hn, _, e2⟩ <;> rw [e2] at hb
        · rcases from1 hp hb with z | z
          · exact S.all i b z
          · exact .inr (H0n z)
        · exact S.all i b hb
      · have hi : t ∈ ga (gba avs g1.as st g.as 0) i := hi
        rcases cs i with ⟨j, _, hp, _, e2⟩ | ⟨hn, _, e2⟩ <;> rw [e2] at hi
        · exact F1.no t ht ⟨j, hi⟩
        · exact trk hi (N1 t ht)
    · cases e
  · cases e
end
end Mt

set_option Elab.async false
set_option linter.all false
set_option maxRecDepth 100000
set_option maxHeartbeats 4000000
/-! Calls of own defs: arguments, keywords, the rule. -/
namespace Mt
open PySem PySem.Spec PyProof.Rows L2

def tAr (K : PySem.W.Frag) (w : World) (ev : MS → Option (List AV × MS)) : TA := fun σ H Q => ∃ st g avs st', Rel K w st σ H g ∧ ev st = some (avs, st') ∧
  ∀ vs H' g' tss, Rel K w st' σ H' g' → Stp st g H st' g' H' → AVs K w g'.F H' σ avs vs tss → Fsh g' tss.flatten → (∀ t ∈ tss.flatten, H t = none) → Q vs H'
inductive EA1 (X : Cx) (cl : Call) : Expr → E → Prop
  | ln {a : Expr} {i : Nat} : PE X a (tVar i) → EA1 X cl a (.ln i)
  | ex {a : Expr} {a' : E} : EV X a (evE cl a') → EA1 X cl a (.ex a')
inductive EAs (X : Cx) (cl : Call) : List Expr → List E → Prop
  | nil : EAs X cl [] []
  | cons {a : Expr} {a' : E} {es : List Expr} {es' : List E} : noStar a = true → EA1 X cl a a' → EAs X cl es es' → EAs X cl (a :: es) (a' :: es')
inductive EKs (X : Cx) (cl : Call) : List Keyword → List E → Prop
  | nil : EKs X cl [] []
  | cons {kw : Keyword} {a' : E} {es : List Keyword} {es' : List E} : kw.arg.isSome = true → EA1 X cl kw.value a' → EKs X cl es es' → EKs X cl (kw :: es) (a' :: es')
section
variable {X : Cx} {cl : Call}
theorem evAs_ln {i : Nat} {es : List E} {st st' : MS} {z : List AV} (h : evAs cl (.ln i :: es) st = some (z, st')) : isEmp (gt st i) = false ∧ ∃ r, evAs cl es st = some (r, st') ∧ z = .ln i :: r := by
  simp only [evAs] at h
  split at h
  · cases h
  · rename_i hn
    refine ⟨by simpa using hn, ?_⟩
    split at h
    · rename_i r st3 h3
      cases h
      exact ⟨_, h3, rfl⟩
    · cases h
theorem evAs_ex {e : E} {es : List E} {st st' : MS} {z : List AV} (h : evAs cl (.ex e :: es) st = some (z, st')) : ∃ x st1 s st2 r, evE cl e st = some (x, st1) ∧ own st1 x = some (s, st2) ∧ evAs cl es st2 = some (r, st') ∧ z = .sl s :: r := by
  simp only [evAs] at h
  split at h
  · rename_i x st1 h1
    split at h
    · rename_i s st2 h2
      split at h
      · rename_i r st3 h3
        cases h
        exact ⟨_, _, _, _, _, h1, h2, h3, rfl⟩
      · cases h
    · cases h
  · cases h
theorem evAs_nil {st st' : MS} {z : List AV} (h : evAs cl [] st = some (z, st')) : z = [] ∧ st' = st := by
  simp only [evAs] at h
  cases h
  exact ⟨rfl, rfl⟩
theorem SlR.val {K : PySem.W.Frag} {w : World} {F : Addr → Prop} {H : Hp} {s : Sl} {v : Option V} {as : List Addr} (h : SlR K w F H s v as) (e : isEmp s = false) : ∃ x, v = some x := by
  cases s with
  | emp => cases e
  | dat d => obtain ⟨_, x, h, _⟩ := h; exact ⟨x, h⟩
  | lst lk xs => obtain ⟨a, _, h, _⟩ := h; exact ⟨_, h⟩
  | dct lk xs => obtain ⟨a, _, _, h, _⟩ := h; exact ⟨_, h⟩
  | dll lk xs => obtain ⟨a, _, _, h, _⟩ := h; exact ⟨_, h⟩
  | ddl lk xs => obtain ⟨a, _, _, _, h, _⟩ := h; exact ⟨_, h⟩
  | scr xs => obtain ⟨_, a, _, h, _⟩ := h; exact ⟨_, h⟩
/-- one argument, in front of the others (whose reading is given from every state) -/
theorem arg_step {K : PySem.W.Frag} {w : World} {σ : L2.St} {H : Hp} {a' : E} {es' : List E} {te : TE} {tr : TA} {e : Expr} {Q : List V → Hp → Prop}
    (h1 : EA1 X cl e a') (hK : X.K = K) (hw : X.w = w) (hte : ∀ i, a' = .ln i → ∀ σ H Q, tVar i σ H Q → te σ H Q) (hte2 : ∀ b, a' = .ex b → ∀ σ H Q, tD K w (evE cl b) σ H Q → te σ H Q)
    (hr : ∀ σ H Q, tAr K w (evAs cl es') σ H Q → tr σ H Q) (h : tAr K w (evAs cl (a' :: es')) σ H Q) : te σ H fun x H1 => tr σ H1 fun xs H2 => Q (x :: xs) H2 := by
  obtain ⟨st, g, avs, st', R, e, q⟩ := h
  cases h1 with
  | @ln i hv =>
    obtain ⟨he, r, h3, rfl⟩ := evAs_ln e
    obtain ⟨v, hg⟩ := (R.rep i).val he
    refine hte i rfl _ _ _ ⟨v, gv_get hg, hr _ _ _ ⟨st, g, r, st', R, h3, fun vs H' g' tss R' S' A F N => ?_⟩⟩
    exact q _ H' g' _ R' S' (.ln hg A) (by simpa using F) (by simpa using N)
  | @ex b hb =>
    obtain ⟨x, st1, s, st2, r, h3, h4, h5, rfl⟩ := evAs_ex e
    refine hte2 b rfl _ _ _ ⟨st, g, x, st1, R, h3, fun v H1 g1 ts P => ?_⟩
    obtain ⟨g2, ts2, P2⟩ := own_ok P h4
    refine hr _ _ _ ⟨st2, g2, r, st', P2.rl, h5, fun vs H' g' tss R' S' A F N => ?_⟩
    have tr2 := P2.sr.mu
    have ns : ∀ t ∈ ts2, t ∉ tss.flatten := fun t ht h2 => by
      obtain ⟨o, eo, _⟩ := tr2 t ht
      rw [N t h2] at eo; cases eo
    have f2 : Fsh g' ts2 := by
      refine ⟨P2.fs.nd, fun t ht f => ?_, fun t ht ⟨i, hi⟩ => ?_⟩
      · obtain ⟨o, eo, _⟩ := tr2 t ht
        rcases S'.new t f with z | z | z
        · exact P2.fs.nf t ht z
        · exact P2.fs.no t ht z
        · rw [eo] at z; cases z
      · obtain ⟨o, eo, _⟩ := tr2 t ht
        rcases S'.all i t hi with z | z
        · exact P2.fs.no t ht ⟨i, z⟩
        · rw [eo] at z; cases z
    refine q _ H' g' (ts2 :: tss) R' (P2.sp.trans S') (.sl (P2.sr.mono S'.sub (P2.rl.kl S') (P2.rl.kt S') (P2.rl.kz S') fun a ha o e => S'.keep a o e fun z => P2.fs.no a ha z.own) A) ?_ ?_
    · rw [List.flatten_cons]
      exact ⟨List.nodup_append.mpr ⟨f2.nd, F.nd, fun a ha b hb e => by subst e; exact ns a ha hb⟩, fun t ht => (List.mem_append.mp ht).elim (f2.nf t) (F.nf t), fun t ht => (List.mem_append.mp ht).elim (f2.no t) (F.no t)⟩
    · intro t ht
      rw [List.flatten_cons] at ht
      rcases List.mem_append.mp ht with ht | ht
      · exact P2.nw t ht
      · exact none_back P2.sp (N t ht)
end
end Mt

set_option Elab.async false
set_option linter.all false
set_option maxRecDepth 100000
set_option maxHeartbeats 4000000
/-! Calls of own defs: the rule. -/
namespace Mt
open PySem PySem.Spec PyProof.Rows L2

/-! ### what the kit asks of the lists of arguments -/
theorem stars {env : Env} {pos : Pos} : ∀ {es : List Expr}, es.all noStar = true → (backTo pos (starEach es env)).any (·.1) = false
  | [], _ => rfl
  | e :: es, h => by
    rw [List.all_cons, Bool.and_eq_true] at h
    rw [star_cons h.1]
    show (false || (backTo pos (starEach es env)).any (·.1)) = false
    rw [stars h.2]; rfl
theorem kw_none {env : Env} {pos : Pos} : ∀ {kws : List Keyword}, kws.all (·.arg.isSome) = true → (backToKw pos (keywordEach kws env)).any (·.1.isNone) = false
  | [], _ => rfl
  | ⟨nm, e, p⟩ :: kws, h => by
    rw [List.all_cons, Bool.and_eq_true] at h
    show (nm.isNone || (backToKw pos (keywordEach kws env)).any (·.1.isNone)) = false
    rw [kw_none h.2]
    cases nm with
    | none => exact nomatch h.1
    | some x => rfl
theorem kw_all {env : Env} {pos : Pos} : ∀ {kws : List Keyword}, kws.all (·.arg.isSome) = true → (backToKw pos (keywordEach kws env)).all (·.1.isSome) = true
  | [], _ => rfl
  | ⟨nm, e, p⟩ :: kws, h => by
    rw [List.all_cons, Bool.and_eq_true] at h
    show (nm.isSome && (backToKw pos (keywordEach kws env)).all (·.1.isSome)) = true
    rw [kw_all h.2, Bool.and_true]
    exact h.1
theorem kw_names {env : Env} {pos : Pos} : ∀ {kws : List Keyword}, (backToKw pos (keywordEach kws env)).filterMap (·.1) = kws.filterMap (·.arg)
  | [] => rfl
  | ⟨nm, e, p⟩ :: kws => by
    show List.filterMap (·.1) ((nm, _) :: backToKw pos (keywordEach kws env)) = List.filterMap (·.arg) (⟨nm, e, p⟩ :: kws)
    rw [List.filterMap_cons, List.filterMap_cons, kw_names]

section
variable {X : Cx} {cl : Call}
theorem pa_as : ∀ {es : List Expr} {es' : List E}, EAs X cl es es' → PA X es (tAr X.K X.w (evAs cl es'))
  | _, _, .nil => paimp pa_nil fun σ H Q ⟨st, g, ds, st', R, e, q⟩ => by
    simp only [evAs] at e
    cases e
    exact q [] H g [] R .refl .nil .nil fun _ h => nomatch h
  | _, _, .cons (a := a) (a' := a') hs ha hr => by
    cases ha with
    | @ln i hv => exact paimp (pa_cons hv (pa_as hr) (star_cons hs)) fun σ H Q h => arg_step (.ln hv) rfl rfl (fun j e σ H Q q => by cases e; exact q) (fun b e => nomatch e) (fun σ H Q q => q) h
    | @ex b hb => exact paimp (pa_cons hb (pa_as hr) (star_cons hs)) fun σ H Q h => arg_step (.ex hb) rfl rfl (fun j e => nomatch e) (fun b e σ H Q q => by cases e; exact q) (fun σ H Q q => q) h
theorem pkimp {e : List Keyword} {t t' : TA} (h : PK X e t) (f : ∀ σ H Q, t' σ H Q → t σ H Q) : PK X e t' := ⟨fun pos pins s σ H Q I q => h.run pos pins s σ H Q I (f _ _ _ q)⟩
theorem pk_as : ∀ {es : List Keyword} {es' : List E}, EKs X cl es es' → PK X es (tAr X.K X.w (evAs cl es'))
  | _, _, .nil => pkimp pk_nil fun σ H Q ⟨st, g, ds, st', R, e, q⟩ => by
    simp only [evAs] at e
    cases e
    exact q [] H g [] R .refl .nil .nil fun _ h => nomatch h
  | ⟨nm, a, p⟩ :: _, _, .cons (a' := a') hs ha hr => by
    cases ha with
    | @ln i hv => exact pkimp (pk_cons hv (pk_as hr)) fun σ H Q h => arg_step (.ln hv) rfl rfl (fun j e σ H Q q => by cases e; exact q) (fun b e => nomatch e) (fun σ H Q q => q) h
    | @ex b hb => exact pkimp (pk_cons hb (pk_as hr)) fun σ H Q h => arg_step (.ex hb) rfl rfl (fun j e => nomatch e) (fun b e σ H Q q => by cases e; exact q) (fun σ H Q q => q) h

theorem evAs_append : ∀ {as bs : List E} {st st' : MS} {z : List AV}, evAs cl (as ++ bs) st = some (z, st') → ∃ x st1 y, evAs cl as st = some (x, st1) ∧ evAs cl bs st1 = some (y, st') ∧ z = x ++ y
  | [], bs, st, st', z, h => ⟨[], st, z, by simp only [evAs], h, rfl⟩
  | a :: as, bs, st, st', z, h => by
    rw [List.cons_append] at h
    cases a with
    | ln i =>
      obtain ⟨he, r, h2, rfl⟩ := evAs_ln h
      obtain ⟨x, st1, y, e1, e2, rfl⟩ := evAs_append h2
      exact ⟨.ln i :: x, st1, y, by simp only [evAs]; rw [he, if_neg Bool.false_ne_true, e1], e2, rfl⟩
    | ex a =>
      obtain ⟨v, s1, s, s2, r, h1, h2, h3, rfl⟩ := evAs_ex h
      obtain ⟨x, st1, y, e1, e2, rfl⟩ := evAs_append h3
      exact ⟨.sl s :: x, st1, y, by simp only [evAs, h1, h2, e1], e2, rfl⟩
    | _ => simp only [evAs] at h; cases h

/-- values in the parameters' order -/
def arrV : List (Option V) → List V → List V
  | [], r => r
  | none :: p, a :: r => a :: arrV p r
  | none :: _, [] => []
  | some d :: p, r => d :: arrV p r
def PatOk (K : PySem.W.Frag) : List (Option Cn) → List (Option V) → Prop
  | [], [] => True
  | none :: p, none :: q => PatOk K p q
  | some d :: p, some v :: q => (∀ F H, Rp K F H v (cnD d)) ∧ PatOk K p q
  | _, _ => False
theorem arr_ok {K : PySem.W.Frag} {w : World} {F : Addr → Prop} {H : Hp} {σ : L2.St} : ∀ {p : List (Option Cn)} {q : List (Option V)} {avs bvs : List AV} {vs : List V} {tss : List (List Addr)}, PatOk K p q → AVs K w F H σ avs vs tss → arr p avs = some bvs → ∃ uss, AVs K w F H σ bvs (arrV q vs) uss ∧ uss.flatten = tss.flatten
  | [], [], [], _, _, _, _, .nil, e => by
    simp only [arr] at e
    cases e
    exact ⟨[], .nil, rfl⟩
  | [], [], _ :: _, _, _, _, _, _, e => by simp only [arr] at e; cases e
  | none :: p, none :: q, [], _, _, _, h, A, e => by simp only [arr] at e; cases e
  | none :: p, none :: q, a :: avs, bvs, vs, tss, h, A, e => by
    simp only [arr] at e
    split at e
    · rename_i z hz
      cases e
      cases A with
      | ln hg A =>
        obtain ⟨uss, A2, eq⟩ := arr_ok (p := p) (q := q) h A hz
        exact ⟨[] :: uss, .ln hg A2, by rw [List.flatten_cons, List.flatten_cons, eq]⟩
      | @sl s v ts avs vs tss hg A =>
        obtain ⟨uss, A2, eq⟩ := arr_ok (p := p) (q := q) h A hz
        exact ⟨ts :: uss, .sl hg A2, by rw [List.flatten_cons, List.flatten_cons, eq]⟩
    · cases e
  | some d :: p, some v :: q, avs, bvs, vs, tss, h, A, e => by
    have e : (match arr p avs with | some z => some (AV.sl (.dat (cnD d)) :: z) | none => none) = some bvs := by
      cases avs <;> exact e
    split at e
    · rename_i z hz
      cases e
      obtain ⟨uss, A2, eq⟩ := arr_ok (p := p) (q := q) h.2 A hz
      have eV : arrV (some v :: q) vs = v :: arrV q vs := by cases vs <;> rfl
      rw [eV]
      exact ⟨[] :: uss, .sl (s := .dat (cnD d)) ⟨rfl, v, rfl, h.1 _ _⟩ A2, by rw [List.flatten_cons, eq]; rfl⟩
    · cases e
  | [], _ :: _, _, _, _, _, h, _, _ => h.elim
  | none :: _, [], _, _, _, _, h, _, _ => h.elim
  | none :: _, some _ :: _, _, _, _, _, h, _, _ => h.elim
  | some _ :: _, [], _, _, _, _, h, _, _ => h.elim
  | some _ :: _, none :: _, _, _, _, _, h, _, _ => h.elim
theorem call_inv {f : Nat} {pat : List (Option Cn)} {as : List E} {st st' : MS} {r : R} (h : evE cl (.call f pat as) st = some (r, st')) : ∃ avs st1 bvs, evAs cl as st = some (avs, st1) ∧ arr pat avs = some bvs ∧ doCall cl f bvs st1 = some (r, st') := by
  simp only [evE] at h
  split at h
  · rename_i avs st1 h1
    split at h
    · rename_i bvs h2
      exact ⟨_, _, _, h1, h2, h⟩
    · cases h
  · cases h
/-- a def that may be called: x(.. n values, keywords ks), the defaults as in pat -/
structure FCall (X : Cx) (cl : Call) (f : Nat) (x : Str) (n : Nat) (ks : List Str) (pat : List (Option Cn)) : Prop where
  ex : ∃ (k : Nat) (fa : Addr) (fd : FuncData) (ps : List Str) (g : List Value → List Value → List Value) (gV : List V → List V → List V) (q : List (Option V)),
    FnOk X.prog X.w X.K X.mg X.base CX0 k fa fd ps (spF X.K X.w cl f) ∧ Room k X.A ∧ X.mg x = some (.ref fa) ∧ PySem.W.keepIn X.K (.ref fa) = true ∧ KBn X.K fd ps n ks g gV ∧ PatOk X.K pat q ∧
      ∀ vs zs, vs.length = n → zs.length = ks.length → gV vs zs = arrV q (vs ++ zs)
/-- the call's end, from the arguments -/
theorem call_end {f : Nat} {pat : List (Option Cn)} {q : List (Option V)} {avs bvs : List AV} {vs : List V} {tss : List (List Addr)} {st st1 st' : MS} {σ : L2.St} {H H1 : Hp} {g g1 : Gs} {r : R} {Q : VK} {Ex : XK}
    (R1 : Rel X.K X.w st1 σ H1 g1) (S1 : Stp st g H st1 g1 H1) (A : AVs X.K X.w g1.F H1 σ avs vs tss) (F : Fsh g1 tss.flatten) (N : ∀ t ∈ tss.flatten, H t = none) (hp : PatOk X.K pat q) (h2 : arr pat avs = some bvs) (h3 : doCall cl f bvs st1 = some (r, st'))
    (hQ : ∀ v H' g' ts, Pst X.K X.w σ st g H st' r v H' g' ts → Q v H') : spF X.K X.w cl f (arrV q vs) H1 Q Ex := by
  obtain ⟨uss, A2, eq⟩ := arr_ok hp A h2
  exact doCall_ok R1 S1 A2 (by rw [eq]; exact F) (by rw [eq]; exact N) h3 hQ
theorem EAs.noStars {es : List Expr} {es' : List E} (h : EAs X cl es es') : es.all noStar = true := by
  induction h with
  | nil => rfl
  | cons hs _ _ ih => rw [List.all_cons, hs, ih]; rfl
theorem EKs.names {es : List Keyword} {es' : List E} (h : EKs X cl es es') : es.all (·.arg.isSome) = true := by
  induction h with
  | nil => rfl
  | cons hs _ _ ih => rw [List.all_cons, hs, ih]; rfl
theorem AVs.len2 {K : PySem.W.Frag} {w : World} {F : Addr → Prop} {H : Hp} {σ : L2.St} {avs : List AV} {vs : List V} {tss : List (List Addr)} (h : AVs K w F H σ avs vs tss) : vs.length = avs.length := by
  induction h with
  | nil => rfl
  | ln _ _ ih => rw [List.length_cons, List.length_cons, ih]
  | sl _ _ ih => rw [List.length_cons, List.length_cons, ih]
theorem evAs_len : ∀ {as : List E} {st st' : MS} {z : List AV}, evAs cl as st = some (z, st') → z.length = as.length
  | [], st, st', z, h => by obtain ⟨rfl, _⟩ := evAs_nil h; rfl
  | a :: as, st, st', z, h => by
    cases a with
    | ln i =>
      obtain ⟨he, r, h2, rfl⟩ := evAs_ln h
      rw [List.length_cons, List.length_cons, evAs_len h2]
    | ex a =>
      obtain ⟨v, s1, s, s2, r, h1, h2, h3, rfl⟩ := evAs_ex h
      rw [List.length_cons, List.length_cons, evAs_len h3]
    | _ => simp only [evAs] at h; cases h
theorem EAs.len {es : List Expr} {es' : List E} (h : EAs X cl es es') : es.length = es'.length := by
  induction h with
  | nil => rfl
  | cons _ _ _ ih => rw [List.length_cons, List.length_cons, ih]
theorem EKs.len {es : List Keyword} {es' : List E} (h : EKs X cl es es') : es.length = es'.length := by
  induction h with
  | nil => rfl
  | cons _ _ _ ih => rw [List.length_cons, List.length_cons, ih]
theorem ev_call {f : Nat} {x : Str} {n : Nat} {ks : List Str} {pat : List (Option Cn)} {e : Expr} {es : List Expr} {as : List E} {kws : List Keyword} {bs : List E} {p pos : Pos} (C : FCall X cl f x n ks pat) (hg : Gl X x) (hdb : (x == ("__debug__" : Str)) = false)
    (ha : EAs X cl (e :: es) as) (hk : EKs X cl kws bs) (hn : (e :: es).length = n) (hks : kws.filterMap (·.arg) = ks) (hl : kws.length = ks.length) : EV X (.Call (.Name x p) (e :: es) kws pos) (evE cl (.call f pat (as ++ bs))) := by
  obtain ⟨k, fa, fd, ps, g, gV, q, F, hr, hm, hkp, hb, hp, hgV⟩ := C.ex
  have ns := ha.noStars
  refine peimp (pe_callN (E := fun _ _ _ => False) F hr hg hm hkp hb (fun _ _ _ _ _ _ _ h => False.elim h) (pa_as ha) (pk_as hk) (kw_all hk.names) (kw_names.trans hks) hdb (star_cons (by rw [List.all_cons, Bool.and_eq_true] at ns; exact ns.1)) (by rw [stars ns, kw_none hk.names]; rfl))
    fun σ H Q ⟨st, gs, r, st', R, ev, hq⟩ => ?_
  obtain ⟨avs, st1, bvs, h1, h2, h3⟩ := call_inv ev
  obtain ⟨xs, st0, ys, e1, e2, rfl⟩ := evAs_append h1
  refine ⟨st, gs, xs, st0, R, e1, fun vs H1 g1 tss R1 S1 A1 F1 N1 => ⟨st0, g1, ys, st1, R1, e2, fun zs H2 g2 uss R2 S2 A2 F2 N2 => ?_⟩⟩
  have l1 : vs.length = n := by rw [A1.len2, evAs_len e1, ← ha.len, hn]
  have l2 : zs.length = ks.length := by rw [A2.len2, evAs_len e2, ← hk.len, hl]
  refine ⟨l1, l2, ?_⟩
  rw [hgV vs zs l1 l2]
  have A1' := A1.step F1 R1 S2
  have mu1 := A1.mu
  have f1 : Fsh g2 tss.flatten := by
    refine ⟨F1.nd, fun t ht z => ?_, fun t ht ⟨i, z⟩ => ?_⟩
    · obtain ⟨o, eo, _⟩ := mu1 t ht
      rcases S2.new t z with z | z | z
      · exact F1.nf t ht z
      · exact F1.no t ht z
      · rw [eo] at z; cases z
    · obtain ⟨o, eo, _⟩ := mu1 t ht
      rcases S2.all i t z with z | z
      · exact F1.no t ht ⟨i, z⟩
      · rw [eo] at z; cases z
  refine call_end R2 (S1.trans S2) (A1'.append A2) ⟨?_, fun t ht => ?_, fun t ht => ?_⟩ (fun t ht => ?_) hp h2 h3 hq
  · rw [List.flatten_append]
    refine List.nodup_append.mpr ⟨F1.nd, F2.nd, fun a h1 b h2 e => ?_⟩
    subst e
    obtain ⟨o, eo, _⟩ := mu1 a h1
    rw [N2 a h2] at eo; cases eo
  · rw [List.flatten_append] at ht
    exact (List.mem_append.mp ht).elim (f1.nf t) (F2.nf t)
  · rw [List.flatten_append] at ht
    exact (List.mem_append.mp ht).elim (f1.no t) (F2.no t)
  · rw [List.flatten_append] at ht
    exact (List.mem_append.mp ht).elim (N1 t) fun z => none_back S1 (N2 t z)
/-- f(k = v, ..) -/
theorem pe_callN0 {CX : CXT} {k : Nat} {fa : Addr} {fd : FuncData} {ps ks : List Str} {sp : Sp} {Ex : XK} {x : Str} {p pos : Pos} {kws : List Keyword} {tk : TA} {g : List Value → List Value → List Value} {gV : List V → List V → List V} (F : FnOk X.prog X.w X.K X.mg X.base CX k fa fd ps sp) (hr : Room k X.A) (hg : Gl X x) (hm : X.mg x = some (.ref fa))
    (hk : PySem.W.keepIn X.K (.ref fa) = true) (hb : KBn X.K fd ps 0 ks g gV) (hx : Passes CX X Ex) (hkw : PK X kws tk) (hall : (backToKw pos (keywordEach kws X.env)).all (·.1.isSome) = true) (hks : (backToKw pos (keywordEach kws X.env)).filterMap (·.1) = ks) (hdb : (x == ("__debug__" : Str)) = false)
    (hpl : ((backTo pos (starEach [] X.env)).any (·.1) || (backToKw pos (keywordEach kws X.env)).any (·.1.isNone)) = false) :
    PE X (.Call (.Name x p) [] kws pos) (fun σ H Q => tk σ H fun zs H2 => zs.length = ks.length ∧ sp (gV [] zs) H2 Q Ex) := by
  refine ⟨fun pins s σ H Q I h => wpAny_Call_Name_kw (ld_glob I hg hm ?_ hdb)⟩
  refine PySem.W.callWith_KW0 (h₀ := X.base) I.ok.mod.kin hk hall (thn (hkw.run pos pins s σ H _ I h) fun ws s2 ⟨zs, H2, I2, rz, l2, q2⟩ => ⟨I2.kIn, ?_⟩) hpl
  rw [hks]
  exact run_fnN (us := []) F hr hb hx I2 .nil rz rfl l2 q2
theorem ev_call0 {f : Nat} {x : Str} {ks : List Str} {pat : List (Option Cn)} {kws : List Keyword} {bs : List E} {p pos : Pos} (C : FCall X cl f x 0 ks pat) (hg : Gl X x) (hdb : (x == ("__debug__" : Str)) = false)
    (hk : EKs X cl kws bs) (hks : kws.filterMap (·.arg) = ks) (hl : kws.length = ks.length) : EV X (.Call (.Name x p) [] kws pos) (evE cl (.call f pat bs)) := by
  obtain ⟨k, fa, fd, ps, g, gV, q, F, hr, hm, hkp, hb, hp, hgV⟩ := C.ex
  refine peimp (pe_callN0 (Ex := fun _ _ _ => False) F hr hg hm hkp hb (fun _ _ _ _ _ _ _ h => False.elim h) (pk_as hk) (kw_all hk.names) (kw_names.trans hks) hdb (by rw [kw_none hk.names]; rfl))
    fun σ H Q ⟨st, gs, r, st', Rh, ev, hq⟩ => ?_
  obtain ⟨avs, st1, bvs, h1, h2, h3⟩ := call_inv ev
  refine ⟨st, gs, avs, st1, Rh, h1, fun zs H1 g1 tss R1 S1 A1 F1 N1 => ?_⟩
  have l2 : zs.length = ks.length := by rw [A1.len2, evAs_len h1, ← hk.len, hl]
  refine ⟨l2, ?_⟩
  rw [hgV [] zs rfl l2, List.nil_append]
  exact call_end R1 S1 A1 F1 N1 hp h2 h3 hq
end
end Mt

set_option Elab.async false
set_option linter.all false
set_option maxRecDepth 100000
set_option maxHeartbeats 4000000
/-! Indexes, chains, values of and / or, built-ins. -/
namespace Mt
open PySem PySem.Spec PyProof.Rows L2

def noSlice : Expr → Bool
  | .Slice .. => false
  | _ => true
theorem plainIx {b : Expr} (h : noSlice b = true) : PlainIx b := by
  intro o i
  cases b <;> first | rfl | cases h
section
variable {X : Cx} {cl : Call}
theorem ev_ix {a b : Expr} {a' b' : E} {pos : Pos} (hu : X.A.units + 200 < cLine) (ha : EV X a (evE cl a')) (hb : EV X b (evE cl b')) (hs : noSlice b = true) : EV X (.Subscript a b pos) (evE cl (.ix a' b')) := by
  rw [ix_eq]
  exact peimp (pe_ix (opIx_ok hu) ha hb (plainIx hs)) (tD_two fun F H cx cy r x y Q hx hy e q => ⟨F, cx, cy, r, hx, hy, e, q⟩)
theorem chn_inv {op op2 : Cop} {a b c : E} {st st' : MS} {r : R} (h : evE cl (.chn op op2 a b c) st = some (r, st')) : ∃ x st1 y st2 cx cy k, evE cl a st = some (x, st1) ∧ evE cl b st1 = some (y, st2) ∧ look st2 x = some cx ∧ look st2 y = some cy ∧ opCmp op cx cy = some k ∧
    ((k = false ∧ st' = st2 ∧ r = iB false) ∨ (k = true ∧ ∃ z cy2 cz b2, evE cl c st2 = some (z, st') ∧ look st' y = some cy2 ∧ look st' z = some cz ∧ opCmp op2 cy2 cz = some b2 ∧ r = iB b2)) := by
  simp only [evE] at h
  split at h
  · rename_i x st1 h1
    split at h
    · rename_i y st2 h2
      split at h
      · rename_i cx cy h3 h4
        split at h
        · rename_i h5
          split at h
          · rename_i z st3 h6
            split at h
            · rename_i cy2 cz h7 h8
              split at h
              · rename_i b2 h9
                cases h
                exact ⟨_, _, _, _, _, _, _, h1, h2, h3, h4, h5, .inr ⟨rfl, _, _, _, _, h6, h7, h8, h9, rfl⟩⟩
              · cases h
            · cases h
          · cases h
        · rename_i h5
          cases h
          exact ⟨_, _, _, _, _, _, _, h1, h2, h3, h4, h5, .inl ⟨rfl, rfl, rfl⟩⟩
        · cases h
      · cases h
    · cases h
  · cases h
theorem chn_two {op op2 : Cop} {a' b' c' : E} : ∀ σ H Q, tD X.K X.w (evE cl (.chn op op2 a' b' c')) σ H Q → tChain (rCm X.K X.w (opCmp op)) (rCm X.K X.w (opCmp op2)) (tD X.K X.w (evE cl a')) (tD X.K X.w (evE cl b')) (tD X.K X.w (evE cl c')) σ H Q :=
  fun σ H Q ⟨st, g, r, st', R, e, q⟩ => by
    obtain ⟨x, st1, y, st2, cx, cy, k, e1, e2, e3, e4, e5, e6⟩ := chn_inv e
    refine ⟨st, g, x, st1, R, e1, fun v1 H1 g1 ts1 P1 => ⟨st1, g1, y, st2, P1.rl, e2, fun v2 H2 g2 ts2 P2 => ?_⟩⟩
    obtain ⟨Q1, Q2⟩ := P1.seq P2
    refine ⟨g2.F, cx, cy, k, Q1.cr e3, Q2.cr e4, e5, k, rfl, ?_⟩
    rcases e6 with ⟨rfl, rfl, rfl⟩ | ⟨rfl, z, cy2, cz, b2, e6, e7, e8, e9, rfl⟩
    · exact iteF (q _ _ g2 _ (.mk' Q1.rl Q1.sp (.bl _)))
    · refine iteT ⟨st2, g2, z, st', Q2.rl, e6, fun v3 H3 g3 ts3 P3 => ?_⟩
      obtain ⟨Q3, Q4⟩ := Q2.seq P3
      exact ⟨g3.F, cy2, cz, b2, Q3.cr e7, Q4.cr e8, e9, q _ _ g3 _ (.mk' Q3.rl Q3.sp (.bl _))⟩
theorem ev_chn {a b c : Expr} {a' b' c' : E} {op op2 : Cop} {pos : Pos} (hu : X.A.units + 200 < cLine) (ha : EV X a (evE cl a')) (hb : EV X b (evE cl b')) (hc : EV X c (evE cl c')) (hm : behindInMarks (copOf op2) c = false) :
    EV X (.Compare a [copOf op, copOf op2] [b, c] pos) (evE cl (.chn op op2 a' b' c')) := peimp (pe_chain (opCmp_ok hu op) (opCmp_ok hu op2) ha hb hc hm) chn_two
theorem eb_chn {a b c : Expr} {a' b' c' : E} {op op2 : Cop} {pos : Pos} (hu : X.A.units + 200 < cLine) (ha : EV X a (evE cl a')) (hb : EV X b (evE cl b')) (hc : EV X c (evE cl c')) (hm : behindInMarks (copOf op2) c = false) :
    EB X (.Compare a [copOf op, copOf op2] [b, c] pos) (evE cl (.chn op op2 a' b' c')) := ptimp (pt_chain (opCmp_ok hu op) (opCmp_ok hu op2) ha hb hc hm) (tB_of chn_two)

/-! ### values of and, or -/
inductive EVl (X : Cx) (cl : Call) : List Expr → List E → Prop
  | nil : EVl X cl [] []
  | cons {a : Expr} {a' : E} {es : List Expr} {es' : List E} : EV X a (evE cl a') → EVl X cl es es' → EVl X cl (a :: es) (a' :: es')
theorem and_inv {a b : E} {es : List E} {st st' : MS} {r : R} (h : evAnd cl (a :: b :: es) st = some (r, st')) : ∃ x st1 c k, evE cl a st = some (x, st1) ∧ look st1 x = some c ∧ opTru c = some k ∧ ((k = true ∧ evAnd cl (b :: es) st1 = some (r, st')) ∨ (k = false ∧ r = x ∧ st' = st1)) := by
  simp only [evAnd] at h
  split at h
  · rename_i x st1 h1
    split at h
    · rename_i c h2
      split at h
      · rename_i h3
        exact ⟨_, _, _, _, h1, h2, h3, .inl ⟨rfl, by simpa only [evAnd] using h⟩⟩
      · rename_i h3
        cases h
        exact ⟨_, _, _, _, h1, h2, h3, .inr ⟨rfl, rfl, rfl⟩⟩
      · cases h
    · cases h
  · cases h
theorem or_inv {a b : E} {es : List E} {st st' : MS} {r : R} (h : evOr cl (a :: b :: es) st = some (r, st')) : ∃ x st1 c k, evE cl a st = some (x, st1) ∧ look st1 x = some c ∧ opTru c = some k ∧ ((k = false ∧ evOr cl (b :: es) st1 = some (r, st')) ∨ (k = true ∧ r = x ∧ st' = st1)) := by
  simp only [evOr] at h
  split at h
  · rename_i x st1 h1
    split at h
    · rename_i c h2
      split at h
      · rename_i h3
        exact ⟨_, _, _, _, h1, h2, h3, .inl ⟨rfl, by simpa only [evOr] using h⟩⟩
      · rename_i h3
        cases h
        exact ⟨_, _, _, _, h1, h2, h3, .inr ⟨rfl, rfl, rfl⟩⟩
      · cases h
    · cases h
  · cases h
theorem ev_andL {pos : Pos} : ∀ {a : Expr} {es : List Expr} {a' : E} {es' : List E}, EV X a (evE cl a') → EVl X cl es es' → EV X (.BoolOp .And (a :: es) pos) (evAnd cl (a' :: es'))
  | a, [], a', _, ha, .nil => peimp (pe_one ha) fun σ H Q ⟨st, g, b, st', R, e, q⟩ => ⟨st, g, b, st', R, by simpa only [evAnd] using e, q⟩
  | a, b :: es, a', _, ha, .cons hb hr => peimp (pe_andT ha (ev_andL hb hr)) fun σ H Q ⟨st, g, r, st', R, e, q⟩ => by
    obtain ⟨x, st1, c, k, e1, e2, e3, e4⟩ := and_inv e
    refine ⟨st, g, x, st1, R, e1, fun v H1 g1 ts P => ⟨k, seq_truV (P.cr e2) e3, ?_⟩⟩
    rcases e4 with ⟨rfl, e4⟩ | ⟨rfl, rfl, rfl⟩
    · exact iteT ⟨st1, g1, r, st', P.rl, e4, fun v2 H2 g2 ts2 P2 => q _ _ _ _ (.of_step P.sp P2)⟩
    · exact iteF (q _ _ _ _ P)
theorem ev_orL {pos : Pos} : ∀ {a : Expr} {es : List Expr} {a' : E} {es' : List E}, EV X a (evE cl a') → EVl X cl es es' → EV X (.BoolOp .Or (a :: es) pos) (evOr cl (a' :: es'))
  | a, [], a', _, ha, .nil => peimp (pe_one ha) fun σ H Q ⟨st, g, b, st', R, e, q⟩ => ⟨st, g, b, st', R, by simpa only [evOr] using e, q⟩
  | a, b :: es, a', _, ha, .cons hb hr => peimp (pe_orT ha (ev_orL hb hr)) fun σ H Q ⟨st, g, r, st', R, e, q⟩ => by
    obtain ⟨x, st1, c, k, e1, e2, e3, e4⟩ := or_inv e
    refine ⟨st, g, x, st1, R, e1, fun v H1 g1 ts P => ⟨k, seq_truV (P.cr e2) e3, ?_⟩⟩
    rcases e4 with ⟨rfl, e4⟩ | ⟨rfl, rfl, rfl⟩
    · exact iteF ⟨st1, g1, r, st', P.rl, e4, fun v2 H2 g2 ts2 P2 => q _ _ _ _ (.of_step P.sp P2)⟩
    · exact iteT (q _ _ _ _ P)
theorem ev_and {pos : Pos} {a : Expr} {es : List Expr} {a' : E} {es' : List E} (ha : EV X a (evE cl a')) (hr : EVl X cl es es') : EV X (.BoolOp .And (a :: es) pos) (evE cl (.and (a' :: es'))) := by
  have : evE cl (.and (a' :: es')) = evAnd cl (a' :: es') := by funext st; simp only [evE]
  rw [this]
  exact ev_andL ha hr
theorem ev_or {pos : Pos} {a : Expr} {es : List Expr} {a' : E} {es' : List E} (ha : EV X a (evE cl a')) (hr : EVl X cl es es') : EV X (.BoolOp .Or (a :: es) pos) (evE cl (.or (a' :: es'))) := by
  have : evE cl (.or (a' :: es')) = evOr cl (a' :: es') := by funext st; simp only [evE]
  rw [this]
  exact ev_orL ha hr

/-! ### built-ins -/
theorem EVs.noStars {es : List Expr} {es' : List E} (h : EVs X cl es es') : es.all noStar = true := by
  induction h with
  | nil => rfl
  | cons hs _ _ ih => rw [List.all_cons, hs, ih]; rfl
theorem stars1 {e : Expr} {es : List Expr} (h : (e :: es).all noStar = true) : noStar e = true ∧ es.all noStar = true := by
  rw [List.all_cons, Bool.and_eq_true] at h
  exact h
theorem ev_bi {b : Bi} {id : String} {x : Str} {e : Expr} {es : List Expr} {es' : List E} {p pos : Pos} (hc : CallR X (.builtin id) (rCl X.K X.w (opBi b))) (hg : Gl X x) (hm : X.mg x = none) (hv : bootBuiltins x = some (.builtin id)) (hn : x ≠ "__name__") (hdb : (x == ("__debug__" : Str)) = false)
    (ha : EVs X cl (e :: es) es') : EV X (.Call (.Name x p) (e :: es) [] pos) (evE cl (.bi b es')) :=
  peimp (pe_callB hc hg hm hv (pa_es ha) hn hdb (star_cons (stars1 ha.noStars).1) (stars (stars1 ha.noStars).2)) (tL_bi fun F H cs r vs Q hc e q => ⟨F, cs, r, hc, e, q⟩)
theorem ev_biT {b : Bi} {id : String} {x : Str} {e : Expr} {es : List Expr} {es' : List E} {p pos : Pos} (hc : CallR X (.type id) (rCl X.K X.w (opBi b))) (hg : Gl X x) (hm : X.mg x = none) (hv : bootBuiltins x = some (.type id)) (hn : x ≠ "__name__") (hdb : (x == ("__debug__" : Str)) = false)
    (ha : EVs X cl (e :: es) es') : EV X (.Call (.Name x p) (e :: es) [] pos) (evE cl (.bi b es')) :=
  peimp (pe_callTy hc hg hm hv (pa_es ha) hn hdb (star_cons (stars1 ha.noStars).1) (stars (stars1 ha.noStars).2)) (tL_bi fun F H cs r vs Q hc e q => ⟨F, cs, r, hc, e, q⟩)
/-- isinstance(e, T) -/
theorem ev_is {b : Bi} (hb : isIs b = true) {a : Expr} {a' : E} {x y : Str} {p p2 pos : Pos} (hy : bootBuiltins y = some (.type (tyOf b))) (hgy : Gl X y) (hmy : X.mg y = none) (hny : y ≠ "__name__") (hdy : (y == ("__debug__" : Str)) = false)
    (hg : Gl X x) (hm : X.mg x = none) (hv : bootBuiltins x = some (.builtin "isinstance")) (hn : x ≠ "__name__") (hdb : (x == ("__debug__" : Str)) = false) (hs : noStar a = true) (ha : EV X a (evE cl a')) :
    EV X (.Call (.Name x p) [a, .Name y p2] [] pos) (evE cl (.bi b [a'])) := by
  refine peimp (pe_callB (bIs_ok b hb) hg hm hv (pa_cons ha (pa_cons (pe_bltn (v := .ty (tyOf b)) hgy hmy hy rfl hny hdy) pa_nil rfl) (star_cons hs)) hn hdb (star_cons hs) rfl) fun σ H Q ⟨st, g, r, st', R, e, q⟩ => ?_
  obtain ⟨rs, cs, h1, h2, h3⟩ := bi_inv e
  obtain ⟨z, st1, rs', h4, h5, rfl⟩ := evEs_inv h1
  simp only [evEs] at h5
  cases h5
  refine ⟨st, g, z, st', R, h4, fun v H1 g1 ts P => ?_⟩
  have e1 : ∃ c, look st' z = some c ∧ cs = [c] := by
    simp only [looks] at h2
    split at h2
    · rename_i c d h6 h7
      cases h7
      cases h2
      exact ⟨c, h6, rfl⟩
    · cases h2
  obtain ⟨c, h6, rfl⟩ := e1
  exact ⟨v, g1.F, [c], r, rfl, .cons (P.cr h6) .nil, h3, fun u H2 us o => q u H2 g1 us (.out P.rl P.sp o)⟩
theorem rev_inv {a : E} {st st' : MS} {r : R} (h : evE cl (.rev a) st = some (r, st')) : ∃ x c xs, evE cl a st = some (x, st') ∧ look st' x = some c ∧ asL c = some xs ∧ r = .lst xs.reverse := by
  simp only [evE] at h
  split at h
  · rename_i x st1 h1
    split at h
    · rename_i c h2
      split at h
      · rename_i xs h3
        cases h
        exact ⟨_, _, _, h1, h2, h3, rfl⟩
      · cases h
    · cases h
  · cases h
theorem ev_rev {e : Expr} {a : E} {k : Nat} {p1 p2 p3 pos : Pos} (he : EV X e (evE cl a)) : EV X (.Subscript e (.Slice none none (some (.UnaryOp .USub (.Constant (.int 1) k p1) p2)) p3) pos) (evE cl (.rev a)) :=
  peimp (pe_revL he) fun σ H Q ⟨st, g, r, st', R, e, q⟩ => by
    obtain ⟨x, c, xs, h1, h2, h3, rfl⟩ := rev_inv e
    refine ⟨st, g, x, st', R, h1, fun v H1 g1 ts P => ?_⟩
    obtain ⟨a, vs, rfl, hA, rA⟩ := (P.cr h2).asL h3
    exact ⟨a, vs, rfl, SqL.of hA, fun p hp => q _ _ g1 _ (.out P.rl P.sp (.lst hp rA.reverse))⟩
end
end Mt

set_option Elab.async false
set_option linter.all false
set_option maxRecDepth 100000
set_option maxHeartbeats 4000000
/-! Writing what a slot owns. -/
namespace Mt
open PySem PySem.Spec PyProof.Rows L2

section
variable {K : PySem.W.Frag} {w : World} {st st' : MS} {σ : L2.St} {H : Hp} {g : Gs} {i : Nat} {a : Addr} {o : HO} {s' : Sl}
/-- an owned address is written: what stands elsewhere -/
theorem upd_kl (R : Rel K w st σ H g) (ha : a ∈ ga g.as i) : ∀ b xs, g.F b → H b = some (.lst xs) → upd H a o b = some (.lst xs) := fun b xs f h => by
  rw [upd_ne (fun e => by subst e; exact R.nof i _ ha f)]; exact h
theorem upd_kt (R : Rel K w st σ H g) (ha : a ∈ ga g.as i) : ∀ b xs, Rd H b (.tup xs) → Rd (upd H a o) b (.tup xs) := fun b xs h => by
  obtain ⟨u, eu, mu⟩ := R.opnMu ⟨i, ha⟩
  rcases h with h | ⟨z, h⟩
  · exact .inl (by rw [upd_ne (fun e => by subst e; rw [eu] at h; cases h; exact mu)]; exact h)
  · exact .inr ⟨z, by rw [upd_ne (fun e => by subst e; rw [eu] at h; cases h; exact mu)]; exact h⟩
theorem upd_kz (R : Rel K w st σ H g) (ha : a ∈ ga g.as i) : ∀ b z u, H b = some (.frz z u) → upd H a o b = some (.frz z u) := fun b z u h => by
  obtain ⟨u, eu, mu⟩ := R.opnMu ⟨i, ha⟩
  rw [upd_ne (fun e => by subst e; rw [eu] at h; cases h; exact mu)]; exact h
theorem Rel.write (R : Rel K w st σ H g) (ha : a ∈ ga g.as i) (hrep : SlR K w g.F (upd H a o) s' (gv σ i) (ga g.as i)) : Rel K w (st.set i s') σ (upd H a o) g := by
  have hi : i < st.length := gt_lt (fun e => by
    have q := R.rep i
    rw [e] at q
    rw [show ga g.as i = [] from q] at ha
    cases ha)
  refine ⟨by rw [List.length_set]; exact R.len, by rw [List.length_set]; exact R.lena, fun j => ?_, R.one, R.dis, R.nof, fun b f => ?_⟩
  · rw [gt_set hi]
    by_cases hj : j = i
    · subst hj
      rw [if_pos rfl]
      exact hrep
    · rw [if_neg hj]
      refine (R.rep j).mono (fun _ h => h) (upd_kl R ha) (upd_kt R ha) (upd_kz R ha) fun b hb u eu => ?_
      rw [upd_ne (fun e => by subst e; exact hj (R.dis j i _ hb ha))]
      exact eu
  · obtain ⟨u, eu⟩ := R.trk b f
    rw [upd_ne (fun e => by subst e; exact R.nof i _ ha f)]
    exact ⟨u, eu⟩
theorem Stp.write (R : Rel K w st σ H g) (ha : a ∈ ga g.as i) (ho : isOpen (gt st i) = true) : Stp st g H (st.set i s') g (upd H a o) := by
  have hi : i < st.length := gt_lt (fun e => by rw [e] at ho; cases ho)
  refine ⟨fun b u e n => ?_, fun _ h => h, fun _ h => .inl h, fun b ⟨j, hj, hb⟩ => .inl ?_, fun _ _ h => .inl h, fun b n => ?_⟩
  · rw [upd_ne (fun z => by subst z; exact n ⟨i, ho, ha⟩)]; exact e
  · rw [gt_set hi] at hj
    by_cases z : j = i
    · subst z; exact ⟨j, ho, hb⟩
    · rw [if_neg z] at hj; exact ⟨j, hj, hb⟩
  · by_cases z : b = a
    · subst z; rw [upd_same]; exact fun z => nomatch z
    · rw [upd_ne z]; exact n
/-- an owned list is written anew -/
theorem write_lst {xs ys : List D} {us vs : List V} (R : Rel K w st σ H g) (hs : gt st i = .lst false xs) (hv : gv σ i = some (.ref a)) (hA : H a = some (.lst vs)) (r : RpA K g.F H us ys) :
    Rel K w (st.set i (.lst false ys)) σ (upd H a (.lst us)) g ∧ Stp st g H (st.set i (.lst false ys)) g (upd H a (.lst us)) := by
  have q := R.rep i
  rw [hs, hv] at q
  obtain ⟨a', e1, e2, _⟩ := q
  cases e2
  have ha : a ∈ ga g.as i := by rw [e1]; exact List.mem_singleton.mpr rfl
  refine ⟨R.write ha ?_, .write R ha (by rw [hs]; rfl)⟩
  rw [e1, hv]
  exact ⟨a, rfl, rfl, us, upd_same, r.mono (fun _ h => h) (upd_kl R ha) (upd_kt R ha)⟩
theorem lst_at {lk : Bool} {xs : List D} (R : Rel K w st σ H g) (hs : gt st i = .lst lk xs) : ∃ a vs, gv σ i = some (.ref a) ∧ H a = some (.lst vs) ∧ RpA K g.F H vs xs := by
  have q := R.rep i
  rw [hs] at q
  obtain ⟨a, e1, e2, vs, h1, h2⟩ := q
  exact ⟨a, vs, e2, h1, h2⟩
end

/-- a method of an owned list: the answer and what it holds then -/
def rMuL (K : PySem.W.Frag) (m : Mu) : V → List V → Hp → VK → Prop := fun x vs H Q => ∃ F a us xs ds r ys, x = .ref a ∧ H a = some (.lst us) ∧ RpA K F H us xs ∧ RpA K F H vs ds ∧ opMu m (.lst false xs) ds = some (.dat r, .lst false ys) ∧
  ∀ v us', Rp K F H v r → RpA K F H us' ys → Q v (upd H a (.lst us'))
theorem RpA.one_inv {K : PySem.W.Frag} {F : Addr → Prop} {H : Hp} {vs : List V} {d : D} (h : RpA K F H vs [d]) : ∃ v, vs = [v] ∧ Rp K F H v d := by
  cases h with
  | cons h t => cases t; exact ⟨_, rfl, h⟩
theorem getLast?_ix {α : Type} (l : List α) : l.getLast? = l[l.length - 1]? := List.getLast?_eq_getElem?
section
variable {X : Cx} {cl : Call}
theorem mu_append : MtM X "list.append" (rMuL X.K .append) := by
  intro pins s σ H x vs v us Q I rx rv ⟨F, a, ws, xs, ds, r, ys, ex, hA, rA, rB, e, q⟩
  match ds, e with
  | [d], e =>
    simp only [opMu] at e
    split at e
    · rename_i hl
      cases e
      obtain ⟨y, rfl, ry⟩ := rB.one_inv
      exact mt_append pins s σ H x _ v us Q I rx rv ⟨a, ws, y, ex, rfl, hA, sz_lt (by rw [rA.len]; exact hl), q _ _ .non (rA.append (.one ry))⟩
    · cases e
  | [], e => cases e
  | _ :: _ :: _, e => cases e
theorem mu_extend : MtM X "list.extend" (rMuL X.K .extend) := by
  intro pins s σ H x vs v us Q I rx rv ⟨F, a, ws, xs, ds, r, ys, ex, hA, rA, rB, e, q⟩
  match ds, e with
  | [d], e =>
    cases d with
    | list zs =>
      simp only [opMu] at e
      split at e
      · rename_i hl
        cases e
        obtain ⟨y, rfl, ry⟩ := rB.one_inv
        cases ry with
        | @lst b us _ hb rb =>
          exact mt_extend pins s σ H x _ v _ Q I rx rv ⟨a, b, ws, us, ex, rfl, hA, hb.2, sz_le (by rw [rA.len, rb.len]; exact hl), q _ _ .non (rA.append rb)⟩
      · cases e
    | _ => cases e
  | [], e => cases e
  | _ :: _ :: _, e => cases e
theorem mu_pop : MtM X "list.pop" (rMuL X.K .pop) := by
  intro pins s σ H x vs v us Q I rx rv ⟨F, a, ws, xs, ds, r, ys, ex, hA, rA, rB, e, q⟩
  match ds, e with
  | [], e =>
    cases rB
    simp only [opMu] at e
    split at e
    · rename_i d hd
      cases e
      rw [getLast?_ix, ← rA.len] at hd
      obtain ⟨y, hy, ry⟩ := rA.getD hd
      exact mt_pop pins s σ H x _ v us Q I rx rv ⟨a, ws, y, ex, rfl, hA, hy, q _ _ ry rA.dropLast⟩
    · cases e
  | [d], e =>
    cases d with
    | int i =>
      obtain ⟨y, rfl, ry⟩ := rB.one_inv
      cases ry.int_inv
      simp only [opMu] at e
      split at e
      · rename_i hi
        split at e
        · rename_i j hj
          split at e
          · rename_i d hd
            cases e
            obtain ⟨z, hz, rz⟩ := rA.getD hd
            exact mt_popAt pins s σ H x _ v us Q I rx rv ⟨a, ws, i, j, z, ex, rfl, hA, hi.1, hi.2, by rw [rA.len]; exact (ixN_seq hj).1, hz, q _ _ rz (rA.erase j)⟩
          · cases e
        · cases e
      · cases e
    | _ => cases e
  | _ :: _ :: _, e => cases e

/-! ### the rules -/
theorem mu_inv {m : Mu} {i : Nat} {es : List E} {st st' : MS} {r : R} (h : evE cl (.mu m i es) st = some (r, st')) : muOk m (gt st i) = true ∧ ∃ xs st1 s, evVs cl es st = some (xs, st1) ∧ opMu m (gt st1 i) xs = some (r, s) ∧ st' = st1.set i s := by
  simp only [evE] at h
  split at h
  · rename_i h0
    refine ⟨h0, ?_⟩
    split at h
    · rename_i xs st1 h1
      split at h
      · rename_i r' s h2
        cases h
        exact ⟨_, _, _, h1, h2, rfl⟩
      · cases h
    · cases h
  · cases h
theorem muOk_lst {m : Mu} {s : Sl} (h : muOk m s = true) (hm : m ≠ .setdefault) : ∃ lk xs, s = .lst lk xs := by
  cases s with
  | lst lk xs => exact ⟨lk, xs, rfl⟩
  | dct lk xs => cases m <;> first | exact absurd rfl hm | cases h
  | _ => cases h
theorem opMu_lst {m : Mu} {s s' : Sl} {ds : List D} {r : R} (h : opMu m s ds = some (r, s')) (hm : m ≠ .setdefault) : ∃ xs ys d, s = .lst false xs ∧ s' = .lst false ys ∧ r = .dat d := by
  have key : ∀ xs, opMu m (.lst false xs) ds = some (r, s') → ∃ ys d, s' = .lst false ys ∧ r = .dat d := fun xs h => by
    cases m with
    | append =>
      match ds, h with
      | [d], h => simp only [opMu] at h; split at h <;> cases h; exact ⟨_, _, rfl, rfl⟩
      | [], h => cases h
      | _ :: _ :: _, h => cases h
    | extend =>
      match ds, h with
      | [d], h => cases d <;> first | (simp only [opMu] at h; split at h <;> cases h; exact ⟨_, _, rfl, rfl⟩) | cases h
      | [], h => cases h
      | _ :: _ :: _, h => cases h
    | pop =>
      match ds, h with
      | [], h => simp only [opMu] at h; split at h <;> cases h; exact ⟨_, _, rfl, rfl⟩
      | [d], h =>
        cases d with
        | int i =>
          simp only [opMu] at h
          split at h
          · split at h
            · split at h <;> cases h
              exact ⟨_, _, rfl, rfl⟩
            · cases h
          · cases h
        | _ => cases h
      | _ :: _ :: _, h => cases h
    | setdefault => exact absurd rfl hm
    | insert => cases h
  cases s with
  | lst lk xs =>
    cases lk with
    | false => obtain ⟨ys, d, e1, e2⟩ := key xs h; exact ⟨xs, ys, d, rfl, e1, e2⟩
    | true => cases m <;> first | exact absurd rfl hm | cases h
  | _ => cases m <;> first | exact absurd rfl hm | cases h
/-- the end of a method of a list, behind its arguments -/
theorem mu_end {m : Mu} {i : Nat} {st st1 : MS} {σ : L2.St} {H H1 : Hp} {g g1 : Gs} {x : V} {vs : List V} {ds : List D} {r : R} {s : Sl} {Q : VK} (hm : m ≠ .setdefault) (hv : gv σ i = some x) (R1 : Rel X.K X.w st1 σ H1 g1) (S1 : Stp st g H st1 g1 H1) (rA : RpA X.K g1.F H1 vs ds)
    (e : opMu m (gt st1 i) ds = some (r, s)) (q : ∀ v H' g' ts, Pst X.K X.w σ st g H (st1.set i s) r v H' g' ts → Q v H') : rMuL X.K m x vs H1 Q := by
  obtain ⟨xs, ys, d, e1, rfl, rfl⟩ := opMu_lst e hm
  obtain ⟨a, us, e2, e3, e4⟩ := lst_at R1 e1
  rw [hv] at e2
  cases e2
  rw [e1] at e
  refine ⟨g1.F, a, us, xs, ds, d, ys, rfl, e3, e4, rA, e, fun v us' rv ru => ?_⟩
  obtain ⟨R2, S2⟩ := write_lst R1 e1 hv e3 ru
  exact q v _ g1 [] (.mk' R2 (S1.trans S2) (R1.rp S2 rv))
theorem tyL {i : Nat} {st : MS} {σ : L2.St} {H : Hp} {g : Gs} {x : V} {lk : Bool} {xs : List D} (R : Rel X.K X.w st σ H g) (hs : gt st i = .lst lk xs) (hv : gv σ i = some x) : tyV X.K "list" x H := by
  obtain ⟨a, us, e2, e3, e4⟩ := lst_at R hs
  rw [hv] at e2
  cases e2
  exact .inl ⟨rfl, us, SqL.of e3⟩
theorem ev_mu {m : Mu} {id : String} {i : Nat} {o e : Expr} {es : List Expr} {es' : List E} {name : Str} {apos cpos : Pos} (hm : m ≠ .setdefault) (slot : Slot "list" name id) (hty : typeOf (.builtin id) = pure (.type "method_descriptor")) (hr : MtM X id (rMuL X.K m))
    (ho : PE X o (tVar i)) (hbase : attributeBase o name X.env (eval o X.env) = eval o X.env) (ha : EVs X cl (e :: es) es') (hl : (apos.endLine == cpos.line) = true) (hlen : (e :: es).length < 30) : EV X (.Call (.Attribute o name apos) (e :: es) [] cpos) (evE cl (.mu m i es')) := by
  have ns := ha.noStars
  refine peimp (pe_bm PySem.F.plainAttrs_list slot hty hr ho (pa_vs ha) hbase ?_ hl (star_cons (stars1 ns).1) (stars (stars1 ns).2)) fun σ H Q ⟨st, g, r, st', R, ev, q⟩ => ?_
  · rw [Bool.and_eq_true, Bool.and_eq_true]
    refine ⟨⟨?_, rfl⟩, ?_⟩
    · have h := stars (env := X.env) (pos := cpos) ns
      rw [List.all_eq_not_any_not, Bool.not_eq_true']
      simpa using h
    · exact decide_eq_true (by simpa using hlen)
  · obtain ⟨h0, xs, st1, s, h1, h2, rfl⟩ := mu_inv ev
    obtain ⟨lk, ys, hs⟩ := muOk_lst h0 hm
    obtain ⟨a, us, hv, _⟩ := lst_at R hs
    exact ⟨.ref a, gv_get hv, tyL R hs hv, st, g, xs, st1, R, h1, fun vs H1 g1 R1 S1 rA => mu_end hm hv R1 S1 rA h2 q⟩
theorem ev_mu0 {m : Mu} {id : String} {i : Nat} {o : Expr} {name : Str} {apos cpos : Pos} (hm : m ≠ .setdefault) (slot : Slot "list" name id) (hty : typeOf (.builtin id) = pure (.type "method_descriptor")) (hr : MtM X id (rMuL X.K m))
    (ho : PE X o (tVar i)) (hbase : attributeBase o name X.env (eval o X.env) = eval o X.env) (hl : (apos.endLine == cpos.line) = true) : EV X (.Call (.Attribute o name apos) [] [] cpos) (evE cl (.mu m i [])) := by
  refine peimp (pe_bm0 PySem.F.plainAttrs_list slot hty hr ho hbase hl) fun σ H Q ⟨st, g, r, st', R, ev, q⟩ => ?_
  obtain ⟨h0, xs, st1, s, h1, h2, rfl⟩ := mu_inv ev
  simp only [evVs] at h1
  cases h1
  obtain ⟨lk, ys, hs⟩ := muOk_lst h0 hm
  obtain ⟨a, us, hv, _⟩ := lst_at R hs
  exact ⟨.ref a, gv_get hv, tyL R hs hv, mu_end hm hv R .refl .nil h2 q⟩
theorem base_name {x name : Str} {p : Pos} : attributeBase (.Name x p) name X.env (eval (.Name x p) X.env) = eval (.Name x p) X.env := rfl
end
end Mt

set_option Elab.async false
set_option linter.all false
set_option maxRecDepth 100000
set_option maxHeartbeats 4000000
/-! Statements: readings, the simple ones. -/
namespace Mt
open PySem PySem.Spec PyProof.Rows L2

/-- outside A the names stay -/
def Ag (A : List Nat) (σ σ' : L2.St) : Prop := σ'.length = σ.length ∧ ∀ i, i ∉ A → gv σ' i = gv σ i
theorem Ag.refl {A : List Nat} {σ : L2.St} : Ag A σ σ := ⟨rfl, fun _ _ => rfl⟩
theorem Ag.trans {A : List Nat} {σ σ1 σ2 : L2.St} (a : Ag A σ σ1) (b : Ag A σ1 σ2) : Ag A σ σ2 := ⟨b.1.trans a.1, fun i h => (b.2 i h).trans (a.2 i h)⟩
theorem gv_set_out : ∀ {σ : L2.St} {i j : Nat} {x : Option V}, j ≠ i → gv (σ.set i x) j = gv σ j
  | [], _, _, _, _ => rfl
  | y :: ys, 0, 0, x, h => absurd rfl h
  | y :: ys, 0, j + 1, x, _ => by simp [gv]
  | y :: ys, i + 1, 0, x, _ => by simp [gv]
  | y :: ys, i + 1, j + 1, x, h => by
    simp only [List.set_cons_succ, gv]
    exact gv_set_out (fun e => h (congrArg Nat.succ e))
theorem Ag.set {A : List Nat} {σ : L2.St} {i : Nat} {v : Option V} (h : i ∈ A) : Ag A σ (σ.set i v) := ⟨List.length_set, fun j hj => gv_set_out fun e => hj (e ▸ h)⟩

/-- new, or owned by a slot behind the parameters -/
def Nw (np : Nat) (g : Gs) (H : Hp) (ts : List Addr) : Prop := ∀ t ∈ ts, H t = none ∨ ∃ i, np ≤ i ∧ t ∈ ga g.as i
section
variable (K : PySem.W.Frag) (w : World) (A : List Nat) (np : Nat)
def Fin (st : MS) (g : Gs) (H : Hp) (σ : L2.St) (f : Fl) (st' : MS) (D : Ends) : Prop :=
  match f with
  | .nx => ∀ σ' H' g', Rel K w st' σ' H' g' → Stp st g H st' g' H' → Ag A σ σ' → D.nx σ' H'
  | .bk => ∀ σ' H' g', Rel K w st' σ' H' g' → Stp st g H st' g' H' → Ag A σ σ' → D.bk σ' H'
  | .ct => ∀ σ' H' g', Rel K w st' σ' H' g' → Stp st g H st' g' H' → Ag A σ σ' → D.ct σ' H'
  | .rt r => ∀ σ' H' g' v ts, Rel K w st' σ' H' g' → Stp st g H st' g' H' → Ag A σ σ' → RR K w g'.F H' [] r v ts → Fsh g' ts → Nw np g H ts → D.rt v H'
def tS (ex : MS → Option (Fl × MS)) : TS := fun D σ H => ∃ st g f st', Rel K w st σ H g ∧ ex st = some (f, st') ∧ Fin K w A np st g H σ f st' D
end
section
variable {K : PySem.W.Frag} {w : World} {A : List Nat} {np : Nat} {st st1 st' : MS} {g g1 : Gs} {H H1 : Hp} {σ σ1 : L2.St} {f : Fl} {En : Ends}
theorem Nw.step {ts : List Addr} (S : Stp st g H st1 g1 H1) (h : Nw np g1 H1 ts) : Nw np g H ts := fun t ht => by
  rcases h t ht with z | ⟨i, hi, z⟩
  · exact .inl (none_back S z)
  · rcases S.all i t z with z | z
    · exact .inr ⟨i, hi, z⟩
    · exact .inl z
theorem Fin.step (S : Stp st g H st1 g1 H1) (a : Ag A σ σ1) (h : Fin K w A np st g H σ f st' En) : Fin K w A np st1 g1 H1 σ1 f st' En := by
  cases f with
  | nx => exact fun σ' H' g' R2 S2 a2 => h σ' H' g' R2 (S.trans S2) (a.trans a2)
  | bk => exact fun σ' H' g' R2 S2 a2 => h σ' H' g' R2 (S.trans S2) (a.trans a2)
  | ct => exact fun σ' H' g' R2 S2 a2 => h σ' H' g' R2 (S.trans S2) (a.trans a2)
  | rt r => exact fun σ' H' g' v ts R2 S2 a2 x1 x2 x3 => h σ' H' g' v ts R2 (S.trans S2) (a.trans a2) x1 x2 (x3.step S)
/-- a slot is filled -/
theorem put_at {s : Sl} {v : V} {ts : List Addr} (P : Pso K w σ st g H st1 s v H1 g1 ts) (i : Nat) : Rel K w (st1.set i s) (σ.set i (some v)) H1 ⟨g1.F, g1.as.set i ts⟩ ∧ Stp st g H (st1.set i s) ⟨g1.F, g1.as.set i ts⟩ H1 := by
  obtain ⟨R, S, X, F, N⟩ := P
  by_cases hi : i < st1.length
  · have hiσ : i < σ.length := by rw [R.len]; exact hi
    have hia : i < g1.as.length := by rw [R.lena]; exact hi
    refine ⟨⟨?_, ?_, fun j => ?_, fun j => ?_, fun j k b hj hk => ?_, fun j b hb f => ?_, R.trk⟩, ⟨S.keep, S.sub, S.new, fun b ⟨j, o, hb⟩ => ?_, fun j b hb => ?_, S.there⟩⟩
    · rw [List.length_set, List.length_set]; exact R.len
    · rw [List.length_set, List.length_set]; exact R.lena
    · rw [gt_set hi, gv_set hiσ, ga_set hia]
      by_cases hj : j = i
      · rw [if_pos hj, if_pos hj, if_pos hj]; exact X
      · rw [if_neg hj, if_neg hj, if_neg hj]; exact R.rep j
    · rw [ga_set hia]
      split
      · exact F.nd
      · exact R.one j
    · rw [ga_set hia] at hj hk
      split at hj <;> rename_i e1 <;> split at hk <;> rename_i e2
      · rw [e1, e2]
      · exact absurd ⟨k, hk⟩ (F.no b hj)
      · exact absurd ⟨j, hj⟩ (F.no b hk)
      · exact R.dis j k b hj hk
    · rw [ga_set hia] at hb
      split at hb
      · exact F.nf b hb f
      · exact R.nof j b hb f
    · rw [gt_set hi] at o
      rw [ga_set hia] at hb
      split at hb
      · exact .inr (N b hb)
      · rename_i hj
        rw [if_neg hj] at o
        exact S.opn b ⟨j, o, hb⟩
    · rw [ga_set hia] at hb
      split at hb
      · exact .inr (N b hb)
      · exact S.all j b hb
  · have e1 : st1.set i s = st1 := List.set_eq_of_length_le (by omega)
    have e2 : σ.set i (some v) = σ := List.set_eq_of_length_le (by rw [R.len]; omega)
    have e3 : g1.as.set i ts = g1.as := List.set_eq_of_length_le (by rw [R.lena]; omega)
    rw [e1, e2, e3]
    exact ⟨R, S⟩
theorem put_ok {s : Sl} {v : V} {ts : List Addr} (P : Pso K w σ st g H st1 s v H1 g1 ts) (i : Nat) : ∃ g2, Rel K w (st1.set i s) (σ.set i (some v)) H1 g2 ∧ Stp st g H (st1.set i s) g2 H1 := ⟨_, put_at P i⟩
theorem ga_set_sub {as : List (List Addr)} {i j : Nat} {ts : List Addr} {b : Addr} (h : b ∈ ga (as.set i ts) j) : b ∈ ts ∨ b ∈ ga as j := by
  by_cases hi : i < as.length
  · rw [ga_set hi] at h
    split at h
    · exact .inl h
    · exact .inr h
  · rw [List.set_eq_of_length_le (by omega)] at h
    exact .inr h
theorem Pso.dat {d : D} {v : V} (R : Rel K w st1 σ H1 g1) (S : Stp st g H st1 g1 H1) (h : Rp K g1.F H1 v d) : Pso K w σ st g H st1 (.dat d) v H1 g1 [] := ⟨R, S, ⟨rfl, v, rfl, h⟩, .nil, fun _ h => nomatch h⟩
theorem RR.toNil {F : Addr → Prop} {r : R} {v : V} {ts : List Addr} (h : RR K w F H σ r v ts) (n : ∀ i, r ≠ .pl i) : RR K w F H [] r v ts := by
  cases r with
  | pl i => exact absurd rfl (n i)
  | pl2 i k => exact h.elim
  | _ => exact h
end

section
variable {X : Cx} {cl : Call} {A : List Nat} {np : Nat}
abbrev ES (X : Cx) (cl : Call) (A : List Nat) (np : Nat) (s : Stmt) (s' : S) : Prop := PS X s (tS X.K X.w A np (exS cl s'))
abbrev ESs (X : Cx) (cl : Call) (A : List Nat) (np : Nat) (s : List Stmt) (s' : List S) : Prop := PSs X s (tS X.K X.w A np (exSs cl s'))
def noComp : Expr → Bool
  | .ListComp .. | .SetComp .. | .DictComp .. => false
  | _ => true
theorem swaps_no {e : Expr} {o : Option Expr} {l : Nat} {env : Env} (h : noComp e = true) : swapsWith e o l env = pure false := by
  cases e <;> first | rfl | cases h
theorem set_inv {i : Nat} {e : E} {st st' : MS} {f : Fl} (h : exS cl (.set i e) st = some (f, st')) : ∃ x st1 s st2, evE cl e st = some (x, st1) ∧ own st1 x = some (s, st2) ∧ f = .nx ∧ st' = st2.set i s := by
  simp only [exS] at h
  split at h
  · rename_i x st1 h1
    split at h
    · rename_i s st2 h2
      cases h
      exact ⟨_, _, _, _, h1, h2, rfl, rfl⟩
    · cases h
  · cases h
/-- name = e, from a reading of the store -/
theorem set_go {i : Nat} {e' : E} (hA : i ∈ A) : ∀ D σ H, tS X.K X.w A np (exS cl (.set i e')) D σ H → tAsg (tD X.K X.w (evE cl e')) (gName i) D σ H := fun D σ H ⟨st, g, f, st', R, ex, fin⟩ => by
  obtain ⟨x, st1, s, st2, h1, h2, rfl, rfl⟩ := set_inv ex
  refine ⟨st, g, x, st1, R, h1, fun v H1 g1 ts P => ?_⟩
  obtain ⟨g2, ts2, P2⟩ := own_ok P h2
  obtain ⟨g3, R3, S3⟩ := put_ok P2 i
  exact fin _ _ g3 R3 S3 (.set hA)
theorem es_set {i : Nat} {x : Str} {e : Expr} {e' : E} {p pos : Pos} (hN : X.N.Nodup) (hi : X.N[i]? = some x) (hx : Loc X.env.scope x) (hf : X.fn x = true ∨ X.env.scope.names.lookup x = some .local) (hA : i ∈ A) (hc : noComp e = true) (he : EV X e (evE cl e')) : ES X cl A np (.Assign [.Name x p] e pos) (.set i e') :=
  psimp (ps_set hN hi hx he (swaps_no hc) hf) (set_go hA)
theorem es_expr {e : Expr} {e' : E} {pos : Pos} (hc : noComp e = true) (he : EV X e (evE cl e')) : ES X cl A np (.Expr e pos) (.ex e') :=
  psimp (ps_expr he (swaps_no hc)) fun D σ H ⟨st, g, f, st', R, ex, fin⟩ => by
    simp only [exS] at ex
    split at ex
    · rename_i x st1 h1
      cases ex
      exact ⟨st, g, x, st', R, h1, fun v H1 g1 ts P => fin _ _ g1 P.rl P.sp .refl⟩
    · cases ex
theorem es_doc {x : Str} {j : Nat} {p pos : Pos} : ES X cl A np (.Expr (.Constant (.str x) j p) pos) .pass :=
  psimp ps_doc fun D σ H ⟨st, g, f, st', R, ex, fin⟩ => by
    simp only [exS] at ex
    cases ex
    exact fin _ _ g R .refl .refl
theorem es_pass {pos : Pos} : ES X cl A np (.Pass pos) .pass :=
  psimp ps_pass fun D σ H ⟨st, g, f, st', R, ex, fin⟩ => by
    simp only [exS] at ex
    cases ex
    exact fin _ _ g R .refl .refl
theorem es_brk {pos : Pos} : ES X cl A np (.Break pos) .brk :=
  psimp ps_break fun D σ H ⟨st, g, f, st', R, ex, fin⟩ => by
    simp only [exS] at ex
    cases ex
    exact fin _ _ g R .refl .refl
theorem es_cnt {pos : Pos} : ES X cl A np (.Continue pos) .cnt :=
  psimp ps_continue fun D σ H ⟨st, g, f, st', R, ex, fin⟩ => by
    simp only [exS] at ex
    cases ex
    exact fin _ _ g R .refl .refl
theorem es_retn {pos : Pos} : ES X cl A np (.Return none pos) .retn :=
  psimp ps_retN fun D σ H ⟨st, g, f, st', R, ex, fin⟩ => by
    simp only [exS] at ex
    cases ex
    exact fin _ _ g _ [] R .refl .refl ⟨rfl, _, rfl, .non⟩ .nil fun _ h => nomatch h
theorem es_ret {e : Expr} {e' : E} {pos : Pos} (he : EV X e (evE cl e')) : ES X cl A np (.Return (some e) pos) (.ret e') :=
  psimp (ps_ret he) fun D σ H ⟨st, g, f, st', R, ex, fin⟩ => by
    simp only [exS] at ex
    split at ex
    · rename_i i st1 h1
      split at ex
      · rename_i d st2 h2
        cases ex
        refine ⟨st, g, _, st1, R, h1, fun v H1 g1 ts P => ?_⟩
        obtain ⟨g2, P2⟩ := frz_ok P h2
        exact fin _ _ g2 _ [] P2.rl P2.sp .refl (P2.rr.toNil fun _ => (nomatch ·)) .nil fun _ h => nomatch h
      · cases ex
    · rename_i x st1 hn h1
      cases ex
      exact ⟨st, g, _, st', R, h1, fun v H1 g1 ts P => fin _ _ g1 _ ts P.rl P.sp .refl (P.rr.toNil fun i e => hn i e) P.fs fun t ht => .inl (P.nw t ht)⟩
    · cases ex
/-- a slot is emptied: what it owned is held by nobody -/
theorem take_ok {K : PySem.W.Frag} {w : World} {σ : L2.St} {st : MS} {H : Hp} {g : Gs} {i : Nat} (R : Rel K w st σ H g) : Rel K w (st.set i .emp) σ H ⟨g.F, g.as.set i []⟩ ∧ Stp st g H (st.set i .emp) ⟨g.F, g.as.set i []⟩ H ∧ Fsh ⟨g.F, g.as.set i []⟩ (ga g.as i) := by
  by_cases hi : i < st.length
  · have hia : i < g.as.length := by rw [R.lena]; exact hi
    refine ⟨⟨?_, ?_, fun j => ?_, fun j => ?_, fun j k b hj hk => ?_, fun j b hb f => ?_, R.trk⟩, ⟨fun _ _ h _ => h, fun _ h => h, fun _ h => .inl h, fun b ⟨j, o, hb⟩ => .inl ?_, fun j b hb => .inl ?_, fun _ h => h⟩, ⟨R.one i, fun t ht => R.nof i t ht, fun t ht ⟨j, hj⟩ => ?_⟩⟩
    · rw [List.length_set]; exact R.len
    · rw [List.length_set, List.length_set]; exact R.lena
    · rw [gt_set hi, ga_set hia]
      by_cases hj : j = i
      · rw [if_pos hj, if_pos hj]; exact (rfl : ([] : List Addr) = [])
      · rw [if_neg hj, if_neg hj]; exact R.rep j
    · rw [ga_set hia]
      split
      · exact List.nodup_nil
      · exact R.one j
    · rw [ga_set hia] at hj hk
      split at hj
      · cases hj
      · split at hk
        · cases hk
        · exact R.dis j k b hj hk
    · rw [ga_set hia] at hb
      split at hb
      · cases hb
      · exact R.nof j b hb f
    · rw [gt_set hi] at o
      rw [ga_set hia] at hb
      split at hb
      · cases hb
      · rename_i hj
        rw [if_neg hj] at o
        exact ⟨j, o, hb⟩
    · rw [ga_set hia] at hb
      split at hb
      · cases hb
      · exact hb
    · rw [ga_set hia] at hj
      split at hj
      · cases hj
      · rename_i hn
        exact hn (R.dis j i t hj ht)
  · have e1 : st.set i .emp = st := List.set_eq_of_length_le (by omega)
    have e2 : g.as.set i [] = g.as := List.set_eq_of_length_le (by rw [R.lena]; omega)
    have e3 : ga g.as i = [] := ga_out (by rw [R.lena]; omega)
    rw [e1, e2, e3]
    exact ⟨R, .refl, .nil⟩
theorem retv_inv {i : Nat} {st st' : MS} {f : Fl} (h : exS cl (.retv i) st = some (f, st')) : (∃ d, gt st i = .dat d ∧ f = .rt (.dat d) ∧ st' = st) ∨ (∃ r s, gt st i = s ∧ asSl r = some (unlockS s) ∧ isOwn s = true ∧ (∀ j, r ≠ .pl j) ∧ f = .rt r ∧ st' = st.set i .emp) := by
  simp only [exS] at h
  split at h
  · cases h
  · rename_i d hs; cases h; exact .inl ⟨d, hs, rfl, rfl⟩
  · rename_i lk xs hs; cases h; exact .inr ⟨.lst xs, _, hs, by cases lk <;> rfl, rfl, (by intro j e; cases e), rfl, rfl⟩
  · rename_i lk xs hs; cases h; exact .inr ⟨.dct xs, _, hs, by cases lk <;> rfl, rfl, (by intro j e; cases e), rfl, rfl⟩
  · rename_i lk xs hs; cases h; exact .inr ⟨.dll xs, _, hs, by cases lk <;> rfl, rfl, (by intro j e; cases e), rfl, rfl⟩
  · rename_i lk xs hs; cases h; exact .inr ⟨.ddl xs, _, hs, by cases lk <;> rfl, rfl, (by intro j e; cases e), rfl, rfl⟩
  · cases h
theorem SlR.unlock {K : PySem.W.Frag} {w : World} {F : Addr → Prop} {H : Hp} {s : Sl} {v : Option V} {as : List Addr} (h : SlR K w F H s v as) : SlR K w F H (unlockS s) v as := by
  cases s with
  | lst lk xs => cases lk <;> exact h
  | dct lk xs => cases lk <;> exact h
  | dll lk xs => cases lk <;> exact h
  | ddl lk xs => cases lk <;> exact h
  | _ => exact h
theorem RR.of_asSl {K : PySem.W.Frag} {w : World} {F : Addr → Prop} {H : Hp} {r : R} {s : Sl} {v : V} {ts : List Addr} {σ : L2.St} (e : asSl r = some s) (h : SlR K w F H s (some v) ts) : RR K w F H σ r v ts := .of_sl e h
theorem es_retv {i : Nat} {e : Expr} {pos : Pos} (hv : PE X e (tVar i)) (hi : np ≤ i) : ES X cl A np (.Return (some e) pos) (.retv i) :=
  psimp (ps_ret hv) fun D σ H ⟨st, g, f, st', R, ex, fin⟩ => by
    rcases retv_inv ex with ⟨d, hs, rfl, rfl⟩ | ⟨r, s, hs, hr, ho, hp, rfl, rfl⟩
    · have q := R.rep i
      rw [hs] at q
      obtain ⟨_, v, hv, rd⟩ := q
      exact ⟨v, gv_get hv, fin _ _ g _ [] R .refl .refl ⟨rfl, v, rfl, rd⟩ .nil fun _ h => nomatch h⟩
    · have q := R.rep i
      rw [hs] at q
      obtain ⟨v, hv⟩ := q.val (by cases s <;> first | rfl | cases ho)
      rw [hv] at q
      obtain ⟨R2, S2, F2⟩ := take_ok (i := i) R
      exact ⟨v, gv_get hv, fin _ _ _ v (ga g.as i) R2 S2 .refl (.of_asSl hr q.unlock) F2 fun t ht => .inr ⟨i, hi, ht⟩⟩

/-! ### blocks -/
theorem ess_nil : ESs X cl A np [] [] := pssimp pss_nil fun D σ H ⟨st, g, f, st', R, ex, fin⟩ => by
  simp only [exSs] at ex
  cases ex
  exact fin _ _ g R .refl .refl
theorem exSs_cons {s : S} {r : List S} {st st' : MS} {f : Fl} (h : exSs cl (s :: r) st = some (f, st')) : (∃ st1, exS cl s st = some (.nx, st1) ∧ exSs cl r st1 = some (f, st')) ∨ (f ≠ .nx ∧ exS cl s st = some (f, st')) := by
  simp only [exSs] at h
  split at h
  · rename_i st1 h1
    exact .inl ⟨st1, h1, h⟩
  · rename_i f' st1 hn h1
    cases h
    exact .inr ⟨fun e => hn e, h1⟩
  · cases h
theorem ess_cons {s : Stmt} {r : List Stmt} {s' : S} {r' : List S} (h1 : ES X cl A np s s') (h2 : ESs X cl A np r r') : ESs X cl A np (s :: r) (s' :: r') :=
  pssimp (pss_cons h1 h2) fun D σ H ⟨st, g, f, st', R, ex, fin⟩ => by
    rcases exSs_cons ex with ⟨st1, e1, e2⟩ | ⟨n, e1⟩
    · exact ⟨st, g, .nx, st1, R, e1, fun σ1 H1 g1 R1 S1 a1 => ⟨st1, g1, f, st', R1, e2, fin.step S1 a1⟩⟩
    · refine ⟨st, g, f, st', R, e1, ?_⟩
      cases f with
      | nx => exact absurd rfl n
      | bk => exact fin
      | ct => exact fin
      | rt r => exact fin
theorem es_if {c : Expr} {a b : List Stmt} {c' : E} {a' b' : List S} {pos : Pos} (hc : EB X c (evE cl c')) (ha : ESs X cl A np a a') (hb : ESs X cl A np b b') : ES X cl A np (.If c a b pos) (.ife c' a' b') :=
  psimp (ps_if hc ha hb) fun D σ H ⟨st, g, f, st', R, ex, fin⟩ => by
    simp only [exS] at ex
    split at ex
    · rename_i x st1 h1
      have hx : ∀ b, asB x = some b → x = iB b := fun b h => by
        cases x with
        | dat d => cases d <;> first | (cases h; rfl) | cases h
        | _ => cases h
      split at ex
      · rename_i h2
        rw [hx _ h2] at h1
        exact ⟨st, g, true, st1, R, h1, fun H1 g1 R1 S1 => iteT ⟨st1, g1, f, st', R1, ex, fin.step S1 .refl⟩⟩
      · rename_i h2
        rw [hx _ h2] at h1
        exact ⟨st, g, false, st1, R, h1, fun H1 g1 R1 S1 => iteF ⟨st1, g1, f, st', R1, ex, fin.step S1 .refl⟩⟩
      · cases ex
    · cases ex
end
end Mt

set_option Elab.async false
set_option linter.all false
set_option maxRecDepth 100000
set_option maxHeartbeats 4000000
/-! Targets; loops. -/
namespace Mt
open PySem PySem.Spec PyProof.Rows L2

theorem asg_cons {e : Expr} {es : List Expr} {env : Env} (h : noStar e = true) : assignEach (e :: es) env = (false, assign e env) :: assignEach es env := by
  cases e <;> first | rfl | cases h
theorem asg_len {env : Env} : ∀ {es : List Expr}, (assignEach es env).length = es.length
  | [] => rfl
  | e :: es => by
    have h := asg_len (env := env) (es := es)
    cases e <;> exact congrArg Nat.succ h
theorem asg_none {env : Env} : ∀ {es : List Expr}, es.all noStar = true → (assignEach es env).findIdx? (·.1) = none
  | [], _ => rfl
  | e :: es, h => by
    rw [List.all_cons, Bool.and_eq_true] at h
    rw [asg_cons h.1, List.findIdx?_cons, asg_none h.2]
    rfl
section
variable (K : PySem.W.Frag) (w : World) (A : List Nat)
def gT (put : D → MS → Option MS) : TG := fun v σ H Q => ∃ st g d st', Rel K w st σ H g ∧ Rp K g.F H v d ∧ put d st = some st' ∧ ∀ σ' g', Rel K w st' σ' H g' → Stp st g H st' g' H → Ag A σ σ' → Q σ' H
def gTs (put : List D → MS → Option MS) : TGs := fun vs σ H Q => ∃ st g ds st', Rel K w st σ H g ∧ RpA K g.F H vs ds ∧ put ds st = some st' ∧ ∀ σ' g', Rel K w st' σ' H g' → Stp st g H st' g' H → Ag A σ σ' → Q σ' H
end
mutual
inductive ET (X : Cx) (A : List Nat) : Expr → Tg → Prop
  | nm {i : Nat} {x : Str} {p : Pos} : X.N[i]? = some x → Loc X.env.scope x → (X.fn x = true ∨ X.env.scope.names.lookup x = some .local) → i ∈ A → ET X A (.Name x p) (.nm i)
  | tup {es : List Expr} {ts : List Tg} {k : Nat} {p : Pos} : es.all noStar = true → ETs X A es ts → ET X A (.Tuple es k p) (.tup ts)
inductive ETs (X : Cx) (A : List Nat) : List Expr → List Tg → Prop
  | nil : ETs X A [] []
  | cons {e : Expr} {t : Tg} {es : List Expr} {ts : List Tg} : ET X A e t → ETs X A es ts → ETs X A (e :: es) (t :: ts)
end
theorem pgimp {X : Cx} {e : Expr} {t t' : TG} (h : PG X e t) (f : ∀ v σ H Q, t' v σ H Q → t v σ H Q) : PG X e t' := ⟨fun pins s σ H v u Q I r q => h.run pins s σ H v u Q I r (f _ _ _ _ q)⟩
theorem pgsimp {X : Cx} {e : List Expr} {t t' : TGs} (h : PGs X e t) (f : ∀ v σ H Q, t' v σ H Q → t v σ H Q) : PGs X e t' := ⟨fun pins s σ H v u Q I r q => h.run pins s σ H v u Q I r (f _ _ _ _ q)⟩
theorem putTs_len : ∀ {ts : List Tg} {ds : List D} {st st' : MS}, putTs ts ds st = some st' → ds.length = ts.length
  | [], [], _, _, _ => rfl
  | t :: ts, d :: ds, st, st', h => by
    simp only [putTs] at h
    split at h
    · rw [List.length_cons, List.length_cons, putTs_len h]
    · cases h
  | [], _ :: _, _, _, h => by simp only [putTs] at h; cases h
  | _ :: _, [], _, _, h => by simp only [putTs] at h; cases h
section
variable {X : Cx} {A : List Nat}
theorem ETs.len {es : List Expr} {ts : List Tg} (h : ETs X A es ts) : es.length = ts.length := by
  cases h with
  | nil => rfl
  | cons _ t => rw [List.length_cons, List.length_cons, ETs.len t]
mutual
theorem pg_t (hc : X.calm = true) (hN : X.N.Nodup) : ∀ {e : Expr} {t : Tg}, ET X A e t → PG X e (gT X.K X.w A (putT t))
  | _, _, .nm (i := i) h1 h2 hf h3 => pgimp (pg_name hN h1 h2 hf) fun v σ H Q ⟨st, g, d, st', R, r, e, q⟩ => by
    simp only [putT] at e
    cases e
    obtain ⟨g2, R2, S2⟩ := put_ok (Pso.dat R .refl r) i
    exact q _ g2 R2 S2 (.set h3)
  | _, _, .tup hs h => pgimp (pg_tup hc (pg_ts hc hN h) asg_len (asg_none hs)) fun v σ H Q ⟨st, g, d, st', R, r, e, q⟩ => by
    cases d with
    | tuple xs =>
      simp only [putT] at e
      cases r with
      | tup hT ra => exact ⟨_, _, rfl, hT, by rw [ra.len, putTs_len e, h.len], st, g, xs, st', R, ra, e, q⟩
    | _ => simp only [putT] at e; cases e
theorem pg_ts (hc : X.calm = true) (hN : X.N.Nodup) : ∀ {es : List Expr} {ts : List Tg}, ETs X A es ts → PGs X es (gTs X.K X.w A (putTs ts))
  | _, _, .nil => pgsimp pgs_nil fun v σ H Q ⟨st, g, ds, st', R, r, e, q⟩ => by
    cases ds with
    | nil =>
      simp only [putTs] at e
      cases e
      cases r
      exact ⟨rfl, q _ g R .refl .refl⟩
    | cons d ds => simp only [putTs] at e; cases e
  | _, _, .cons (e := e1) h t => pgsimp (pgs_cons (pg_t hc hN h) (pg_ts hc hN t) (by cases e1 <;> first | rfl | (cases h; done))) fun v σ H Q ⟨st, g, ds, st', R, r, e, q⟩ => by
    cases ds with
    | nil => simp only [putTs] at e; cases e
    | cons d ds =>
      simp only [putTs] at e
      split at e
      · rename_i st1 h1
        cases r with
        | cons r1 r2 =>
          refine ⟨_, _, rfl, st, g, d, st1, R, r1, h1, fun σ1 g1 R1 S1 a1 => ⟨st1, g1, ds, st', R1, R.rpA S1 r2, e, fun σ2 g2 R2 S2 a2 => q σ2 g2 R2 (S1.trans S2) (a1.trans a2)⟩⟩
      · cases e
end
end

/-! ### what is walked -/
/-- what an iterator promises from a state on -/
def ItOk (K : PySem.W.Frag) (st : MS) (g : Gs) (H : Hp) (J : It) (xs : List D) : Prop := ∀ st2 g2 H2, Stp st g H st2 g2 H2 → ∀ i, (∀ d, xs[i]? = some d → J.go i H2 ∧ ∀ x H3, J.yld i H2 x H3 → Same H2 H3 ∧ Rp K g2.F H3 x d) ∧ (xs.length ≤ i → J.stop i H2)
def tIt (K : PySem.W.Frag) (w : World) (ev : MS → Option (List D × List Nat × MS)) : TI := fun σ H Q => ∃ st g xs ps st', Rel K w st σ H g ∧ ev st = some (xs, ps, st') ∧
  ∀ J H' g', Rel K w (lockAll st' (opens st' ps)) σ H' g' → Stp st g H st' g' H' → ItOk K (lockAll st' (opens st' ps)) g' H' J xs → Q J H'
theorem piimp {X : Cx} {tg e : Expr} {t t' : TI} (h : PI X tg e t) (f : ∀ σ H Q, t' σ H Q → t σ H Q) : PI X tg e t' := ⟨fun pins s σ H Q I q => h.run pins s σ H Q I (f _ _ _ q)⟩

/-! ### locks -/
section
variable {K : PySem.W.Frag} {w : World} {st st' : MS} {σ : L2.St} {H H' : Hp} {g g' : Gs}
theorem SlR.lock {F : Addr → Prop} {s : Sl} {v : Option V} {as : List Addr} (h : SlR K w F H s v as) : SlR K w F H (lockS s) v as := by
  cases s with
  | lst lk xs => exact h
  | dct lk xs => exact h
  | dll lk xs => exact h
  | ddl lk xs => exact h
  | _ => exact h
theorem gt_set2 {st : MS} {i j : Nat} {f : Sl → Sl} (hf : f .emp = .emp) : gt (st.set i (f (gt st i))) j = if j = i then f (gt st j) else gt st j := by
  by_cases hi : i < st.length
  · rw [gt_set hi]
    split
    · rename_i e; rw [e]
    · rfl
  · rw [List.set_eq_of_length_le (by omega)]
    split
    · rename_i e; rw [e, gt_out (by omega), hf]
    · rfl
theorem Rel.map (R : Rel K w st σ H g) (i : Nat) {f : Sl → Sl} (hf : f .emp = .emp) (h : ∀ {F : Addr → Prop} {s : Sl} {v : Option V} {as : List Addr}, SlR K w F H s v as → SlR K w F H (f s) v as) : Rel K w (st.set i (f (gt st i))) σ H g :=
  ⟨by rw [List.length_set]; exact R.len, by rw [List.length_set]; exact R.lena, fun j => by
    rw [gt_set2 hf]
    split
    · exact h (R.rep j)
    · exact R.rep j, R.one, R.dis, R.nof, R.trk⟩
theorem Rel.lock : ∀ {is : List Nat} {st : MS}, Rel K w st σ H g → Rel K w (lockAll st is) σ H g
  | [], _, R => R
  | i :: is, st, R => by
    simp only [lockAll]
    exact Rel.lock (R.map i (f := lockS) rfl fun h => h.lock)
theorem Rel.unlock : ∀ {is : List Nat} {st : MS}, Rel K w st σ H g → Rel K w (unlockAll st is) σ H g
  | [], _, R => R
  | i :: is, st, R => by
    simp only [unlockAll]
    exact Rel.unlock (R.map i (f := unlockS) rfl fun h => h.unlock)
theorem open_lock : ∀ {is : List Nat} {st : MS} {j : Nat}, isOpen (gt (lockAll st is) j) = true → isOpen (gt st j) = true ∧ j ∉ is
  | [], _, _, h => ⟨h, List.not_mem_nil⟩
  | i :: is, st, j, h => by
    simp only [lockAll] at h
    obtain ⟨h1, h2⟩ := open_lock h
    rw [gt_set2 (f := lockS) rfl] at h1
    split at h1
    · rename_i e
      exfalso
      cases hs : gt st j with
      | lst lk xs => rw [hs] at h1; cases h1
      | dct lk xs => rw [hs] at h1; cases h1
      | dll lk xs => rw [hs] at h1; cases h1
      | ddl lk xs => rw [hs] at h1; cases h1
      | _ => rw [hs] at h1; cases h1
    · rename_i e
      exact ⟨h1, fun z => (List.mem_cons.mp z).elim e h2⟩
theorem open_unlock : ∀ {is : List Nat} {st : MS} {j : Nat}, isOpen (gt (unlockAll st is) j) = true → isOpen (gt st j) = true ∨ j ∈ is
  | [], _, _, h => .inl h
  | i :: is, st, j, h => by
    simp only [unlockAll] at h
    rcases open_unlock h with h1 | h1
    · rw [gt_set2 (f := unlockS) rfl] at h1
      split at h1
      · rename_i e; exact .inr (by rw [e]; exact List.mem_cons_self)
      · exact .inl h1
    · exact .inr (List.mem_cons_of_mem _ h1)
theorem mem_opens {st : MS} {ps : List Nat} {i : Nat} (h : i ∈ opens st ps) : isOpen (gt st i) = true := by
  unfold opens at h
  exact (List.mem_filter.mp h).2
/-- behind a walk -/
theorem Stp.unlock {is : List Nat} (S : Stp (lockAll st is) g H st' g' H') (ho : ∀ i ∈ is, isOpen (gt st i) = true) : Stp st g H (unlockAll st' is) g' H' := by
  refine ⟨fun b o e n => S.keep b o e fun ⟨j, hj, hb⟩ => n ⟨j, (open_lock hj).1, hb⟩, S.sub, S.new, fun b ⟨j, hj, hb⟩ => ?_, S.all, S.there⟩
  rcases open_unlock hj with hj | hj
  · rcases S.opn b ⟨j, hj, hb⟩ with ⟨k, hk, hbk⟩ | z
    · exact .inl ⟨k, (open_lock hk).1, hbk⟩
    · exact .inr z
  · rcases S.all j b hb with z | z
    · exact .inl ⟨j, ho j hj, z⟩
    · exact .inr z
end

/-! ### for -/
section
variable {X : Cx} {cl : Call} {A : List Nat} {np : Nat}
theorem fr_inv {tg : Tg} {it : E} {body : List S} {st st' : MS} {f : Fl} (h : exS cl (.fr tg it body) st = some (f, st')) : ∃ xs ps st1 st2, evI cl it st = some (xs, ps, st1) ∧
    forL (fun x st => match putT tg x st with | some st => exSs cl body st | none => none) xs (lockAll st1 (opens st1 ps)) = some (f, st2) ∧ st' = unlockAll st2 (opens st1 ps) := by
  simp only [exS] at h
  split at h
  · rename_i xs ps st1 h1
    split at h
    · rename_i f' st2 h2
      cases h
      exact ⟨_, _, _, _, h1, h2, rfl⟩
    · cases h
  · cases h
theorem forL_cons {f : D → MS → Option (Fl × MS)} {x : D} {xs : List D} {st st' : MS} {fl : Fl} (h : forL f (x :: xs) st = some (fl, st')) : ∃ f1 st1, f x st = some (f1, st1) ∧
    (((f1 = .nx ∨ f1 = .ct) ∧ forL f xs st1 = some (fl, st')) ∨ (f1 = .bk ∧ fl = .nx ∧ st' = st1) ∨ ∃ r, f1 = .rt r ∧ fl = .rt r ∧ st' = st1) := by
  simp only [forL] at h
  split at h
  · rename_i st1 h1; exact ⟨_, _, h1, .inl ⟨.inl rfl, h⟩⟩
  · rename_i st1 h1; exact ⟨_, _, h1, .inl ⟨.inr rfl, h⟩⟩
  · rename_i st1 h1; cases h; exact ⟨_, _, h1, .inr (.inl ⟨rfl, rfl, rfl⟩)⟩
  · rename_i r st1 h1; cases h; exact ⟨_, _, h1, .inr (.inr ⟨r, rfl, rfl, rfl⟩)⟩
  · cases h
theorem forL_fl {f : D → MS → Option (Fl × MS)} : ∀ {xs : List D} {st st' : MS} {fl : Fl}, forL f xs st = some (fl, st') → fl = .nx ∨ ∃ r, fl = .rt r
  | [], st, st', fl, h => by simp only [forL] at h; cases h; exact .inl rfl
  | x :: xs, st, st', fl, h => by
    obtain ⟨f1, st1, h1, h2 | ⟨_, rfl, _⟩ | ⟨r, _, rfl, _⟩⟩ := forL_cons h
    · exact forL_fl h2.2
    · exact .inl rfl
    · exact .inr ⟨r, rfl⟩
theorem Same.step {K : PySem.W.Frag} {w : World} {st : MS} {σ : L2.St} {H H' : Hp} {g : Gs} (R : Rel K w st σ H g) (h : Same H H') : Rel K w st σ H' g ∧ Stp st g H st g H' := ⟨R.grow h, .grow h⟩
theorem es_for {tg iter : Expr} {body : List Stmt} {tg' : Tg} {it : E} {body' : List S} {pos : Pos} (hp : PassesOwn (model X.prog X.w) X.A X.env X.xe) (hc : X.calm = true) (hN : X.N.Nodup) (hi : PI X tg iter (tIt X.K X.w (evI cl it))) (ht : ET X A tg tg') (hb : ESs X cl A np body body')
    (hs : ∀ x, foldedSetIterable iter X.env x = pure x) : ES X cl A np (.For tg iter body [] pos) (.fr tg' it body') :=
  psimp (ps_for hp hc hi (pg_t hc hN ht) hb hs) fun En σ H ⟨st, g, f, st', R, ex, fin⟩ => by
    obtain ⟨xs, ps, st1, st2, h1, h2, rfl⟩ := fr_inv ex
    refine ⟨st, g, xs, ps, st1, R, h1, fun J H1 g1 R1 S1 ok => ?_⟩
    refine ⟨fun i m σ2 H2 => ∃ st3 g3, Rel X.K X.w st3 σ2 H2 g3 ∧ Stp (lockAll st1 (opens st1 ps)) g1 H1 st3 g3 H2 ∧ Ag A σ σ2 ∧ m = xs.length - i ∧ i ≤ xs.length ∧
      forL (fun x st => match putT tg' x st with | some st => exSs cl body' st | none => none) (xs.drop i) st3 = some (f, st2), ⟨xs.length, _, g1, R1, .refl, .refl, by simp, Nat.zero_le _, h2⟩, ?_⟩
    rintro i m σ2 H2 ⟨st3, g3, R3, S3, a3, rfl, hi, h3⟩
    obtain ⟨k1, k2⟩ := ok st3 g3 H2 S3 i
    by_cases hlt : i < xs.length
    · have hx : xs[i]? = some xs[i] := List.getElem?_eq_getElem hlt
      obtain ⟨go, yl⟩ := k1 _ hx
      rw [List.drop_eq_getElem_cons hlt] at h3
      obtain ⟨f1, st4, e1, e2⟩ := forL_cons h3
      split at e1
      · rename_i st5 e0
        refine .inr ⟨go, fun σ6 H6 => ∃ st6 g6, Rel X.K X.w st6 σ6 H6 g6 ∧ Stp (lockAll st1 (opens st1 ps)) g1 H1 st6 g6 H6 ∧ Ag A σ σ6 ∧
          forL (fun x st => match putT tg' x st with | some st => exSs cl body' st | none => none) (xs.drop (i + 1)) st6 = some (f, st2), fun σ6 H6 ⟨st6, g6, R6, S6, a6, e6⟩ => ⟨xs.length - (i + 1), by omega, st6, g6, R6, S6, a6, rfl, hlt, e6⟩, fun x H4 y => ?_⟩
        obtain ⟨sm, rx⟩ := yl x H4 y
        refine ⟨st3, g3, _, st5, R3.grow sm, rx, e0, fun σ5 g5 R5 S5 a5 => ⟨st5, g5, f1, st4, R5, e1, ?_⟩⟩
        have S35 := S3.trans ((Stp.grow sm).trans S5)
        rcases e2 with ⟨rfl | rfl, e2⟩ | ⟨rfl, rfl, rfl⟩ | ⟨r, rfl, rfl, rfl⟩
        · exact fun σ6 H6 g6 R6 S6 a6 => ⟨st4, g6, R6, S35.trans S6, (a3.trans a5).trans a6, e2⟩
        · exact fun σ6 H6 g6 R6 S6 a6 => ⟨st4, g6, R6, S35.trans S6, (a3.trans a5).trans a6, e2⟩
        · exact fun σ6 H6 g6 R6 S6 a6 => fin σ6 H6 g6 R6.unlock (S1.trans ((S35.trans S6).unlock fun i hi => mem_opens hi)) ((a3.trans a5).trans a6)
        · refine fun σ6 H6 g6 v ts R6 S6 a6 x1 x2 x3 => fin σ6 H6 g6 v ts R6.unlock (S1.trans ((S35.trans S6).unlock fun i hi => mem_opens hi)) ((a3.trans a5).trans a6) x1 x2 ?_
          have S15 : Stp st1 g1 H1 (unlockAll st5 (opens st1 ps)) g5 H4 := S35.unlock fun i hi => mem_opens hi
          exact (x3.step (S35)).step (st := st) (st1 := lockAll st1 (opens st1 ps)) ⟨S1.keep, S1.sub, S1.new, fun b ⟨j, hj, hb⟩ => S1.opn b ⟨j, (open_lock hj).1, hb⟩, S1.all, S1.there⟩
      · cases e1
    · have e : i = xs.length := by omega
      subst e
      rw [List.drop_length] at h3
      simp only [forL] at h3
      cases h3
      exact .inl ⟨k2 (Nat.le_refl _), fin σ2 H2 g3 R3.unlock (S1.trans (S3.unlock fun i hi => mem_opens hi)) a3⟩

/-! ### while -/
def stepN {α β : Type} (step : α → Option (α ⊕ β)) : Nat → α → Option β
  | 0, _ => none
  | n + 1, a => match step a with
    | none => none
    | some (.inr b) => some b
    | some (.inl a) => stepN step n a
theorem loopF_steps {α β : Type} (step : α → Option (α ⊕ β)) : ∀ a b, loopF step a = some b → ∃ n, stepN step n a = some b := by
  refine loopF.partial_correctness step (fun a b => ∃ n, stepN step n a = some b) fun rec ih a b h => ?_
  split at h
  · cases h
  · rename_i b' e
    cases h
    exact ⟨1, by simp only [stepN]; rw [e]⟩
  · rename_i a' e
    obtain ⟨n, hn⟩ := ih _ _ h
    exact ⟨n + 1, by simp only [stepN]; rw [e]; exact hn⟩
def whStep (cl : Call) (t : E) (body : List S) (st : MS) : Option (MS ⊕ (Fl × MS)) := match evE cl t st with
  | some (x, st) => match asB x with
    | some true => match exSs cl body st with
      | some (.nx, st) => some (.inl st)
      | some (.ct, st) => some (.inl st)
      | some (.bk, st) => some (.inr (Fl.nx, st))
      | some (.rt r, st) => some (.inr (Fl.rt r, st))
      | none => none
    | some false => some (.inr (Fl.nx, st))
    | none => none
  | none => none
theorem wh_eq {t : E} {body : List S} {st : MS} : exS cl (.whl t body) st = loopF (whStep cl t body) st := by
  simp only [exS]
  rfl
theorem wh_inv {t : E} {body : List S} {st : MS} {z : MS ⊕ (Fl × MS)} (h : whStep cl t body st = some z) : ∃ b st1, evE cl t st = some (iB b, st1) ∧
    ((b = false ∧ z = .inr (.nx, st1)) ∨ (b = true ∧ ∃ f st2, exSs cl body st1 = some (f, st2) ∧ (((f = .nx ∨ f = .ct) ∧ z = .inl st2) ∨ (f = .bk ∧ z = .inr (.nx, st2)) ∨ ∃ r, f = .rt r ∧ z = .inr (.rt r, st2)))) := by
  unfold whStep at h
  split at h
  · rename_i x st1 h1
    have hx : ∀ b, asB x = some b → x = iB b := fun b h => by
      cases x with
      | dat d => cases d <;> first | (cases h; rfl) | cases h
      | _ => cases h
    split at h
    · rename_i h2
      rw [hx _ h2] at h1
      refine ⟨true, st1, h1, .inr ⟨rfl, ?_⟩⟩
      split at h
      · rename_i st2 h3; cases h; exact ⟨_, _, h3, .inl ⟨.inl rfl, rfl⟩⟩
      · rename_i st2 h3; cases h; exact ⟨_, _, h3, .inl ⟨.inr rfl, rfl⟩⟩
      · rename_i st2 h3; cases h; exact ⟨_, _, h3, .inr (.inl ⟨rfl, rfl⟩)⟩
      · rename_i r st2 h3; cases h; exact ⟨_, _, h3, .inr (.inr ⟨r, rfl, rfl⟩)⟩
      · cases h
    · rename_i h2
      rw [hx _ h2] at h1
      cases h
      exact ⟨false, st1, h1, .inl ⟨rfl, rfl⟩⟩
    · cases h
  · cases h
theorem es_while {c : Expr} {body : List Stmt} {c' : E} {body' : List S} {pos : Pos} (hp : PassesOwn (model X.prog X.w) X.A X.env X.xe) (hc : EB X c (evE cl c')) (hb : ESs X cl A np body body') : ES X cl A np (.While c body [] pos) (.whl c' body') :=
  psimp (ps_while hp hc hb) fun En σ H ⟨st, g, f, st', R, ex, fin⟩ => by
    rw [wh_eq] at ex
    obtain ⟨n, hn⟩ := loopF_steps _ _ _ ex
    refine ⟨fun m σ2 H2 => ∃ st2 g2, Rel X.K X.w st2 σ2 H2 g2 ∧ Stp st g H st2 g2 H2 ∧ Ag A σ σ2 ∧ stepN (whStep cl c' body') m st2 = some (f, st'), ⟨n, st, g, R, .refl, .refl, hn⟩, ?_⟩
    rintro m σ2 H2 ⟨st2, g2, R2, S2, a2, h2⟩
    cases m with
    | zero => cases h2
    | succ m =>
      simp only [stepN] at h2
      cases hz : whStep cl c' body' st2 with
      | none => rw [hz] at h2; cases h2
      | some z =>
        rw [hz] at h2
        obtain ⟨b, st3, e1, e2⟩ := wh_inv hz
        refine ⟨st2, g2, b, st3, R2, e1, fun H3 g3 R3 S3 => ?_⟩
        rcases e2 with ⟨rfl, rfl⟩ | ⟨rfl, f4, st4, e4, e5⟩
        · cases h2
          exact iteF (fin σ2 H3 g3 R3 (S2.trans S3) a2)
        · refine iteT ⟨fun σ4 H4 => ∃ st5 g5, Rel X.K X.w st5 σ4 H4 g5 ∧ Stp st g H st5 g5 H4 ∧ Ag A σ σ4 ∧ stepN (whStep cl c' body') m st5 = some (f, st'), fun σ4 H4 ⟨st5, g5, R5, S5, a5, e⟩ => ⟨m, Nat.lt_succ_self _, st5, g5, R5, S5, a5, e⟩, st3, g3, f4, st4, R3, e4, ?_⟩
          have S23 := S2.trans S3
          rcases e5 with ⟨rfl | rfl, rfl⟩ | ⟨rfl, rfl⟩ | ⟨r, rfl, rfl⟩
          · exact fun σ4 H4 g4 R4 S4 a4 => ⟨st4, g4, R4, S23.trans S4, a2.trans a4, h2⟩
          · exact fun σ4 H4 g4 R4 S4 a4 => ⟨st4, g4, R4, S23.trans S4, a2.trans a4, h2⟩
          · cases h2
            exact fun σ4 H4 g4 R4 S4 a4 => fin σ4 H4 g4 R4 (S23.trans S4) (a2.trans a4)
          · cases h2
            exact fun σ4 H4 g4 v ts R4 S4 a4 x1 x2 x3 => fin σ4 H4 g4 v ts R4 (S23.trans S4) (a2.trans a4) x1 x2 (x3.step S23)
end
end Mt

set_option Elab.async false
set_option linter.all false
set_option maxRecDepth 100000
set_option maxHeartbeats 4000000
/-! What is walked. -/
namespace Mt
open PySem PySem.Spec PyProof.Rows L2

section
variable {K : PySem.W.Frag} {w : World} {st : MS} {σ : L2.St} {H : Hp} {g : Gs}
/-- a sequence that stands while the walk's places are locked -/
def Stands (K : PySem.W.Frag) (st : MS) (g : Gs) (H : Hp) (tp : Bool) (a : Addr) (xs : List D) : Prop := ∃ vs, ∀ st2 g2 H2, Stp st g H st2 g2 H2 → (if tp = true then SqT K H2 a vs else SqL K H2 a vs) ∧ RpA K g2.F H2 vs xs
theorem Stands.len {tp : Bool} {a : Addr} {xs : List D} (h : Stands K st g H tp a xs) : True := trivial
theorem sqT_mono {H2 : Hp} {a : Addr} {vs : List V} (kt : ∀ b xs, Rd H b (.tup xs) → Rd H2 b (.tup xs)) (h : SqT K H a vs) : SqT K H2 a vs := by
  rcases h with h | h
  · exact .inl (kt _ _ h)
  · exact .inr h
theorem stands_dat {d : D} {v : V} {xs : List D} {is : List Nat} (R : Rel K w st σ H g) (r : Rp K g.F H v d) (e : itemsOf (.dat d) = some xs) : ∃ a, v = .ref a ∧ Stands K (lockAll st is) g H (isTp (.dat d)) a xs := by
  have R' : Rel K w (lockAll st is) σ H g := R.lock
  cases d with
  | tuple ys =>
    cases e
    cases r with
    | @tup a vs _ hT ra => exact ⟨a, rfl, vs, fun st2 g2 H2 S => ⟨iteT (sqT_mono (R'.kt S) hT), R'.rpA S ra⟩⟩
  | list ys =>
    cases e
    cases r with
    | @lst a vs _ hL ra => exact ⟨a, rfl, vs, fun st2 g2 H2 S => ⟨iteF (SqL.of (R'.kl S _ _ hL.1 hL.2)), R'.rpA S ra⟩⟩
  | _ => cases e
theorem stands_of {r c : R} {v : V} {ts : List Addr} {xs : List D} {is : List Nat} (R : Rel K w st σ H g) (X : RR K w g.F H σ r v ts) (F : Fsh g ts) (l : look st r = some c) (e : itemsOf c = some xs) (hi : ∀ i, r = .pl i → isOpen (gt st i) = true → i ∈ is) :
    ∃ a, v = .ref a ∧ Stands K (lockAll st is) g H (isTp c) a xs := by
  have R' : Rel K w (lockAll st is) σ H g := R.lock
  cases r with
  | dat d =>
    cases l
    exact stands_dat R X.dat_inv.2 e
  | lst ys =>
    cases l
    cases e
    obtain ⟨a, rfl, e2, vs, hA, ra⟩ := X
    cases e2
    exact ⟨a, rfl, vs, fun st2 g2 H2 S => ⟨iteF (SqL.of (S.keep _ _ hA fun z => F.no a (List.mem_singleton.mpr rfl) z.own)), R'.rpA S ra⟩⟩
  | scr ys =>
    cases l
    cases e
    obtain ⟨_, a, vs, e2, hA, ra⟩ := X
    cases e2
    refine ⟨a, rfl, vs, fun st2 g2 H2 S => ⟨iteF ?_, R'.rpA S ra⟩⟩
    rcases hA with ⟨o, hA⟩ | hA
    · exact .inl (.inr ⟨o, R'.kz S _ _ _ hA⟩)
    · exact .inr hA
  | pl i =>
    obtain ⟨_, hv⟩ := X
    have q := R.rep i
    rw [hv] at q
    simp only [look] at l
    cases hs : gt st i with
    | emp => rw [hs] at l; cases l
    | dat d =>
      rw [hs] at l q
      cases l
      obtain ⟨_, x, ex, rd⟩ := q
      cases ex
      exact stands_dat R rd e
    | lst lk ys =>
      rw [hs] at l q
      cases l
      cases e
      obtain ⟨a, ha, e2, vs, hA, ra⟩ := q
      cases e2
      refine ⟨a, rfl, vs, fun st2 g2 H2 S => ⟨iteF (SqL.of (S.keep _ _ hA fun ⟨j, hj, hb⟩ => ?_)), R'.rpA S ra⟩⟩
      have : j = i := R.dis j i a hb (by rw [ha]; exact List.mem_singleton.mpr rfl)
      subst this
      obtain ⟨h1, h2⟩ := open_lock hj
      exact h2 (hi j rfl h1)
    | scr ys =>
      rw [hs] at l q
      cases l
      cases e
      obtain ⟨_, a, vs, e2, hA, ra⟩ := q
      cases e2
      refine ⟨a, rfl, vs, fun st2 g2 H2 S => ⟨iteF ?_, R'.rpA S ra⟩⟩
      rcases hA with ⟨o, hA⟩ | hA
      · exact .inl (.inr ⟨o, R'.kz S _ _ _ hA⟩)
      · exact .inr hA
    | dct lk ys => rw [hs] at l; cases l; cases e
    | dll lk ys => rw [hs] at l; cases l; cases e
    | ddl lk ys => rw [hs] at l; cases l; cases e
  | dct ys => cases l; cases e
  | dll ys => cases l; cases e
  | ddl ys => cases l; cases e
  | pl2 i k => cases l
theorem mem_opens' {i : Nat} {ps : List Nat} (h : i ∈ ps) (o : isOpen (gt st i) = true) : i ∈ opens st ps := List.mem_filter.mpr ⟨h, o⟩
theorem mem_plOf {r : R} {i : Nat} (e : r = .pl i) : i ∈ plOf r := by subst e; exact List.mem_singleton.mpr rfl

/-! ### the iterators -/
theorem it_list {a : Addr} {xs : List D} (h : Stands K st g H false a xs) : ItOk K st g H (Itl K a) xs := by
  obtain ⟨vs, h⟩ := h
  intro st2 g2 H2 S i
  obtain ⟨hL, ra⟩ := h st2 g2 H2 S
  rw [if_neg Bool.false_ne_true] at hL
  refine ⟨fun d hd => ?_, fun hn => ⟨vs, hL, by rw [ra.len]; exact hn⟩⟩
  obtain ⟨x, hx, rx⟩ := ra.getD hd
  refine ⟨⟨vs, x, hL, hx⟩, fun y H3 ⟨e, hy⟩ => ?_⟩
  subst e
  have e2 := hy vs hL
  rw [hx] at e2
  cases e2
  exact ⟨fun _ _ h => h, rx⟩
theorem it_tup {a : Addr} {xs : List D} (h : Stands K st g H true a xs) : ItOk K st g H (Itt K a) xs := by
  obtain ⟨vs, h⟩ := h
  intro st2 g2 H2 S i
  obtain ⟨hL, ra⟩ := h st2 g2 H2 S
  rw [if_pos rfl] at hL
  refine ⟨fun d hd => ?_, fun hn => ⟨vs, hL, by rw [ra.len]; exact hn⟩⟩
  obtain ⟨x, hx, rx⟩ := ra.getD hd
  refine ⟨⟨vs, x, hL, hx⟩, fun y H3 ⟨e, hy⟩ => ?_⟩
  subst e
  have e2 := hy vs hL
  rw [hx] at e2
  cases e2
  exact ⟨fun _ _ h => h, rx⟩
theorem it_range {lo : Int} {n : Nat} {xs : List D} (e : xs = (List.range n).map fun (k : Nat) => PyData.int (lo + (k : Int))) : ItOk K st g H (Itr lo n) xs := by
  subst e
  intro st2 g2 H2 S i
  refine ⟨fun d hd => ?_, fun hn => (by simpa using hn : n ≤ i)⟩
  rw [List.getElem?_map] at hd
  have hi : i < n := by
    by_cases h : i < n
    · exact h
    · rw [List.getElem?_eq_none (by simpa using h)] at hd; cases hd
  rw [List.getElem?_range hi] at hd
  cases hd
  refine ⟨hi, fun y H3 ⟨e, hy⟩ => ?_⟩
  subst e hy
  exact ⟨fun _ _ h => h, .int _⟩
theorem Rp.same {F : Addr → Prop} {H H' : Hp} (s : Same H H') {v : V} {d : D} (h : Rp K F H v d) : Rp K F H' v d := h.mono (fun _ h => h) (fun _ _ _ h => s _ _ h) fun b xs h => by
  rcases h with h | ⟨o, h⟩
  · exact .inl (s _ _ h)
  · exact .inr ⟨o, s _ _ h⟩
theorem rp_new {F : Addr → Prop} {H : Hp} {p : Addr} {vs : List V} {ds : List D} (h : H p = none) (r : RpA K F H vs ds) : Rp K F (upd H p (.tup vs)) (.ref p) (.tuple ds) := by
  have s := same_new (o := .tup vs) h
  refine .tup (.inl (.inl upd_same)) (r.mono (fun _ h => h) (fun _ _ _ h => s _ _ h) fun b xs h => ?_)
  rcases h with h | ⟨o, h⟩
  · exact .inl (s _ _ h)
  · exact .inr ⟨o, s _ _ h⟩
theorem enumD_get : ∀ {xs : List D} {n : Int} {i : Nat}, (enumD n xs)[i]? = (xs[i]?).map fun d => PyData.tuple [.int (n + (i : Int)), d]
  | [], _, _ => by simp [enumD]
  | x :: xs, n, 0 => by simp [enumD]
  | x :: xs, n, i + 1 => by
    have h := enumD_get (xs := xs) (n := n + 1) (i := i)
    simp only [enumD, List.getElem?_cons_succ]
    rw [h]
    cases xs[i]? with
    | none => rfl
    | some d =>
      simp only [Option.map_some]
      rw [show n + 1 + (i : Int) = n + ((i + 1 : Nat) : Int) by omega]
theorem it_enum {a : Addr} {xs : List D} (h : Stands K st g H false a xs) : ItOk K st g H (Ite K a) (enumD 0 xs) := by
  obtain ⟨vs, h⟩ := h
  intro st2 g2 H2 S i
  obtain ⟨hL, ra⟩ := h st2 g2 H2 S
  rw [if_neg Bool.false_ne_true] at hL
  have hlen : (enumD 0 xs).length = xs.length := by
    have : ∀ (xs : List D) n, (enumD n xs).length = xs.length := fun xs => by
      induction xs with
      | nil => intro n; rfl
      | cons x xs ih => intro n; simp only [enumD, List.length_cons, ih]
    exact this xs 0
  refine ⟨fun d hd => ?_, fun hn => ⟨vs, hL, by rw [ra.len, ← hlen]; exact hn⟩⟩
  rw [enumD_get] at hd
  obtain ⟨d', hd', rfl⟩ := Option.map_eq_some_iff.mp hd
  obtain ⟨x, hx, rx⟩ := ra.getD hd'
  refine ⟨⟨vs, x, hL, hx⟩, fun y H3 ⟨T, z, e1, hT, e2, hz⟩ => ?_⟩
  subst e1 e2
  have e2 := hz vs hL
  rw [hx] at e2
  cases e2
  refine ⟨same_new hT, ?_⟩
  rw [Int.zero_add]
  exact rp_new hT (.cons (.int _) (.cons rx .nil))
theorem zipD_get : ∀ {xs ys : List D} {i : Nat} {d : D}, (zipD xs ys)[i]? = some d → ∃ x y, xs[i]? = some x ∧ ys[i]? = some y ∧ d = .tuple [x, y]
  | [], _, _, _, h => by simp [zipD] at h
  | _ :: _, [], _, _, h => by simp [zipD] at h
  | x :: xs, y :: ys, 0, d, h => by simp [zipD] at h; exact ⟨x, y, rfl, rfl, h.symm⟩
  | x :: xs, y :: ys, i + 1, d, h => by
    simp only [zipD, List.getElem?_cons_succ] at h
    obtain ⟨x', y', h1, h2, h3⟩ := zipD_get h
    exact ⟨x', y', by simpa using h1, by simpa using h2, h3⟩
theorem zipD_len : ∀ {xs ys : List D}, (zipD xs ys).length = min xs.length ys.length
  | [], _ => by simp [zipD]
  | _ :: _, [] => by simp [zipD]
  | x :: xs, y :: ys => by simp only [zipD, List.length_cons]; rw [zipD_len]; omega
theorem it_zip {a b : Addr} {xs ys : List D} (h : Stands K st g H false a xs) (h2 : Stands K st g H false b ys) : ItOk K st g H (Itz K a b) (zipD xs ys) := by
  obtain ⟨vs, h⟩ := h
  obtain ⟨us, h2⟩ := h2
  intro st2 g2 H2 S i
  obtain ⟨hL, ra⟩ := h st2 g2 H2 S
  obtain ⟨hM, rb⟩ := h2 st2 g2 H2 S
  rw [if_neg Bool.false_ne_true] at hL hM
  refine ⟨fun d hd => ?_, fun hn => ⟨vs, us, hL, hM, by rw [ra.len, rb.len]; rw [zipD_len] at hn; omega⟩⟩
  obtain ⟨x, y, hx, hy, rfl⟩ := zipD_get hd
  obtain ⟨x', hx', rx⟩ := ra.getD hx
  obtain ⟨y', hy', ry⟩ := rb.getD hy
  refine ⟨⟨vs, us, x', y', hL, hM, hx', hy'⟩, fun v H3 ⟨T, z, z2, e1, hT, e2, hz, hz2⟩ => ?_⟩
  subst e1 e2
  have e2 := hz vs hL
  have e3 := hz2 us hM
  rw [hx'] at e2
  rw [hy'] at e3
  cases e2
  cases e3
  exact ⟨same_new hT, rp_new hT (.cons rx (.cons ry .nil))⟩
theorem it_zipT {a b : Addr} {xs ys : List D} (h : Stands K st g H true a xs) (h2 : Stands K st g H true b ys) : ItOk K st g H (RZ.ItzT K a b) (zipD xs ys) := by
  obtain ⟨vs, h⟩ := h
  obtain ⟨us, h2⟩ := h2
  intro st2 g2 H2 S i
  obtain ⟨hL, ra⟩ := h st2 g2 H2 S
  obtain ⟨hM, rb⟩ := h2 st2 g2 H2 S
  rw [if_pos rfl] at hL hM
  refine ⟨fun d hd => ?_, fun hn => ⟨vs, us, hL, hM, by rw [ra.len, rb.len]; rw [zipD_len] at hn; omega⟩⟩
  obtain ⟨x, y, hx, hy, rfl⟩ := zipD_get hd
  obtain ⟨x', hx', rx⟩ := ra.getD hx
  obtain ⟨y', hy', ry⟩ := rb.getD hy
  refine ⟨⟨vs, us, x', y', hL, hM, hx', hy'⟩, fun v H3 ⟨T, z, z2, e1, hT, e2, hz, hz2⟩ => ?_⟩
  subst e1 e2
  have e2 := hz vs hL
  have e3 := hz2 us hM
  rw [hx'] at e2
  rw [hy'] at e3
  cases e2
  cases e3
  exact ⟨same_new hT, rp_new hT (.cons rx (.cons ry .nil))⟩
end

/-! ### the rules -/
section
variable {X : Cx} {cl : Call} {tg : Expr}
/-- a list or a tuple -/
def iAny (K : PySem.W.Frag) (tl : TE) : TI := fun σ H Rk => tl σ H fun x H1 => ∃ a, x = .ref a ∧ (((∃ xs, SqL K H1 a xs) ∧ Rk (Itl K a) H1) ∨ ((∃ xs, SqT K H1 a xs) ∧ Rk (Itt K a) H1))
theorem pi_any {l : Expr} {tl : TE} (hl : PE X l tl) : PI X tg l (iAny X.K tl) := by
  refine ⟨fun pins s σ H Rk I h => ?_⟩
  refine thn (hl.run pins s σ H _ I h) fun v s1 ⟨x, H1, I1, r1, q1⟩ => ?_
  obtain ⟨a, e, q1⟩ := q1
  subst e
  cases r1
  have fr : ∀ b ∈ [s1.heap.objs.size], FpOk X pins H1 b := fun b hb => by
    have e : b = s1.heap.objs.size := by simpa using hb
    subst e
    exact I1.fpOk (Nat.le_refl _) (I1.hok.fresh (Nat.le_refl _))
  rcases q1 with ⟨⟨xs, hq⟩, q⟩ | ⟨⟨xs, hq⟩, q⟩
  · obtain ⟨its, rv, p, hz⟩ := I1.list hq
    exact wpAny_pyIter_list p.isList ⟨s1.heap.objs.size, [s1.heap.objs.size], _, _, H1, rfl, I1.kept (t' := s1.toks) fun b o e => Heap.get?_push_of_some _ e, turn_list a _, ⟨_, Heap.get?_push_size _ rfl, rfl, rfl⟩, fr, q⟩
  · obtain ⟨its, rv, p, hz⟩ := I1.tuple hq
    exact wpAny_pyIter_tuple (show s1.heap.IsTuple a its.toArray from p) ⟨s1.heap.objs.size, [s1.heap.objs.size], _, _, H1, rfl, I1.kept (t' := s1.toks) fun b o e => Heap.get?_push_of_some _ e, turn_tuple a _, ⟨_, Heap.get?_push_size _ rfl, rfl, rfl⟩, fr, q⟩
theorem Stp.lockS {st : MS} {g : Gs} {H : Hp} {is : List Nat} : Stp (lockAll st is) g H (lockAll st is) g H := .refl
theorem wk_inv {e : E} {st st' : MS} {xs : List D} {ps : List Nat} (h : evI cl (.wk e) st = some (xs, ps, st')) : ∃ x c, evE cl e st = some (x, st') ∧ look st' x = some c ∧ itemsOf c = some xs ∧ ps = plOf x := by
  simp only [evI] at h
  split at h
  · rename_i x st1 h1
    split at h
    · rename_i c h2
      split at h
      · rename_i ys h3
        cases h
        exact ⟨_, _, h1, h2, h3, rfl⟩
      · cases h
    · cases h
  · cases h
theorem ei_wk {e : Expr} {e' : E} (he : EV X e (evE cl e')) : PI X tg e (tIt X.K X.w (evI cl (.wk e'))) :=
  piimp (pi_any he) fun σ H Q ⟨st, g, xs, ps, st', Rh, ev, q⟩ => by
    obtain ⟨x, c, h1, h2, h3, rfl⟩ := wk_inv ev
    refine ⟨st, g, x, st', Rh, h1, fun v H1 g1 ts P => ?_⟩
    obtain ⟨a, rfl, hS⟩ := stands_of (is := opens st' (plOf x)) P.rl P.rr P.fs h2 h3 fun i e o => mem_opens' (mem_plOf e) o
    refine ⟨a, rfl, ?_⟩
    cases ht : isTp c with
    | false =>
      rw [ht] at hS
      have hS' := hS
      obtain ⟨vs, hs⟩ := hS'
      have h0 := (hs _ _ _ .refl).1
      rw [if_neg Bool.false_ne_true] at h0
      exact .inl ⟨⟨vs, h0⟩, q _ _ g1 P.rl.lock P.sp (it_list hS)⟩
    | true =>
      rw [ht] at hS
      have hS' := hS
      obtain ⟨vs, hs⟩ := hS'
      have h0 := (hs _ _ _ .refl).1
      rw [if_pos rfl] at h0
      exact .inr ⟨⟨vs, h0⟩, q _ _ g1 P.rl.lock P.sp (it_tup hS)⟩
theorem okR_inv {n : Int} (h : okR n = true) : -(2 ^ 62) ≤ n ∧ n < 2 ^ 62 := by
  unfold okR at h
  rw [Bool.and_eq_true, decide_eq_true_eq, decide_eq_true_eq] at h
  exact h
theorem ei_rng1 {a : Expr} {a' : E} {p pos : Pos} (hg : Gl X "range") (hm : X.mg "range" = none) (hs : noStar a = true) (ha : EV X a (evE cl a')) : PI X tg (.Call (.Name "range" p) [a] [] pos) (tIt X.K X.w (evI cl (.rng [a']))) :=
  piimp (pi_range1 hg hm (pa_cons ha pa_nil (star_cons hs)) (star_cons hs)) fun σ H Q ⟨st, g, xs, ps, st', Rh, ev, q⟩ => by
    simp only [evI] at ev
    split at ev
    · rename_i x st1 h1
      split at ev
      · rename_i n hn
        split at ev
        · rename_i ho
          cases ev
          cases asI_inv hn
          refine ⟨st, g, _, st', Rh, h1, fun v H1 g1 ts P => ?_⟩
          cases P.dat.int_inv
          obtain ⟨o1, o2⟩ := okR_inv ho
          refine ⟨n, rfl, o1, o2, q _ _ g1 P.rl P.sp (it_range ?_)⟩
          unfold rangeD
          rw [Int.sub_zero]
        · cases ev
      · cases ev
    · cases ev
theorem ei_rng2 {a b : Expr} {a' b' : E} {p pos : Pos} (hg : Gl X "range") (hm : X.mg "range" = none) (hs : noStar a = true) (hs2 : noStar b = true) (ha : EV X a (evE cl a')) (hb : EV X b (evE cl b')) : PI X tg (.Call (.Name "range" p) [a, b] [] pos) (tIt X.K X.w (evI cl (.rng [a', b']))) :=
  piimp (pi_range2 hg hm (pa_cons ha (pa_cons hb pa_nil (star_cons hs2)) (star_cons hs)) (by rw [star_cons hs, star_cons hs2]; rfl) (star_cons hs2)) fun σ H Q ⟨st, g, xs, ps, st', Rh, ev, q⟩ => by
    simp only [evI] at ev
    split at ev
    · rename_i x st1 h1
      split at ev
      · rename_i y st2 h2
        split at ev
        · rename_i m n hm' hn
          split at ev
          · rename_i ho
            cases ev
            cases asI_inv hn
            cases asI_inv hm'
            rw [Bool.and_eq_true] at ho
            refine ⟨st, g, _, st1, Rh, h1, fun v H1 g1 ts P => ⟨st1, g1, _, st', P.rl, h2, fun v2 H2 g2 ts2 P2 => ?_⟩⟩
            obtain ⟨Q1, Q2⟩ := P.seq P2
            cases Q1.dat.int_inv
            cases Q2.dat.int_inv
            obtain ⟨o1, o2⟩ := okR_inv ho.1
            obtain ⟨o3, o4⟩ := okR_inv ho.2
            exact ⟨m, n, rfl, ⟨o1, o2, o3, o4⟩, q _ _ g2 Q2.rl Q2.sp (it_range rfl)⟩
          · cases ev
        · cases ev
      · cases ev
    · cases ev
theorem ei_enum {a : Expr} {a' : E} {p pos tpos : Pos} {elts : List Expr} {kk : Nat} (hg : Gl X "enumerate") (hm : X.mg "enumerate" = none) (hs : noStar a = true) (ha : EV X a (evE cl a')) : PI X (.Tuple elts kk tpos) (.Call (.Name "enumerate" p) [a] [] pos) (tIt X.K X.w (evI cl (.enum a'))) :=
  piimp (pi_enum hg hm (pa_cons ha pa_nil (star_cons hs)) (star_cons hs)) fun σ H Q ⟨st, g, xs, ps, st', Rh, ev, q⟩ => by
    simp only [evI] at ev
    split at ev
    · rename_i x st1 h1
      split at ev
      · rename_i c h2
        split at ev
        · rename_i ys h3
          split at ev
          · cases ev
          · rename_i ht
            cases ev
            have ht : isTp c = false := by simpa using ht
            refine ⟨st, g, x, st', Rh, h1, fun v H1 g1 ts P => ?_⟩
            obtain ⟨a, rfl, hS⟩ := stands_of (is := opens st' (plOf x)) P.rl P.rr P.fs h2 h3 fun i e o => mem_opens' (mem_plOf e) o
            rw [ht] at hS
            have hS' := hS
            obtain ⟨vs, hs⟩ := hS'
            have h0 := (hs _ _ _ .refl).1
            rw [if_neg Bool.false_ne_true] at h0
            exact ⟨a, vs, rfl, h0, q _ _ g1 P.rl.lock P.sp (it_enum hS)⟩
        · cases ev
      · cases ev
    · cases ev
theorem ei_zip {a b : Expr} {a' b' : E} {p pos tpos : Pos} {elts : List Expr} {kk : Nat} (hg : Gl X "zip") (hm : X.mg "zip" = none) (hs : noStar a = true) (hs2 : noStar b = true) (ha : EV X a (evE cl a')) (hb : EV X b (evE cl b')) :
    PI X (.Tuple elts kk tpos) (.Call (.Name "zip" p) [a, b] [] pos) (tIt X.K X.w (evI cl (.zip [a', b']))) :=
  piimp (RZ.pi_zipA hg hm (pa_cons ha (pa_cons hb pa_nil (star_cons hs2)) (star_cons hs)) (star_cons hs) (by rw [star_cons hs2]; rfl)) fun σ H Q ⟨st, g, xs, ps, st', Rh, ev, q⟩ => by
    simp only [evI] at ev
    split at ev
    · rename_i x st1 h1
      split at ev
      · rename_i y st2 h2
        split at ev
        · rename_i c d l1 l2
          split at ev
          · rename_i xs' ys' i1 i2
            split at ev
            · rename_i ht
              cases ev
              have ht : isTp c = isTp d := by simpa using ht
              refine ⟨st, g, _, st1, Rh, h1, fun v H1 g1 ts P => ⟨st1, g1, _, st', P.rl, h2, fun v2 H2 g2 ts2 P2 => ?_⟩⟩
              obtain ⟨Q1, Q2⟩ := P.seq P2
              obtain ⟨a, rfl, hS⟩ := stands_of (is := opens st' (plOf x ++ plOf y)) Q1.rl Q1.rr Q1.fs l1 i1 fun i e o => mem_opens' (List.mem_append_left _ (mem_plOf e)) o
              obtain ⟨b, rfl, hT⟩ := stands_of (is := opens st' (plOf x ++ plOf y)) Q2.rl Q2.rr Q2.fs l2 i2 fun i e o => mem_opens' (List.mem_append_right _ (mem_plOf e)) o
              cases hk : isTp c with
              | false =>
                rw [← ht, hk] at hT
                rw [hk] at hS
                have hS' := hS
                have hT' := hT
                obtain ⟨vs, hs⟩ := hS'
                obtain ⟨us, hs2⟩ := hT'
                have h0 := (hs _ _ _ .refl).1
                have h02 := (hs2 _ _ _ .refl).1
                rw [if_neg Bool.false_ne_true] at h0 h02
                exact ⟨a, b, vs, us, rfl, .inl ⟨h0, h02, q _ _ g2 Q2.rl.lock Q2.sp (it_zip hS hT)⟩⟩
              | true =>
                rw [← ht, hk] at hT
                rw [hk] at hS
                have hS' := hS
                have hT' := hT
                obtain ⟨vs, hs⟩ := hS'
                obtain ⟨us, hs2⟩ := hT'
                have h0 := (hs _ _ _ .refl).1
                have h02 := (hs2 _ _ _ .refl).1
                rw [if_pos rfl] at h0 h02
                exact ⟨a, b, vs, us, rfl, .inr ⟨h0, h02, q _ _ g2 Q2.rl.lock Q2.sp (it_zipT hS hT)⟩⟩
            · cases ev
          · cases ev
        · cases ev
      · cases ev
    · cases ev
end
end Mt

set_option Elab.async false
set_option linter.all false
set_option maxRecDepth 100000
set_option maxHeartbeats 4000000
/-! Statements: parallel, unpacking, items, op=. -/
namespace Mt
open PySem PySem.Spec PyProof.Rows L2

section
variable {X : Cx} {cl : Call} {A : List Nat} {np : Nat}
theorem par_inv {ts : List T} {es : List E} {st st' : MS} {f : Fl} (h : exS cl (.par ts es) st = some (f, st')) : ∃ avs st1 ss, evAs cl es st = some (avs, st1) ∧ slsOf avs = some ss ∧ exTs cl ts ss st1 = some st' ∧ f = .nx := by
  simp only [exS] at h
  split at h
  · rename_i avs st1 h1
    split at h
    · rename_i ss h2
      split at h
      · rename_i st2 h3
        cases h
        exact ⟨_, _, _, h1, h2, h3, rfl⟩
      · cases h
    · cases h
  · cases h
def noneSl : Sl := .emp
/-- held values at the values -/
inductive SLs (K : PySem.W.Frag) (w : World) (F : Addr → Prop) (H : Hp) : List Sl → List V → List (List Addr) → Prop
  | nil : SLs K w F H [] [] []
  | cons {s : Sl} {v : V} {ts : List Addr} {ss : List Sl} {vs : List V} {tss : List (List Addr)} : SlR K w F H s (some v) ts → SLs K w F H ss vs tss → SLs K w F H (s :: ss) (v :: vs) (ts :: tss)
theorem sls_of {K : PySem.W.Frag} {w : World} {F : Addr → Prop} {H : Hp} {σ : L2.St} : ∀ {avs : List AV} {vs : List V} {tss : List (List Addr)} {ss : List Sl}, AVs K w F H σ avs vs tss → slsOf avs = some ss → SLs K w F H ss vs tss
  | _, _, _, _, .nil, e => by cases e; exact .nil
  | _, _, _, _, .ln _ _, e => by cases e
  | _, _, _, _, .sl h t, e => by
    simp only [slsOf] at e
    split at e
    · rename_i ss hs
      cases e
      exact .cons h (sls_of t hs)
    · cases e
/-- the first is stored -/
theorem put_first {K : PySem.W.Frag} {w : World} {σ : L2.St} {st st1 : MS} {g g1 : Gs} {H H1 : Hp} {s : Sl} {v : V} {ts : List Addr} {ss : List Sl} {vs : List V} {tss : List (List Addr)} (i : Nat) (Rh : Rel K w st1 σ H1 g1) (S : Stp st g H st1 g1 H1) (h : SlR K w g1.F H1 s (some v) ts)
    (t : SLs K w g1.F H1 ss vs tss) (f : Fsh g1 (ts :: tss).flatten) (n : ∀ t ∈ (ts :: tss).flatten, H t = none) : ∃ g2, Rel K w (st1.set i s) (σ.set i (some v)) H1 g2 ∧ Stp st g H (st1.set i s) g2 H1 ∧ SLs K w g2.F H1 ss vs tss ∧ Fsh g2 tss.flatten := by
  rw [List.flatten_cons] at f n
  obtain ⟨n1, n2, n3⟩ := List.nodup_append.mp f.nd
  have P : Pso K w σ st g H st1 s v H1 g1 ts := ⟨Rh, S, h, ⟨n1, fun t ht => f.nf t (List.mem_append_left _ ht), fun t ht => f.no t (List.mem_append_left _ ht)⟩, fun t ht => n t (List.mem_append_left _ ht)⟩
  obtain ⟨R2, S2⟩ := put_at P i
  exact ⟨_, R2, S2, t, n2, fun t ht => f.nf t (List.mem_append_right _ ht), fun t ht ⟨j, hj⟩ => (ga_set_sub hj).elim (fun z => n3 t z t ht rfl) fun z => f.no t (List.mem_append_right _ ht) ⟨j, z⟩⟩
theorem sls1 {K : PySem.W.Frag} {w : World} {F : Addr → Prop} {H : Hp} {ss : List Sl} {vs : List V} {tss : List (List Addr)} (h : SLs K w F H ss vs tss) : vs.length = ss.length := by
  induction h with
  | nil => rfl
  | cons _ _ ih => rw [List.length_cons, List.length_cons, ih]
theorem exTs_nil {ss : List Sl} {st st' : MS} (h : exTs cl [] ss st = some st') : ss = [] ∧ st' = st := by
  cases ss with
  | nil => simp only [exTs] at h; cases h; exact ⟨rfl, rfl⟩
  | cons s ss => simp only [exTs] at h; cases h
theorem exTs_nm {i : Nat} {ts : List T} {ss : List Sl} {st st' : MS} (h : exTs cl (.nm i :: ts) ss st = some st') : ∃ s r, ss = s :: r ∧ exTs cl ts r (st.set i s) = some st' := by
  cases ss with
  | nil => simp only [exTs] at h; cases h
  | cons s r =>
    simp only [exTs, exT] at h
    exact ⟨s, r, rfl, h⟩

/-! ### swapped stores -/
/-- the names of a parallel assignment whose stores the compiler swaps -/
def nmOf (sc : Scope) (line : Nat) : Expr → Option Str
  | .Name id pos => if sc.names.lookup id == some .local && pos.line == line then some id else none
  | _ => none
def swapped (sc : Scope) (ts vs : List Expr) : Option (List Str) :=
  if !(ts.length == 2 || ts.length == 3) || vs.length != ts.length then none
  else if vs.any fun | .Starred .. => true | _ => false then none
  else
    let line := (ts.head?.map (·.pos.line)).getD 0
    let names := ts.filterMap (nmOf sc line)
    if names.length != ts.length || names.eraseDups.length != names.length then none
    else if vs.all (foldedForSure 8) then none
    else if vs.all (constantsAlone 8) then none
    else some names
theorem swapped_ok {ts vs : List Expr} {k k2 : Nat} {p p2 : Pos} {env : Env} {ns : List Str} (hk : env.blockKind = .function) (hko : ∀ id, env.kindOf id = env.scope.names.lookup id) (h : swapped env.scope ts vs = some ns) : swappedStores [.Tuple ts k p] (.Tuple vs k2 p2) env = pure (some ns) := by
  unfold swapped at h
  unfold swappedStores
  split at h
  · cases h
  · rename_i h1
    split at h
    · cases h
    · rename_i h2
      dsimp only at h
      split at h
      · cases h
      · rename_i h3
        split at h
        · cases h
        · rename_i h4
          split at h
          · cases h
          · rename_i h5
            cases h
            simp only [hk]
            rw [if_neg (by simpa using h1)]
            refine (if_neg h2).trans ?_
            refine (if_neg h3).trans ?_
            refine (if_neg h4).trans ?_
            exact (if_neg h5).trans rfl
theorem es_par2 {i j : Nat} {x y : Str} {a b : Expr} {as : List E} {px py pt pos : Pos} {kt k2 : Nat} {pt2 : Pos} (hc : X.calm = true) (hN : X.N.Nodup) (hi : X.N[i]? = some x) (hj : X.N[j]? = some y) (hij : i ≠ j)
    (hx : X.env.scope.names.lookup x = some .local) (hy : X.env.scope.names.lookup y = some .local) (hk : X.env.blockKind = .function) (hA : i ∈ A) (hB : j ∈ A) (ha : EAs X cl [a, b] as) (hw : swapped X.env.scope [.Name x px, .Name y py] [a, b] = some [x, y]) :
    ES X cl A np (.Assign [.Tuple [.Name x px, .Name y py] kt pt] (.Tuple [a, b] k2 pt2) pos) (.par [.nm i, .nm j] as) :=
  psimp (ps_par hc hN hi hj hij hx hy (pa_as ha) (swapped_ok hk (fun _ => rfl) hw) rfl) fun En σ H ⟨st, g, f, st', Rh, ex, fin⟩ => by
    obtain ⟨avs, st1, ss, h1, h2, h3, rfl⟩ := par_inv ex
    obtain ⟨s1, r1, rfl, h4⟩ := exTs_nm h3
    obtain ⟨s2, r2, rfl, h5⟩ := exTs_nm h4
    obtain ⟨rfl, rfl⟩ := exTs_nil h5
    refine ⟨st, g, avs, st1, Rh, h1, fun vs H1 g1 tss R1 S1 A1 F1 N1 => ?_⟩
    cases sls_of A1 h2 with
    | cons q1 q2 =>
      cases q2 with
      | cons q2 q3 =>
        cases q3
        obtain ⟨g2, R2, S2, t2, F2⟩ := put_first i R1 S1 q1 (.cons q2 .nil) F1 N1
        cases t2 with
        | cons q2' t3 =>
          obtain ⟨g3, R3, S3, _⟩ := put_first j R2 S2 q2' t3 F2 fun t ht => N1 t (by rw [List.flatten_cons]; exact List.mem_append_right _ ht)
          exact ⟨_, _, rfl, fin _ _ g3 R3 S3 ((Ag.set hA).trans (Ag.set hB))⟩
theorem es_par3 {i j l : Nat} {x y z : Str} {a b c : Expr} {as : List E} {px py pz pt pos : Pos} {kt k2 : Nat} {pt2 : Pos} (hc : X.calm = true) (hN : X.N.Nodup) (hi : X.N[i]? = some x) (hj : X.N[j]? = some y) (hl : X.N[l]? = some z) (hij : i ≠ j) (hil : i ≠ l) (hjl : j ≠ l)
    (hx : X.env.scope.names.lookup x = some .local) (hy : X.env.scope.names.lookup y = some .local) (hz : X.env.scope.names.lookup z = some .local) (hk : X.env.blockKind = .function) (hA : i ∈ A) (hB : j ∈ A) (hC : l ∈ A) (ha : EAs X cl [a, b, c] as)
    (hw : swapped X.env.scope [.Name x px, .Name y py, .Name z pz] [a, b, c] = some [x, y, z]) :
    ES X cl A np (.Assign [.Tuple [.Name x px, .Name y py, .Name z pz] kt pt] (.Tuple [a, b, c] k2 pt2) pos) (.par [.nm i, .nm j, .nm l] as) :=
  psimp (ps_par3 hc hN hi hj hl hij hil hjl hx hy hz (pa_as ha) (swapped_ok hk (fun _ => rfl) hw) rfl) fun En σ H ⟨st, g, f, st', Rh, ex, fin⟩ => by
    obtain ⟨avs, st1, ss, h1, h2, h3, rfl⟩ := par_inv ex
    obtain ⟨s1, r1, rfl, h4⟩ := exTs_nm h3
    obtain ⟨s2, r2, rfl, h5⟩ := exTs_nm h4
    obtain ⟨s3, r3, rfl, h6⟩ := exTs_nm h5
    obtain ⟨rfl, rfl⟩ := exTs_nil h6
    refine ⟨st, g, avs, st1, Rh, h1, fun vs H1 g1 tss R1 S1 A1 F1 N1 => ?_⟩
    cases sls_of A1 h2 with
    | cons q1 q2 =>
      cases q2 with
      | cons q2 q3 =>
        cases q3 with
        | cons q3 q4 =>
          cases q4
          obtain ⟨g2, R2, S2, t2, F2⟩ := put_first i R1 S1 q1 (.cons q2 (.cons q3 .nil)) F1 N1
          cases t2 with
          | cons q2' t3 =>
            have N2 : ∀ t ∈ List.flatten _, H t = none := fun t ht => N1 t (by rw [List.flatten_cons]; exact List.mem_append_right _ ht)
            obtain ⟨g3, R3, S3, t4, F3⟩ := put_first j R2 S2 q2' t3 F2 N2
            cases t4 with
            | cons q3' t5 =>
              obtain ⟨g4, R4, S4, _⟩ := put_first l R3 S3 q3' t5 F3 fun t ht => N2 t (by rw [List.flatten_cons]; exact List.mem_append_right _ ht)
              exact ⟨_, _, _, rfl, fin _ _ g4 R4 S4 (((Ag.set hA).trans (Ag.set hB)).trans (Ag.set hC))⟩
/-! ### (a, b, ..) = e -/
def noTuple : Expr → Bool
  | .Tuple .. => false
  | _ => true
theorem swap_none {ts : List Expr} {k : Nat} {p : Pos} {e : Expr} {env : Env} (h : noTuple e = true) : swappedStores [.Tuple ts k p] e env = pure none := by
  cases e <;> first | rfl | cases h
theorem swaps_sole {e t : Expr} {l : Nat} {env : Env} (h : noComp e = true) : swapsWithSole [t] e l env = pure false := by
  have : swapsWithSole [t] e l env = swapsWith e (some t) l env := by simp only [swapsWithSole]
  rw [this]
  exact swaps_no h
theorem unp_inv {ts : List Tg} {e : E} {st st' : MS} {f : Fl} (h : exS cl (.unp ts e) st = some (f, st')) : ∃ xs st1, evE cl e st = some (.dat (.tuple xs), st1) ∧ putTs ts xs st1 = some st' ∧ f = .nx := by
  simp only [exS] at h
  split at h
  · rename_i xs st1 h1
    split at h
    · rename_i st2 h2
      cases h
      exact ⟨_, _, h1, h2, rfl⟩
    · cases h
  · cases h
theorem es_unp {ts : List Expr} {e : Expr} {ts' : List Tg} {e' : E} {k : Nat} {p pos : Pos} (hc : X.calm = true) (hN : X.N.Nodup) (hs : ts.all noStar = true) (ht : ETs X A ts ts') (hn : noComp e = true) (hn2 : noTuple e = true) (he : EV X e (evE cl e')) :
    ES X cl A np (.Assign [.Tuple ts k p] e pos) (.unp ts' e') :=
  psimp (ps_asg he (pg_tup hc (pg_ts hc hN ht) asg_len (asg_none hs)) (swaps_sole hn) (swap_none hn2)) fun En σ H ⟨st, g, f, st', Rh, ex, fin⟩ => by
    obtain ⟨xs, st1, h1, h2, rfl⟩ := unp_inv ex
    refine ⟨st, g, _, st1, Rh, h1, fun v H1 g1 tss P => ?_⟩
    obtain ⟨a, vs, rfl, hT, ra⟩ := P.dat.tup_inv
    exact ⟨a, vs, rfl, hT, by rw [ra.len, putTs_len h2, ht.len], st1, g1, xs, st', P.rl, ra, h2, fun σ2 g2 R2 S2 a2 => fin _ _ g2 R2 (P.sp.trans S2) a2⟩
end
end Mt

set_option Elab.async false
set_option linter.all false
set_option maxRecDepth 100000
set_option maxHeartbeats 4000000
/-! x[k] = e; x op= e. -/
namespace Mt
open PySem PySem.Spec PyProof.Rows L2

section
variable {X : Cx} {cl : Call} {A : List Nat} {np : Nat}
theorem evK_inv {e : E} {st st' : MS} {d : D} (h : evK cl e st = some (d, st')) : ∃ x st1, evE cl e st = some (x, st1) ∧ frz st1 x = some (d, st') := by
  unfold evK at h
  split at h
  · rename_i x st1 h1
    exact ⟨_, _, h1, h⟩
  · cases h
theorem seti_inv {i : Nat} {k e : E} {st st' : MS} {f : Fl} (h : exS cl (.seti i k e) st = some (f, st')) : ∃ x st1 d st2 y st3 s, evE cl e st = some (x, st1) ∧ frz st1 x = some (d, st2) ∧ isEmp (gt st2 i) = false ∧ evK cl k st2 = some (y, st3) ∧ opSet (gt st3 i) y d = some s ∧ f = .nx ∧ st' = st3.set i s := by
  simp only [exS] at h
  split at h
  · rename_i x st1 h1
    split at h
    · rename_i d st2 h2
      split at h
      · cases h
      · rename_i hn
        split at h
        · rename_i y st3 h3
          split at h
          · rename_i s h4
            cases h
            exact ⟨_, _, _, _, _, _, _, h1, h2, by simpa using hn, h3, h4, rfl, rfl⟩
          · cases h
        · cases h
    · cases h
  · cases h
/-- what a slot's item is set to, by values -/
def rSt (K : PySem.W.Frag) (w : World) : TSet := fun o k v H Q => ∃ st σ g i s y d, Rel K w st σ H g ∧ gv σ i = some o ∧ Rp K g.F H k y ∧ Rp K g.F H v d ∧ opSet (gt st i) y d = some s ∧
  ∀ H' g', Rel K w (st.set i s) σ H' g' → Stp st g H (st.set i s) g' H' → Q H'
/-- the dict's half -/
def rStD (K : PySem.W.Frag) (w : World) : TSet := fun o k v H Q => ∃ st σ g i kvs s y d, Rel K w st σ H g ∧ gv σ i = some o ∧ gt st i = .dct false kvs ∧ Rp K g.F H k y ∧ Rp K g.F H v d ∧ opSet (gt st i) y d = some s ∧
  ∀ H' g', Rel K w (st.set i s) σ H' g' → Stp st g H (st.set i s) g' H' → Q H'
theorem setD_ok (hu : X.A.units + 200 < cLine) : PSet X (rStD X.K X.w) := by
  intro pins s σ H o k v ov kv uv Q I ro rk rv ⟨st, σ', g, i, kvs, s', y, d, Rh, hv, hs, rky, rvd, e, q⟩
  rw [hs] at e
  simp only [opSet] at e
  split at e
  · rename_i qk hq
    split at e
    · rename_i hl
      cases e
      have rp := Rh.rep i
      rw [hs, hv] at rp
      obtain ⟨a, es, ea, e2, h1, h2, h3, h4⟩ := rp
      cases e2
      obtain rfl : ov = Value.ref a := ro
      have h4' : Paired (EntP X.K X.w g.F H (PVd X.K g.F H)) es.toList kvs := h4
      have mA : a ∈ ga g.as i := by rw [ea]; exact List.mem_singleton.mpr rfl
      refine d_set (Q := fun _ s' => ∃ H', L2.Inv X pins σ H' s' ∧ Q H') hu I h1 h3 h4' hl hq rky rk (PV := PVd X.K g.F H) (x := d) ⟨v, rv, rvd⟩ fun es' s' I' P' => ⟨_, I', q _ g (Rh.write mA ?_) (.write Rh mA (by rw [hs]; rfl))⟩
      rw [ea, hv]
      refine ⟨a, es', rfl, rfl, upd_same, h2, keysOk_put h3 hq, prMono P' fun _ _ p ⟨⟨kv, qq, a1, a2, a3, a4⟩, xv, b1, b2⟩ => ?_⟩
      have m : ∀ {v d}, Rp X.K g.F H v d → Rp X.K g.F (upd H a (dictO a es')) v d := fun h => h.mono (fun _ h => h) (upd_kl Rh mA) (upd_kt Rh mA)
      exact ⟨⟨kv, qq, a1, m a2, a3, a4⟩, xv, b1, m b2⟩
    · cases e
  · cases e
theorem set_ok (hu : X.A.units + 200 < cLine) : PSet X (rSt X.K X.w) := by
  intro pins s σ H o k v ov kv uv Q I ro rk rv ⟨st, σ', g, i, s', y, d, Rh, hv, rky, rvd, e, q⟩
  cases hs : gt st i with
  | lst lk xs =>
    cases lk with
    | true => rw [hs] at e; cases e
    | false =>
      rw [hs] at e
      cases y with
      | int n =>
        simp only [opSet] at e
        split at e
        · rename_i j hj
          cases e
          obtain ⟨a, vs, hv2, hA, ra⟩ := lst_at Rh hs
          rw [hv] at hv2
          cases hv2
          cases rky.int_inv
          obtain ⟨R2, S2⟩ := write_lst Rh hs hv hA (ra.set rvd j)
          exact set_list pins s σ H _ _ v ov kv uv Q I ro rk rv ⟨a, vs, n, j, rfl, rfl, hA, by rw [ra.len]; exact hj, q _ g R2 S2⟩
        · cases e
      | _ => cases e
  | dct lk kvs =>
    cases lk with
    | true => rw [hs] at e; cases e
    | false => exact setD_ok hu pins s σ H o k v ov kv uv Q I ro rk rv ⟨st, σ', g, i, kvs, s', y, d, Rh, hv, hs, rky, rvd, e, q⟩
  | _ => rw [hs] at e; cases e
theorem opSet_emp {s s' : Sl} {k d : D} (h : opSet s k d = some s') : isEmp s = false := by
  cases s <;> first | rfl | cases h
/-- a slot that holds something, and held something before -/
theorem gv_back {K : PySem.W.Frag} {w : World} {st : MS} {σ : L2.St} {H : Hp} {g : Gs} {i : Nat} (Rh : Rel K w st σ H g) (h : isEmp (gt st i) = false) : ∃ v, gv σ i = some v := (Rh.rep i).val h
theorem asg_sub {o i : Expr} {p : Pos} {env : Env} {v : Value} (h : noSlice i = true) : assign (.Subscript o i p) env v = (do
      let ov ← holding [v] (eval o env)
      let iv ← holding [v, ov] (eval i env)
      standAt p
      holding [v, ov, iv] (setItem ov iv v)
      release [v, ov, iv] []) := by
  cases i <;> first | rfl | cases h
theorem es_seti {i : Nat} {o k e : Expr} {k' e' : E} {p pos : Pos} (hu : X.A.units + 200 < cLine) (ho : PE X o (tVar i)) (hk : EV X k (evE cl k')) (he : EV X e (evE cl e')) (hs : noSlice k = true) (hn : noComp e = true) : ES X cl A np (.Assign [.Subscript o k p] e pos) (.seti i k' e') :=
  psimp (ps_asg he (pg_sub ho hk (set_ok hu) (fun v => asg_sub hs)) (swaps_sole hn) (by unfold swappedStores; rfl)) fun En σ H ⟨st, g, f, st', Rh, ex, fin⟩ => by
    obtain ⟨x, st1, d, st2, y, st3, s, h1, h2, h0, h3, h4, rfl, rfl⟩ := seti_inv ex
    obtain ⟨z, st4, h5, h6⟩ := evK_inv h3
    refine ⟨st, g, x, st1, Rh, h1, fun v H1 g1 ts P => ?_⟩
    obtain ⟨g2, P2⟩ := frz_ok P h2
    -- the slot's value: it stands through all this
    obtain ⟨ov, hv⟩ := gv_back P2.rl h0
    refine ⟨ov, gv_get hv, st2, g2, z, st4, P2.rl, h5, fun kv H2 g3 ts2 P3 => ?_⟩
    obtain ⟨g4, P4⟩ := frz_ok P3 h6
    exact ⟨st3, σ, g4, i, s, y, d, P4.rl, hv, P4.dat, P2.rl.rp P4.sp P2.dat, h4, fun H' g' R' S' => fin _ _ g' R' ((P2.sp.trans P4.sp).trans S') .refl⟩
theorem aug_inv {i : Nat} {op : Bop} {e : E} {st st' : MS} {f : Fl} (h : exS cl (.aug i op e) st = some (f, st')) : ∃ a st1 b d, gt st i = .dat (.int a) ∧ evE cl e st = some (.dat (.int b), st1) ∧ opAug op a b = some d ∧ f = .nx ∧ st' = st1.set i (.dat (.int d)) := by
  simp only [exS] at h
  split at h
  · rename_i a h0
    split at h
    · rename_i x st1 h1
      split at h
      · rename_i b h2
        split at h
        · rename_i d h3
          cases h
          cases asI_inv h2
          refine ⟨_, _, _, _, ?_, h1, h3, rfl, rfl⟩
          have z := asI_inv h0
          cases hs : gt st i with
          | dat d => rw [hs] at z; cases z; rfl
          | _ => rw [hs] at z; cases z
        · cases h
      · cases h
    · cases h
  · cases h
theorem ip_ok {op : Bop} : PIp X (opOf op) (fun x y H Q => ∃ a b d, x = .int a ∧ y = .int b ∧ opAug op a b = some d ∧ Q (.int d) H) := by
  intro pins s σ H x y v u Q I r1 r2 ⟨a, b, d, e1, e2, e3, q⟩
  cases op with
  | add => cases e3; exact ip_add pins s σ H x y v u Q I r1 r2 ⟨a, b, e1, e2, q⟩
  | sub => cases e3; exact ip_sub pins s σ H x y v u Q I r1 r2 ⟨a, b, e1, e2, q⟩
  | _ => cases e3
theorem es_aug {i : Nat} {x : Str} {op : Bop} {e : Expr} {e' : E} {p pos : Pos} (hN : X.N.Nodup) (hi : X.N[i]? = some x) (hx : Loc X.env.scope x) (hf : X.fn x = true ∨ X.env.scope.names.lookup x = some .local) (hA : i ∈ A) (he : EV X e (evE cl e')) : ES X cl A np (.AugAssign (.Name x p) (opOf op) e pos) (.aug i op e') :=
  psimp (ps_aug hN hi hx he ip_ok hf) fun En σ H ⟨st, g, f, st', Rh, ex, fin⟩ => by
    obtain ⟨a, st1, b, d, h1, h2, h3, rfl, rfl⟩ := aug_inv ex
    have q := Rh.rep i
    rw [h1] at q
    obtain ⟨_, v, hv, rd⟩ := q
    cases rd.int_inv
    refine ⟨_, gv_get hv, st, g, _, st1, Rh, h2, fun v2 H1 g1 ts P => ⟨a, b, d, rfl, P.dat.int_inv, h3, ?_⟩⟩
    obtain ⟨g2, R2, S2⟩ := put_ok (Pso.dat (v := .int d) P.rl P.sp (.int d)) i
    exact fin _ _ g2 R2 S2 (.set hA)
end
end Mt

set_option Elab.async false
set_option linter.all false
set_option maxRecDepth 100000
set_option maxHeartbeats 8000000
/-! a, b[k], .. = x, y, ..: by a tuple, from the left. -/
namespace Mt
open PySem PySem.Spec PyProof.Rows L2

/-- nothing is swapped -/
def noSwap (sc : Scope) (ts vs : List Expr) : Bool :=
  (!(ts.length == 2 || ts.length == 3) || vs.length != ts.length) || ((!(vs.any fun | .Starred .. => true | _ => false)) &&
    (let line := (ts.head?.map (·.pos.line)).getD 0
     let names := ts.filterMap (nmOf sc line)
     (names.length != ts.length || names.eraseDups.length != names.length) || vs.all (foldedForSure 8)))
theorem noSwap_ok {ts vs : List Expr} {k k2 : Nat} {p p2 : Pos} {env : Env} (hk : env.blockKind = .function) (h : noSwap env.scope ts vs = true) : swappedStores [.Tuple ts k p] (.Tuple vs k2 p2) env = pure none := by
  unfold noSwap at h
  unfold swappedStores
  rw [Bool.or_eq_true] at h
  simp only [hk]
  by_cases h1 : (!(ts.length == 2 || ts.length == 3) || vs.length != ts.length) = true
  · refine (if_pos ?_).trans rfl
    rw [h1]; rfl
  · have h := h.resolve_left h1
    rw [if_neg (by simpa using h1)]
    rw [Bool.and_eq_true] at h
    have h0 := h.1
    rw [Bool.not_eq_true'] at h0
    refine (if_neg fun e => Bool.noConfusion (h0.symm.trans e)).trans ?_
    have h2 := h.2
    dsimp only at h2
    rw [Bool.or_eq_true] at h2
    by_cases h3 : ((ts.filterMap (nmOf env.scope ((ts.head?.map (·.pos.line)).getD 0))).length != ts.length || (ts.filterMap (nmOf env.scope ((ts.head?.map (·.pos.line)).getD 0))).eraseDups.length != (ts.filterMap (nmOf env.scope ((ts.head?.map (·.pos.line)).getD 0))).length) = true
    · exact (if_pos h3).trans rfl
    · refine (if_neg h3).trans ?_
      exact (if_pos (h2.resolve_left h3)).trans rfl
section
variable {K : PySem.W.Frag} {w : World} {st st1 st' : MS} {g g1 g' : Gs} {H H1 H' : Hp} {σ : L2.St}
theorem SLs.step {ss : List Sl} {vs : List V} {tss : List (List Addr)} (h : SLs K w g1.F H1 ss vs tss) (f : Fsh g1 tss.flatten) (Rh : Rel K w st1 σ H1 g1) (S : Stp st1 g1 H1 st' g' H') : SLs K w g'.F H' ss vs tss ∧ Fsh g' tss.flatten := by
  have mu : ∀ t ∈ tss.flatten, ∃ o, H1 t = some o := by
    clear f
    induction h with
    | nil => intro t ht; simp at ht
    | cons h _ ih =>
      intro t ht
      rw [List.flatten_cons] at ht
      rcases List.mem_append.mp ht with ht | ht
      · obtain ⟨o, e, _⟩ := h.mu t ht; exact ⟨o, e⟩
      · exact ih t ht
  refine ⟨?_, f.nd, fun t ht z => ?_, fun t ht ⟨i, z⟩ => ?_⟩
  · have key : ∀ {ss : List Sl} {vs : List V} {tss : List (List Addr)}, SLs K w g1.F H1 ss vs tss → (∀ t ∈ tss.flatten, ¬ Own g1 t) → SLs K w g'.F H' ss vs tss := by
      intro ss vs tss h
      induction h with
      | nil => intro _; exact .nil
      | cons h _ ih =>
        intro no
        rw [List.flatten_cons] at no
        exact .cons (h.mono S.sub (Rh.kl S) (Rh.kt S) (Rh.kz S) fun a ha o e => S.keep a o e fun q => no a (List.mem_append_left _ ha) q.own) (ih fun t ht => no t (List.mem_append_right _ ht))
    exact key h f.no
  · obtain ⟨o, e⟩ := mu t ht
    rcases S.new t z with z | z | z
    · exact f.nf t ht z
    · exact f.no t ht z
    · rw [e] at z; cases z
  · obtain ⟨o, e⟩ := mu t ht
    rcases S.all i t z with z | z
    · exact f.no t ht ⟨i, z⟩
    · rw [e] at z; cases z
end
/-- the targets, values in hand -/
def gOw (K : PySem.W.Frag) (w : World) (A : List Nat) (cl : Call) (ts : List T) : TGs := fun vs σ H Q => ∃ st0 g0 H0 st g ss tss st', Rel K w st σ H g ∧ Stp st0 g0 H0 st g H ∧ SLs K w g.F H ss vs tss ∧ Fsh g tss.flatten ∧ (∀ t ∈ tss.flatten, H0 t = none) ∧ exTs cl ts ss st = some st' ∧
  ∀ σ' H' g', Rel K w st' σ' H' g' → Stp st0 g0 H0 st' g' H' → Ag A σ σ' → Q σ' H'
inductive EPT (X : Cx) (cl : Call) (A : List Nat) : Expr → T → Prop
  | nm {i : Nat} {x : Str} {p : Pos} : X.N[i]? = some x → Loc X.env.scope x → (X.fn x = true ∨ X.env.scope.names.lookup x = some .local) → i ∈ A → EPT X cl A (.Name x p) (.nm i)
  | sub {i : Nat} {o k : Expr} {k' : E} {p : Pos} : PE X o (tVar i) → EV X k (evE cl k') → noSlice k = true → EPT X cl A (.Subscript o k p) (.sub i k')
  | tup {es : List Expr} {ts : List Tg} {k : Nat} {p : Pos} : es.all noStar = true → ETs X A es ts → EPT X cl A (.Tuple es k p) (.tup ts)
inductive EPTs (X : Cx) (cl : Call) (A : List Nat) : List Expr → List T → Prop
  | nil : EPTs X cl A [] []
  | cons {e : Expr} {t : T} {es : List Expr} {ts : List T} : EPT X cl A e t → EPTs X cl A es ts → EPTs X cl A (e :: es) (t :: ts)
section
variable {X : Cx} {cl : Call} {A : List Nat} {np : Nat}
theorem exTs_cons {t : T} {ts : List T} {ss : List Sl} {st st' : MS} (h : exTs cl (t :: ts) ss st = some st') : ∃ s r st1, ss = s :: r ∧ exT cl t s st = some st1 ∧ exTs cl ts r st1 = some st' := by
  cases ss with
  | nil => simp only [exTs] at h; cases h
  | cons s r =>
    simp only [exTs] at h
    split at h
    · rename_i st1 h1; exact ⟨s, r, st1, rfl, h1, h⟩
    · cases h
theorem sub_inv {i : Nat} {k : E} {s : Sl} {st st' : MS} (h : exT cl (.sub i k) s st = some st') : ∃ d y st1 s', s = .dat d ∧ isEmp (gt st i) = false ∧ evK cl k st = some (y, st1) ∧ opSet (gt st1 i) y d = some s' ∧ st' = st1.set i s' := by
  simp only [exT] at h
  split at h
  · rename_i d
    split at h
    · cases h
    · rename_i hn
      split at h
      · rename_i y st1 h1
        split at h
        · rename_i s' h2
          cases h
          exact ⟨_, _, _, _, rfl, by simpa using hn, h1, h2, rfl⟩
        · cases h
      · cases h
  · cases h
theorem pgs_ow (hu : X.A.units + 200 < cLine) (hc : X.calm = true) (hN : X.N.Nodup) : ∀ {es : List Expr} {ts : List T}, EPTs X cl A es ts → PGs X es (gOw X.K X.w A cl ts)
  | _, _, .nil => pgsimp pgs_nil fun vs σ H Q ⟨st0, g0, H0, st, g, ss, tss, st', Rh, S, L, f, n, e, q⟩ => by
    obtain ⟨rfl, rfl⟩ := exTs_nil e
    cases L
    exact ⟨rfl, q _ _ g Rh S .refl⟩
  | _, _, .cons (es := es1) (.nm (i := i) h1 h2 h3 h4) t => pgsimp (pgs_cons (pg_name hN h1 h2 h3) (pgs_ow hu hc hN t) rfl) fun vs σ H Q ⟨st0, g0, H0, st, g, ss, tss, st', Rh, S, L, f, n, e, q⟩ => by
    obtain ⟨s, r, st1, rfl, e1, e2⟩ := exTs_cons e
    simp only [exT] at e1
    cases e1
    cases L with
    | cons l1 l2 =>
      obtain ⟨g2, R2, S2, L2, F2⟩ := put_first i Rh S l1 l2 f n
      exact ⟨_, _, rfl, st0, g0, H0, _, g2, r, _, st', R2, S2, L2, F2, fun t ht => n t (by rw [List.flatten_cons]; exact List.mem_append_right _ ht), e2, fun σ' H' g' R' S' a' => q σ' H' g' R' S' ((Ag.set h4).trans a')⟩
  | _, _, .cons (.sub (i := i) ho hk hs) t => pgsimp (pgs_cons (pg_sub ho hk (set_ok hu) (fun v => asg_sub hs)) (pgs_ow hu hc hN t) rfl) fun vs σ H Q ⟨st0, g0, H0, st, g, ss, tss, st', Rh, S, L, f, n, e, q⟩ => by
    obtain ⟨s, r, st1, rfl, e1, e2⟩ := exTs_cons e
    obtain ⟨d, y, st2, s', rfl, h0, h3, h4, rfl⟩ := sub_inv e1
    obtain ⟨z, st3, h5, h6⟩ := evK_inv h3
    obtain ⟨ov, hv⟩ := gv_back Rh h0
    cases L with
    | @cons _ v ts _ vs' tss' l1 l2 =>
      obtain ⟨e0, x, ex, rx⟩ := l1
      cases ex
      subst e0
      rw [List.flatten_cons, List.nil_append] at f n
      refine ⟨_, _, rfl, ov, gv_get hv, st, g, z, st3, Rh, h5, fun kv H1 g1 ts1 P1 => ?_⟩
      obtain ⟨g2, P2⟩ := frz_ok P1 h6
      obtain ⟨L3, F3⟩ := l2.step f Rh P2.sp
      refine ⟨st2, σ, g2, i, s', y, d, P2.rl, hv, P2.dat, Rh.rp P2.sp rx, h4, fun H' g' R' S' => ?_⟩
      obtain ⟨L4, F4⟩ := L3.step F3 P2.rl S'
      exact ⟨st0, g0, H0, _, g', r, _, st', R', (S.trans P2.sp).trans S', L4, F4, n, e2, q⟩
  | _, _, .cons (.tup hs ht) t => pgsimp (pgs_cons (pg_tup hc (pg_ts hc hN ht) asg_len (asg_none hs)) (pgs_ow hu hc hN t) rfl) fun vs σ H Q ⟨st0, g0, H0, st, g, ss, tss, st', Rh, S, L, f, n, e, q⟩ => by
    obtain ⟨s, r, st1, rfl, e1, e2⟩ := exTs_cons e
    cases L with
    | @cons _ v ts _ vs' tss' l1 l2 =>
      simp only [exT] at e1
      split at e1
      · rename_i xs
        obtain ⟨e0, x, ex, rx⟩ := l1
        cases ex
        subst e0
        rw [List.flatten_cons, List.nil_append] at f n
        cases rx with
        | tup hT ra =>
          refine ⟨_, _, rfl, _, _, rfl, hT, by rw [ra.len, putTs_len e1, ht.len], st, g, xs, st1, Rh, ra, e1, fun σ2 g2 R2 S2 a2 => ?_⟩
          obtain ⟨L3, F3⟩ := l2.step f Rh S2
          exact ⟨st0, g0, H0, _, g2, r, _, st', R2, S.trans S2, L3, F3, n, e2, fun σ' H' g' R' S' a' => q σ' H' g' R' S' (a2.trans a')⟩
      · cases e1
theorem EPTs.len {es : List Expr} {ts : List T} (h : EPTs X cl A es ts) : es.length = ts.length := by
  induction h with
  | nil => rfl
  | cons _ _ ih => rw [List.length_cons, List.length_cons, ih]
theorem exTs_len : ∀ {ts : List T} {ss : List Sl} {st st' : MS}, exTs cl ts ss st = some st' → ss.length = ts.length
  | [], ss, st, st', h => by obtain ⟨rfl, _⟩ := exTs_nil h; rfl
  | t :: ts, ss, st, st', h => by
    obtain ⟨s, r, st1, rfl, _, h2⟩ := exTs_cons h
    rw [List.length_cons, List.length_cons, exTs_len h2]
theorem es_parG {ts vs : List Expr} {ts' : List T} {as : List E} {k k2 : Nat} {p1 p2 pos : Pos} (hu : X.A.units + 200 < cLine) (hc : X.calm = true) (hN : X.N.Nodup) (hk : X.env.blockKind = .function) (hs : ts.all noStar = true) (ht : EPTs X cl A ts ts') (ha : EAs X cl vs as) (hw : noSwap X.env.scope ts vs = true) (hz : vs.length ≤ SZ) :
    ES X cl A np (.Assign [.Tuple ts k p1] (.Tuple vs k2 p2) pos) (.par ts' as) :=
  psimp (ps_asg (pe_tup (pa_as ha)) (pg_tup hc (pgs_ow hu hc hN ht) asg_len (asg_none hs)) (swaps_sole rfl) (noSwap_ok hk hw)) fun En σ H ⟨st, g, f, st', Rh, ex, fin⟩ => by
    obtain ⟨avs, st1, ss, h1, h2, h3, rfl⟩ := par_inv ex
    refine ⟨st, g, avs, st1, Rh, h1, fun vs' H1 g1 tss R1 S1 A1 F1 N1 => ?_⟩
    have lv : vs'.length = vs.length := by rw [A1.len2, evAs_len h1, ha.len]
    refine ⟨sz_le (by rw [lv]; exact hz), fun p hp => ?_⟩
    have L := sls_of A1 h2
    have sm := same_new (o := .tup vs') hp
    obtain ⟨L3, F3⟩ := L.step F1 R1 (Stp.grow (st := st1) (g := g1) sm)
    refine ⟨p, vs', rfl, .inl (.inl upd_same), by rw [sls1 L, exTs_len h3, ← ht.len], st, g, H, st1, g1, ss, tss, st', R1.grow sm, S1.trans (.grow sm), L3, F3, N1, h3, fun σ' H' g' R' S' a' => fin σ' H' g' R' S' a'⟩
end
end Mt

set_option Elab.async false
set_option linter.all false
set_option maxRecDepth 100000
set_option maxHeartbeats 8000000
/-! list(range(..)), tuple(range(..)). -/
namespace Mt
open PySem PySem.Spec PyProof.Rows L2
theorem rpA_rg {K : PySem.W.Frag} {F : Addr → Prop} {H : Hp} (a b : Int) : RpA K F H (rgV a b) (rangeD a b) := by
  unfold rgV rangeD
  have key : ∀ l : List Nat, RpA K F H (l.map fun i => V.int (a + (i : Nat))) (l.map fun (k : Nat) => PyData.int (a + (k : Int))) := fun l => by
    induction l with
    | nil => exact .nil
    | cons x l ih => exact .cons (.int _) ih
  exact key _
theorem okRg {a b : Int} (h1 : okR a = true) (h2 : okR b = true) (h3 : (b - a).toNat ≤ SZ) : RgOk a b := ⟨(okR_inv h1).1, (okR_inv h1).2, (okR_inv h2).1, (okR_inv h2).2, h3⟩
section
variable {X : Cx} {cl : Call}
theorem lrg1_inv {tp : Bool} {a : E} {st st' : MS} {r : R} (h : evE cl (.lrg tp [a]) st = some (r, st')) : ∃ n, evE cl a st = some (.dat (.int n), st') ∧ okR n = true ∧ n.toNat ≤ SZ ∧ r = (if tp then .dat (.tuple (rangeD 0 n)) else .lst (rangeD 0 n)) := by
  simp only [evE] at h
  split at h
  · rename_i x st1 h1
    split at h
    · rename_i n hn
      split at h
      · rename_i hc
        cases h
        cases asI_inv hn
        rw [Bool.and_eq_true, decide_eq_true_eq] at hc
        exact ⟨n, h1, hc.1, hc.2, rfl⟩
      · cases h
    · cases h
  · cases h
theorem lrg2_inv {tp : Bool} {a b : E} {st st' : MS} {r : R} (h : evE cl (.lrg tp [a, b]) st = some (r, st')) : ∃ m n st1, evE cl a st = some (.dat (.int m), st1) ∧ evE cl b st1 = some (.dat (.int n), st') ∧ okR m = true ∧ okR n = true ∧ (n - m).toNat ≤ SZ ∧ r = (if tp then .dat (.tuple (rangeD m n)) else .lst (rangeD m n)) := by
  simp only [evE] at h
  split at h
  · rename_i x st1 h1
    split at h
    · rename_i y st2 h2
      split at h
      · rename_i m n hm hn
        split at h
        · rename_i hc
          cases h
          cases asI_inv hn
          cases asI_inv hm
          rw [Bool.and_eq_true, Bool.and_eq_true, decide_eq_true_eq] at hc
          exact ⟨m, n, st1, h1, h2, hc.1.1, hc.1.2, hc.2, rfl⟩
        · cases h
      · cases h
    · cases h
  · cases h
theorem okR0 : okR 0 = true := by decide
theorem ev_lrg1 {a : Expr} {a' : E} {p p2 pos pos2 : Pos} (hc : X.calm = true) (hg : Gl X "list") (hm : X.mg "list" = none) (hg2 : Gl X "range") (hm2 : X.mg "range" = none) (hs : noStar a = true) (ha : EV X a (evE cl a')) :
    EV X (.Call (.Name "list" p) [.Call (.Name "range" p2) [a] [] pos2] [] pos) (evE cl (.lrg false [a'])) :=
  peimp (pe_listRg hc hg hm (prg_1 hg2 hm2 ha (star_cons hs)) (star_cons rfl)) fun σ H Q ⟨st, g, r, st', Rh, ev, q⟩ => by
    obtain ⟨n, h1, h2, h3, rfl⟩ := lrg1_inv ev
    refine ⟨st, g, _, st', Rh, h1, fun v H1 g1 ts P => ⟨n, P.dat.int_inv, okRg okR0 h2 (by rw [Int.sub_zero]; exact h3), fun z hz => q _ _ g1 _ (.out P.rl P.sp (.lst hz (rpA_rg 0 n)))⟩⟩
theorem ev_trg1 {a : Expr} {a' : E} {p p2 pos pos2 : Pos} (hc : X.calm = true) (hg : Gl X "tuple") (hm : X.mg "tuple" = none) (hg2 : Gl X "range") (hm2 : X.mg "range" = none) (hs : noStar a = true) (ha : EV X a (evE cl a')) :
    EV X (.Call (.Name "tuple" p) [.Call (.Name "range" p2) [a] [] pos2] [] pos) (evE cl (.lrg true [a'])) :=
  peimp (pe_tupRg hc hg hm (prg_1 hg2 hm2 ha (star_cons hs)) (star_cons rfl)) fun σ H Q ⟨st, g, r, st', Rh, ev, q⟩ => by
    obtain ⟨n, h1, h2, h3, rfl⟩ := lrg1_inv ev
    refine ⟨st, g, _, st', Rh, h1, fun v H1 g1 ts P => ⟨n, P.dat.int_inv, okRg okR0 h2 (by rw [Int.sub_zero]; exact h3), fun z hz => q _ _ g1 _ (.out P.rl P.sp (.tup hz (rpA_rg 0 n)))⟩⟩
theorem ev_lrg2 {a b : Expr} {a' b' : E} {p p2 pos pos2 : Pos} (hc : X.calm = true) (hg : Gl X "list") (hm : X.mg "list" = none) (hg2 : Gl X "range") (hm2 : X.mg "range" = none) (hs : noStar a = true) (hs2 : noStar b = true) (ha : EV X a (evE cl a')) (hb : EV X b (evE cl b')) :
    EV X (.Call (.Name "list" p) [.Call (.Name "range" p2) [a, b] [] pos2] [] pos) (evE cl (.lrg false [a', b'])) :=
  peimp (pe_listRg hc hg hm (prg_2 hg2 hm2 ha hb (star_cons hs) (star_cons hs2) (by rw [star_cons hs2]; rfl)) (star_cons rfl)) fun σ H Q ⟨st, g, r, st', Rh, ev, q⟩ => by
    obtain ⟨m, n, st1, h1, h2, h3, h4, h5, rfl⟩ := lrg2_inv ev
    refine ⟨st, g, _, st1, Rh, h1, fun v H1 g1 ts P => ⟨st1, g1, _, st', P.rl, h2, fun v2 H2 g2 ts2 P2 => ?_⟩⟩
    obtain ⟨Q1, Q2⟩ := P.seq P2
    exact ⟨m, n, Q1.dat.int_inv, Q2.dat.int_inv, okRg h3 h4 h5, fun z hz => q _ _ g2 _ (.out Q2.rl Q2.sp (.lst hz (rpA_rg m n)))⟩
theorem ev_trg2 {a b : Expr} {a' b' : E} {p p2 pos pos2 : Pos} (hc : X.calm = true) (hg : Gl X "tuple") (hm : X.mg "tuple" = none) (hg2 : Gl X "range") (hm2 : X.mg "range" = none) (hs : noStar a = true) (hs2 : noStar b = true) (ha : EV X a (evE cl a')) (hb : EV X b (evE cl b')) :
    EV X (.Call (.Name "tuple" p) [.Call (.Name "range" p2) [a, b] [] pos2] [] pos) (evE cl (.lrg true [a', b'])) :=
  peimp (pe_tupRg hc hg hm (prg_2 hg2 hm2 ha hb (star_cons hs) (star_cons hs2) (by rw [star_cons hs2]; rfl)) (star_cons rfl)) fun σ H Q ⟨st, g, r, st', Rh, ev, q⟩ => by
    obtain ⟨m, n, st1, h1, h2, h3, h4, h5, rfl⟩ := lrg2_inv ev
    refine ⟨st, g, _, st1, Rh, h1, fun v H1 g1 ts P => ⟨st1, g1, _, st', P.rl, h2, fun v2 H2 g2 ts2 P2 => ?_⟩⟩
    obtain ⟨Q1, Q2⟩ := P.seq P2
    exact ⟨m, n, Q1.dat.int_inv, Q2.dat.int_inv, okRg h3 h4 h5, fun z hz => q _ _ g2 _ (.out Q2.rl Q2.sp (.tup hz (rpA_rg m n)))⟩
end
end Mt

set_option Elab.async false
set_option linter.all false
set_option maxRecDepth 100000
set_option maxHeartbeats 8000000
/-! list(zip(*rows)), below the hand layer: as many tuple iterators as there are rows. -/
namespace Mt
open PySem PySem.Spec PyProof.Rows L2

/-- a row to be drawn from: the iterator, the tuple, its items -/
structure ZR where
  it : Addr
  tp : Addr
  xs : Array Value
def ZAt (h : Heap) (i : Nat) (r : ZR) : Prop := h.IsTupleIter r.it r.tp i ∧ h.IsTuple r.tp r.xs
def zcol (i : Nat) (r : ZR) : Value := r.xs.getD i .none
/-- the cells lie apart -/
structure ZSep (z TI TO : Addr) (rows : List ZR) : Prop where
  nd : (rows.map ZR.it).Nodup
  zi : ∀ r ∈ rows, r.it ≠ z ∧ r.tp ≠ z
  ti : ∀ r ∈ rows, r.it ≠ TI
  to : ∀ r ∈ rows, r.it ≠ TO ∧ r.tp ≠ TO
  ap : ∀ r ∈ rows, ∀ q ∈ rows, r.tp ≠ q.it
  zti : TI ≠ z
  zto : TO ≠ z
  tito : TI ≠ TO
theorem wp_each {α β : Type} {M : Model} {A : Around} {E : Value → Shared → Prop} {f : α → β → Sem (ForInStep β)} {Q : β → Shared → Prop} :
    ∀ (L : List α) (J : Nat → β → Shared → Prop) (b : β) (s : Shared), (∀ i x b s, L[i]? = some x → J i b s → wpAny M A (f x b) (fun r s' => ∃ b', r = .yield b' ∧ J (i + 1) b' s') E s) →
      J 0 b s → (∀ b s, J L.length b s → Q b s) → wpAny M A (forIn L b f) Q E s
  | [], J, b, s, _, h0, hq => by
    rw [List.forIn_nil]
    exact wpAny_pure (hq b s h0)
  | x :: L, J, b, s, st, h0, hq => by
    rw [List.forIn_cons]
    refine wpAny_bind (wpAny_mono (st 0 x b s rfl h0) (fun r s' h => ?_) fun _ _ z => z)
    obtain ⟨b', e, j⟩ := h
    subst e
    exact wp_each L (fun i => J (i + 1)) b' s' (fun i y b s e j => st (i + 1) y b s (by simpa using e) j) j hq

theorem ZAt.move {h h' : Heap} {i : Nat} {r : ZR} {a : Addr} (q : ZAt h i r) (hs : ∀ c o, c ≠ a → h.get? c = some o → h'.get? c = some o) (h1 : r.it ≠ a) (h2 : r.tp ≠ a) : ZAt h' i r :=
  ⟨q.1.at fun o e => hs _ o h1 e, q.2.at fun o e => hs _ o h2 e⟩
theorem ZAt.keep {h h' : Heap} {i : Nat} {r : ZR} (q : ZAt h i r) (hs : ∀ c o, h.get? c = some o → h'.get? c = some o) : ZAt h' i r :=
  ⟨q.1.at fun o e => hs _ o e, q.2.at fun o e => hs _ o e⟩

section
variable {prog : Program} {w : World} {A : Around} {E : Value → Shared → Prop} {s : Shared} {z TI TO T : Addr} {rows : List ZR} {i : Nat}
/-- the state amid a draw of column i: k rows drawn -/
structure ZMid (s : Shared) (z TO : Addr) (rows : List ZR) (i k : Nat) (h : Heap) : Prop where
  at_ : ∀ j r, rows[j]? = some r → ZAt h (if j < k then i + 1 else i) r
  old : ∀ c o, (∀ r ∈ rows, c ≠ r.it) → c ≠ z → c ≠ TO → s.heap.get? c = some o → h.get? c = some o
  siz : h.objs.size = s.heap.objs.size
theorem ZMid.draw {z TO : Addr} {k : Nat} {h h' : Heap} {r : ZR} (S : ZSep z TI TO rows) (M : ZMid s z TO rows i k h) (e : rows[k]? = some r) (h1 : h'.IsTupleIter r.it r.tp (i + 1)) (hs : Heap.SameBut r.it h h') : ZMid s z TO rows i (k + 1) h' where
  at_ := fun j q hj => by
    by_cases hjk : j = k
    · subst hjk
      rw [e] at hj
      cases hj
      rw [if_pos (Nat.lt_succ_self _)]
      refine ⟨h1, ?_⟩
      have m := M.at_ j r e
      exact m.2.at fun o z => hs.extBut _ _ (S.ap r (List.mem_of_getElem? e) r (List.mem_of_getElem? e)) z
    · have m := M.at_ j q hj
      have e2 : (if j < k + 1 then i + 1 else i) = if j < k then i + 1 else i := by
        by_cases h : j < k
        · rw [if_pos h, if_pos (Nat.lt_succ_of_lt h)]
        · rw [if_neg h, if_neg (by omega)]
      rw [e2]
      refine m.move (a := r.it) (fun c o hc z => hs.extBut _ _ hc z) (fun z => hjk ?_) (S.ap q (List.mem_of_getElem? hj) r (List.mem_of_getElem? e))
      have a1 : (rows.map ZR.it)[j]? = some q.it := by rw [List.getElem?_map, hj]; rfl
      have a2 : (rows.map ZR.it)[k]? = some r.it := by rw [List.getElem?_map, e]; rfl
      rw [z] at a1
      exact (List.getElem?_inj (List.getElem?_eq_some_iff.mp a1).1 S.nd).mp (a1.trans a2.symm)
  old := fun c o h2 h3 h4 h5 => hs.extBut _ _ (h2 r (List.mem_of_getElem? e)) (M.old c o h2 h3 h4 h5)
  siz := by rw [hs.1, M.siz]

/-- next of a zip whose former tuple is still out -/
theorem zs_item_held {f : Bool} {oT : Obj} {Q : Value → Shared → Prop} (S : ZSep z TI TO rows) (hz : IsZipHeld s.heap z TI TO T f) (hT : s.heap.get? T = some oT)
    (hTI : s.heap.get? TI = some { cls := .type "tuple", data := .seq (rows.map fun r => Value.ref r.it).toArray }) (hne : rows ≠ []) (hat : ∀ r ∈ rows, ZAt s.heap i r) (hi : ∀ r ∈ rows, i < r.xs.size) (hsz : rows.length ≤ sizeLine)
    (hQ : ∀ h', IsZipHeld h' z TI TO T true → (∀ r ∈ rows, ZAt h' (i + 1) r) → h'.get? s.heap.objs.size = some { cls := .type "tuple", data := .seq (rows.map (zcol i)).toArray } → h'.objs.size = s.heap.objs.size + 1 →
      (∀ c o, (∀ r ∈ rows, c ≠ r.it) → c ≠ z → c ≠ TO → s.heap.get? c = some o → h'.get? c = some o) → Q (.ref s.heap.objs.size) { s with heap := h' }) :
    wpAny (model prog w) A (Builtin.«zip.__next__» ⟨[.ref z], []⟩) (fun fin s' => ∃ v, fin = .done (.ret v) ∧ Q v s') E s := by
  show wpAny _ _ (field (.ref z) 2 >>= _) _ _ _
  refine wpAny_bind (wpAny_field hz rfl (x := .bool false) rfl ?_)
  show wpAny _ _ (field (.ref z) 3 >>= _) _ _ _
  refine wpAny_bind (wpAny_field hz rfl (x := .ref TI) rfl ?_)
  refine wpAny_bind (wpAny_seqItems hTI rfl ?_)
  have hemp : ((rows.map fun r => Value.ref r.it).toArray).isEmpty = false := by
    cases rows with
    | nil => exact absurd rfl hne
    | cons a b => rfl
  simp only [hemp, Bool.false_eq_true, if_false]
  show wpAny _ _ (Builtin.SmallTypes.ownedTupleIsFree (.ref z) >>= _) _ _ _
  refine wpAny_bind (wpAny_tupleHeld_zip hz hT fun h₁ hz₁ hs₁ => ?_)
  simp only [Bool.false_eq_true, if_false]
  refine wpAny_bind ?_
  rw [← Array.forIn_toList]
  refine wp_each _ (fun k (b : Option PySem.Fin × Array Value) s' => b.1 = none ∧ b.2 = ((rows.take k).map (zcol i)).toArray ∧ ∃ h, s' = { s with heap := h } ∧ IsZipHeld h z TI TO T true ∧ ZMid s z TO rows i k h) _ _ (fun k x b s' hx hJ => ?_) ?_ (fun b s' hJ => ?_)
  · obtain ⟨o, acc⟩ := b
    obtain ⟨e1, e2, h, rfl, hz2, hm⟩ := hJ
    dsimp only at e1 e2
    subst e1 e2
    simp only [List.toList_toArray, List.getElem?_map] at hx
    cases hr : rows[k]? with
    | none => rw [hr] at hx; cases hx
    | some r =>
      rw [hr] at hx
      cases hx
      have hmem := List.mem_of_getElem? hr
      have hat' := hm.at_ k r hr
      rw [if_neg (Nat.lt_irrefl _)] at hat'
      have hlt := hi r hmem
      refine wpAny_bind (wpAny_holding ?_)
      show wpAny _ _ (Builtin.SmallTypes.nextOf (.ref r.it) >>= _) _ _ _
      refine wpAny_bind (wpAny_nextOf_tuple_item (x := zcol i r) hat'.1 hat'.2 (by unfold zcol; simp [hlt]) fun h' hit hsm => wpAny_pure ?_)
      refine wpAny_pure ⟨_, rfl, rfl, ?_, h', rfl, hsm.extBut _ _ (S.zi r hmem).1.symm hz2, hm.draw S hr hit hsm⟩
      rw [List.take_succ, hr]
      simp
  · refine ⟨rfl, rfl, h₁, rfl, hz₁, ⟨fun j r hj => ?_, fun c o _ hc _ e => hs₁.extBut _ _ hc e, hs₁.1⟩⟩
    rw [if_neg (Nat.not_lt_zero _)]
    have hm := List.mem_of_getElem? hj
    exact (hat r hm).move (fun c o hc e => hs₁.extBut _ _ hc e) (S.zi r hm).1 (S.zi r hm).2
  · obtain ⟨o, acc⟩ := b
    obtain ⟨e1, e2, h, rfl, hz2, hm⟩ := hJ
    dsimp only at e1 e2
    subst e1 e2
    simp only [List.length_map, List.size_toArray, Array.length_toList, List.take_length] at hm ⊢
    refine wpAny_bind (wpAny_newTuple ?_ (by simp; omega))
    refine wpAny_pure ⟨_, rfl, ?_⟩
    have hsiz : h.objs.size = s.heap.objs.size := hm.siz
    have keep : ∀ c o, h.get? c = some o → (h.push { cls := .type "tuple", data := .seq (rows.map (zcol i)).toArray.toList.toArray }).get? c = some o := fun c o e => Heap.get?_push_of_some _ e
    show Q (.ref h.objs.size) _
    rw [hsiz]
    refine hQ _ (keep _ _ hz2) (fun r hr => ?_) ?_ ?_ fun c o h1 h2 h3 h4 => keep _ _ (hm.old c o h1 h2 h3 h4)
    · obtain ⟨j, hj, e⟩ := List.getElem_of_mem hr
      have m := hm.at_ j r (by rw [List.getElem?_eq_getElem hj, e])
      rw [if_pos hj] at m
      exact m.keep keep
    · rw [← hsiz]
      exact (Heap.get?_push_size _ rfl).trans (by simp)
    · show (h.push _).objs.size = _
      rw [Heap.size_push, hsiz]

/-- next of it at the rows' end -/
theorem zs_end_held {f : Bool} {oT : Obj} {Q : PySem.Fin → Shared → Prop} (hh : A.handled = none) (S : ZSep z TI TO rows) (hz : IsZipHeld s.heap z TI TO T f) (hT : s.heap.get? T = some oT)
    (hTI : s.heap.get? TI = some { cls := .type "tuple", data := .seq (rows.map fun r => Value.ref r.it).toArray }) (hne : rows ≠ []) (hat : ∀ r ∈ rows, ZAt s.heap i r) (hi : ∀ r ∈ rows, r.xs.size = i)
    (hE : ∀ h' e, (∀ c o, (∀ r ∈ rows, c ≠ r.it) → c ≠ z → c ≠ TO → s.heap.get? c = some o → h'.get? c = some o) → (∃ o, h'.get? e = some o ∧ o.cls = .type "StopIteration") → E (.ref e) { s with heap := h' }) :
    wpAny (model prog w) A (Builtin.«zip.__next__» ⟨[.ref z], []⟩) Q E s := by
  show wpAny _ _ (field (.ref z) 2 >>= _) _ _ _
  refine wpAny_bind (wpAny_field hz rfl (x := .bool false) rfl ?_)
  show wpAny _ _ (field (.ref z) 3 >>= _) _ _ _
  refine wpAny_bind (wpAny_field hz rfl (x := .ref TI) rfl ?_)
  refine wpAny_bind (wpAny_seqItems hTI rfl ?_)
  obtain ⟨r, rest, rfl⟩ : ∃ r rest, rows = r :: rest := by
    cases rows with
    | nil => exact absurd rfl hne
    | cons a b => exact ⟨a, b, rfl⟩
  have hemp : (((r :: rest).map fun r => Value.ref r.it).toArray).isEmpty = false := rfl
  simp only [hemp, Bool.false_eq_true, if_false]
  show wpAny _ _ (Builtin.SmallTypes.ownedTupleIsFree (.ref z) >>= _) _ _ _
  refine wpAny_bind (wpAny_tupleHeld_zip hz hT fun h₁ hz₁ hs₁ => ?_)
  simp only [Bool.false_eq_true, if_false]
  refine wpAny_bind ?_
  rw [← Array.forIn_toList]
  have hm : r ∈ r :: rest := List.mem_cons_self
  have m := (hat r hm).move (fun c o hc e => hs₁.extBut _ _ hc e) (S.zi r hm).1 (S.zi r hm).2
  simp only [List.map_cons, List.toList_toArray, List.forIn_cons]
  refine wpAny_bind (wpAny_bind (wpAny_holding ?_))
  show wpAny _ _ (Builtin.SmallTypes.nextOf (.ref r.it) >>= _) _ _ _
  refine wpAny_bind (wpAny_nextOf_tuple_end (s := { s with heap := h₁ }) hh m.1 m.2 (by simp [hi r hm]) fun h₂ e hs₂ he => ?_)
  exact hE h₂ e (fun c o c1 c2 _ x => hs₂ _ _ (c1 r hm) (hs₁.extBut _ _ c2 x)) he

/-- the first next of a zip: its own tuple is filled, a copy is given -/
theorem zs_item_first {v0 : Array Value} {Q : Value → Shared → Prop} (S : ZSep z TI TO rows) (hz : IsZip s.heap z TI TO .none)
    (hTI : s.heap.get? TI = some { cls := .type "tuple", data := .seq (rows.map fun r => Value.ref r.it).toArray }) (hTO : s.heap.get? TO = some { cls := .type "tuple", data := .seq v0 }) (hv0 : v0.size = rows.length)
    (hne : rows ≠ []) (hat : ∀ r ∈ rows, ZAt s.heap i r) (hi : ∀ r ∈ rows, i < r.xs.size) (hsz : rows.length ≤ sizeLine)
    (hQ : ∀ h', IsZipHeld h' z TI TO s.heap.objs.size false → (∀ r ∈ rows, ZAt h' (i + 1) r) → h'.get? s.heap.objs.size = some { cls := .type "tuple", data := .seq (rows.map (zcol i)).toArray } → h'.objs.size = s.heap.objs.size + 1 →
      (∀ c o, (∀ r ∈ rows, c ≠ r.it) → c ≠ z → c ≠ TO → s.heap.get? c = some o → h'.get? c = some o) → Q (.ref s.heap.objs.size) { s with heap := h' }) :
    wpAny (model prog w) A (Builtin.«zip.__next__» ⟨[.ref z], []⟩) (fun fin s' => ∃ v, fin = .done (.ret v) ∧ Q v s') E s := by
  show wpAny _ _ (field (.ref z) 2 >>= _) _ _ _
  refine wpAny_bind (wpAny_field hz rfl (x := .bool false) rfl ?_)
  show wpAny _ _ (field (.ref z) 3 >>= _) _ _ _
  refine wpAny_bind (wpAny_field hz rfl (x := .ref TI) rfl ?_)
  refine wpAny_bind (wpAny_seqItems hTI rfl ?_)
  have hemp : ((rows.map fun r => Value.ref r.it).toArray).isEmpty = false := by
    cases rows with
    | nil => exact absurd rfl hne
    | cons a b => rfl
  simp only [hemp, Bool.false_eq_true, if_false]
  show wpAny _ _ (Builtin.SmallTypes.ownedTupleIsFree (.ref z) >>= _) _ _ _
  refine wpAny_bind ?_
  unfold Builtin.SmallTypes.ownedTupleIsFree
  refine wpAny_bind (wpAny_field hz rfl (x := .none) rfl (wpAny_pure ?_))
  simp only [if_true]
  refine wpAny_bind (wpAny_rule ?_)
  refine wpAny_bind (wpAny_field hz rfl (x := .ref TO) rfl ?_)
  refine wpAny_bind (wpAny_setField_rec hz (by simp) fun g0 hz0 hs0 => ?_)
  replace hz0 : IsZip g0 z TI TO .ellipsis := hz0
  replace hs0 : Heap.SameBut z s.heap g0 := hs0
  refine wpAny_bind ?_
  refine wp_each _ (fun k (b : Option PySem.Fin × Unit) s' => b.1 = none ∧ ∃ h arr, s' = { s with heap := h } ∧ IsZip h z TI TO .ellipsis ∧ h.get? TO = some { cls := .type "tuple", data := .seq arr } ∧ arr.size = rows.length ∧
    (∀ j r, j < k → rows[j]? = some r → arr[j]? = some (zcol i r)) ∧ ZMid s z TO rows i k h) _ _ (fun k x b s' hx hJ => ?_) ?_ (fun b s' hJ => ?_)
  · obtain ⟨o, acc⟩ := b
    obtain ⟨e1, h, arr, rfl, hz2, hto, hsa, hcol, hm⟩ := hJ
    dsimp only at e1
    subst e1
    simp only [List.toList_toArray, List.getElem?_zipIdx, List.getElem?_map] at hx
    cases hr : rows[k]? with
    | none => rw [hr] at hx; cases hx
    | some r =>
      rw [hr] at hx
      simp only [Option.map_some, Option.some.injEq, Nat.zero_add] at hx
      subst hx
      have hmem := List.mem_of_getElem? hr
      have hat' := hm.at_ k r hr
      rw [if_neg (Nat.lt_irrefl _)] at hat'
      have hlt := hi r hmem
      refine wpAny_bind (wpAny_onRaise ?_)
      show wpAny _ _ (Builtin.SmallTypes.nextOf (.ref r.it) >>= _) _ _ _
      refine wpAny_bind (wpAny_nextOf_tuple_item (x := zcol i r) hat'.1 hat'.2 (by unfold zcol; simp [hlt]) fun h' hit hsm => wpAny_pure ?_)
      have hto' := hsm.extBut _ _ (S.to r hmem).1.symm hto
      refine wpAny_bind (wpAny_seqItems hto' rfl ?_)
      refine wpAny_bind ?_
      refine wpAny_updateSeq hto' rfl ?_
      refine wpAny_bind (wpAny_letGo (wpAny_pure ⟨_, rfl, rfl, ?_⟩))
      have up := Heap.get?_update_self (Obj.mapSeq fun x => x.setIfInBounds k (zcol i r)) hto' rfl
      replace up : (h'.update TO (Obj.mapSeq fun x => x.setIfInBounds k (zcol i r))).get? TO = some { cls := .type "tuple", data := .seq (arr.setIfInBounds k (zcol i r)) } := up.trans (by simp [Obj.mapSeq])
      have oth : ∀ c u, c ≠ TO → h'.get? c = some u → (h'.update TO (Obj.mapSeq fun x => x.setIfInBounds k (zcol i r))).get? c = some u := fun c u hc e => (Heap.get?_update_other _ _ (Ne.symm hc)).trans e
      have M2 := hm.draw S hr hit hsm
      refine ⟨_, _, rfl, oth _ _ S.zto.symm (hsm.extBut _ _ (S.zi r hmem).1.symm hz2), up, ?_, fun j q hj hq => ?_, ⟨fun j q hq => ?_, fun c u h1 h2 h3 h4 => oth _ _ h3 (M2.old c u h1 h2 h3 h4), ?_⟩⟩
      · show (arr.setIfInBounds k (zcol i r)).size = _
        rw [Array.size_setIfInBounds, hsa]
      · show (arr.setIfInBounds k (zcol i r))[j]? = _
        by_cases hjk : j = k
        · subst hjk
          rw [hr] at hq
          cases hq
          have : j < arr.size := by rw [hsa]; exact (List.getElem?_eq_some_iff.mp hr).1
          simp [this]
        · rw [Array.getElem?_setIfInBounds_ne (Ne.symm hjk)]
          exact hcol j q (by omega) hq
      · have hmq := List.mem_of_getElem? hq
        exact (M2.at_ j q hq).move (fun c u hc e => oth c u hc e) (S.to q hmq).1 (S.to q hmq).2
      · rw [← M2.siz]
        exact (Heap.SameBut.update ..).1
  · refine ⟨rfl, g0, v0, rfl, hz0, hs0.extBut _ _ S.zto hTO, hv0, fun j r hj => absurd hj (Nat.not_lt_zero _), ⟨fun j r hj => ?_, fun c o _ hc _ e => hs0.extBut _ _ hc e, hs0.1⟩⟩
    rw [if_neg (Nat.not_lt_zero _)]
    have hm := List.mem_of_getElem? hj
    exact (hat r hm).move (fun c o hc e => hs0.extBut _ _ hc e) (S.zi r hm).1 (S.zi r hm).2
  · obtain ⟨o, acc⟩ := b
    obtain ⟨e1, h, arr, rfl, hz2, hto, hsa, hcol, hm⟩ := hJ
    dsimp only at e1
    subst e1
    simp only [List.length_zipIdx, List.toList_toArray, List.length_map] at hm hcol
    have earr : arr = (rows.map (zcol i)).toArray := by
      apply Array.ext_getElem?
      intro j
      cases hr : rows[j]? with
      | none =>
        have : rows.length ≤ j := List.getElem?_eq_none_iff.mp hr
        rw [Array.getElem?_eq_none (by omega)]
        simp [hr]
      | some r =>
        rw [hcol j r (List.getElem?_eq_some_iff.mp hr).1 hr]
        simp [hr]
    subst earr
    have hsiz : h.objs.size = s.heap.objs.size := hm.siz
    show wpAny _ _ (seqItems? (.ref TO) >>= _) _ _ _
    refine wpAny_bind (wpAny_seqItems hto rfl ?_)
    refine wpAny_bind (wpAny_newTuple ?_ (by simp; omega))
    have keep : ∀ c o, h.get? c = some o → (h.push { cls := .type "tuple", data := .seq (rows.map (zcol i)).toArray.toList.toArray }).get? c = some o := fun c o e => Heap.get?_push_of_some _ e
    have hzlt : z < h.objs.size := Heap.lt_size hz2
    show wpAny _ _ (Builtin.SmallTypes.ownedTupleHandOut (.ref z) (.ref h.objs.size) >>= _) _ _ _
    refine wpAny_bind ?_
    unfold Builtin.SmallTypes.ownedTupleHandOut
    have hz3 : IsZip (h.push { cls := .type "tuple", data := .seq (rows.map (zcol i)).toArray.toList.toArray }) z TI TO .ellipsis := keep _ _ hz2
    refine wpAny_bind (wpAny_setField_rec hz3 (by simp) fun h₄ hz₄ hs₄ => ?_)
    replace hz₄ : IsZip h₄ z TI TO (rawInt h.objs.size) := hz₄
    refine wpAny_setField_rec hz₄ (by simp) fun h₅ hz₅ hs₅ => ?_
    replace hz₅ : IsZip h₅ z TI TO (rawInt h.objs.size) := hz₅
    replace hs₄ : Heap.SameBut z (h.push _) h₄ := hs₄
    replace hs₅ : Heap.SameBut z h₄ h₅ := hs₅
    have up : ∀ c o, c ≠ z → h.get? c = some o → h₅.get? c = some o := fun c o c1 e => hs₅.extBut _ _ c1 (hs₄.extBut _ _ c1 (keep _ _ e))
    refine wpAny_pure ⟨_, rfl, ?_⟩
    show Q (.ref h.objs.size) _
    have hT5 := hs₅.extBut _ _ (Nat.ne_of_gt hzlt) (hs₄.extBut _ _ (Nat.ne_of_gt hzlt) (Heap.get?_push_size (h := h) (o := { cls := .type "tuple", data := .seq (rows.map (zcol i)).toArray.toList.toArray }) rfl))
    have hz8 : h₅.objs.size = h.objs.size + 1 := by rw [hs₅.1, hs₄.1, Heap.size_push]
    rw [hsiz] at hz₅ hT5 hz8 ⊢
    refine hQ _ hz₅ (fun r hr => ?_) (hT5.trans (by simp)) hz8 fun c o h1 h2 h3 h4 => up c o h2 (hm.old c o h1 h2 h3 h4)
    obtain ⟨j, hj, e⟩ := List.getElem_of_mem hr
    have m := hm.at_ j r (by rw [List.getElem?_eq_getElem hj, e])
    rw [if_pos hj] at m
    exact m.move (fun c u hc e => up c u hc e) (S.zi r hr).1 (S.zi r hr).2
end
end Mt

set_option Elab.async false
set_option linter.all false
set_option maxRecDepth 100000
set_option maxHeartbeats 8000000
/-! zip(*rows) is made. -/
namespace Mt
open PySem PySem.Spec PyProof.Rows L2
theorem zs_typeCall (vs : List Value) : checkTypeCall "zip" ⟨vs, []⟩ = pure () := by kernel_rfl
theorem zs_newCall : ∀ (vs : List Value), checkBuiltinCall "zip.__new__" ⟨.type "zip" :: vs, []⟩ = pure ()
  | [] => by kernel_rfl
  | v :: vs => by kernel_rfl
theorem zs_initArgs (obj : Value) (vs : List Value) : argsOk "object.__init__" ⟨obj :: vs, []⟩ := by unfold argsOk; kernel_rfl
abbrev tupIt (t : Addr) : Obj := { cls := .type "tuple_iterator", data := .fields #[.ref t, .int 0 0] }
/-- the cells of a zip over the tuples ts, made where the heap ended -/
structure ZMade (h h' : Heap) (ts : List (Addr × Array Value)) : Prop where
  its : ∀ j t, ts[j]? = some t → h'.get? (h.objs.size + j) = some (tupIt t.1)
  TI : h'.get? (h.objs.size + ts.length) = some { cls := .type "tuple", data := .seq ((List.range ts.length).map fun j => Value.ref (h.objs.size + j)).toArray }
  TO : h'.get? (h.objs.size + ts.length + 1) = some { cls := .type "tuple", data := .seq (ts.map fun _ => Value.none).toArray }
  z : IsZip h' (h.objs.size + ts.length + 2) (h.objs.size + ts.length) (h.objs.size + ts.length + 1) .none
  siz : h'.objs.size = h.objs.size + ts.length + 3
  old : ∀ c o, h.get? c = some o → h'.get? c = some o
theorem push_at {h : Heap} {o o' : Obj} {n : Nat} (hn : h.objs.size = n) (e : o = o') (nf : o'.isFreed = false) : (h.push o).get? n = some o' := by
  subst hn e
  exact Heap.get?_push_size _ nf
section
variable {prog : Program} {w : World} {A : Around} {E : Value → Shared → Prop} {s : Shared}
theorem zs_iterAll {ts : List (Addr × Array Value)} {Q : List Value → Shared → Prop} (ht : ∀ t ∈ ts, s.heap.IsTuple t.1 t.2)
    (hQ : ∀ h', (∀ j t, ts[j]? = some t → h'.get? (s.heap.objs.size + j) = some (tupIt t.1)) → h'.objs.size = s.heap.objs.size + ts.length → (∀ c o, s.heap.get? c = some o → h'.get? c = some o) →
      Q ((List.range ts.length).map fun j => Value.ref (s.heap.objs.size + j)) { s with heap := h' }) : wpAny (model prog w) A (Builtin.SmallTypes.iterAll (ts.map fun t => Value.ref t.1)) Q E s := by
  unfold Builtin.SmallTypes.iterAll
  refine wpAny_bind ?_
  refine wp_each _ (fun k (b : Array Value) s' => b.toList = (List.range k).map (fun j => Value.ref (s.heap.objs.size + j)) ∧ ∃ h, s' = { s with heap := h } ∧ (∀ j t, j < k → ts[j]? = some t → h.get? (s.heap.objs.size + j) = some (tupIt t.1)) ∧ h.objs.size = s.heap.objs.size + k ∧ ∀ c o, s.heap.get? c = some o → h.get? c = some o)
    _ _ (fun k x b s' hx hJ => ?_) ⟨rfl, s.heap, rfl, fun j t hj => absurd hj (Nat.not_lt_zero _), rfl, fun c o e => e⟩ (fun b s' hJ => ?_)
  · obtain ⟨e1, h, rfl, hi, hs, hk⟩ := hJ
    simp only [List.getElem?_map] at hx
    cases hr : ts[k]? with
    | none => rw [hr] at hx; cases hx
    | some t =>
      rw [hr] at hx
      cases hx
      refine wpAny_bind (wpAny_holding (wpAny_pyIter_tuple ((ht t (List.mem_of_getElem? hr)).at fun o e => hk _ o e) (wpAny_pure ⟨_, rfl, ?_, _, rfl, fun j u hj hu => ?_, ?_, fun c o e => Heap.get?_push_of_some _ (hk c o e)⟩)))
      · rw [Array.toList_push, e1, List.range_succ, List.map_append]
        show _ ++ [Value.ref h.objs.size] = _
        rw [hs]
        rfl
      · by_cases hjk : j = k
        · subst hjk
          rw [hr] at hu
          cases hu
          rw [← hs]
          exact Heap.get?_push_size _ rfl
        · exact Heap.get?_push_of_some _ (hi j u (by omega) hu)
      · show (h.push _).objs.size = _
        rw [Heap.size_push, hs]
        rfl
  · obtain ⟨e1, h, rfl, hi, hs, hk⟩ := hJ
    refine wpAny_pure ?_
    rw [e1]
    simp only [List.length_map] at hi hs ⊢
    exact hQ h (fun j t e => hi j t (List.getElem?_eq_some_iff.mp e).1 e) hs hk
theorem zs_new {ts : List (Addr × Array Value)} (hsz : ts.length ≤ sizeLine) : Meets (Builtin.«zip.__new__» ⟨.type "zip" :: ts.map (fun t => Value.ref t.1), []⟩) (fun _ R s => (∀ t ∈ ts, s.heap.IsTuple t.1 t.2) ∧
      ∀ h', ZMade s.heap h' ts → R (.ok (.ret (.ref (s.heap.objs.size + ts.length + 2)))) { s with heap := h' }) :=
  .of_wp fun prog w A R s h => by
    obtain ⟨ht, h⟩ := h
    obtain ⟨hp, g, d, tk, os⟩ := s
    have hsub := sub_zip
    have q1 : ∀ {A' : Around} {E : Value → Shared → Prop} {Q : List Value → Shared → Prop}, _ → wpAny (model prog w) A' (Builtin.SmallTypes.iterAll (ts.map fun t => Value.ref t.1)) Q E ⟨hp, g, d, tk, os⟩ :=
      fun {A' E Q} q => zs_iterAll (Q := Q) ht q
    wp_walk using q1
    intro h' hi hs hk
    have len : ((List.range ts.length).map fun j => Value.ref (hp.objs.size + j)).length = ts.length := by simp
    show wpAny _ _ (newTuple _ >>= fun a => newTuple _ >>= fun b => Builtin.SmallTypes.newRecord _ _ >>= fun c => ret c) _ _ _
    refine wpAny_bind (wpAny_newTuple ?_ (by rw [len]; exact hsz))
    refine wpAny_bind (wpAny_newTuple ?_ (by rw [List.length_map, len]; exact hsz))
    unfold Builtin.SmallTypes.newRecord
    refine wpAny_bind (wpAny_newObj_type ?_ (show (5 : Nat) ≤ sizeLine + 2 by rw [sizeLine_eq]; decide))
    refine wpAny_pure ⟨_, rfl, ?_⟩
    replace hs : h'.objs.size = hp.objs.size + ts.length := hs
    replace hk : ∀ c o, hp.get? c = some o → h'.get? c = some o := hk
    replace hi : ∀ j t, ts[j]? = some t → h'.get? (hp.objs.size + j) = some (tupIt t.1) := hi
    have en : ((List.range ts.length).map fun j => Value.ref (hp.objs.size + j)).map (fun _ => Value.none) = ts.map fun _ => Value.none := by
      apply List.ext_getElem <;> simp
    show R (.ok (.ret (.ref ((h'.push _).push _).objs.size))) _
    rw [Heap.size_push, Heap.size_push, hs]
    refine h _ ⟨fun j t e => ?_, ?_, ?_, ?_, ?_, fun c o e => ?_⟩
    · exact Heap.get?_push_of_some _ (Heap.get?_push_of_some _ (Heap.get?_push_of_some _ (hi j t e)))
    · show Heap.get? _ (hp.objs.size + ts.length) = _
      rw [← hs]
      exact Heap.get?_push_of_some _ (Heap.get?_push_of_some _ (Heap.get?_push_size _ rfl))
    · show Heap.get? _ (hp.objs.size + ts.length + 1) = _
      have : hp.objs.size + ts.length + 1 = (h'.push { cls := .type "tuple", data := .seq ((List.range ts.length).map fun j => Value.ref (hp.objs.size + j)).toArray }).objs.size := by rw [Heap.size_push, hs]
      rw [this]
      refine Heap.get?_push_of_some _ ((Heap.get?_push_size _ rfl).trans ?_)
      rw [← en]
    · refine push_at (by show ((h'.push _).push _).objs.size = _; rw [Heap.size_push, Heap.size_push, hs]) ?_ rfl
      rfl
    · show (((h'.push _).push _).push _).objs.size = _
      rw [Heap.size_push, Heap.size_push, Heap.size_push, hs]
    · exact Heap.get?_push_of_some _ (Heap.get?_push_of_some _ (Heap.get?_push_of_some _ (hk c o e)))
end
end Mt

set_option Elab.async false
set_option linter.all false
set_option maxRecDepth 100000
set_option maxHeartbeats 8000000
/-! A zip of rows drawn into a new list. -/
namespace Mt
open PySem PySem.Spec PyProof.Rows L2
theorem zs_no_len : typeLookup (.type "zip") "__len__" = pure none := by rw [typeLookup_type, builtinLookup_eq_fast]; kernel_rfl
theorem zs_no_hint : typeLookup (.type "zip") "__length_hint__" = pure none := by rw [typeLookup_type, builtinLookup_eq_fast]; kernel_rfl
abbrev zTup (rows : List ZR) (j : Nat) : Obj := { cls := .type "tuple", data := .seq (rows.map (zcol j)).toArray }
/-- amid the draws: Ts are the tuples given, at or above b; hs the heap at the beginning -/
structure ZSt (hs : Heap) (z TI TO : Addr) (rows : List ZR) (b : Nat) (Ts : List Addr) (h : Heap) : Prop where
  zip : (Ts = [] ∧ IsZip h z TI TO .none ∧ ∃ v0, h.get? TO = some { cls := .type "tuple", data := .seq v0 } ∧ v0.size = rows.length) ∨ (Ts ≠ [] ∧ ∃ T f oT, IsZipHeld h z TI TO T f ∧ h.get? T = some oT ∧ b ≤ T)
  TI : h.get? TI = some { cls := .type "tuple", data := .seq (rows.map fun r => Value.ref r.it).toArray }
  at_ : ∀ r ∈ rows, ZAt h Ts.length r
  res : ∀ (j : Nat) (T : Addr), Ts[j]? = some T → b ≤ T ∧ h.get? T = some (zTup rows j)
  lt : Ts.Nodup
  old : ∀ c o, hs.get? c = some o → h.get? c = some o
/-- what does not change -/
structure ZCx (hs : Heap) (S z TI TO : Addr) (rows : List ZR) (b : Nat) : Prop where
  sep : ZSep z TI TO rows
  ne : rows ≠ []
  its : ∀ r ∈ rows, hs.objs.size ≤ r.it ∧ r.it < b ∧ r.it ≠ S ∧ r.tp ≠ S
  zz : hs.objs.size ≤ z ∧ z < b ∧ z ≠ S
  tt : hs.objs.size ≤ TO ∧ TO < b ∧ TO ≠ S
  ti : TI ≠ S ∧ TI < b
  ss : hs.objs.size ≤ S ∧ S < b
  sz : rows.length ≤ sizeLine
section
variable {prog : Program} {w : World} {A : Around} {E : Value → Shared → Prop} {s : Shared} {hs : Heap} {S z TI TO : Addr} {rows : List ZR} {b : Nat} {Ts : List Addr}
theorem zs_call {ts : List (Addr × Array Value)} {Q : Value → Shared → Prop} (hsz : ts.length ≤ sizeLine) (ht : ∀ t ∈ ts, s.heap.IsTuple t.1 t.2)
    (hQ : ∀ h', ZMade s.heap h' ts → Q (.ref (s.heap.objs.size + ts.length + 2)) { s with heap := h' }) : wpAny (model prog w) A (call (.type "zip") (ts.map fun t => Value.ref t.1)) Q E s :=
  callType_new F.called_zip (by decide) (zs_typeCall _) (zs_newCall _) (fun obj => zs_initArgs obj _) F.entry_zip_new (zs_new hsz) ⟨ht, fun h' hm => ⟨⟨_, hm.z, rfl⟩, hQ h' hm⟩⟩
theorem ZSt.frame {h h' : Heap} (C : ZCx hs S z TI TO rows b) (Z : ZSt hs z TI TO rows b Ts h) (k : ∀ c o, c ≠ S → h.get? c = some o → h'.get? c = some o) : ZSt hs z TI TO rows b Ts h' where
  zip := by
    rcases Z.zip with ⟨e, hz, v0, h0, h1⟩ | ⟨e, T, f, oT, hz, hT, hb⟩
    · exact .inl ⟨e, k _ _ C.zz.2.2 hz, v0, k _ _ C.tt.2.2 h0, h1⟩
    · exact .inr ⟨e, T, f, oT, k _ _ C.zz.2.2 hz, k _ _ (fun q => Nat.lt_irrefl _ (Nat.lt_of_lt_of_le C.ss.2 (q ▸ hb))) hT, hb⟩
  TI := k _ _ C.ti.1 Z.TI
  at_ := fun r hr => (Z.at_ r hr).move k (C.its r hr).2.2.1 (C.its r hr).2.2.2
  res := fun j T e => ⟨(Z.res j T e).1, k _ _ (fun q => Nat.lt_irrefl _ (Nat.lt_of_lt_of_le C.ss.2 (q ▸ (Z.res j T e).1))) (Z.res j T e).2⟩
  lt := Z.lt
  old := fun c o e => k c o (fun q => Nat.lt_irrefl _ (Nat.lt_of_lt_of_le (Heap.lt_size e) (q ▸ C.ss.1))) (Z.old c o e)
theorem ZSt.lts (Z : ZSt hs z TI TO rows b Ts s.heap) {j : Nat} {T : Addr} (e : Ts[j]? = some T) : T < s.heap.objs.size := Heap.lt_size (Z.res j T e).2
/-- one draw -/
theorem ZSt.next {Q : Option Value → Shared → Prop} (C : ZCx hs S z TI TO rows b) (Z : ZSt hs z TI TO rows b Ts s.heap) (hb : b ≤ s.heap.objs.size) (hi : ∀ r ∈ rows, Ts.length < r.xs.size)
    (hQ : ∀ T h', ZSt hs z TI TO rows b (Ts ++ [T]) h' → b ≤ h'.objs.size → (∀ o, s.heap.get? S = some o → h'.get? S = some o) → Q (some (.ref T)) { s with heap := h' }) : wpAny (model prog w) A (pyNext (.ref z)) Q E s := by
  have ne : Ts ++ [s.heap.objs.size] ≠ [] := by simp
  have key : ∀ h', (∃ f, IsZipHeld h' z TI TO s.heap.objs.size f ∨ ∃ T oT, IsZipHeld h' z TI TO T f ∧ s.heap.get? T = some oT ∧ b ≤ T) → (∀ r ∈ rows, ZAt h' (Ts.length + 1) r) → h'.get? s.heap.objs.size = some (zTup rows Ts.length) → h'.objs.size = s.heap.objs.size + 1 →
      (∀ c o, (∀ r ∈ rows, c ≠ r.it) → c ≠ z → c ≠ TO → s.heap.get? c = some o → h'.get? c = some o) → Q (some (.ref s.heap.objs.size)) { s with heap := h' } := by
    intro h' hz' hat hT hsz hk
    have hi2 : ∀ c o, b ≤ c → s.heap.get? c = some o → h'.get? c = some o := fun c o hc e =>
      hk c o (fun r hr q => Nat.lt_irrefl _ (Nat.lt_of_lt_of_le (C.its r hr).2.1 (q ▸ hc))) (fun q => Nat.lt_irrefl _ (Nat.lt_of_lt_of_le C.zz.2.1 (q ▸ hc))) (fun q => Nat.lt_irrefl _ (Nat.lt_of_lt_of_le C.tt.2.1 (q ▸ hc))) e
    refine hQ _ h' ⟨.inr ⟨ne, ?_⟩, ?_, ?_, fun j T e => ?_, ?_, fun c o e => ?_⟩ (by rw [hsz]; exact Nat.le_succ_of_le hb) fun o e => ?_
    · obtain ⟨f, h1 | ⟨T, oT, h1, h2, h3⟩⟩ := hz'
      · exact ⟨_, f, _, h1, hT, hb⟩
      · exact ⟨T, f, oT, h1, hi2 T oT h3 h2, h3⟩
    · exact hk _ _ (fun r hr q => C.sep.ti r hr q.symm) C.sep.zti C.sep.tito Z.TI
    · rw [List.length_append]
      exact hat
    · by_cases hj : j < Ts.length
      · rw [List.getElem?_append_left hj] at e
        exact ⟨(Z.res j T e).1, hi2 T _ (Z.res j T e).1 (Z.res j T e).2⟩
      · rw [List.getElem?_append_right (Nat.le_of_not_lt hj)] at e
        obtain ⟨m, rfl⟩ : ∃ m, j = Ts.length + m := ⟨j - Ts.length, by omega⟩
        rw [Nat.add_sub_cancel_left] at e
        cases m with
        | zero =>
          cases e
          exact ⟨hb, hT⟩
        | succ m => simp at e
    · rw [List.nodup_append]
      refine ⟨Z.lt, by simp, fun a ha c hc q => ?_⟩
      rw [List.mem_singleton] at hc
      obtain ⟨j, hj, e⟩ := List.getElem_of_mem ha
      have := Z.lts (j := j) (T := a) (by rw [List.getElem?_eq_getElem hj, e])
      rw [q, hc] at this
      exact Nat.lt_irrefl _ this
    · refine hk c o (fun r hr q => ?_) (fun q => ?_) (fun q => ?_) (Z.old c o e)
      · exact Nat.lt_irrefl _ (Nat.lt_of_lt_of_le (Heap.lt_size e) (q ▸ (C.its r hr).1))
      · exact Nat.lt_irrefl _ (Nat.lt_of_lt_of_le (Heap.lt_size e) (q ▸ C.zz.1))
      · exact Nat.lt_irrefl _ (Nat.lt_of_lt_of_le (Heap.lt_size e) (q ▸ C.tt.1))
    · exact hk S o (fun r hr q => (C.its r hr).2.2.1 q.symm) (fun q => C.zz.2.2 q.symm) (fun q => C.tt.2.2 q.symm) e
  rcases Z.zip with ⟨e, hz, v0, h0, h1⟩ | ⟨e, T, f, oT, hz, hT, hbT⟩
  · have hTy : s.TypeIs (.ref z) "zip" := ⟨_, hz, rfl⟩
    unfold pyNext
    refine wpAny_bind (wpAny_attempt (wpAny_callSpecial?_slot (name := Str.ofString "__next__") hTy F.slot_zip_next (wpAny_call_entry F.slot_zip_next hTy F.entry_zip_next ?_ (F.args_zip_next_1 _))))
    exact zs_item_first C.sep hz Z.TI h0 h1 C.ne Z.at_ hi C.sz fun h' a1 a2 a3 a4 a5 => wpAny_pure (key h' ⟨false, .inl a1⟩ a2 a3 a4 a5)
  · have hTy : s.TypeIs (.ref z) "zip" := ⟨_, hz, rfl⟩
    unfold pyNext
    refine wpAny_bind (wpAny_attempt (wpAny_callSpecial?_slot (name := Str.ofString "__next__") hTy F.slot_zip_next (wpAny_call_entry F.slot_zip_next hTy F.entry_zip_next ?_ (F.args_zip_next_1 _))))
    exact zs_item_held C.sep hz hT Z.TI C.ne Z.at_ hi C.sz fun h' a1 a2 a3 a4 a5 => wpAny_pure (key h' ⟨true, .inr ⟨T, oT, a1, hT, hbT⟩⟩ a2 a3 a4 a5)
/-- what is left of it at the end -/
structure ZEnd (hs : Heap) (rows : List ZR) (b : Nat) (Ts : List Addr) (h : Heap) : Prop where
  res : ∀ (j : Nat) (T : Addr), Ts[j]? = some T → b ≤ T ∧ h.get? T = some (zTup rows j)
  lt : Ts.Nodup
  old : ∀ c o, hs.get? c = some o → h.get? c = some o
theorem ZSt.stop {Q : Option Value → Shared → Prop} (hh : A.handled = none) (C : ZCx hs S z TI TO rows b) (Z : ZSt hs z TI TO rows b Ts s.heap) (h0 : Ts ≠ []) (hi : ∀ r ∈ rows, r.xs.size = Ts.length)
    (hQ : ∀ h', ZEnd hs rows b Ts h' → (∀ o, s.heap.get? S = some o → h'.get? S = some o) → Q none { s with heap := h' }) : wpAny (model prog w) A (pyNext (.ref z)) Q E s := by
  rcases Z.zip with ⟨e, _⟩ | ⟨e, T, f, oT, hz, hT, hbT⟩
  · exact absurd e h0
  · have hTy : s.TypeIs (.ref z) "zip" := ⟨_, hz, rfl⟩
    unfold pyNext
    refine wpAny_bind (wpAny_attempt (wpAny_callSpecial?_slot (name := Str.ofString "__next__") hTy F.slot_zip_next (wpAny_call_entry F.slot_zip_next hTy F.entry_zip_next ?_ (F.args_zip_next_1 _))))
    refine zs_end_held hh C.sep hz hT Z.TI C.ne Z.at_ hi fun h' e hk he => ?_
    obtain ⟨o, ho, hc⟩ := he
    refine wpAny_bind (wpAny_isInstance (T := "StopIteration") (b := true) ⟨o, ho, hc⟩ isSubtype_stop (wpAny_pure (hQ h' ⟨fun j T e => ⟨(Z.res j T e).1, ?_⟩, Z.lt, fun c o e => ?_⟩ fun o e => ?_)))
    · have hc := (Z.res j T e).1
      exact hk T _ (fun r hr q => Nat.lt_irrefl _ (Nat.lt_of_lt_of_le (C.its r hr).2.1 (q ▸ hc))) (fun q => Nat.lt_irrefl _ (Nat.lt_of_lt_of_le C.zz.2.1 (q ▸ hc))) (fun q => Nat.lt_irrefl _ (Nat.lt_of_lt_of_le C.tt.2.1 (q ▸ hc))) (Z.res j T e).2
    · refine hk c o (fun r hr q => ?_) (fun q => ?_) (fun q => ?_) (Z.old c o e)
      · exact Nat.lt_irrefl _ (Nat.lt_of_lt_of_le (Heap.lt_size e) (q ▸ (C.its r hr).1))
      · exact Nat.lt_irrefl _ (Nat.lt_of_lt_of_le (Heap.lt_size e) (q ▸ C.zz.1))
      · exact Nat.lt_irrefl _ (Nat.lt_of_lt_of_le (Heap.lt_size e) (q ▸ C.tt.1))
    · exact hk S o (fun r hr q => (C.its r hr).2.2.1 q.symm) (fun q => C.zz.2.2 q.symm) (fun q => C.tt.2.2 q.symm) e
abbrev lstO (Ts : List Addr) (c : Nat) : Obj := { cls := .type "list", data := .seq (Ts.map Value.ref).toArray c }
/-- the loop that draws into a list -/
theorem zs_loop {R : Result → Shared → Prop} {n : Nat} {res : Value} (hh : A.handled = none) (C : ZCx hs S z TI TO rows b) (hn : ∀ r ∈ rows, r.xs.size = n) (hn0 : 0 < n) (hnz : n ≤ sizeLine) :
    ∀ (k : Nat) (Ts : List Addr) (s : Shared) (c : Nat), Ts.length + k = n → ZSt hs z TI TO rows b Ts s.heap → b ≤ s.heap.objs.size → s.heap.get? S = some (lstO Ts c) →
      (∀ Ts h' c', Ts.length = n → ZEnd hs rows b Ts h' → h'.get? S = some (lstO Ts c') → R (.ok (.ret res)) { s with heap := h' }) →
      codeAny (model prog w) A (.builtin "list.extend.loop" ⟨[.ref S, .ref z, res], []⟩) R s
  | 0, Ts, s, c, hk, Z, hb, hS, hR => by
    refine codeAny_builtin F.entry_extend_loop ?_
    rw [Around.under_plainId F.plain_extend_loop _]
    show wpAny _ A.in1 (pyNext (.ref z) >>= _) _ _ s
    refine wpAny_bind (Z.stop (A := A.in1) hh C (fun q => by rw [q] at hk; simp at hk; omega) (fun r hr => by rw [hn r hr]; omega) fun h' ze hs' => ?_)
    exact wpAny_pure (hR Ts h' c (by omega) ze (hs' _ hS))
  | k + 1, Ts, s, c, hk, Z, hb, hS, hR => by
    refine codeAny_builtin F.entry_extend_loop ?_
    rw [Around.under_plainId F.plain_extend_loop _]
    show wpAny _ A.in1 (pyNext (.ref z) >>= _) _ _ s
    refine wpAny_bind (Z.next (A := A.in1) C hb (fun r hr => by rw [hn r hr]; omega) fun T h' Z' hb' hs' => ?_)
    have hS' := hs' _ hS
    have hl := hk
    show wpAny _ A.in1 (updateSeq S (·.push (Value.ref T)) >>= _) _ _ _
    refine wpAny_bind ?_
    refine wpAny_updateSeq hS' rfl (wpAny_pure ⟨plainId_quiet F.plain_extend_loop _, ?_⟩) (by simp; omega) (by simp; omega)
    have up := Heap.get?_update_self (Obj.mapSeq (·.push (Value.ref T))) hS' rfl
    obtain ⟨c2, up'⟩ : ∃ c2, (h'.update S (Obj.mapSeq (·.push (Value.ref T)))).get? S = some (lstO (Ts ++ [T]) c2) := by
      simp only [Obj.mapSeq, lstO, List.push_toArray] at up
      simp only [lstO, List.map_append, List.map_cons, List.map_nil]
      exact ⟨_, up⟩
    have oth : ∀ c o, c ≠ S → h'.get? c = some o → (h'.update S (Obj.mapSeq (·.push (Value.ref T)))).get? c = some o := fun c o hc e => (Heap.get?_update_other _ _ (Ne.symm hc)).trans e
    refine zs_loop hh C hn hn0 hnz k (Ts ++ [T]) _ c2 (by simp; omega) (Z'.frame C oth) ?_ up' fun Ts2 h2 c2 e1 e2 e3 => hR Ts2 h2 c2 e1 e2 e3
    show b ≤ (h'.update S _).objs.size
    rw [(Heap.SameBut.update ..).1]
    exact hb'
end
end Mt

set_option Elab.async false
set_option linter.all false
set_option maxRecDepth 100000
set_option maxHeartbeats 8000000
/-! list(zip(*rows)), on the hand layer. -/
namespace Mt
open PySem PySem.Spec PyProof.Rows L2
/-- the rows of a zip over ts made at n -/
def zrows (n : Nat) (ts : List (Addr × Array Value)) : List ZR := ts.mapIdx fun j t => ⟨n + j, t.1, t.2⟩
theorem zrows_get {n : Nat} {ts : List (Addr × Array Value)} {j : Nat} : (zrows n ts)[j]? = ts[j]?.map fun t => ⟨n + j, t.1, t.2⟩ := by
  unfold zrows
  rw [List.getElem?_mapIdx]
theorem zrows_mem {n : Nat} {ts : List (Addr × Array Value)} {r : ZR} (h : r ∈ zrows n ts) : ∃ j t, j < ts.length ∧ ts[j]? = some t ∧ r = ⟨n + j, t.1, t.2⟩ := by
  obtain ⟨j, hj, e⟩ := List.getElem_of_mem h
  have q : (zrows n ts)[j]? = some r := by rw [List.getElem?_eq_getElem hj, e]
  rw [zrows_get] at q
  cases ht : ts[j]? with
  | none => rw [ht] at q; cases q
  | some t =>
    rw [ht] at q
    cases q
    exact ⟨j, t, (List.getElem?_eq_some_iff.mp ht).1, ht, rfl⟩
theorem zrows_length {n : Nat} {ts : List (Addr × Array Value)} : (zrows n ts).length = ts.length := by unfold zrows; rw [List.length_mapIdx]
theorem zrows_its {n : Nat} {ts : List (Addr × Array Value)} : (zrows n ts).map ZR.it = (List.range ts.length).map fun j => n + j := by
  apply List.ext_getElem?
  intro j
  rw [List.getElem?_map, zrows_get, List.getElem?_map]
  by_cases h : j < ts.length
  · rw [List.getElem?_eq_getElem h, List.getElem?_range h]; rfl
  · rw [List.getElem?_eq_none (by omega), List.getElem?_eq_none (by rw [List.length_range]; omega)]; rfl
theorem neA {a b : Nat} (h : a < b ∨ b < a) : @Ne Addr a b := fun e => by
  have e' : (a : Nat) = b := e
  omega
theorem natLt {a b : Nat} (h : @LT.lt Addr _ a b) : a < b := h
theorem ltA {a b : Nat} (h : a < b) : @LT.lt Addr _ a b := h
theorem leA {a b : Nat} (h : a ≤ b) : @LE.le Addr _ a b := h
section
variable {prog : Program} {w : World} {A : Around} {E : Value → Shared → Prop} {s : Shared}
theorem ZMade.cx {hs h : Heap} {ts : List (Addr × Array Value)} (M : ZMade hs h ts) (ht : ∀ t ∈ ts, hs.IsTuple t.1 t.2) (h0 : ts ≠ []) (hz : ts.length ≤ sizeLine) :
    ZCx hs h.objs.size (hs.objs.size + ts.length + 2) (hs.objs.size + ts.length) (hs.objs.size + ts.length + 1) (zrows hs.objs.size ts) (h.objs.size + 1) := by
  have sz := M.siz
  have lt : ∀ (j : Nat) (t : Addr × Array Value), ts[j]? = some t → (t.1 : Nat) < hs.objs.size := fun j t e => by
    obtain ⟨o, ho, _⟩ := ht t (List.mem_of_getElem? e)
    exact Heap.lt_size ho
  refine ⟨⟨?_, fun r hr => ?_, fun r hr => ?_, fun r hr => ?_, fun r hr q hq => ?_, neA (by omega), neA (by omega), neA (by omega)⟩, fun e => h0 ?_, fun r hr => ?_, ⟨leA (by omega), ltA (by omega), neA (by omega)⟩, ⟨leA (by omega), ltA (by omega), neA (by omega)⟩, ⟨neA (by omega), ltA (by omega)⟩, ⟨leA (by omega), ltA (by omega)⟩, by rw [zrows_length]; exact hz⟩
  · rw [zrows_its]
    unfold List.Nodup
    rw [List.pairwise_map]
    exact List.nodup_range.imp fun h e => h (Nat.add_left_cancel e)
  · obtain ⟨j, t, hj, e, rfl⟩ := zrows_mem hr
    have := natLt (lt j t e)
    dsimp only
    exact ⟨neA (by omega), neA (by omega)⟩
  · obtain ⟨j, t, hj, e, rfl⟩ := zrows_mem hr
    dsimp only
    exact neA (by omega)
  · obtain ⟨j, t, hj, e, rfl⟩ := zrows_mem hr
    have := natLt (lt j t e)
    dsimp only
    exact ⟨neA (by omega), neA (by omega)⟩
  · obtain ⟨j, t, hj, e, rfl⟩ := zrows_mem hr
    obtain ⟨j', t', hj', e', rfl⟩ := zrows_mem hq
    have := natLt (lt j t e)
    dsimp only
    exact neA (by omega)
  · have := congrArg List.length e
    rw [zrows_length] at this
    exact List.length_eq_zero_iff.mp this
  · obtain ⟨j, t, hj, e, rfl⟩ := zrows_mem hr
    have := natLt (lt j t e)
    dsimp only
    exact ⟨leA (by omega), ltA (by omega), neA (by omega), neA (by omega)⟩
theorem ZMade.st {hs h h' : Heap} {ts : List (Addr × Array Value)} (M : ZMade hs h ts) (ht : ∀ t ∈ ts, hs.IsTuple t.1 t.2) (k : ∀ c o, h.get? c = some o → h'.get? c = some o) :
    ZSt hs (hs.objs.size + ts.length + 2) (hs.objs.size + ts.length) (hs.objs.size + ts.length + 1) (zrows hs.objs.size ts) (h.objs.size + 1) [] h' := by
  refine ⟨.inl ⟨rfl, k _ _ M.z, _, k _ _ M.TO, ?_⟩, ?_, fun r hr => ?_, fun j T e => by simp at e, .nil, fun c o e => k _ _ (M.old c o e)⟩
  · rw [zrows_length]; simp
  · rw [k _ _ M.TI]
    have e : (zrows hs.objs.size ts).map (fun r => Value.ref r.it) = (List.range ts.length).map fun j => Value.ref (hs.objs.size + j) := by
      have := congrArg (List.map Value.ref) (zrows_its (n := hs.objs.size) (ts := ts))
      rw [List.map_map, List.map_map] at this
      exact this
    rw [e]
  · obtain ⟨j, t, hj, e, rfl⟩ := zrows_mem hr
    refine ⟨⟨_, k _ _ (M.its j t e), rfl, rfl⟩, (ht t (List.mem_of_getElem? e)).at fun o e => k _ _ (M.old _ o e)⟩
end
end Mt

set_option Elab.async false
set_option linter.all false
set_option maxRecDepth 100000
set_option maxHeartbeats 8000000
namespace Mt
open PySem PySem.Spec PyProof.Rows L2
section
variable {prog : Program} {w : World} {A : Around} {E : Value → Shared → Prop} {s : Shared}
/-- list of a zip of rows that are of one length -/
theorem zs_listW {hs : Heap} {z TI TO : Addr} {rows : List ZR} {n : Nat} {Q : Value → Shared → Prop} (hh : A.handled = none) (C : ZCx hs s.heap.objs.size z TI TO rows (s.heap.objs.size + 1)) (Z0 : ZSt hs z TI TO rows (s.heap.objs.size + 1) [] (s.heap.push { cls := .type "list", data := .seq #[] }))
    (hne : s.heap.objs.size ≠ z) (hn : ∀ r ∈ rows, r.xs.size = n) (hn0 : 0 < n) (hnz : n ≤ sizeLine) (hQ : ∀ Ts h' c', Ts.length = n → ZEnd hs rows (s.heap.objs.size + 1) Ts h' → h'.get? s.heap.objs.size = some (lstO Ts c') → Q (.ref s.heap.objs.size) { s with heap := h' }) :
    wpAny (model prog w) A (call (.type "list") [.ref z]) Q E s := by
  refine callType_codes (Q₁ := fun v t => v = .ref s.heap.objs.size ∧ t = { s with heap := s.heap.push { cls := .type "list", data := .seq #[] } }) F.called_list (F.typeCall_list_1 _) F.entry_list_init (code_list_new _ ⟨rfl, rfl⟩) fun v t h1 => ?_
  obtain ⟨rfl, rfl⟩ := h1
  have hS : (s.heap.push { cls := .type "list", data := .seq #[] }).get? s.heap.objs.size = some { cls := .type "list", data := .seq #[] } := Heap.get?_push_size _ rfl
  refine ⟨⟨_, hS, rfl⟩, F.args_list_init_2 _ _, ?_⟩
  show wpAny _ _ (do
    let old ← Builtin.List.listItems (.ref s.heap.objs.size)
    Builtin.List.listUpdate (.ref s.heap.objs.size) (fun _ => #[])
    letGo old.toList.reverse
    Builtin.List.listExtendWith (.ref s.heap.objs.size) (.ref z) .none) _ _ _
  have hsz0 : s.heap.objs.size + 1 ≤ (s.heap.push { cls := .type "list", data := .seq #[] }).objs.size := by rw [Heap.size_push]; exact Nat.le_refl _
  revert hS Z0 hsz0
  generalize s.heap.push { cls := .type "list", data := .seq #[] } = h0
  intro Z0 hS hsz0
  revert C Z0 hS hne hsz0 hQ
  generalize s.heap.objs.size = S
  generalize S + 1 = b
  intro C hne hQ Z0 hS hsz0
  refine wpAny_bind ?_
  unfold Builtin.List.listItems
  refine wpAny_bind (wpAny_seqItems hS rfl (wpAny_pure ?_))
  show wpAny _ _ (updateSeq S (fun _ => #[]) >>= fun _ => letGo (#[] : Array Value).toList.reverse >>= fun _ => _) _ _ _
  refine wpAny_bind (wpAny_updateSeq hS rfl ?_)
  have hS1 := Heap.get?_update_self (Obj.mapSeq (fun _ => (#[] : Array Value))) hS rfl
  have Z1 := Z0.frame (h' := h0.update S (Obj.mapSeq fun _ => #[])) C fun c o hc e => (Heap.get?_update_other _ _ (Ne.symm hc)).trans e
  have hsz1 : b ≤ (h0.update S (Obj.mapSeq fun _ => #[])).objs.size := by rw [(Heap.SameBut.update ..).1]; exact hsz0
  revert hS1 Z1 hsz1
  generalize h0.update S (Obj.mapSeq fun _ => #[]) = h1
  intro hS1 Z1 hsz1
  refine wpAny_bind (wpAny_letGo ?_)
  have hTz : ∀ {h : Heap}, ZSt hs z TI TO rows b [] h → IsZip h z TI TO .none := by
    intro h Z
    rcases Z.zip with ⟨_, q, _⟩ | ⟨q, _⟩
    · exact q
    · exact absurd rfl q
  have hty : ∀ {t : Shared}, t.heap = h1 → t.TypeIs (.ref z) "zip" := by
    rintro t rfl
    exact ⟨_, hTz Z1, rfl⟩
  unfold Builtin.List.listExtendWith
  refine wpAny_bind (wpAny_typeOf (hty rfl) ?_)
  have g1 : Builtin.List.listSameRef (.ref S) (.ref z) = false := by simp [Builtin.List.listSameRef, hne]
  have g2 : (Value.type "zip" == Value.type "list") = false := by decide
  have g3 : (Value.type "zip" == Value.type "tuple") = false := by decide
  simp only [g1, g2, g3, Bool.or_false, Bool.false_eq_true, if_false]
  refine wpAny_bind (wpAny_pyIter_zip (hTz Z1) ?_)
  refine wpAny_bind (wpAny_holding ?_)
  unfold Builtin.List.listLengthHint
  refine wpAny_bind (wpAny_specialOf (hty rfl) zs_no_len ?_)
  show wpAny _ _ (specialOf (Value.ref z) (Str.ofString "__length_hint__") >>= _) _ _ _
  refine wpAny_bind (wpAny_specialOf (hty rfl) zs_no_hint ?_)
  refine wpAny_pure ?_
  show wpAny _ _ (rule "list.extend.makes-room" >>= fun _ => Builtin.List.listTouch (.ref S) >>= fun _ => again (.builtin "list.extend.loop" ⟨[.ref S, .ref z, .none], []⟩)) _ _ _
  refine wpAny_bind (wpAny_rule ?_)
  refine wpAny_bind ?_
  show wpAny _ _ (updateSeq S (·.push .none) >>= fun _ => updateSeq S (·.pop)) _ _ _
  refine wpAny_bind (wpAny_updateSeq hS1 rfl ?_)
  have hS2 := Heap.get?_update_self (Obj.mapSeq (·.push Value.none)) hS1 rfl
  have Z2 := Z1.frame (h' := h1.update S (Obj.mapSeq (·.push Value.none))) C fun c o hc e => (Heap.get?_update_other _ _ (Ne.symm hc)).trans e
  have hsz2 : b ≤ (h1.update S (Obj.mapSeq (·.push Value.none))).objs.size := by rw [(Heap.SameBut.update ..).1]; exact hsz1
  revert hS2 Z2 hsz2
  generalize h1.update S (Obj.mapSeq (·.push Value.none)) = h2
  intro hS2 Z2 hsz2
  refine wpAny_updateSeq (hz := by seq_fits) hS2 rfl ?_
  have hS3 := Heap.get?_update_self (Obj.mapSeq (·.pop)) hS2 rfl
  have Z3 := Z2.frame (h' := h2.update S (Obj.mapSeq (·.pop))) C fun c o hc e => (Heap.get?_update_other _ _ (Ne.symm hc)).trans e
  have hsz3 : b ≤ (h2.update S (Obj.mapSeq (·.pop))).objs.size := by rw [(Heap.SameBut.update ..).1]; exact hsz2
  have hh1 : A.in1.handled = none := hh
  refine wpAny_pure ⟨plainId_quiet F.plain_extend_loop _, ?_⟩
  refine zs_loop hh1 C hn hn0 hnz n [] _ _ (Nat.zero_add _) Z3 hsz3 hS3 fun Ts h' c' e1 e2 e3 => ?_
  exact ⟨rfl, hQ Ts h' c' e1 e2 e3⟩
theorem zs_list {hs : Heap} {ts : List (Addr × Array Value)} {n : Nat} {Q : Value → Shared → Prop} (hh : A.handled = none) (M : ZMade hs s.heap ts) (ht : ∀ t ∈ ts, hs.IsTuple t.1 t.2 ∧ t.2.size = n) (h0 : ts ≠ []) (hz : ts.length ≤ sizeLine)
    (hn0 : 0 < n) (hnz : n ≤ sizeLine) (hQ : ∀ Ts h' c', Ts.length = n → ZEnd hs (zrows hs.objs.size ts) (s.heap.objs.size + 1) Ts h' → h'.get? s.heap.objs.size = some (lstO Ts c') → Q (.ref s.heap.objs.size) { s with heap := h' }) :
    wpAny (model prog w) A (call (.type "list") [.ref (hs.objs.size + ts.length + 2)]) Q E s := by
  have ht1 : ∀ t ∈ ts, hs.IsTuple t.1 t.2 := fun t h => (ht t h).1
  have C := M.cx ht1 h0 hz
  exact zs_listW hh C (M.st ht1 fun c o e => Heap.get?_push_of_some _ e) (fun e => C.zz.2.2 e.symm) (fun r hr => by
    obtain ⟨j, t, hj, e, rfl⟩ := zrows_mem hr
    exact (ht t (List.mem_of_getElem? e)).2) hn0 hnz hQ
end
end Mt

set_option Elab.async false
set_option linter.all false
set_option maxRecDepth 100000
set_option maxHeartbeats 200000
/-! list(zip(*rows)): the rule. -/
namespace Mt
open PySem PySem.Spec PyProof.Rows L2
/-- tuples laid one behind another -/
def layTs : Hp → List (List V) → List Addr → Hp
  | H, c :: cs, T :: Ts => layTs (upd H T (.tup c)) cs Ts
  | H, _, _ => H
theorem layTs_ne : ∀ {cs : List (List V)} {Ts : List Addr} {H : Hp} {q : Addr}, q ∉ Ts → layTs H cs Ts q = H q
  | [], [], _, _, _ => rfl
  | [], _ :: _, _, _, _ => rfl
  | _ :: _, [], _, _, _ => rfl
  | c :: cs, T :: Ts, H, q, h => by
    rw [List.mem_cons, not_or] at h
    show layTs (upd H T (.tup c)) cs Ts q = _
    rw [layTs_ne h.2, upd_ne h.1]
theorem lay_many {X : Cx} {pins : List (Addr × Obj)} {σ : L2.St} {h' : Heap} (cs : List (List V)) : ∀ (Ts : List Addr) {H : Hp} {s : Shared}, L2.Inv X pins σ H s → Ts.length = cs.length → Ts.Nodup → (∀ T ∈ Ts, s.heap.get? T = none ∧ H T = none) →
    (∀ c o, s.heap.get? c = some o → h'.get? c = some o) → (∀ (j : Nat) (T : Addr) (c : List V), Ts[j]? = some T → cs[j]? = some c → c.length ≤ sizeLine ∧ ∃ its : List Value, Vals c its ∧ h'.IsTuple T its.toArray) →
    ∃ G : Heap, (∀ c o, G.get? c = some o → h'.get? c = some o) ∧ (∀ c, c ∉ Ts → s.heap.get? c = none → G.get? c = none) ∧ L2.Inv X pins σ (layTs H cs Ts) { s with heap := G } := by
  induction cs with
  | nil =>
    intro Ts H s I hl hd hn k ho
    cases Ts with
    | cons T Ts => cases hl
    | nil => exact ⟨s.heap, k, fun c _ h => h, I⟩
  | cons c cs ih =>
    intro Ts H s I hl hd hn k ho
    cases Ts with
    | nil => cases hl
    | cons T Ts =>
      obtain ⟨G1, g1, g2⟩ := restrict h' fun b => (s.heap.get? b).isSome || decide (b = T)
      have hT := hn T List.mem_cons_self
      have k1 : ∀ b u, s.heap.get? b = some u → G1.get? b = some u := fun b u e => by
        rw [g1 b (by rw [e]; rfl)]
        exact k b u e
      have sub : ∀ b u, G1.get? b = some u → h'.get? b = some u := fun b u e => by
        cases p : ((s.heap.get? b).isSome || decide (b = T)) with
        | true =>
          rw [g1 b p] at e
          exact e
        | false =>
          rw [g2 b p] at e
          cases e
      obtain ⟨hz, its, rv, o, h1, h2, h3⟩ := ho 0 T c rfl rfl
      have gT : G1.get? T = h'.get? T := g1 T (by rw [decide_eq_true rfl, Bool.or_true])
      have new : ObjOk X.prog X.w (upd H T (.tup c)) G1 T (.tup c) := ⟨hz, its, rv, o, gT.trans h1, h2, h3⟩
      have I1 : L2.Inv X pins σ (upd H T (.tup c)) { s with heap := G1 } := I.laidN (t' := s.toks) k1 hT.1 hT.2 new
      rw [List.nodup_cons] at hd
      obtain ⟨G, e1, e2, e3⟩ := ih Ts I1 (Nat.succ.inj hl) hd.2 (fun T' h => by
        have ne : T' ≠ T := fun e => hd.1 (e ▸ h)
        have q := hn T' (List.mem_cons_of_mem _ h)
        refine ⟨g2 T' (by rw [q.1, decide_eq_false ne]; rfl), by rw [upd_ne ne]; exact q.2⟩) sub fun j T' c' a b => ho (j + 1) T' c' a b
      refine ⟨G, e1, fun b hb hs => e2 b (fun h => hb (List.mem_cons_of_mem _ h)) (g2 b ?_), e3⟩
      have ne : b ≠ T := fun e => hb (e ▸ List.mem_cons_self)
      rw [hs, decide_eq_false ne]
      rfl
def vcols (n : Nat) (rows : List (Addr × List V)) : List (List V) := (List.range n).map fun i => rows.map fun r => r.2.getD i .non
def tLzs (K : PySem.W.Frag) (te : TE) : TE := fun σ H Q => te σ H fun x H1 => ∃ (a : Addr) (n : Nat) (rows : List (Addr × List V)), x = .ref a ∧ SqT K H1 a (rows.map fun r => V.ref r.1) ∧ (∀ r ∈ rows, SqT K H1 r.1 r.2 ∧ r.2.length = n) ∧ rows ≠ [] ∧ 0 < n ∧ n ≤ sizeLine ∧
  ∀ Ts q, Ts.length = n → Ts.Nodup → (∀ T ∈ Ts, H1 T = none) → H1 q = none → q ∉ Ts → Q (.ref q) (upd (layTs H1 (vcols n rows) Ts) q (.lst (Ts.map V.ref)))
theorem rows_ts {X : Cx} {pins : List (Addr × Obj)} {σ : L2.St} {H : Hp} {s : Shared} {n : Nat} (I : L2.Inv X pins σ H s) : ∀ {rows : List (Addr × List V)}, (∀ r ∈ rows, SqT X.K H r.1 r.2 ∧ r.2.length = n) →
    ∃ ts : List (Addr × Array Value), ts.map (fun t => t.1) = rows.map (fun r => r.1) ∧ (∀ t ∈ ts, s.heap.IsTuple t.1 t.2 ∧ t.2.size = n) ∧ ∀ i, i < n → Vals (rows.map fun r => r.2.getD i .non) (ts.map fun t => t.2.getD i .none)
  | [], _ => ⟨[], rfl, (fun t h => nomatch h), (fun i _ => Paired.nil)⟩
  | r :: rows, h => by
    obtain ⟨ts, e1, e2, e3⟩ := rows_ts I (rows := rows) fun q hq => h q (List.mem_cons_of_mem _ hq)
    obtain ⟨hs, hl⟩ := h r List.mem_cons_self
    obtain ⟨its, rv, p, hz⟩ := I.tuple hs
    have hlen := rv.length
    refine ⟨(r.1, its.toArray) :: ts, by rw [List.map_cons, List.map_cons, e1], fun t ht => ?_, fun i hi => ?_⟩
    · rcases List.mem_cons.mp ht with rfl | ht
      · exact ⟨p, by rw [List.size_toArray]; omega⟩
      · exact e2 t ht
    · refine Paired.cons ?_ (e3 i hi)
      have a1 : i < r.2.length := by omega
      obtain ⟨u, eu, ru⟩ := rv.get (i := i) (x := r.2[i]) (List.getElem?_eq_getElem a1)
      have b1 : r.2.getD i .non = r.2[i] := by rw [List.getD_eq_getElem?_getD, List.getElem?_eq_getElem a1]; rfl
      have b2 : its.toArray.getD i .none = u := by
        have a2 := (List.getElem?_eq_some_iff.mp eu)
        obtain ⟨a2, a3⟩ := a2
        simp [a2, a3]
      show RelV (r.2.getD i .non) (its.toArray.getD i .none)
      rw [b1, b2]
      exact ru
theorem vcols_get {n : Nat} {rows : List (Addr × List V)} {j : Nat} {c : List V} (h : (vcols n rows)[j]? = some c) : j < n ∧ c = rows.map fun r => r.2.getD j .non := by
  unfold vcols at h
  rw [List.getElem?_map] at h
  by_cases hj : j < n
  · rw [List.getElem?_range hj] at h
    cases h
    exact ⟨hj, rfl⟩
  · rw [List.getElem?_eq_none (by rw [List.length_range]; omega)] at h
    cases h
section
variable {X : Cx} {e : Expr} {te : TE}
theorem pe_lzs {p p2 sp pos pos2 : Pos} (hc : X.calm = true) (hg : Gl X "list") (hm : X.mg "list" = none) (hg2 : Gl X "zip") (hm2 : X.mg "zip" = none) (he : PE X e te)
    (na : starEach [.Call (.Name "zip" p2) [.Starred e sp] [] pos2] X.env = (false, eval (.Call (.Name "zip" p2) [.Starred e sp] [] pos2) X.env) :: starEach [] X.env := by rfl)
    (hst : starEach [.Starred e sp] X.env = [(true, eval e X.env)] := by rfl) : PE X (.Call (.Name "list" p) [.Call (.Name "zip" p2) [.Starred e sp] [] pos2] [] pos) (tLzs X.K te) := by
  refine ⟨fun pins s σ H Q I h => ?_⟩
  refine Call_ (ld_blt I hg hm PyProof.Rows.boot_list (PyProof.Rows.callWith_type1 (args_cons ?_ na) na))
  refine Call_ (ld_blt I hg2 hm2 PyProof.Rows.boot_zip ?_)
  rw [hst]
  refine PySem.W.ks_call (P := fun _ => True) rfl (fun _ _ => ⟨.machine, .inr (.inl rfl), fun A Q E s k q => wpAny_pure q⟩) (PySem.W.ks_lone ?_)
  refine thn (he.run pins s σ H _ I h) fun v s1 ⟨x, H1, I1, rx, a, n, rows, ex, ha, hr, h0, hn0, hnz, q⟩ => ?_
  subst ex
  obtain rfl : v = Value.ref a := rx
  refine star_tup I1 ha fun us s2 I2 rv => ⟨trivial, ?_⟩
  obtain ⟨ts, e1, e2, e3⟩ := rows_ts I2 hr
  have eus : us = ts.map fun t => Value.ref t.1 := by
    have q1 : us = rows.map fun r => Value.ref r.1 := by
      clear e3 e2 e1 ha hr h0 q
      induction rows generalizing us with
      | nil => cases rv; rfl
      | cons r rows ih =>
        rw [List.map_cons] at rv
        cases rv with
        | cons r1 r2 =>
          obtain rfl := r1
          rw [ih _ r2]
          rfl
    rw [q1]
    have := congrArg (List.map Value.ref) e1
    rw [List.map_map, List.map_map] at this
    exact this.symm
  obtain ⟨_, _, _, hzt⟩ := I1.tuple ha
  rw [List.length_map] at hzt
  have elen : ts.length = rows.length := by have := congrArg List.length e1; simpa using this
  subst eus
  show wpAny _ _ (call (.type "zip") ([] ++ ts.map fun t => Value.ref t.1)) _ _ _
  rw [List.nil_append]
  have hzt' : ts.length ≤ sizeLine := by omega
  have h0' : ts ≠ [] := fun z => h0 (List.length_eq_zero_iff.mp (by rw [← elen, z]; rfl))
  refine zs_call hzt' (fun t ht => (e2 t ht).1) fun h1 M => ?_
  refine args_nil ?_
  refine zs_list (s := { s2 with heap := h1 }) (I2.ok.hd hc) M e2 h0' hzt' hn0 hnz fun Ts h' c' l1 Z hS => ?_
  have szM := M.siz
  have fresh : ∀ T, s2.heap.objs.size ≤ T → s2.heap.get? T = none ∧ H1 T = none := fun T hT => by
    refine ⟨?_, I2.hok.fresh hT⟩
    cases z : s2.heap.get? T with
    | none => rfl
    | some o => exact absurd (Heap.lt_size z) (Nat.not_lt.mpr hT)
  have big : ∀ T ∈ Ts, h1.objs.size + 1 ≤ T := fun T hT => by
    obtain ⟨j, hj, e⟩ := List.getElem_of_mem hT
    exact (Z.res j T (by rw [List.getElem?_eq_getElem hj, e])).1
  have le1 : s2.heap.objs.size ≤ h1.objs.size := by rw [szM]; omega
  have hq : h1.objs.size ∉ Ts := fun hT => Nat.not_succ_le_self _ (big _ hT)
  have frT : ∀ T ∈ Ts, s2.heap.get? T = none ∧ H1 T = none := fun T hT => fresh T (Nat.le_trans le1 (Nat.le_of_succ_le (big T hT)))
  obtain ⟨G, g1, g2, g3⟩ := lay_many (h' := h') (vcols n rows) Ts I2 (by unfold vcols; rw [l1, List.length_map, List.length_range]) Z.lt frT Z.old fun j T c hj hcj => by
    obtain ⟨hjn, rfl⟩ := vcols_get hcj
    refine ⟨by rw [List.length_map]; exact hzt, _, e3 j hjn, ?_⟩
    have hT := (Z.res j T hj).2
    have ecol : (zrows s2.heap.objs.size ts).map (zcol j) = ts.map fun t => t.2.getD j .none := by
      apply List.ext_getElem?
      intro i
      rw [List.getElem?_map, zrows_get, List.getElem?_map]
      cases ts[i]? <;> rfl
    replace hT : h'.get? T = some { cls := .type "tuple", data := .seq ((zrows s2.heap.objs.size ts).map (zcol j)).toArray } := hT
    rw [ecol] at hT
    exact ⟨_, hT, rfl, _, rfl⟩
  have frS := fresh h1.objs.size le1
  have I3 : L2.Inv X pins σ (upd (layTs H1 (vcols n rows) Ts) h1.objs.size (.lst (Ts.map V.ref))) { s2 with heap := h' } := by
    refine g3.laidN (t' := s2.toks) g1 (g2 _ hq frS.1) (by rw [layTs_ne hq]; exact frS.2) ⟨by rw [List.length_map, l1]; exact hnz, Ts.map Value.ref, c', ?_, hS⟩
    clear g1 g2 g3 Z hS big hq frT l1
    induction Ts with
    | nil => exact Paired.nil
    | cons T Ts ih => exact Paired.cons rfl ih
  exact ⟨.ref h1.objs.size, _, I3, rfl, q Ts h1.objs.size l1 Z.lt (fun T hT => (frT T hT).2) frS.2 hq⟩
end
end Mt

set_option Elab.async false
set_option linter.all false
set_option maxRecDepth 100000
set_option maxHeartbeats 400000
/-! list(zip(*rows)): the reading. -/
namespace Mt
open PySem PySem.Spec PyProof.Rows L2
section
variable {K : PySem.W.Frag} {F : Addr → Prop} {H : Hp}
theorem rpA_getD : ∀ {vs : List V} {ds : List D} (i : Nat), RpA K F H vs ds → Rp K F H (vs.getD i .non) (ds.getD i .none)
  | _, _, _, .nil => .non
  | _, _, 0, .cons h _ => h
  | _, _, i + 1, .cons _ r => by
    have := rpA_getD i r
    simpa using this
theorem tups_rows : ∀ {vs : List V} {xs : List D} {rows : List (List D)}, RpA K F H vs xs → tups xs = some rows →
    ∃ R : List (Addr × List V), vs = R.map (fun r => V.ref r.1) ∧ (∀ r ∈ R, SqT K H r.1 r.2) ∧ Paired (fun (r : Addr × List V) (q : List D) => RpA K F H r.2 q) R rows
  | _, _, rows, .nil, h => by
    cases h
    exact ⟨[], rfl, (fun _ h => nomatch h), .nil⟩
  | _, _, rows, .cons (d := d) (ds := ds) h r, e => by
    cases d with
    | tuple q =>
      simp only [tups] at e
      cases e1 : tups ds with
      | none => rw [e1] at e; cases e
      | some qs =>
        rw [e1] at e
        cases e
        obtain ⟨R, e2, h2, h3⟩ := tups_rows r e1
        obtain ⟨a, xs, rfl, s, rr⟩ := h.tup_inv
        exact ⟨(a, xs) :: R, by rw [List.map_cons, ← e2], List.forall_mem_cons.mpr ⟨s, h2⟩, .cons rr h3⟩
    | _ => simp only [tups] at e; cases e
theorem rows_len {n : Nat} : ∀ {R : List (Addr × List V)} {rows : List (List D)}, Paired (fun (r : Addr × List V) (q : List D) => RpA K F H r.2 q) R rows → (∀ q ∈ rows, q.length = n) → ∀ r ∈ R, r.2.length = n
  | _, _, .nil, _, _, h => nomatch h
  | _, _, .cons r t, hn, q, h => by
    rcases List.mem_cons.mp h with rfl | h
    · rw [r.len]; exact hn _ List.mem_cons_self
    · exact rows_len t (fun q hq => hn q (List.mem_cons_of_mem _ hq)) q h
theorem rows_col (i : Nat) : ∀ {R : List (Addr × List V)} {rows : List (List D)}, Paired (fun (r : Addr × List V) (q : List D) => RpA K F H r.2 q) R rows → RpA K F H (R.map fun r => r.2.getD i .non) (rows.map fun q => q.getD i .none)
  | _, _, .nil => .nil
  | _, _, .cons r t => .cons (rpA_getD i r) (rows_col i t)
theorem prA_grow {H' : Hp} (sm : Same H H') : ∀ {cs : List (List V)} {ds : List (List D)}, Paired (RpA K F H) cs ds → Paired (RpA K F H') cs ds
  | _, _, .nil => .nil
  | _, _, .cons r t => .cons (r.grow sm) (prA_grow sm t)
theorem lay_rp : ∀ {cs : List (List V)} {ds : List (List D)} (Ts : List Addr) {H : Hp}, Paired (RpA K F H) cs ds → Ts.length = cs.length → Ts.Nodup → (∀ T ∈ Ts, H T = none) →
    Same H (layTs H cs Ts) ∧ RpA K F (layTs H cs Ts) (Ts.map V.ref) (ds.map PyData.tuple)
  | _, _, [], H, .nil, _, _, _ => ⟨Same.refl H, .nil⟩
  | _, _, T :: Ts, H, .cons (a := a) (l₁ := cs) (l₂ := ds) r t, hl, hd, hn => by
    rw [List.nodup_cons] at hd
    have hT := hn T List.mem_cons_self
    have sm : Same H (upd H T (.tup a)) := fun b o e => by rw [upd_ne (fun q => by rw [q, hT] at e; cases e)]; exact e
    have t' : Paired (RpA K F (upd H T (.tup a))) cs ds := by
      exact prA_grow sm t
    obtain ⟨s1, r1⟩ := lay_rp Ts t' (Nat.succ.inj hl) hd.2 fun T' h => by
      have ne : T' ≠ T := fun e => hd.1 (e ▸ h)
      rw [upd_ne ne]
      exact hn T' (List.mem_cons_of_mem _ h)
    exact ⟨fun b o e => s1 b o (sm b o e), .cons (.tup (.inl (.inl (s1 _ _ upd_same))) (r.grow fun b o e => s1 b o (sm b o e))) r1⟩
end
theorem sqn_inv {rows : List (List D)} {n : Nat} (h : sqn rows = some n) : rows ≠ [] ∧ 0 < n ∧ n ≤ SZ ∧ ∀ q ∈ rows, q.length = n := by
  cases rows with
  | nil => cases h
  | cons r rs =>
    simp only [sqn] at h
    split at h
    · rename_i c
      cases h
      rw [Bool.and_eq_true, Bool.and_eq_true] at c
      obtain ⟨⟨c1, c2⟩, c3⟩ := c
      refine ⟨(fun e => by cases e), of_decide_eq_true c1, of_decide_eq_true c2, fun q hq => ?_⟩
      rcases List.mem_cons.mp hq with rfl | hq
      · rfl
      · exact of_decide_eq_true (List.all_eq_true.mp c3 q hq)
    · cases h
theorem zips_inv {cl : Call} {a : E} {st st' : MS} {r : R} (h : evE cl (.zips a) st = some (r, st')) : ∃ xs rows n, evE cl a st = some (.dat (.tuple xs), st') ∧ tups xs = some rows ∧ sqn rows = some n ∧ r = .lst (colsD n rows) := by
  simp only [evE] at h
  split at h
  · rename_i xs st1 h1
    split at h
    · rename_i rows h2
      split at h
      · rename_i n h3
        cases h
        exact ⟨xs, rows, n, h1, h2, h3, rfl⟩
      · cases h
    · cases h
  · cases h
theorem cols_paired {K : PySem.W.Frag} {F : Addr → Prop} {H : Hp} {R : List (Addr × List V)} {rows : List (List D)} (p : Paired (fun (r : Addr × List V) (q : List D) => RpA K F H r.2 q) R rows) (l : List Nat) :
    Paired (RpA K F H) (l.map fun i => R.map fun r => r.2.getD i .non) (l.map fun i => rows.map fun r => r.getD i .none) := by
  induction l with
  | nil => exact .nil
  | cons i l ih => exact .cons (rows_col i p) ih
section
variable {X : Cx} {cl : Call}
theorem ev_zips {a : Expr} {a' : E} {p p2 sp pos pos2 : Pos} (hc : X.calm = true) (hg : Gl X "list") (hm : X.mg "list" = none) (hg2 : Gl X "zip") (hm2 : X.mg "zip" = none) (ha : EV X a (evE cl a')) :
    EV X (.Call (.Name "list" p) [.Call (.Name "zip" p2) [.Starred a sp] [] pos2] [] pos) (evE cl (.zips a')) :=
  peimp (pe_lzs hc hg hm hg2 hm2 ha) fun σ H Q ⟨st, g, r, st', Rh, ev, q⟩ => by
    obtain ⟨xs, rows, n, h1, h2, h3, rfl⟩ := zips_inv ev
    obtain ⟨s0, s1, s2, s3⟩ := sqn_inv h3
    refine ⟨st, g, _, st', Rh, h1, fun v H1 g1 ts P => ?_⟩
    obtain ⟨b, vs, rfl, hs, hr⟩ := P.dat.tup_inv
    obtain ⟨R, rfl, r1, r2⟩ := tups_rows hr h2
    have hl := rows_len r2 s3
    refine ⟨b, n, R, rfl, hs, fun r hr => ⟨r1 r hr, hl r hr⟩, ?_, s1, s2, fun Ts z lT nd fr hz hz' => ?_⟩
    · rintro rfl
      cases r2
      exact s0 rfl
    · have lv : Ts.length = (vcols n R).length := by unfold vcols; rw [lT, List.length_map, List.length_range]
      obtain ⟨sm, rp⟩ := lay_rp Ts (cols_paired r2 (List.range n)) lv nd fr
      have e : colsD n rows = ((List.range n).map fun i => rows.map fun r => r.getD i .none).map PyData.tuple := by
        unfold colsD
        rw [List.map_map]
        rfl
      rw [e] at q
      exact q _ _ g1 _ (.out (P.rl.grow sm) (P.sp.trans (.grow sm)) (.lst (by rw [layTs_ne hz']; exact hz) rp))
end
end Mt

set_option Elab.async false
set_option linter.all false
set_option maxRecDepth 100000
set_option maxHeartbeats 8000000
/-! List comprehensions. -/
namespace Mt
open PySem PySem.Spec PyProof.Rows L2

/-! ### forgetting slots -/
section
variable {K : PySem.W.Frag} {w : World} {st : MS} {σ : L2.St} {H : Hp} {g : Gs}
theorem wipeS_len (st : MS) : ∀ vs, (wipeS st vs).length = st.length
  | [] => rfl
  | v :: vs => by simp only [wipeS]; rw [List.length_set, wipeS_len]
theorem gt_wipe : ∀ {vs : List Nat} {i : Nat}, gt (wipeS st vs) i = if i ∈ vs then .emp else gt st i
  | [], i => by simp [wipeS]
  | v :: vs, i => by
    simp only [wipeS]
    by_cases hv : v < (wipeS st vs).length
    · rw [gt_set hv, gt_wipe]
      by_cases h : i = v
      · simp [h]
      · simp [h]
    · rw [List.set_eq_of_length_le (by omega), gt_wipe]
      by_cases h : i = v
      · subst h
        rw [wipeS_len] at hv
        rw [gt_out (by omega)]
        simp
      · simp [h]
theorem gv_wipe : ∀ {vs : List Nat} {i : Nat}, gv (wipe σ vs) i = if i ∈ vs then none else gv σ i
  | [], i => by simp [wipe]
  | v :: vs, i => by
    simp only [wipe]
    by_cases hv : v < (wipe σ vs).length
    · rw [gv_set hv, gv_wipe]
      by_cases h : i = v
      · simp [h]
      · simp [h]
    · rw [List.set_eq_of_length_le (by omega), gv_wipe]
      by_cases h : i = v
      · subst h
        rw [wipe_length] at hv
        rw [gv_out (by omega)]
        simp
      · simp [h]
theorem gt_back {old : MS} (hl : old.length = st.length) : ∀ {vs : List Nat} {i : Nat}, gt (backS old st vs) i = if i ∈ vs then gt old i else gt st i
  | [], i => by simp [backS]
  | v :: vs, i => by
    have bl : ∀ vs, (backS old st vs).length = st.length := fun vs => by
      induction vs with
      | nil => rfl
      | cons v vs ih => simp only [backS]; rw [List.length_set, ih]
    simp only [backS]
    by_cases hv : v < (backS old st vs).length
    · rw [gt_set hv, gt_back hl]
      by_cases h : i = v
      · simp [h]
      · simp [h]
    · rw [List.set_eq_of_length_le (by omega), gt_back hl]
      by_cases h : i = v
      · subst h
        rw [bl] at hv
        rw [gt_out (st := st) (by omega), gt_out (st := old) (by omega)]
        simp
      · simp [h]
theorem backS_len {old : MS} : ∀ vs, (backS old st vs).length = st.length
  | [] => rfl
  | v :: vs => by simp only [backS]; rw [List.length_set, backS_len]
def wipeA (as : List (List Addr)) (vs : List Nat) : List (List Addr) := match vs with
  | [] => as
  | v :: vs => (wipeA as vs).set v []
theorem wipeA_len (as : List (List Addr)) : ∀ vs, (wipeA as vs).length = as.length
  | [] => rfl
  | v :: vs => by simp only [wipeA]; rw [List.length_set, wipeA_len]
theorem ga_wipe {as : List (List Addr)} : ∀ {vs : List Nat} {i : Nat}, ga (wipeA as vs) i = if i ∈ vs then [] else ga as i
  | [], i => by simp [wipeA]
  | v :: vs, i => by
    simp only [wipeA]
    by_cases hv : v < (wipeA as vs).length
    · rw [ga_set hv, ga_wipe]
      by_cases h : i = v
      · simp [h]
      · simp [h]
    · rw [List.set_eq_of_length_le (by omega), ga_wipe]
      by_cases h : i = v
      · subst h
        rw [wipeA_len] at hv
        rw [ga_out (by omega)]
        simp
      · simp [h]
/-- slots forgotten: what they owned is held by nobody -/
theorem wipe_ok (Rh : Rel K w st σ H g) (vs : List Nat) : Rel K w (wipeS st vs) (wipe σ vs) H ⟨g.F, wipeA g.as vs⟩ ∧ Stp st g H (wipeS st vs) ⟨g.F, wipeA g.as vs⟩ H := by
  have sub : ∀ {i b}, b ∈ ga (wipeA g.as vs) i → b ∈ ga g.as i := fun {i b} h => by
    rw [ga_wipe] at h
    split at h
    · cases h
    · exact h
  refine ⟨⟨by rw [wipe_length, wipeS_len]; exact Rh.len, by rw [wipeA_len, wipeS_len]; exact Rh.lena, fun i => ?_, fun i => ?_, fun i j b hi hj => Rh.dis i j b (sub hi) (sub hj), fun i b hb => Rh.nof i b (sub hb), Rh.trk⟩, ⟨fun _ _ h _ => h, fun _ h => h, fun _ h => .inl h, fun b ⟨j, hj, hb⟩ => .inl ⟨j, ?_, sub hb⟩, fun i b hb => .inl (sub hb), fun _ h => h⟩⟩
  · rw [gt_wipe, gv_wipe, ga_wipe]
    split
    · exact (rfl : ([] : List Addr) = [])
    · exact Rh.rep i
  · rw [ga_wipe]
    split
    · exact List.nodup_nil
    · exact Rh.one i
  · rw [gt_wipe] at hj
    split at hj
    · cases hj
    · exact hj
theorem wipe_eq {σ2 : L2.St} {vs : List Nat} (a : Ag vs (wipe σ vs) σ2) : wipe σ2 vs = wipe σ vs := by
  have l : (wipe σ2 vs).length = (wipe σ vs).length := by rw [wipe_length, a.1]
  have key : ∀ {τ υ : L2.St}, τ.length = υ.length → (∀ i, gv τ i = gv υ i) → τ = υ := fun {τ υ} l h => by
    induction τ generalizing υ with
    | nil => cases υ with
      | nil => rfl
      | cons y υ => cases l
    | cons x τ ih => cases υ with
      | nil => cases l
      | cons y υ =>
        have h0 := h 0
        simp only [gv] at h0
        rw [h0, ih (by simpa using l) fun i => h (i + 1)]
  refine key l fun i => ?_
  rw [gv_wipe, gv_wipe]
  split
  · rfl
  · rename_i hi
    have e := a.2 i hi
    rw [gv_wipe, if_neg hi] at e
    exact e
end

/-! ### the list that grows -/
section
variable {K : PySem.W.Frag} {w : World} {st st' : MS} {σ : L2.St} {H H1 : Hp} {g g' : Gs} {D : Addr} {vs us : List V}
/-- an address that nobody holds is written -/
theorem Rel.tmp (Rh : Rel K w st σ H g) (hD : H D = some (.lst vs)) (f : Fsh g [D]) : Rel K w st σ (upd H D (.lst us)) g := by
  have nF := f.nf D (List.mem_singleton.mpr rfl)
  have nO := f.no D (List.mem_singleton.mpr rfl)
  refine ⟨Rh.len, Rh.lena, fun i => (Rh.rep i).mono (fun _ h => h) (fun b xs hb h => ?_) (fun b xs h => ?_) (fun b z u h => ?_) fun b hb o h => ?_, Rh.one, Rh.dis, Rh.nof, fun b hb => ?_⟩
  · rw [upd_ne (fun e => by subst e; exact nF hb)]; exact h
  · rcases h with h | ⟨z, h⟩
    · exact .inl (by rw [upd_ne (fun e => by subst e; rw [hD] at h; cases h)]; exact h)
    · exact .inr ⟨z, by rw [upd_ne (fun e => by subst e; rw [hD] at h; cases h)]; exact h⟩
  · rw [upd_ne (fun e => by subst e; rw [hD] at h; cases h)]; exact h
  · rw [upd_ne (fun e => by subst e; exact nO ⟨i, hb⟩)]; exact h
  · obtain ⟨o, h⟩ := Rh.trk b hb
    rw [upd_ne (fun e => by subst e; exact nF hb)]
    exact ⟨o, h⟩
theorem rpA_tmp {F : Addr → Prop} {xs : List V} {ds : List Mt.D} (hD : H D = some (.lst vs)) (nF : ¬ F D) (r : RpA K F H xs ds) : RpA K F (upd H D (.lst us)) xs ds :=
  r.mono (fun _ h => h) (fun b ys hb h => by rw [upd_ne (fun e => by subst e; exact nF hb)]; exact h) fun b ys h => by
    rcases h with h | ⟨z, h⟩
    · exact .inl (by rw [upd_ne (fun e => by subst e; rw [hD] at h; cases h)]; exact h)
    · exact .inr ⟨z, by rw [upd_ne (fun e => by subst e; rw [hD] at h; cases h)]; exact h⟩
theorem Stp.tmp {st0 : MS} {g0 : Gs} {o : HO} (S : Stp st0 g0 H1 st g H) (hD : H1 D = none) : Stp st0 g0 H1 st g (upd H D o) := by
  refine ⟨fun b u e n => ?_, S.sub, S.new, S.opn, S.all, fun b n => ?_⟩
  · rw [upd_ne (fun z => by subst z; rw [hD] at e; cases e)]; exact S.keep b u e n
  · by_cases z : b = D
    · subst z; rw [upd_same]; exact fun z => nomatch z
    · rw [upd_ne z]; exact S.there b n
end

/-! ### the rule -/
theorem ptsimp {X : Cx} {ifs : List Expr} {t t' : TT} (h : PTs X ifs t) (f : ∀ σ H Q, t' σ H Q → t σ H Q) : PTs X ifs t' := ⟨fun pins s σ H Q I q => h.run pins s σ H Q I (f _ _ _ q)⟩
section
variable {X : Cx} {cl : Call}
theorem pts_no : PTs X [] (tB X.K X.w (evE cl (.c (.bool true)))) := ptsimp pts_nil fun σ H Q ⟨st, g, b, st', Rh, e, q⟩ => by
  simp only [evE] at e
  cases e
  exact q _ _ Rh .refl
/-- a turn of the comprehension -/
def lcTurn (cl : Call) (vs : List Nat) (tg : Tg) (cd elt : E) (x : D) (st : MS) : Option (Option D × MS) := match putT tg x st with
  | some st => match evE cl cd st with
    | some (t, st) => match asB t with
      | some true => match evE cl elt st with
        | some (r, st) => match frz st r with
          | some (d, st) => some (some d, wipeS st vs)
          | none => none
        | none => none
      | some false => some (none, wipeS st vs)
      | none => none
    | none => none
  | none => none
theorem lcTurn_inv {vs : List Nat} {tg : Tg} {cd elt : E} {x : D} {st st' : MS} {o : Option D} (h : lcTurn cl vs tg cd elt x st = some (o, st')) : ∃ st1 b st2, putT tg x st = some st1 ∧ evE cl cd st1 = some (iB b, st2) ∧
    ((b = false ∧ o = none ∧ st' = wipeS st2 vs) ∨ (b = true ∧ ∃ r st3 d st4, evE cl elt st2 = some (r, st3) ∧ frz st3 r = some (d, st4) ∧ o = some d ∧ st' = wipeS st4 vs)) := by
  unfold lcTurn at h
  split at h
  · rename_i st1 h1
    split at h
    · rename_i t st2 h2
      have hx : ∀ b, asB t = some b → t = iB b := fun b h => by
        cases t with
        | dat d => cases d <;> first | (cases h; rfl) | cases h
        | _ => cases h
      split at h
      · rename_i h3
        rw [hx _ h3] at h2
        split at h
        · rename_i r st3 h4
          split at h
          · rename_i d st4 h5
            cases h
            exact ⟨_, _, _, h1, h2, .inr ⟨rfl, _, _, _, _, h4, h5, rfl, rfl⟩⟩
          · cases h
        · cases h
      · rename_i h3
        rw [hx _ h3] at h2
        cases h
        exact ⟨_, _, _, h1, h2, .inl ⟨rfl, rfl, rfl⟩⟩
      · cases h
    · cases h
  · cases h
theorem lc_inv {vs : List Nat} {tg : Tg} {it cd elt : E} {st st' : MS} {r : R} (h : evE cl (.lc vs tg it cd elt) st = some (r, st')) : ∃ xs ps st0 ys st1, evI cl it st = some (xs, ps, st0) ∧ (∀ i ∈ vs, isOwn (gt st0 i) = false) ∧
    lcL (lcTurn cl vs tg cd elt) xs [] (wipeS (lockAll st0 (opens st0 ps)) vs) = some (ys, st1) ∧ r = .lst ys ∧ st' = unlockAll (backS (lockAll st0 (opens st0 ps)) st1 vs) (opens st0 ps) := by
  simp only [evE] at h
  split at h
  · rename_i xs ps st0 h1
    split at h
    · cases h
    · rename_i hn
      split at h
      · rename_i ys st1 h2
        cases h
        refine ⟨_, _, _, _, _, h1, fun i hi => ?_, h2, rfl, rfl⟩
        cases ho : isOwn (gt st0 i) with
        | false => rfl
        | true => exact absurd (List.any_eq_true.mpr ⟨i, hi, ho⟩) hn
      · cases h
  · cases h
theorem lcL_cons {f : D → MS → Option (Option D × MS)} {x : D} {xs acc ys : List D} {st st' : MS} (h : lcL f (x :: xs) acc st = some (ys, st')) : ∃ o st1, f x st = some (o, st1) ∧ ((∃ y, o = some y ∧ acc.length < SZ ∧ lcL f xs (acc ++ [y]) st1 = some (ys, st')) ∨ (o = none ∧ lcL f xs acc st1 = some (ys, st'))) := by
  simp only [lcL] at h
  split at h
  · rename_i y st1 h1
    split at h
    · rename_i hl
      exact ⟨_, _, h1, .inl ⟨y, rfl, hl, h⟩⟩
    · cases h
  · rename_i st1 h1
    exact ⟨_, _, h1, .inr ⟨rfl, h⟩⟩
  · cases h
theorem not_open {s : Sl} (h : isOwn s = false) : isOpen s = false := by
  cases s with
  | lst lk _ => cases h
  | dct lk _ => cases h
  | dll lk _ => cases h
  | ddl lk _ => cases h
  | _ => rfl
theorem isOwn_lock {s : Sl} : isOwn (lockS s) = isOwn s := by cases s <;> rfl
theorem own_lockAll : ∀ {is : List Nat} {st : MS} {i : Nat}, isOwn (gt (lockAll st is) i) = isOwn (gt st i)
  | [], _, _ => rfl
  | j :: is, st, i => by
    simp only [lockAll]
    rw [own_lockAll, gt_set2 (f := lockS) rfl]
    split
    · exact isOwn_lock
    · rfl
/-- the reading of the whole -/
theorem lc_go {vs : List Nat} {tg : Tg} {it cd elt : E} : ∀ σ H Q, tD X.K X.w (evE cl (.lc vs tg it cd elt)) σ H Q → tLc (tIt X.K X.w (evI cl it)) (gT X.K X.w vs (putT tg)) (tB X.K X.w (evE cl cd)) (tD X.K X.w (evE cl elt)) vs σ H Q :=
  fun σ H Q ⟨st, g, r, st', Rh, ev, q⟩ => by
    obtain ⟨xs, ps, st0, ys, st1, h1, hown, h2, rfl, rfl⟩ := lc_inv ev
    refine ⟨st, g, xs, ps, st0, Rh, h1, fun J H1 g1 R1 S1 ok D hD => ?_⟩
    have hown' : ∀ i ∈ vs, isOwn (gt (lockAll st0 (opens st0 ps)) i) = false := fun i hi => by rw [own_lockAll]; exact hown i hi
    refine ⟨fun i m H2 => ∃ st2 g2 acc va, Rel X.K X.w st2 (wipe σ vs) H2 g2 ∧ Stp (lockAll st0 (opens st0 ps)) g1 H1 st2 g2 H2 ∧ H2 D = some (.lst va) ∧ RpA X.K g2.F H2 va acc ∧ Fsh g2 [D] ∧ (∀ i ∈ vs, gt st2 i = .emp) ∧ m = xs.length - i ∧ i ≤ xs.length ∧
      lcL (lcTurn cl vs tg cd elt) (xs.drop i) acc st2 = some (ys, st1), ⟨xs.length, ?_⟩, ?_⟩
    · obtain ⟨R2, S2⟩ := wipe_ok (R1.grow (same_new (o := .lst []) hD)) vs
      refine ⟨_, _, [], [], R2, (Stp.grow (same_new hD)).trans S2, upd_same, .nil, ⟨(by simp), fun t ht f => ?_, fun t ht ⟨j, hj⟩ => ?_⟩, fun i hi => by rw [gt_wipe, if_pos hi], by simp, Nat.zero_le _, h2⟩
      · have : t = D := by simpa using ht
        subst this
        obtain ⟨o, e⟩ := R1.trk _ f
        rw [hD] at e; cases e
      · have : t = D := by simpa using ht
        subst this
        have hj : t ∈ ga (wipeA g1.as vs) j := hj
        rw [ga_wipe] at hj
        split at hj
        · cases hj
        · obtain ⟨o, e, _⟩ := R1.opnMu ⟨j, hj⟩
          rw [hD] at e; cases e
    · rintro i m H2 ⟨st2, g2, acc, va, R2, S2, eD, ra, fD, hem, rfl, hi, h3⟩
      obtain ⟨k1, k2⟩ := ok st2 g2 H2 S2 i
      by_cases hlt : i < xs.length
      · obtain ⟨go, yl⟩ := k1 _ (List.getElem?_eq_getElem hlt)
        rw [List.drop_eq_getElem_cons hlt] at h3
        obtain ⟨o, st3, e1, e2⟩ := lcL_cons h3
        obtain ⟨st4, b, st5, p1, p2, p3⟩ := lcTurn_inv e1
        refine .inr ⟨go, fun H' => ∃ st2 g2 acc va, Rel X.K X.w st2 (wipe σ vs) H' g2 ∧ Stp (lockAll st0 (opens st0 ps)) g1 H1 st2 g2 H' ∧ H' D = some (.lst va) ∧ RpA X.K g2.F H' va acc ∧ Fsh g2 [D] ∧ (∀ i ∈ vs, gt st2 i = .emp) ∧
          lcL (lcTurn cl vs tg cd elt) (xs.drop (i + 1)) acc st2 = some (ys, st1), fun H' ⟨st2, g2, acc, va, a1, a2, a3, a4, a5, a6, a7⟩ => ⟨xs.length - (i + 1), by omega, st2, g2, acc, va, a1, a2, a3, a4, a5, a6, rfl, hlt, a7⟩, fun x H3 y => ?_⟩
        obtain ⟨sm, rx⟩ := yl x H3 y
        -- the growing list, carried along
        have tmp : RR X.K X.w g2.F H3 (wipe σ vs) (.lst acc) (.ref D) [D] := ⟨D, rfl, rfl, va, sm _ _ eD, ra.grow sm⟩
        refine ⟨st2, g2, _, st4, R2.grow sm, rx, p1, fun σ4 g4 R4 S4 a4 => ⟨wipe_eq a4, ?_⟩⟩
        obtain ⟨t4', f4⟩ := tmp.step fD (R2.grow sm) S4
        have t4 : RR X.K X.w g4.F H3 σ4 (.lst acc) (.ref D) [D] := t4'
        refine ⟨st4, g4, b, st5, R4, p2, fun H5 g5 R5 S5 => ?_⟩
        obtain ⟨t5, f5⟩ := t4.step f4 R4 S5
        have S25 := (S2.trans (.grow sm)).trans (S4.trans S5)
        rcases p3 with ⟨rfl, rfl, rfl⟩ | ⟨rfl, r6, st6, d, st7, p4, p5, rfl, rfl⟩
        · refine iteF ?_
          rcases e2 with ⟨y, hy, _⟩ | ⟨_, e2⟩
          · cases hy
          · obtain ⟨R6, S6⟩ := wipe_ok R5 vs
            obtain ⟨t6, f6⟩ := t5.step f5 R5 S6
            obtain ⟨D', eD', e2', va', a3, a4'⟩ := t6
            cases e2'
            rw [wipe_eq a4] at R6
            exact ⟨_, _, acc, va', R6, S25.trans S6, a3, a4', f6, fun i hi => by rw [gt_wipe, if_pos hi], e2⟩
        · refine iteT ⟨st5, g5, r6, st6, R5, p4, fun v H6 g6 ts P => ?_⟩
          obtain ⟨g7, P7⟩ := frz_ok P p5
          obtain ⟨t7, f7⟩ := t5.step f5 R5 P7.sp
          obtain ⟨D', eD', e2', va', a3, a4'⟩ := t7
          cases e2'
          rcases e2 with ⟨y, hy, hl, e2⟩ | ⟨hy, _⟩
          · cases hy
            refine ⟨va', a3, sz_lt (by rw [a4'.len]; exact hl), ?_⟩
            have R8 := P7.rl.tmp (us := va' ++ [v]) a3 f7
            have nF : ¬ g7.F D := f7.nf D (List.mem_singleton.mpr rfl)
            have r8 : RpA X.K g7.F (upd H6 D (.lst (va' ++ [v]))) (va' ++ [v]) (acc ++ [d]) := rpA_tmp a3 nF (a4'.append (.one P7.dat))
            obtain ⟨R9, S9⟩ := wipe_ok R8 vs
            have S8 : Stp (lockAll st0 (opens st0 ps)) g1 H1 st7 g7 (upd H6 D (.lst (va' ++ [v]))) := (S25.trans P7.sp).tmp hD
            rw [wipe_eq a4] at R9
            refine ⟨_, _, acc ++ [d], va' ++ [v], R9, S8.trans S9, upd_same, r8, ⟨(by simp), f7.nf, fun t ht ⟨j, hj⟩ => ?_⟩, fun i hi => by rw [gt_wipe, if_pos hi], e2⟩
            have hj : t ∈ ga (wipeA g7.as vs) j := hj
            rw [ga_wipe] at hj
            split at hj
            · cases hj
            · exact f7.no t ht ⟨j, hj⟩
          · cases hy
      · have e : i = xs.length := by omega
        subst e
        rw [List.drop_length] at h3
        simp only [lcL] at h3
        cases h3
        refine .inl ⟨k2 (Nat.le_refl _), ?_⟩
        have hll : (lockAll st0 (opens st0 ps)).length = st1.length := by rw [← R1.len, ← R2.len, wipe_length]
        have R3 : Rel X.K X.w (backS (lockAll st0 (opens st0 ps)) st1 vs) σ H2 g2 := by
          refine ⟨by rw [backS_len, ← R2.len, wipe_length], by rw [backS_len]; exact R2.lena, fun j => ?_, R2.one, R2.dis, R2.nof, R2.trk⟩
          have q2 := R2.rep j
          rw [gt_back hll]
          split
          · rename_i hj
            rw [hem j hj] at q2
            have q2 : ga g2.as j = [] := q2
            have q1 := R1.rep j
            have ho := hown' j hj
            cases hs : gt (lockAll st0 (opens st0 ps)) j with
            | emp => exact q2
            | dat d =>
              rw [hs] at q1
              obtain ⟨_, v, hv, rd⟩ := q1
              exact ⟨q2, v, hv, R1.rp S2 rd⟩
            | scr xs =>
              rw [hs] at q1
              obtain ⟨_, a, vs', hv, hA, rd⟩ := q1
              refine ⟨q2, a, vs', hv, ?_, R1.rpA S2 rd⟩
              rcases hA with ⟨o, hA⟩ | hA
              · exact .inl ⟨o, R1.kz S2 _ _ _ hA⟩
              · exact .inr hA
            | lst lk xs => rw [hs] at ho; cases ho
            | dct lk xs => rw [hs] at ho; cases ho
            | dll lk xs => rw [hs] at ho; cases ho
            | ddl lk xs => rw [hs] at ho; cases ho
          · rename_i hj
            rw [gv_wipe, if_neg hj] at q2
            exact q2
        have S3 : Stp (lockAll st0 (opens st0 ps)) g1 H1 (backS (lockAll st0 (opens st0 ps)) st1 vs) g2 H2 := by
          refine ⟨S2.keep, S2.sub, S2.new, fun b ⟨j, hj, hb⟩ => ?_, S2.all, S2.there⟩
          rw [gt_back hll] at hj
          split at hj
          · rename_i hj'
            rw [not_open (hown' j hj')] at hj
            cases hj
          · exact S2.opn b ⟨j, hj, hb⟩
        refine q _ _ g2 [D] ⟨R3.unlock, S1.trans (S3.unlock fun i hi => mem_opens hi), ⟨D, rfl, rfl, va, eD, ra⟩, fD, fun t ht => ?_⟩
        have : t = D := by simpa using ht
        subst this
        exact none_back S1 hD
end
end Mt

set_option Elab.async false
set_option linter.all false
set_option maxRecDepth 100000
set_option maxHeartbeats 8000000
/-! The checker: a text of the small language stands for a text of Python. -/
namespace Mt
open PySem PySem.Spec PyProof.Rows L2

structure CallE where
  f : Nat
  x : Str
  n : Nat
  ks : List Str
  pat : List (Option Cn)
  deriving DecidableEq
structure Tc where
  N : List Str
  sc : Scope
  cells : List Str
  A : List Nat
  np : Nat
  calls : List CallE
  glob : List (Str × Cn)
  blts : List Str
structure Ctx (X : Cx) (cl : Call) (T : Tc) : Prop where
  N : X.N = T.N
  nd : X.N.Nodup
  sc : X.env.scope = T.sc
  calm : X.calm = true
  bk : X.env.blockKind = .function
  hu : X.A.units + 200 < cLine
  hp : PassesOwn (model X.prog X.w) X.A X.env X.xe
  fn : ∀ x ∈ T.cells, X.fn x = true
  calls : ∀ c ∈ T.calls, FCall X cl c.f c.x c.n c.ks c.pat
  glob : ∀ p ∈ T.glob, ∃ u v, X.mg p.1 = some u ∧ RelV v u ∧ ∀ F H, Rp X.K F H v (cnD p.2)
  blts : ∀ b ∈ T.blts, X.mg b = none
def dbg (x : Str) : Bool := x == ("__debug__" : Str) || x == ("__classdict__" : Str)
def glB (T : Tc) (x : Str) : Bool := decide (T.sc.names.lookup x = some .globalImplicit) && !(dbg x)
def bltB (T : Tc) (x : Str) : Bool := glB T x && T.blts.contains x
def visB (T : Tc) (x : Str) : Bool := decide (T.sc.names.lookup x = some .local) || decide (T.sc.names.lookup x = some .cell) || decide (T.sc.names.lookup x = some .free)
def isV (T : Tc) (i : Nat) (e : Expr) : Bool := match e with
  | .Name x _ => decide (T.N[i]? = some x) && visB T x && !(dbg x)
  | _ => false
/-- a name that may be stored -/
def isW (T : Tc) (i : Nat) (e : Expr) : Bool := match e with
  | .Name x _ => decide (T.N[i]? = some x) && (decide (T.sc.names.lookup x = some .local) || (decide (T.sc.names.lookup x = some .cell) && T.cells.contains x)) && T.A.contains i
  | _ => false
def isCn (c : Cn) (d : D) : Bool := match c, d with
  | .none, .none => true
  | .bool a, .bool b => a == b
  | .int a, .int b => decide (a = b)
  | .str a, .str b => decide (a = b)
  | _, _ => false
theorem isCn_eq {c : Cn} {d : D} (h : isCn c d = true) : d = cnD c := by
  cases c <;> cases d <;> simp [isCn] at h <;> first | rfl | (subst h; rfl)
def isC (T : Tc) (d : D) (e : Expr) : Bool := match e with
  | .Constant c _ _ => (match c with
    | .none => isCn .none d
    | .bool b => isCn (.bool b) d
    | .int i => isCn (.int i) d
    | .str s => isCn (.str s) d
    | _ => false)
  | .Name x _ => glB T x && T.glob.any fun q => decide (q.1 = x) && isCn q.2 d
  | _ => false
def biFn : Bi → Option String
  | .len => some "len" | .abs => some "abs" | .min => some "min" | .max => some "max" | .sum => some "sum" | .any => some "any" | .all => some "all"
  | _ => none
def biTy : Bi → Option String
  | .int => some "int" | .tuple => some "tuple" | .list => some "list"
  | _ => none
def biB (b : Bi) (x : Str) : Bool := match biFn b with
  | some id => decide (x = Str.ofString id)
  | none => match biTy b with
    | some id => decide (x = Str.ofString id)
    | none => false
section
variable {X : Cx} {cl : Call} {T : Tc}
theorem glB_ok (C : Ctx X cl T) {x : Str} (h : glB T x = true) : Gl X x ∧ (x == ("__debug__" : Str)) = false := by
  unfold glB dbg at h
  rw [Bool.and_eq_true, decide_eq_true_eq, Bool.not_eq_true', Bool.or_eq_false_iff] at h
  refine ⟨?_, h.2.1⟩
  show X.env.scope.names.lookup x = _
  rw [C.sc]
  exact h.1
theorem bltB_ok (C : Ctx X cl T) {x : Str} (h : bltB T x = true) : Gl X x ∧ (x == ("__debug__" : Str)) = false ∧ X.mg x = none := by
  unfold bltB at h
  rw [Bool.and_eq_true] at h
  obtain ⟨h1, h2⟩ := glB_ok C h.1
  exact ⟨h1, h2, C.blts x (by simpa using h.2)⟩
theorem visB_ok (C : Ctx X cl T) {x : Str} (h : visB T x = true) : Vis X.env.scope x := by
  unfold visB at h
  rw [Bool.or_eq_true, Bool.or_eq_true, decide_eq_true_eq, decide_eq_true_eq, decide_eq_true_eq] at h
  show X.env.scope.names.lookup x = _ ∨ X.env.scope.names.lookup x = _ ∨ X.env.scope.names.lookup x = _
  rw [C.sc]
  rcases h with (h | h) | h
  · exact .inl h
  · exact .inr (.inl h)
  · exact .inr (.inr h)
theorem isV_ok (C : Ctx X cl T) {i : Nat} {e : Expr} (h : isV T i e = true) : PE X e (tVar i) := by
  unfold isV at h
  split at h
  · rename_i x p
    rw [Bool.and_eq_true, Bool.and_eq_true, decide_eq_true_eq, Bool.not_eq_true'] at h
    obtain ⟨⟨h1, h2⟩, h3⟩ := h
    unfold dbg at h3
    rw [Bool.or_eq_false_iff] at h3
    exact pe_var (by rw [C.N]; exact h1) (visB_ok C h2) h3.1 h3.2
  · cases h
theorem isW_ok (C : Ctx X cl T) {i : Nat} {e : Expr} (h : isW T i e = true) : ∃ x p, e = .Name x p ∧ X.N[i]? = some x ∧ Loc X.env.scope x ∧ (X.fn x = true ∨ X.env.scope.names.lookup x = some .local) ∧ i ∈ T.A := by
  unfold isW at h
  split at h
  · rename_i x p
    rw [Bool.and_eq_true, Bool.and_eq_true, decide_eq_true_eq, Bool.or_eq_true, Bool.and_eq_true, decide_eq_true_eq, decide_eq_true_eq] at h
    obtain ⟨⟨h1, h2⟩, h3⟩ := h
    refine ⟨x, p, rfl, by rw [C.N]; exact h1, ?_, ?_, by simpa using h3⟩
    · show X.env.scope.names.lookup x = _ ∨ X.env.scope.names.lookup x = _
      rw [C.sc]
      rcases h2 with h2 | h2
      · exact .inl h2
      · exact .inr h2.1
    · rw [C.sc]
      rcases h2 with h2 | h2
      · exact .inr h2
      · exact .inl (C.fn x (by simpa using h2.2))
  · cases h
theorem isC_ok (C : Ctx X cl T) {d : D} {e : Expr} (h : isC T d e = true) : EV X e (evE cl (.c d)) := by
  unfold isC at h
  split at h
  · split at h
    · cases isCn_eq h; exact ev_c pe_non fun _ _ => .non
    · cases isCn_eq h; exact ev_c pe_bl fun _ _ => .bl _
    · cases isCn_eq h; exact ev_c pe_int fun _ _ => .int _
    · cases isCn_eq h; exact ev_c pe_str fun _ _ => .str _
    · cases h
  · rename_i x p
    rw [Bool.and_eq_true, List.any_eq_true] at h
    obtain ⟨h1, ⟨y, c⟩, h2, h3⟩ := h
    rw [Bool.and_eq_true, decide_eq_true_eq] at h3
    obtain ⟨rfl, h3⟩ := h3
    obtain ⟨u, v, e1, e2, e3⟩ := C.glob _ h2
    obtain ⟨g1, g2⟩ := glB_ok C h1
    cases isCn_eq h3
    exact ev_c (pe_glob g1 e1 e2 g2) e3
  · cases h
theorem biFn_ok (hk : X.calm = true) {b : Bi} {id : String} (h : biFn b = some id) : CallR X (.builtin id) (rCl X.K X.w (opBi b)) ∧ bootBuiltins (Str.ofString id) = some (.builtin id) ∧ Str.ofString id ≠ "__name__" := by
  cases b <;> simp only [biFn] at h <;> cases h
  · exact ⟨bLen_ok, by decide +kernel, by decide +kernel⟩
  · exact ⟨bAbs_ok, by decide +kernel, by decide +kernel⟩
  · exact ⟨bMin_ok hk, by decide +kernel, by decide +kernel⟩
  · exact ⟨bMax_ok hk, by decide +kernel, by decide +kernel⟩
  · exact ⟨bSum_ok hk, by decide +kernel, by decide +kernel⟩
  · exact ⟨bAny_ok hk, by decide +kernel, by decide +kernel⟩
  · exact ⟨bAll_ok hk, by decide +kernel, by decide +kernel⟩
theorem biTy_ok {b : Bi} {id : String} (h : biTy b = some id) : CallR X (.type id) (rCl X.K X.w (opBi b)) ∧ bootBuiltins (Str.ofString id) = some (.type id) ∧ Str.ofString id ≠ "__name__" := by
  cases b <;> simp only [biTy] at h <;> cases h
  · exact ⟨bInt_ok, by decide +kernel, by decide +kernel⟩
  · exact ⟨bTuple_ok, by decide +kernel, by decide +kernel⟩
  · exact ⟨bList_ok, by decide +kernel, by decide +kernel⟩
theorem bi_ok (C : Ctx X cl T) {b : Bi} {x : Str} {e : Expr} {es : List Expr} {es' : List E} {p pos : Pos} (h : biB b x = true) (hb : bltB T x = true) (ha : EVs X cl (e :: es) es') : EV X (.Call (.Name x p) (e :: es) [] pos) (evE cl (.bi b es')) := by
  obtain ⟨h1, h2, h3⟩ := bltB_ok C hb
  unfold biB at h
  split at h
  · rename_i id e1
    obtain ⟨k1, k2, k3⟩ := biFn_ok C.calm e1
    rw [decide_eq_true_eq] at h
    subst h
    exact ev_bi k1 h1 h3 k2 k3 h2 ha
  · split at h
    · rename_i id e1
      obtain ⟨k1, k2, k3⟩ := biTy_ok (X := X) e1
      rw [decide_eq_true_eq] at h
      subst h
      exact ev_biT k1 h1 h3 k2 k3 h2 ha
    · cases h
end

/-! ### expressions -/
def isTupE : Expr → Bool
  | .Tuple .. => true
  | _ => false
def noSetE : Expr → Bool
  | .Set .. => false
  | _ => true
theorem noSet_ok {e : Expr} {env : Env} (h : noSetE e = true) : ∀ x, foldedSetIterable e env x = pure x := by
  intro x
  cases e <;> first | rfl | cases h
mutual
def ckTg (T : Tc) : Tg → Expr → Bool
  | .nm i, e => isW T i e
  | .tup ts, e => match e with
    | .Tuple es _ _ => es.all noStar && ckTgs T ts es
    | _ => false
def ckTgs (T : Tc) : List Tg → List Expr → Bool
  | [], [] => true
  | t :: ts, e :: es => ckTg T t e && ckTgs T ts es
  | _, _ => false
end
/-- the context of a comprehension -/
def cellNames (sc : Scope) : List Str := sc.names.filterMap fun (n, k) => if k = .cell then some n else none
def blkT (T : Tc) (scope : Scope) (vs : List Nat) : Tc := { T with sc := relS scope T.sc, cells := cellNames scope, A := vs }
def ownOf (T : Tc) (vs : List Nat) : List (Str × Nat) := vs.map fun i => ((T.N[i]?).getD "", i)
def plainT : Expr → Bool
  | .UnaryOp .Not _ _ => false
  | .BoolOp .. => false
  | .IfExp .. => false
  | .Compare .. => false
  | _ => true
theorem plainT_ok {e : Expr} {env : Env} (h : plainT e = true) : ∀ whole, isTrue e env whole = (do let v ← whole; standAt e.pos; holding [v] (truthy v)) := by
  intro whole
  cases e with
  | UnaryOp op x p => cases op <;> first | rfl | cases h
  | BoolOp => cases h
  | IfExp => cases h
  | Compare => cases h
  | _ => rfl
def muNm : Mu → Str
  | .append => "append" | .extend => "extend" | .pop => "pop" | .insert => "insert" | .setdefault => "setdefault"
def isTr : E → Bool
  | .c (.bool true) => true
  | _ => false
def isNm : Expr → Bool
  | .Name .. => true
  | _ => false
mutual
def ckE (T : Tc) : E → Expr → Bool
  | .c d, e => isC T d e
  | .v i, e => isV T i e
  | .bin op a b, e => match e with
    | .BinOp x o y _ => decide (o = opOf op) && ckE T a x && ckE T b y
    | _ => false
  | .neg a, e => match e with
    | .UnaryOp .USub x _ => ckE T a x
    | _ => false
  | .ntv a, e => match e with
    | .UnaryOp .Not x _ => ckE T a x
    | _ => false
  | .and es, e => match e with
    | .BoolOp .And xs _ => !xs.isEmpty && ckL T es xs
    | _ => false
  | .or es, e => match e with
    | .BoolOp .Or xs _ => !xs.isEmpty && ckL T es xs
    | _ => false
  | .cmp op a b, e => match e with
    | .Compare x [o] [y] _ => decide (o = copOf op) && ckE T a x && ckE T b y && !(behindInMarks o y)
    | _ => false
  | .chn op op2 a b c, e => match e with
    | .Compare x [o, o2] [y, z] _ => decide (o = copOf op) && decide (o2 = copOf op2) && ckE T a x && ckE T b y && ckE T c z && !(behindInMarks o2 z)
    | _ => false
  | .ite t a b, e => match e with
    | .IfExp x y z _ => ckT T t x && ckE T a y && ckE T b z
    | _ => false
  | .tup es, e => match e with
    | .Tuple xs _ _ => xs.all noStar && ckL T es xs
    | _ => false
  | .lst es, e => match e with
    | .List xs _ => xs.all noStar && ckL T es xs
    | _ => false
  | .ix a b, e => match e with
    | .Subscript x y _ => noSlice y && ckE T a x && ckE T b y
    | _ => false
  | .sl a lo hi, e => match e with
    | .Subscript x (.Slice l h none _) _ => ckE T a x && ckO T lo l && ckO T hi h
    | _ => false
  | .rev a, e => match e with
    | .Subscript x (.Slice none none (some (.UnaryOp .USub (.Constant (.int n) _ _) _)) _) _ => decide (n = 1) && ckE T a x
    | _ => false
  | .call f pat as, e => match e with
    | .Call (.Name x _) es kws _ => glB T x && T.calls.contains ⟨f, x, es.length, kws.filterMap (·.arg), pat⟩ && es.all noStar && kws.all (·.arg.isSome) && ckA T as es kws
    | _ => false
  | .bi b es, e => match e with
    | .Call (.Name x _) (e1 :: es1) [] _ => bltB T x && noStar e1 && (match isIs b with
      | true => (match es1 with
        | [.Name y _] => decide (x = "isinstance") && decide (y = Str.ofString (tyOf b)) && bltB T y && ckL T es [e1]
        | _ => false)
      | false => biB b x && es1.all noStar && ckL T es (e1 :: es1))
    | _ => false
  | .lrg tp [a], e => match e with
    | .Call (.Name x _) [.Call (.Name y _) [e1] [] _] [] _ => bltB T x && bltB T y && decide (x = (if tp then "tuple" else "list")) && decide (y = "range") && noStar e1 && ckE T a e1
    | _ => false
  | .lrg tp [a, b], e => match e with
    | .Call (.Name x _) [.Call (.Name y _) [e1, e2] [] _] [] _ => bltB T x && bltB T y && decide (x = (if tp then "tuple" else "list")) && decide (y = "range") && noStar e1 && noStar e2 && ckE T a e1 && ckE T b e2
    | _ => false
  | .zips a, e => match e with
    | .Call (.Name x _) [.Call (.Name y _) [.Starred e1 _] [] _] [] _ => bltB T x && bltB T y && decide (x = "list") && decide (y = "zip") && ckE T a e1
    | _ => false
  | .mu m i es, e => match e with
    | .Call (.Attribute o nm ap) xs [] cp => isNm o && isV T i o && decide (nm = muNm m) && (ap.endLine == cp.line) && xs.all noStar && decide (xs.length < 30) && (match m with
      | .append => decide (xs.length = 1)
      | .extend => decide (xs.length = 1)
      | .pop => true
      | _ => false) && ckL T es xs
    | _ => false
  | .lc vs tg it cd elt, e => match e with
    | .ListComp el [⟨t, itE, ifs, is⟩] scope _ => decide (is = 0) && blkC T.N T.sc scope (ownOf T vs) && ckTg (blkT T scope vs) tg t && noSetE itE && (match ifs with
      | [] => isTr cd
      | [c] => ckT (blkT T scope vs) cd c
      | _ => false) && ckI T it t itE && ckE (blkT T scope vs) elt el
    | _ => false
  | _, _ => false
def ckI (T : Tc) : E → Expr → Expr → Bool
  | .wk a, tg, e => ckE T a e
  | .rng [a], tg, e => match e with
    | .Call (.Name x _) [e1] [] _ => bltB T x && decide (x = "range") && noStar e1 && ckE T a e1
    | _ => false
  | .rng [a, b], tg, e => match e with
    | .Call (.Name x _) [e1, e2] [] _ => bltB T x && decide (x = "range") && noStar e1 && noStar e2 && ckE T a e1 && ckE T b e2
    | _ => false
  | .enum a, tg, e => isTupE tg && match e with
    | .Call (.Name x _) [e1] [] _ => bltB T x && decide (x = "enumerate") && noStar e1 && ckE T a e1
    | _ => false
  | .zip [a, b], tg, e => isTupE tg && match e with
    | .Call (.Name x _) [e1, e2] [] _ => bltB T x && decide (x = "zip") && noStar e1 && noStar e2 && ckE T a e1 && ckE T b e2
    | _ => false
  | _, _, _ => false
/-- a test -/
def ckT (T : Tc) : E → Expr → Bool
  | .tru a, e => plainT e && ckE T a e
  | .nt a, e => match e with
    | .UnaryOp .Not x _ => ckT T a x
    | _ => false
  | .at es, e => match e with
    | .BoolOp .And xs _ => !xs.isEmpty && ckTs T es xs
    | _ => false
  | .ot es, e => match e with
    | .BoolOp .Or xs _ => !xs.isEmpty && ckTs T es xs
    | _ => false
  | .cmp op a b, e => match e with
    | .Compare x [o] [y] _ => decide (o = copOf op) && ckE T a x && ckE T b y && !(behindInMarks o y)
    | _ => false
  | .chn op op2 a b c, e => match e with
    | .Compare x [o, o2] [y, z] _ => decide (o = copOf op) && decide (o2 = copOf op2) && ckE T a x && ckE T b y && ckE T c z && !(behindInMarks o2 z)
    | _ => false
  | .ite t a b, e => match e with
    | .IfExp x y z _ => ckT T t x && ckT T a y && ckT T b z
    | _ => false
  | _, _ => false
def ckTs (T : Tc) : List E → List Expr → Bool
  | [], [] => true
  | a :: as, e :: es => ckT T a e && ckTs T as es
  | _, _ => false
def ckL (T : Tc) : List E → List Expr → Bool
  | [], [] => true
  | a :: as, e :: es => ckE T a e && ckL T as es
  | _, _ => false
def ckO (T : Tc) : E → Option Expr → Bool
  | .abs, none => true
  | .bd a, some e => ckE T a e
  | _, _ => false
def ckA1 (T : Tc) : E → Expr → Bool
  | .ln i, e => isV T i e
  | .ex a, e => ckE T a e
  | _, _ => false
def ckA (T : Tc) : List E → List Expr → List Keyword → Bool
  | [], [], [] => true
  | a :: as, e :: es, kws => ckA1 T a e && ckA T as es kws
  | a :: as, [], kw :: kws => ckA1 T a kw.value && ckA T as [] kws
  | _, _, _ => false
end
section
variable {cl : Call}
theorem EVs.of {X : Cx} : ∀ {es : List Expr} {es' : List E}, es.all noStar = true → EVl X cl es es' → EVs X cl es es'
  | _, _, _, .nil => .nil
  | _, _, h, .cons a t => by
    rw [List.all_cons, Bool.and_eq_true] at h
    exact .cons h.1 a (EVs.of h.2 t)
/-- arguments, then keywords -/
inductive EAK (X : Cx) (cl : Call) : List Expr → List Keyword → List E → Prop
  | nil : EAK X cl [] [] []
  | pos {e : Expr} {es : List Expr} {kws : List Keyword} {a : E} {as : List E} : EA1 X cl e a → EAK X cl es kws as → EAK X cl (e :: es) kws (a :: as)
  | kw {k : Keyword} {kws : List Keyword} {a : E} {as : List E} : EA1 X cl k.value a → EAK X cl [] kws as → EAK X cl [] (k :: kws) (a :: as)
theorem EAK.split {X : Cx} {es : List Expr} {kws : List Keyword} {as : List E} (h : EAK X cl es kws as) (hs : es.all noStar = true) (hk : kws.all (·.arg.isSome) = true) : ∃ xs ys, as = xs ++ ys ∧ EAs X cl es xs ∧ EKs X cl kws ys := by
  induction h with
  | nil => exact ⟨[], [], rfl, .nil, .nil⟩
  | pos a _ ih =>
    rw [List.all_cons, Bool.and_eq_true] at hs
    obtain ⟨xs, ys, rfl, h1, h2⟩ := ih hs.2 hk
    exact ⟨_ :: xs, ys, rfl, .cons hs.1 a h1, h2⟩
  | kw a t ih =>
    rw [List.all_cons, Bool.and_eq_true] at hk
    obtain ⟨xs, ys, rfl, h1, h2⟩ := ih hs hk.2
    cases h1
    exact ⟨[], _ :: ys, rfl, .nil, .cons hk.1 a h2⟩
theorem and2 {a b : Bool} (h : (a && b) = true) : a = true ∧ b = true := by rwa [Bool.and_eq_true] at h
theorem dec {p : Prop} [Decidable p] (h : decide p = true) : p := of_decide_eq_true h
theorem EVl.cons_inv {X : Cx} {e : Expr} {es : List Expr} {es' : List E} (h : EVl X cl (e :: es) es') : ∃ a r, es' = a :: r ∧ EV X e (evE cl a) ∧ EVl X cl es r := by
  cases h with
  | cons a t => exact ⟨_, _, rfl, a, t⟩
theorem EBs.cons_inv {X : Cx} {e : Expr} {es : List Expr} {es' : List E} (h : EBs X cl (e :: es) es') : ∃ a r, es' = a :: r ∧ EB X e (evE cl a) ∧ EBs X cl es r := by
  cases h with
  | cons a t => exact ⟨_, _, rfl, a, t⟩
theorem muOk_ck {X : Cx} {T : Tc} (C : Ctx X cl T) {m : Mu} {i : Nat} {es : List E} {o : Expr} {nm : Str} {ap cp : Pos} {xs : List Expr} (h : (isNm o && isV T i o && decide (nm = muNm m) && (ap.endLine == cp.line) && xs.all noStar && decide (xs.length < 30) && (match m with
      | .append => decide (xs.length = 1)
      | .extend => decide (xs.length = 1)
      | .pop => true
      | _ => false)) = true) (hl : EVl X cl xs es) : EV X (.Call (.Attribute o nm ap) xs [] cp) (evE cl (.mu m i es)) := by
  obtain ⟨h, h7⟩ := and2 h
  obtain ⟨h, h6⟩ := and2 h
  obtain ⟨h, h5⟩ := and2 h
  obtain ⟨h, h4⟩ := and2 h
  obtain ⟨h, h3⟩ := and2 h
  obtain ⟨h1, h2⟩ := and2 h
  have h6 := dec h6
  have h3 := dec h3
  subst h3
  have ho := isV_ok C h2
  have hv := EVs.of h5 hl
  have hb : ∀ nm, attributeBase o nm X.env (eval o X.env) = eval o X.env := fun nm => by
    cases o <;> first | rfl | cases h1
  cases m with
  | append =>
    cases xs with
    | nil => cases h7
    | cons e es => exact ev_mu (by decide) PySem.F.slot_list_append PySem.F.type_list_append mu_append ho (hb _) hv h4 h6
  | extend =>
    cases xs with
    | nil => cases h7
    | cons e es => exact ev_mu (by decide) PySem.F.slot_list_extend PySem.F.type_list_extend mu_extend ho (hb _) hv h4 h6
  | pop =>
    cases xs with
    | nil =>
      cases hl
      exact ev_mu0 (by decide) PySem.F.slot_list_pop PySem.F.type_list_pop mu_pop ho (hb _) h4
    | cons e es => exact ev_mu (by decide) PySem.F.slot_list_pop PySem.F.type_list_pop mu_pop ho (hb _) hv h4 h6
  | insert => cases h7
  | setdefault => cases h7
theorem is_ok {X : Cx} {T : Tc} (C : Ctx X cl T) {b : Bi} (hb : isIs b = true) {e : Expr} {a : E} {x y : Str} {p p2 pos : Pos} (hx : bltB T x = true) (hs : noStar e = true) (h : (decide (x = "isinstance") && decide (y = Str.ofString (tyOf b)) && bltB T y) = true) (ha : EV X e (evE cl a)) :
    EV X (.Call (.Name x p) [e, .Name y p2] [] pos) (evE cl (.bi b [a])) := by
  obtain ⟨h, h3⟩ := and2 h
  obtain ⟨h1, h2⟩ := and2 h
  have h1 := dec h1
  have h2 := dec h2
  subst h1 h2
  obtain ⟨x1, x2, x3⟩ := bltB_ok C hx
  obtain ⟨y1, y2, y3⟩ := bltB_ok C h3
  have hy : bootBuiltins (Str.ofString (tyOf b)) = some (.type (tyOf b)) ∧ Str.ofString (tyOf b) ≠ "__name__" := by
    cases b <;> first | exact ⟨by decide +kernel, by decide +kernel⟩ | cases hb
  exact ev_is hb hy.1 y1 y3 hy.2 y2 x1 x3 (by decide +kernel) (by decide +kernel) x2 hs ha
mutual
theorem ckTg_ok {X : Cx} {T : Tc} (C : Ctx X cl T) : ∀ (t : Tg) (e : Expr), ckTg T t e = true → ET X T.A e t
  | .nm i, e, h => by
    obtain ⟨x, p, rfl, h1, h2, h3, h4⟩ := isW_ok C (by simpa only [ckTg] using h)
    exact .nm h1 h2 h3 h4
  | .tup ts, e, h => by
    simp only [ckTg] at h
    split at h
    · obtain ⟨h1, h2⟩ := and2 h
      exact .tup h1 (ckTgs_ok C ts _ h2)
    · cases h
theorem ckTgs_ok {X : Cx} {T : Tc} (C : Ctx X cl T) : ∀ (ts : List Tg) (es : List Expr), ckTgs T ts es = true → ETs X T.A es ts
  | [], [], h => .nil
  | t :: ts, e :: es, h => by
    simp only [ckTgs] at h
    obtain ⟨h1, h2⟩ := and2 h
    exact .cons (ckTg_ok C t e h1) (ckTgs_ok C ts es h2)
  | [], _ :: _, h => by simp only [ckTgs] at h; cases h
  | _ :: _, [], h => by simp only [ckTgs] at h; cases h
end
theorem ctx_blk {X : Cx} {T : Tc} (C : Ctx X cl T) {scope : Scope} {vs : List Nat} (ok : BlkOk X.N X.env.scope scope (ownOf T vs)) (s : Shared) (H : Hp) (a : Addr) (cs : List (Str × Addr)) (fp : List Addr) : Ctx (X.blk s H scope (compEnvC scope cs a X.env) fp) cl (blkT T scope vs) := by
  refine ⟨C.N, C.nd, ?_, C.calm, ?_, C.hu, PassesOwn.never, fun x hx => ?_, fun c hc => ⟨(C.calls c hc).ex⟩, C.glob, C.blts⟩
  · show relS scope X.env.scope = relS scope T.sc
    rw [C.sc]
  · show (if scope.kind.isAnnotationScope then ScopeKind.function else scope.kind) = _
    rw [ok.kind]; rfl
  · show (scope.names.lookup x == some .cell) = true
    have hx : x ∈ cellNames scope := hx
    unfold cellNames at hx
    obtain ⟨⟨n, k⟩, hm, e⟩ := List.mem_filterMap.mp hx
    dsimp only at e
    split at e
    · rename_i hk
      cases e
      have h1 := ok.uniq _ hm
      rw [hk] at h1
      rw [h1]; rfl
    · cases e
theorem ownOf_vs (T : Tc) (vs : List Nat) : (ownOf T vs).map (·.2) = vs := by
  unfold ownOf
  rw [List.map_map]
  exact List.map_id _
theorem ev_lc {X : Cx} {T : Tc} (C : Ctx X cl T) {el t itE : Expr} {ifs : List Expr} {scope : Scope} {pos : Pos} {vs : List Nat} {tg : Tg} {it cd elt : E} (ok : BlkOk X.N X.env.scope scope (ownOf T vs)) (hi : PI X t itE (tIt X.K X.w (evI cl it))) (hs : ∀ x, foldedSetIterable itE X.env x = pure x)
    (ht : ∀ X', Ctx X' cl (blkT T scope vs) → ET X' vs t tg) (hc : ∀ X', Ctx X' cl (blkT T scope vs) → PTs X' ifs (tB X'.K X'.w (evE cl cd))) (he : ∀ X', Ctx X' cl (blkT T scope vs) → EV X' el (evE cl elt)) :
    EV X (.ListComp el [⟨t, itE, ifs, 0⟩] scope pos) (evE cl (.lc vs tg it cd elt)) := by
  have h := pe_lc (pos := pos) (g := gT X.K X.w vs (putT tg)) (tt := tB X.K X.w (evE cl cd)) (te := tD X.K X.w (evE cl elt)) C.calm C.nd hi ok (fun s H a cs fp => pg_t (ctx_blk C ok s H a cs fp).calm (ctx_blk C ok s H a cs fp).nd (ht _ (ctx_blk C ok s H a cs fp))) (fun s H a cs fp => hc _ (ctx_blk C ok s H a cs fp)) (fun s H a cs fp => he _ (ctx_blk C ok s H a cs fp)) hs
  rw [ownOf_vs] at h
  exact peimp h lc_go
theorem es_setLc {X : Cx} {T : Tc} (C : Ctx X cl T) {A : List Nat} {np i : Nat} {y : Str} {py spos : Pos} {el t itE : Expr} {ifs : List Expr} {scope : Scope} {pos : Pos} {vs : List Nat} {tg : Tg} {it cd elt : E} (hy : X.N[i]? = some y) (hyl : X.env.scope.names.lookup y = some .local) (hA : i ∈ A)
    (hsw : swapsWith (.ListComp el [⟨t, itE, ifs, 0⟩] scope pos) (some (.Name y py)) spos.line X.env = pure true) (ok : BlkOk X.N X.env.scope scope (ownOf T vs)) (hi : PI X t itE (tIt X.K X.w (evI cl it))) (hs : ∀ x, foldedSetIterable itE X.env x = pure x)
    (ht : ∀ X', Ctx X' cl (blkT T scope vs) → ET X' vs t tg) (hc : ∀ X', Ctx X' cl (blkT T scope vs) → PTs X' ifs (tB X'.K X'.w (evE cl cd))) (he : ∀ X', Ctx X' cl (blkT T scope vs) → EV X' el (evE cl elt)) :
    ES X cl A np (.Assign [.Name y py] (.ListComp el [⟨t, itE, ifs, 0⟩] scope pos) spos) (.set i (.lc vs tg it cd elt)) := by
  have h := ps_setLc (pos := pos) (spos := spos) (g := gT X.K X.w vs (putT tg)) (tt := tB X.K X.w (evE cl cd)) (te := tD X.K X.w (evE cl elt)) C.calm C.nd hy hyl hsw hi ok (fun s H a cs fp => pg_t (ctx_blk C ok s H a cs fp).calm (ctx_blk C ok s H a cs fp).nd (ht _ (ctx_blk C ok s H a cs fp))) (fun s H a cs fp => hc _ (ctx_blk C ok s H a cs fp)) (fun s H a cs fp => he _ (ctx_blk C ok s H a cs fp)) hs
  rw [ownOf_vs] at h
  exact psimp h fun En σ H q => lc_go _ _ _ (set_go hA En σ H q)
theorem isTr_eq {e : E} (h : isTr e = true) : e = .c (.bool true) := by
  unfold isTr at h
  split at h
  · rfl
  · cases h
mutual
theorem ckE_ok : ∀ (e' : E) {X : Cx} {T : Tc} (C : Ctx X cl T) (e : Expr), ckE T e' e = true → EV X e (evE cl e')
  | .c d, X, T, C, e, h => isC_ok C (by simpa only [ckE] using h)
  | .v i, X, T, C, e, h => ev_v (isV_ok C (by simpa only [ckE] using h))
  | .bin op a b, X, T, C, e, h => by
    simp only [ckE] at h
    split at h
    · obtain ⟨h, h3⟩ := and2 h
      obtain ⟨h1, h2⟩ := and2 h
      have h1 := dec h1
      subst h1
      exact ev_bin (ckE_ok a C _ h2) (ckE_ok b C _ h3)
    · cases h
  | .neg a, X, T, C, e, h => by
    simp only [ckE] at h
    split at h
    · exact ev_neg (ckE_ok a C _ h)
    · cases h
  | .ntv a, X, T, C, e, h => by
    simp only [ckE] at h
    split at h
    · exact ev_nt (ckE_ok a C _ h)
    · cases h
  | .and es, X, T, C, e, h => by
    simp only [ckE] at h
    split at h
    · rename_i xs p
      obtain ⟨h1, h2⟩ := and2 h
      cases xs with
      | nil => cases h1
      | cons x xs =>
        obtain ⟨a, r, rfl, k1, k2⟩ := (ckL_ok es C _ h2).cons_inv
        exact ev_and k1 k2
    · cases h
  | .or es, X, T, C, e, h => by
    simp only [ckE] at h
    split at h
    · rename_i xs p
      obtain ⟨h1, h2⟩ := and2 h
      cases xs with
      | nil => cases h1
      | cons x xs =>
        obtain ⟨a, r, rfl, k1, k2⟩ := (ckL_ok es C _ h2).cons_inv
        exact ev_or k1 k2
    · cases h
  | .cmp op a b, X, T, C, e, h => by
    simp only [ckE] at h
    split at h
    · obtain ⟨h, h4⟩ := and2 h
      obtain ⟨h, h3⟩ := and2 h
      obtain ⟨h1, h2⟩ := and2 h
      have h1 := dec h1
      subst h1
      exact ev_cmp C.hu (ckE_ok a C _ h2) (ckE_ok b C _ h3) (by simpa using h4)
    · cases h
  | .chn op op2 a b c, X, T, C, e, h => by
    simp only [ckE] at h
    split at h
    · obtain ⟨h, h6⟩ := and2 h
      obtain ⟨h, h5⟩ := and2 h
      obtain ⟨h, h4⟩ := and2 h
      obtain ⟨h, h3⟩ := and2 h
      obtain ⟨h1, h2⟩ := and2 h
      have h1 := dec h1
      have h2 := dec h2
      subst h1 h2
      exact ev_chn C.hu (ckE_ok a C _ h3) (ckE_ok b C _ h4) (ckE_ok c C _ h5) (by simpa using h6)
    · cases h
  | .ite t a b, X, T, C, e, h => by
    simp only [ckE] at h
    split at h
    · obtain ⟨h, h3⟩ := and2 h
      obtain ⟨h1, h2⟩ := and2 h
      exact ev_ite (ckT_ok t C _ h1) (ckE_ok a C _ h2) (ckE_ok b C _ h3)
    · cases h
  | .tup es, X, T, C, e, h => by
    simp only [ckE] at h
    split at h
    · obtain ⟨h1, h2⟩ := and2 h
      exact ev_tup (EVs.of h1 (ckL_ok es C _ h2))
    · cases h
  | .lst es, X, T, C, e, h => by
    simp only [ckE] at h
    split at h
    · obtain ⟨h1, h2⟩ := and2 h
      exact ev_lst (EVs.of h1 (ckL_ok es C _ h2))
    · cases h
  | .ix a b, X, T, C, e, h => by
    simp only [ckE] at h
    split at h
    · obtain ⟨h, h3⟩ := and2 h
      obtain ⟨h1, h2⟩ := and2 h
      exact ev_ix C.hu (ckE_ok a C _ h2) (ckE_ok b C _ h3) h1
    · cases h
  | .sl a lo hi, X, T, C, e, h => by
    simp only [ckE] at h
    split at h
    · obtain ⟨h, h3⟩ := and2 h
      obtain ⟨h1, h2⟩ := and2 h
      exact ev_sl (ckE_ok a C _ h1) (ckO_ok lo C _ h2) (ckO_ok hi C _ h3)
    · cases h
  | .rev a, X, T, C, e, h => by
    simp only [ckE] at h
    split at h
    · obtain ⟨h1, h2⟩ := and2 h
      have h1 := dec h1
      subst h1
      exact ev_rev (ckE_ok a C _ h2)
    · cases h
  | .call f pat as, X, T, C, e, h => by
    simp only [ckE] at h
    split at h
    · obtain ⟨h, h5⟩ := and2 h
      obtain ⟨h, h4⟩ := and2 h
      obtain ⟨h, h3⟩ := and2 h
      obtain ⟨h1, h2⟩ := and2 h
      obtain ⟨g1, g2⟩ := glB_ok C h1
      have hc := C.calls _ (List.contains_iff_mem.mp h2)
      obtain ⟨xs, ys, rfl, k1, k2⟩ := (ckA_ok as C _ _ h5).split h3 h4
      have key : ∀ {l : List Keyword}, l.all (·.arg.isSome) = true → l.length = (l.filterMap (·.arg)).length := by
        intro l hl
        induction l with
        | nil => rfl
        | cons k l ih =>
          obtain ⟨l1, l2⟩ := and2 (by rwa [List.all_cons] at hl)
          cases hk : k.arg with
          | none => rw [hk] at l1; cases l1
          | some x => rw [List.filterMap_cons, hk]; exact congrArg Nat.succ (ih l2)
      cases k1 with
      | nil =>
        rw [List.nil_append]
        exact ev_call0 hc g1 g2 k2 rfl (key h4)
      | cons q1 q2 q3 => exact ev_call hc g1 g2 (.cons q1 q2 q3) k2 rfl rfl (key h4)
    · cases h
  | .bi b es, X, T, C, e, h => by
    simp only [ckE] at h
    split at h
    · obtain ⟨h, h3⟩ := and2 h
      obtain ⟨h1, h2⟩ := and2 h
      split at h3
      · rename_i hb
        split at h3
        · obtain ⟨q3, q4⟩ := and2 h3
          obtain ⟨a, r, rfl, k1, k2⟩ := (ckL_ok es C _ q4).cons_inv
          cases k2
          exact is_ok C hb h1 h2 q3 k1
        · cases h3
      · obtain ⟨h3, h5⟩ := and2 h3
        obtain ⟨h3, h4⟩ := and2 h3
        exact bi_ok C h3 h1 (EVs.of (by rw [List.all_cons, h2, h4]; rfl) (ckL_ok es C _ h5))
    · cases h
  | .lrg tp [a], X, T, C, e, h => by
    simp only [ckE] at h
    split at h
    · obtain ⟨h, h6⟩ := and2 h
      obtain ⟨h, h5⟩ := and2 h
      obtain ⟨h, h4⟩ := and2 h
      obtain ⟨h, h3⟩ := and2 h
      obtain ⟨h1, h2⟩ := and2 h
      have h3 := dec h3
      have h4 := dec h4
      subst h4
      obtain ⟨g1, g2, g3⟩ := bltB_ok C h1
      obtain ⟨k1, k2, k3⟩ := bltB_ok C h2
      cases tp with
      | true =>
        rw [if_pos rfl] at h3
        subst h3
        exact ev_trg1 C.calm g1 g3 k1 k3 h5 (ckE_ok a C _ h6)
      | false =>
        rw [if_neg Bool.false_ne_true] at h3
        subst h3
        exact ev_lrg1 C.calm g1 g3 k1 k3 h5 (ckE_ok a C _ h6)
    · cases h
  | .lrg tp [a, b], X, T, C, e, h => by
    simp only [ckE] at h
    split at h
    · obtain ⟨h, h8⟩ := and2 h
      obtain ⟨h, h7⟩ := and2 h
      obtain ⟨h, h6⟩ := and2 h
      obtain ⟨h, h5⟩ := and2 h
      obtain ⟨h, h4⟩ := and2 h
      obtain ⟨h, h3⟩ := and2 h
      obtain ⟨h1, h2⟩ := and2 h
      have h3 := dec h3
      have h4 := dec h4
      subst h4
      obtain ⟨g1, g2, g3⟩ := bltB_ok C h1
      obtain ⟨k1, k2, k3⟩ := bltB_ok C h2
      cases tp with
      | true =>
        rw [if_pos rfl] at h3
        subst h3
        exact ev_trg2 C.calm g1 g3 k1 k3 h5 h6 (ckE_ok a C _ h7) (ckE_ok b C _ h8)
      | false =>
        rw [if_neg Bool.false_ne_true] at h3
        subst h3
        exact ev_lrg2 C.calm g1 g3 k1 k3 h5 h6 (ckE_ok a C _ h7) (ckE_ok b C _ h8)
    · cases h
  | .zips a, X, T, C, e, h => by
    simp only [ckE] at h
    split at h
    · obtain ⟨h, h5⟩ := and2 h
      obtain ⟨h, h4⟩ := and2 h
      obtain ⟨h, h3⟩ := and2 h
      obtain ⟨h1, h2⟩ := and2 h
      have h3 := dec h3
      have h4 := dec h4
      subst h3
      subst h4
      obtain ⟨g1, g2, g3⟩ := bltB_ok C h1
      obtain ⟨k1, k2, k3⟩ := bltB_ok C h2
      exact ev_zips C.calm g1 g3 k1 k3 (ckE_ok a C _ h5)
    · cases h
  | .lrg _ [], X, T, C, e, h => by simp only [ckE] at h; cases h
  | .lrg _ (_ :: _ :: _ :: _), X, T, C, e, h => by simp only [ckE] at h; cases h
  | .mu m i es, X, T, C, e, h => by
    simp only [ckE] at h
    split at h
    · obtain ⟨h1, h2⟩ := and2 h
      exact muOk_ck C h1 (ckL_ok es C _ h2)
    · cases h
  | .tru _, X, T, C, e, h => by simp only [ckE] at h; cases h
  | .nt _, X, T, C, e, h => by simp only [ckE] at h; cases h
  | .at _, X, T, C, e, h => by simp only [ckE] at h; cases h
  | .ot _, X, T, C, e, h => by simp only [ckE] at h; cases h
  | .dis _, X, T, C, e, h => by simp only [ckE] at h; cases h
  | .lc vs tg it cd elt, X, T, C, e, h => by
    simp only [ckE] at h
    split at h
    · rename_i el t itE ifs is scope pos
      obtain ⟨h, h7⟩ := and2 h
      obtain ⟨h, h6⟩ := and2 h
      obtain ⟨h, h5⟩ := and2 h
      obtain ⟨h, h4⟩ := and2 h
      obtain ⟨h, h3⟩ := and2 h
      obtain ⟨h1, h2⟩ := and2 h
      have h1 := dec h1
      subst h1
      have ok : BlkOk X.N X.env.scope scope (ownOf T vs) := by rw [C.N, C.sc]; exact blkOk_by h2
      refine ev_lc C ok (ckI_ok it C h6) (noSet_ok h4) (fun X' C' => ckTg_ok C' tg t h3) (fun X' C' => ?_) (fun X' C' => ckE_ok elt C' el h7)
      split at h5
      · cases isTr_eq h5
        exact pts_no
      · exact pts_one (ckT_ok cd C' _ h5)
      · cases h5
    · cases h
  | .dc _ _ _ _ _ _, X, T, C, e, h => by simp only [ckE] at h; cases h
  | .abs, X, T, C, e, h => by simp only [ckE] at h; cases h
  | .ln _, X, T, C, e, h => by simp only [ckE] at h; cases h
  | .ex _, X, T, C, e, h => by simp only [ckE] at h; cases h
  | .bd _, X, T, C, e, h => by simp only [ckE] at h; cases h
  | .wk _, X, T, C, e, h => by simp only [ckE] at h; cases h
  | .rng _, X, T, C, e, h => by simp only [ckE] at h; cases h
  | .enum _, X, T, C, e, h => by simp only [ckE] at h; cases h
  | .zip _, X, T, C, e, h => by simp only [ckE] at h; cases h
  | .items _, X, T, C, e, h => by simp only [ckE] at h; cases h
theorem ckI_ok : ∀ (it : E) {X : Cx} {T : Tc} (C : Ctx X cl T) {tg e : Expr}, ckI T it tg e = true → PI X tg e (tIt X.K X.w (evI cl it))
  | .wk a, X, T, C, tg, e, h => ei_wk (ckE_ok a C _ (by simpa only [ckI] using h))
  | .rng [a], X, T, C, tg, e, h => by
    simp only [ckI] at h
    split at h
    · obtain ⟨h, h4⟩ := and2 h
      obtain ⟨h, h3⟩ := and2 h
      obtain ⟨h1, h2⟩ := and2 h
      have h2 := dec h2
      subst h2
      obtain ⟨g1, g2, g3⟩ := bltB_ok C h1
      exact ei_rng1 g1 g3 h3 (ckE_ok a C _ h4)
    · cases h
  | .rng [a, b], X, T, C, tg, e, h => by
    simp only [ckI] at h
    split at h
    · obtain ⟨h, h6⟩ := and2 h
      obtain ⟨h, h5⟩ := and2 h
      obtain ⟨h, h4⟩ := and2 h
      obtain ⟨h, h3⟩ := and2 h
      obtain ⟨h1, h2⟩ := and2 h
      have h2 := dec h2
      subst h2
      obtain ⟨g1, g2, g3⟩ := bltB_ok C h1
      exact ei_rng2 g1 g3 h3 h4 (ckE_ok a C _ h5) (ckE_ok b C _ h6)
    · cases h
  | .enum a, X, T, C, tg, e, h => by
    simp only [ckI] at h
    obtain ⟨h0, h⟩ := and2 h
    split at h
    · obtain ⟨h, h4⟩ := and2 h
      obtain ⟨h, h3⟩ := and2 h
      obtain ⟨h1, h2⟩ := and2 h
      have h2 := dec h2
      subst h2
      obtain ⟨g1, g2, g3⟩ := bltB_ok C h1
      cases tg <;> first | exact ei_enum g1 g3 h3 (ckE_ok a C _ h4) | cases h0
    · cases h
  | .zip [a, b], X, T, C, tg, e, h => by
    simp only [ckI] at h
    obtain ⟨h0, h⟩ := and2 h
    split at h
    · obtain ⟨h, h6⟩ := and2 h
      obtain ⟨h, h5⟩ := and2 h
      obtain ⟨h, h4⟩ := and2 h
      obtain ⟨h, h3⟩ := and2 h
      obtain ⟨h1, h2⟩ := and2 h
      have h2 := dec h2
      subst h2
      obtain ⟨g1, g2, g3⟩ := bltB_ok C h1
      cases tg <;> first | exact ei_zip g1 g3 h3 h4 (ckE_ok a C _ h5) (ckE_ok b C _ h6) | cases h0
    · cases h
  | .c _, X, T, C, tg, e, h => by simp only [ckI] at h; cases h
  | .v _, X, T, C, tg, e, h => by simp only [ckI] at h; cases h
  | .bin _ _ _, X, T, C, tg, e, h => by simp only [ckI] at h; cases h
  | .neg _, X, T, C, tg, e, h => by simp only [ckI] at h; cases h
  | .tru _, X, T, C, tg, e, h => by simp only [ckI] at h; cases h
  | .nt _, X, T, C, tg, e, h => by simp only [ckI] at h; cases h
  | .ntv _, X, T, C, tg, e, h => by simp only [ckI] at h; cases h
  | .at _, X, T, C, tg, e, h => by simp only [ckI] at h; cases h
  | .ot _, X, T, C, tg, e, h => by simp only [ckI] at h; cases h
  | .and _, X, T, C, tg, e, h => by simp only [ckI] at h; cases h
  | .or _, X, T, C, tg, e, h => by simp only [ckI] at h; cases h
  | .cmp _ _ _, X, T, C, tg, e, h => by simp only [ckI] at h; cases h
  | .chn _ _ _ _ _, X, T, C, tg, e, h => by simp only [ckI] at h; cases h
  | .ite _ _ _, X, T, C, tg, e, h => by simp only [ckI] at h; cases h
  | .tup _, X, T, C, tg, e, h => by simp only [ckI] at h; cases h
  | .lst _, X, T, C, tg, e, h => by simp only [ckI] at h; cases h
  | .dis _, X, T, C, tg, e, h => by simp only [ckI] at h; cases h
  | .ix _ _, X, T, C, tg, e, h => by simp only [ckI] at h; cases h
  | .sl _ _ _, X, T, C, tg, e, h => by simp only [ckI] at h; cases h
  | .rev _, X, T, C, tg, e, h => by simp only [ckI] at h; cases h
  | .call _ _ _, X, T, C, tg, e, h => by simp only [ckI] at h; cases h
  | .bi _ _, X, T, C, tg, e, h => by simp only [ckI] at h; cases h
  | .mu _ _ _, X, T, C, tg, e, h => by simp only [ckI] at h; cases h
  | .lc _ _ _ _ _, X, T, C, tg, e, h => by simp only [ckI] at h; cases h
  | .dc _ _ _ _ _ _, X, T, C, tg, e, h => by simp only [ckI] at h; cases h
  | .abs, X, T, C, tg, e, h => by simp only [ckI] at h; cases h
  | .ln _, X, T, C, tg, e, h => by simp only [ckI] at h; cases h
  | .ex _, X, T, C, tg, e, h => by simp only [ckI] at h; cases h
  | .bd _, X, T, C, tg, e, h => by simp only [ckI] at h; cases h
  | .zips _, X, T, C, tg, e, h => by simp only [ckI] at h; cases h
  | .items _, X, T, C, tg, e, h => by simp only [ckI] at h; cases h
  | .lrg _ _, X, T, C, tg, e, h => by simp only [ckI] at h; cases h
  | .rng [], X, T, C, tg, e, h => by simp only [ckI] at h; cases h
  | .rng (_ :: _ :: _ :: _), X, T, C, tg, e, h => by simp only [ckI] at h; cases h
  | .zip [], X, T, C, tg, e, h => by simp only [ckI] at h; cases h
  | .zip [_], X, T, C, tg, e, h => by simp only [ckI] at h; cases h
  | .zip (_ :: _ :: _ :: _), X, T, C, tg, e, h => by simp only [ckI] at h; cases h
theorem ckT_ok : ∀ (e' : E) {X : Cx} {T : Tc} (C : Ctx X cl T) (e : Expr), ckT T e' e = true → EB X e (evE cl e')
  | .tru a, X, T, C, e, h => by
    simp only [ckT] at h
    obtain ⟨h1, h2⟩ := and2 h
    exact eb_tru (ckE_ok a C _ h2) (plainT_ok h1)
  | .nt a, X, T, C, e, h => by
    simp only [ckT] at h
    split at h
    · exact eb_nt (ckT_ok a C _ h)
    · cases h
  | .at es, X, T, C, e, h => by
    simp only [ckT] at h
    split at h
    · rename_i xs p
      obtain ⟨h1, h2⟩ := and2 h
      cases xs with
      | nil => cases h1
      | cons x xs =>
        obtain ⟨a, r, rfl, k1, k2⟩ := (ckTs_ok es C _ h2).cons_inv
        exact eb_at k1 k2
    · cases h
  | .ot es, X, T, C, e, h => by
    simp only [ckT] at h
    split at h
    · rename_i xs p
      obtain ⟨h1, h2⟩ := and2 h
      cases xs with
      | nil => cases h1
      | cons x xs =>
        obtain ⟨a, r, rfl, k1, k2⟩ := (ckTs_ok es C _ h2).cons_inv
        exact eb_ot k1 k2
    · cases h
  | .cmp op a b, X, T, C, e, h => by
    simp only [ckT] at h
    split at h
    · obtain ⟨h, h4⟩ := and2 h
      obtain ⟨h, h3⟩ := and2 h
      obtain ⟨h1, h2⟩ := and2 h
      have h1 := dec h1
      subst h1
      exact eb_cmp C.hu (ckE_ok a C _ h2) (ckE_ok b C _ h3) (by simpa using h4)
    · cases h
  | .chn op op2 a b c, X, T, C, e, h => by
    simp only [ckT] at h
    split at h
    · obtain ⟨h, h6⟩ := and2 h
      obtain ⟨h, h5⟩ := and2 h
      obtain ⟨h, h4⟩ := and2 h
      obtain ⟨h, h3⟩ := and2 h
      obtain ⟨h1, h2⟩ := and2 h
      have h1 := dec h1
      have h2 := dec h2
      subst h1 h2
      exact eb_chn C.hu (ckE_ok a C _ h3) (ckE_ok b C _ h4) (ckE_ok c C _ h5) (by simpa using h6)
    · cases h
  | .ite t a b, X, T, C, e, h => by
    simp only [ckT] at h
    split at h
    · obtain ⟨h, h3⟩ := and2 h
      obtain ⟨h1, h2⟩ := and2 h
      exact eb_ite (ckT_ok t C _ h1) (ckT_ok a C _ h2) (ckT_ok b C _ h3)
    · cases h
  | .c _, X, T, C, e, h => by simp only [ckT] at h; cases h
  | .v _, X, T, C, e, h => by simp only [ckT] at h; cases h
  | .bin _ _ _, X, T, C, e, h => by simp only [ckT] at h; cases h
  | .neg _, X, T, C, e, h => by simp only [ckT] at h; cases h
  | .ntv _, X, T, C, e, h => by simp only [ckT] at h; cases h
  | .and _, X, T, C, e, h => by simp only [ckT] at h; cases h
  | .or _, X, T, C, e, h => by simp only [ckT] at h; cases h
  | .tup _, X, T, C, e, h => by simp only [ckT] at h; cases h
  | .lst _, X, T, C, e, h => by simp only [ckT] at h; cases h
  | .dis _, X, T, C, e, h => by simp only [ckT] at h; cases h
  | .ix _ _, X, T, C, e, h => by simp only [ckT] at h; cases h
  | .sl _ _ _, X, T, C, e, h => by simp only [ckT] at h; cases h
  | .rev _, X, T, C, e, h => by simp only [ckT] at h; cases h
  | .call _ _ _, X, T, C, e, h => by simp only [ckT] at h; cases h
  | .bi _ _, X, T, C, e, h => by simp only [ckT] at h; cases h
  | .mu _ _ _, X, T, C, e, h => by simp only [ckT] at h; cases h
  | .lc _ _ _ _ _, X, T, C, e, h => by simp only [ckT] at h; cases h
  | .dc _ _ _ _ _ _, X, T, C, e, h => by simp only [ckT] at h; cases h
  | .abs, X, T, C, e, h => by simp only [ckT] at h; cases h
  | .ln _, X, T, C, e, h => by simp only [ckT] at h; cases h
  | .ex _, X, T, C, e, h => by simp only [ckT] at h; cases h
  | .bd _, X, T, C, e, h => by simp only [ckT] at h; cases h
  | .wk _, X, T, C, e, h => by simp only [ckT] at h; cases h
  | .rng _, X, T, C, e, h => by simp only [ckT] at h; cases h
  | .enum _, X, T, C, e, h => by simp only [ckT] at h; cases h
  | .zip _, X, T, C, e, h => by simp only [ckT] at h; cases h
  | .zips _, X, T, C, e, h => by simp only [ckT] at h; cases h
  | .items _, X, T, C, e, h => by simp only [ckT] at h; cases h
  | .lrg _ _, X, T, C, e, h => by simp only [ckT] at h; cases h
theorem ckTs_ok : ∀ (es' : List E) {X : Cx} {T : Tc} (C : Ctx X cl T) (es : List Expr), ckTs T es' es = true → EBs X cl es es'
  | [], X, T, C, [], h => .nil
  | a :: as, X, T, C, e :: es, h => by
    simp only [ckTs] at h
    obtain ⟨h1, h2⟩ := and2 h
    exact .cons (ckT_ok a C _ h1) (ckTs_ok as C _ h2)
  | [], X, T, C, _ :: _, h => by simp only [ckTs] at h; cases h
  | _ :: _, X, T, C, [], h => by simp only [ckTs] at h; cases h
theorem ckL_ok : ∀ (es' : List E) {X : Cx} {T : Tc} (C : Ctx X cl T) (es : List Expr), ckL T es' es = true → EVl X cl es es'
  | [], X, T, C, [], h => .nil
  | a :: as, X, T, C, e :: es, h => by
    simp only [ckL] at h
    obtain ⟨h1, h2⟩ := and2 h
    exact .cons (ckE_ok a C _ h1) (ckL_ok as C _ h2)
  | [], X, T, C, _ :: _, h => by simp only [ckL] at h; cases h
  | _ :: _, X, T, C, [], h => by simp only [ckL] at h; cases h
theorem ckO_ok : ∀ (e' : E) {X : Cx} {T : Tc} (C : Ctx X cl T) (o : Option Expr), ckO T e' o = true → EO X cl o e'
  | .abs, X, T, C, none, h => .none
  | .bd a, X, T, C, some e, h => .some (ckE_ok a C e (by simpa only [ckO] using h))
  | .c _, X, T, C, o, h => by simp only [ckO] at h; cases h
  | .v _, X, T, C, o, h => by simp only [ckO] at h; cases h
  | .bin _ _ _, X, T, C, o, h => by simp only [ckO] at h; cases h
  | .neg _, X, T, C, o, h => by simp only [ckO] at h; cases h
  | .tru _, X, T, C, o, h => by simp only [ckO] at h; cases h
  | .nt _, X, T, C, o, h => by simp only [ckO] at h; cases h
  | .ntv _, X, T, C, o, h => by simp only [ckO] at h; cases h
  | .at _, X, T, C, o, h => by simp only [ckO] at h; cases h
  | .ot _, X, T, C, o, h => by simp only [ckO] at h; cases h
  | .and _, X, T, C, o, h => by simp only [ckO] at h; cases h
  | .or _, X, T, C, o, h => by simp only [ckO] at h; cases h
  | .cmp _ _ _, X, T, C, o, h => by simp only [ckO] at h; cases h
  | .chn _ _ _ _ _, X, T, C, o, h => by simp only [ckO] at h; cases h
  | .ite _ _ _, X, T, C, o, h => by simp only [ckO] at h; cases h
  | .tup _, X, T, C, o, h => by simp only [ckO] at h; cases h
  | .lst _, X, T, C, o, h => by simp only [ckO] at h; cases h
  | .dis _, X, T, C, o, h => by simp only [ckO] at h; cases h
  | .ix _ _, X, T, C, o, h => by simp only [ckO] at h; cases h
  | .sl _ _ _, X, T, C, o, h => by simp only [ckO] at h; cases h
  | .rev _, X, T, C, o, h => by simp only [ckO] at h; cases h
  | .call _ _ _, X, T, C, o, h => by simp only [ckO] at h; cases h
  | .bi _ _, X, T, C, o, h => by simp only [ckO] at h; cases h
  | .mu _ _ _, X, T, C, o, h => by simp only [ckO] at h; cases h
  | .lc _ _ _ _ _, X, T, C, o, h => by simp only [ckO] at h; cases h
  | .dc _ _ _ _ _ _, X, T, C, o, h => by simp only [ckO] at h; cases h
  | .ln _, X, T, C, o, h => by simp only [ckO] at h; cases h
  | .ex _, X, T, C, o, h => by simp only [ckO] at h; cases h
  | .wk _, X, T, C, o, h => by simp only [ckO] at h; cases h
  | .rng _, X, T, C, o, h => by simp only [ckO] at h; cases h
  | .enum _, X, T, C, o, h => by simp only [ckO] at h; cases h
  | .zip _, X, T, C, o, h => by simp only [ckO] at h; cases h
  | .zips _, X, T, C, o, h => by simp only [ckO] at h; cases h
  | .items _, X, T, C, o, h => by simp only [ckO] at h; cases h
  | .lrg _ _, X, T, C, o, h => by simp only [ckO] at h; cases h
  | .abs, X, T, C, some _, h => by simp only [ckO] at h; cases h
  | .bd _, X, T, C, none, h => by simp only [ckO] at h; cases h
theorem ckA1_ok : ∀ (e' : E) {X : Cx} {T : Tc} (C : Ctx X cl T) (e : Expr), ckA1 T e' e = true → EA1 X cl e e'
  | .ln i, X, T, C, e, h => .ln (isV_ok C (by simpa only [ckA1] using h))
  | .ex a, X, T, C, e, h => .ex (ckE_ok a C e (by simpa only [ckA1] using h))
  | .c _, X, T, C, e, h => by simp only [ckA1] at h; cases h
  | .v _, X, T, C, e, h => by simp only [ckA1] at h; cases h
  | .bin _ _ _, X, T, C, e, h => by simp only [ckA1] at h; cases h
  | .neg _, X, T, C, e, h => by simp only [ckA1] at h; cases h
  | .tru _, X, T, C, e, h => by simp only [ckA1] at h; cases h
  | .nt _, X, T, C, e, h => by simp only [ckA1] at h; cases h
  | .ntv _, X, T, C, e, h => by simp only [ckA1] at h; cases h
  | .at _, X, T, C, e, h => by simp only [ckA1] at h; cases h
  | .ot _, X, T, C, e, h => by simp only [ckA1] at h; cases h
  | .and _, X, T, C, e, h => by simp only [ckA1] at h; cases h
  | .or _, X, T, C, e, h => by simp only [ckA1] at h; cases h
  | .cmp _ _ _, X, T, C, e, h => by simp only [ckA1] at h; cases h
  | .chn _ _ _ _ _, X, T, C, e, h => by simp only [ckA1] at h; cases h
  | .ite _ _ _, X, T, C, e, h => by simp only [ckA1] at h; cases h
  | .tup _, X, T, C, e, h => by simp only [ckA1] at h; cases h
  | .lst _, X, T, C, e, h => by simp only [ckA1] at h; cases h
  | .dis _, X, T, C, e, h => by simp only [ckA1] at h; cases h
  | .ix _ _, X, T, C, e, h => by simp only [ckA1] at h; cases h
  | .sl _ _ _, X, T, C, e, h => by simp only [ckA1] at h; cases h
  | .rev _, X, T, C, e, h => by simp only [ckA1] at h; cases h
  | .call _ _ _, X, T, C, e, h => by simp only [ckA1] at h; cases h
  | .bi _ _, X, T, C, e, h => by simp only [ckA1] at h; cases h
  | .mu _ _ _, X, T, C, e, h => by simp only [ckA1] at h; cases h
  | .lc _ _ _ _ _, X, T, C, e, h => by simp only [ckA1] at h; cases h
  | .dc _ _ _ _ _ _, X, T, C, e, h => by simp only [ckA1] at h; cases h
  | .abs, X, T, C, e, h => by simp only [ckA1] at h; cases h
  | .bd _, X, T, C, e, h => by simp only [ckA1] at h; cases h
  | .wk _, X, T, C, e, h => by simp only [ckA1] at h; cases h
  | .rng _, X, T, C, e, h => by simp only [ckA1] at h; cases h
  | .enum _, X, T, C, e, h => by simp only [ckA1] at h; cases h
  | .zip _, X, T, C, e, h => by simp only [ckA1] at h; cases h
  | .zips _, X, T, C, e, h => by simp only [ckA1] at h; cases h
  | .items _, X, T, C, e, h => by simp only [ckA1] at h; cases h
  | .lrg _ _, X, T, C, e, h => by simp only [ckA1] at h; cases h
theorem ckA_ok : ∀ (es' : List E) {X : Cx} {T : Tc} (C : Ctx X cl T) (es : List Expr) (kws : List Keyword), ckA T es' es kws = true → EAK X cl es kws es'
  | [], X, T, C, [], [], h => .nil
  | a :: as, X, T, C, e :: es, kws, h => by
    simp only [ckA] at h
    obtain ⟨h1, h2⟩ := and2 h
    exact .pos (ckA1_ok a C _ h1) (ckA_ok as C _ _ h2)
  | a :: as, X, T, C, [], kw :: kws, h => by
    simp only [ckA] at h
    obtain ⟨h1, h2⟩ := and2 h
    exact .kw (ckA1_ok a C _ h1) (ckA_ok as C _ _ h2)
  | [], X, T, C, _ :: _, _, h => by simp only [ckA] at h; cases h
  | [], X, T, C, [], _ :: _, h => by simp only [ckA] at h; cases h
  | _ :: _, X, T, C, [], [], h => by simp only [ckA] at h; cases h
end
end
end Mt

set_option Elab.async false
set_option linter.all false
set_option maxRecDepth 100000
set_option maxHeartbeats 8000000
/-! The checker: statements. -/
namespace Mt
open PySem PySem.Spec PyProof.Rows L2

/-- a comprehension that is stored at once in a plain local, on one line; lnB: it is not -/
def swB (T : Tc) (t v : Expr) : Bool := match t, v with
  | .Name y py, .ListComp _ [⟨_, _, _, _⟩] scope pos => decide (T.sc.names.lookup y = some .local) && (py.line == pos.line) && !(scope.names.any fun (n, k) => n == y && (k == .local || k == .cell))
  | _, _ => false
def isL (T : Tc) (i : Nat) (x : Str) : Bool := decide (T.N[i]? = some x) && decide (T.sc.names.lookup x = some .local) && T.A.contains i
def ckPar (T : Tc) (ts : List Mt.T) (es : List E) (xs vs : List Expr) : Bool :=
  match ts, xs, vs with
  | [.nm i, .nm j], [.Name x px, .Name y py], [a, b] => isL T i x && isL T j y && decide (i ≠ j) && decide (swapped T.sc [.Name x px, .Name y py] [a, b] = some [x, y])
  | [.nm i, .nm j, .nm l], [.Name x px, .Name y py, .Name z pz], [a, b, c] => isL T i x && isL T j y && isL T l z && decide (i ≠ j) && decide (i ≠ l) && decide (j ≠ l) && decide (swapped T.sc [.Name x px, .Name y py, .Name z pz] [a, b, c] = some [x, y, z])
  | _, _, _ => false
def ckPT (T : Tc) (t : Mt.T) (e : Expr) : Bool := match t with
  | .nm i => isW T i e
  | .sub i k => match e with
    | .Subscript o y _ => isV T i o && noSlice y && ckE T k y
    | _ => false
  | .tup ts => match e with
    | .Tuple es _ _ => es.all noStar && ckTgs T ts es
    | _ => false
def ckPTs (T : Tc) : List Mt.T → List Expr → Bool
  | [], [] => true
  | t :: ts, e :: es => ckPT T t e && ckPTs T ts es
  | _, _ => false
mutual
def ckS (T : Tc) : S → Stmt → Bool
  | .set i e, s => match s with
    | .Assign [t] v sp => isW T i t && (noComp v || swB T t v) && ckE T e v
    | _ => false
  | .par ts es, s => match s with
    | .Assign [.Tuple xs _ _] (.Tuple vs _ _) _ => (ckPar T ts es xs vs || (xs.all noStar && ckPTs T ts xs && noSwap T.sc xs vs && decide (vs.length ≤ SZ))) && vs.all noStar && ckA T es vs []
    | _ => false
  | .unp ts e, s => match s with
    | .Assign [.Tuple xs _ _] v _ => xs.all noStar && ckTgs T ts xs && noComp v && noTuple v && ckE T e v
    | _ => false
  | .seti i k e, s => match s with
    | .Assign [.Subscript o y _] v _ => isV T i o && noSlice y && noComp v && ckE T k y && ckE T e v
    | _ => false
  | .aug i op e, s => match s with
    | .AugAssign t o v _ => isW T i t && decide (o = opOf op) && ckE T e v
    | _ => false
  | .ex e, s => match s with
    | .Expr v _ => noComp v && ckE T e v
    | _ => false
  | .ife t a b, s => match s with
    | .If c x y _ => ckT T t c && ckSs T a x && ckSs T b y
    | _ => false
  | .fr tg it body, s => match s with
    | .For t i b [] _ => ckTg T tg t && ckI T it t i && noSetE i && ckSs T body b
    | _ => false
  | .whl t body, s => match s with
    | .While c b [] _ => ckT T t c && ckSs T body b
    | _ => false
  | .ret e, s => match s with
    | .Return (some v) _ => ckE T e v
    | _ => false
  | .retv i, s => match s with
    | .Return (some v) _ => isV T i v && decide (T.np ≤ i)
    | _ => false
  | .retn, s => match s with
    | .Return none _ => true
    | _ => false
  | .brk, s => match s with
    | .Break _ => true
    | _ => false
  | .cnt, s => match s with
    | .Continue _ => true
    | _ => false
  | .pass, s => match s with
    | .Pass _ => true
    | .Expr (.Constant (.str _) _ _) _ => true
    | _ => false
  | _, _ => false
def ckSs (T : Tc) : List S → List Stmt → Bool
  | [], [] => true
  | a :: as, s :: ss => ckS T a s && ckSs T as ss
  | _, _ => false
end
section
variable {cl : Call} {X : Cx} {T : Tc}
theorem isL_ok (C : Ctx X cl T) {i : Nat} {x : Str} (h : isL T i x = true) : X.N[i]? = some x ∧ X.env.scope.names.lookup x = some .local ∧ i ∈ T.A := by
  unfold isL at h
  obtain ⟨h, h3⟩ := and2 h
  obtain ⟨h1, h2⟩ := and2 h
  exact ⟨by rw [C.N]; exact dec h1, by rw [C.sc]; exact dec h2, by simpa using h3⟩
theorem ckPar_ok (C : Ctx X cl T) {ts : List Mt.T} {es : List E} {xs vs : List Expr} {k k2 : Nat} {p1 p2 p : Pos} (h : ckPar T ts es xs vs = true) (hs : vs.all noStar = true) (ha : EAK X cl vs [] es) : ES X cl T.A T.np (.Assign [.Tuple xs k p1] (.Tuple vs k2 p2) p) (.par ts es) := by
  obtain ⟨as, bs, rfl, k1, k3⟩ := ha.split hs rfl
  cases k3
  rw [List.append_nil] at *
  unfold ckPar at h
  split at h
  · obtain ⟨h, h4⟩ := and2 h
    obtain ⟨h, h3⟩ := and2 h
    obtain ⟨h1, h2⟩ := and2 h
    obtain ⟨a1, a2, a3⟩ := isL_ok C h1
    obtain ⟨b1, b2, b3⟩ := isL_ok C h2
    exact es_par2 C.calm C.nd a1 b1 (dec h3) a2 b2 C.bk a3 b3 k1 (by rw [C.sc]; exact dec h4)
  · obtain ⟨h, h7⟩ := and2 h
    obtain ⟨h, h6⟩ := and2 h
    obtain ⟨h, h5⟩ := and2 h
    obtain ⟨h, h4⟩ := and2 h
    obtain ⟨h, h3⟩ := and2 h
    obtain ⟨h1, h2⟩ := and2 h
    obtain ⟨a1, a2, a3⟩ := isL_ok C h1
    obtain ⟨b1, b2, b3⟩ := isL_ok C h2
    obtain ⟨c1, c2, c3⟩ := isL_ok C h3
    exact es_par3 C.calm C.nd a1 b1 c1 (dec h4) (dec h5) (dec h6) a2 b2 c2 C.bk a3 b3 c3 k1 (by rw [C.sc]; exact dec h7)
  · cases h
theorem ckPT_ok (C : Ctx X cl T) {t : Mt.T} {e : Expr} (h : ckPT T t e = true) : EPT X cl T.A e t := by
  unfold ckPT at h
  split at h
  · obtain ⟨x, p, rfl, h1, h2, h3, h4⟩ := isW_ok C h
    exact .nm h1 h2 h3 h4
  · split at h
    · obtain ⟨h, h3⟩ := and2 h
      obtain ⟨h1, h2⟩ := and2 h
      exact .sub (isV_ok C h1) (ckE_ok _ C _ h3) h2
    · cases h
  · split at h
    · obtain ⟨h1, h2⟩ := and2 h
      exact .tup h1 (ckTgs_ok C _ _ h2)
    · cases h
theorem ckPTs_ok (C : Ctx X cl T) : ∀ {ts : List Mt.T} {es : List Expr}, ckPTs T ts es = true → EPTs X cl T.A es ts
  | [], [], h => .nil
  | t :: ts, e :: es, h => by
    simp only [ckPTs] at h
    obtain ⟨h1, h2⟩ := and2 h
    exact .cons (ckPT_ok C h1) (ckPTs_ok C h2)
  | [], _ :: _, h => by simp only [ckPTs] at h; cases h
  | _ :: _, [], h => by simp only [ckPTs] at h; cases h
theorem parG_ok (C : Ctx X cl T) {ts : List Mt.T} {es : List E} {xs vs : List Expr} {k k2 : Nat} {p1 p2 p : Pos} (h : (xs.all noStar && ckPTs T ts xs && noSwap T.sc xs vs && decide (vs.length ≤ SZ)) = true) (hs : vs.all noStar = true) (ha : EAK X cl vs [] es) : ES X cl T.A T.np (.Assign [.Tuple xs k p1] (.Tuple vs k2 p2) p) (.par ts es) := by
  obtain ⟨as, bs, rfl, k1, k3⟩ := ha.split hs rfl
  cases k3
  rw [List.append_nil]
  obtain ⟨h, h4⟩ := and2 h
  obtain ⟨h, h3⟩ := and2 h
  obtain ⟨h1, h2⟩ := and2 h
  exact es_parG C.hu C.calm C.nd C.bk h1 (ckPTs_ok C h2) k1 (by rw [C.sc]; exact h3) (dec h4)
theorem setLc_ok (C : Ctx X cl T) {i : Nat} {x : Str} {p : Pos} {v : Expr} {e : E} {sp : Pos} (k1 : X.N[i]? = some x) (k4 : i ∈ T.A) (h2 : swB T (.Name x p) v = true) (h3 : ckE T e v = true) : ES X cl T.A T.np (.Assign [.Name x p] v sp) (.set i e) := by
  unfold swB at h2
  split at h2
  · rename_i y py el t itE ifs is scope pos e1
    cases e1
    obtain ⟨h, q3⟩ := and2 h2
    obtain ⟨q1, q2⟩ := and2 h
    have q1 := dec q1
    cases e with
    | lc vs tg it cd elt =>
      simp only [ckE] at h3
      obtain ⟨h, h7⟩ := and2 h3
      obtain ⟨h, h6⟩ := and2 h
      obtain ⟨h, h5⟩ := and2 h
      obtain ⟨h, h4⟩ := and2 h
      obtain ⟨h, h3'⟩ := and2 h
      obtain ⟨h1, h2'⟩ := and2 h
      have h1 := dec h1
      subst h1
      have ok : BlkOk X.N X.env.scope scope (ownOf T vs) := by rw [C.N, C.sc]; exact blkOk_by h2'
      have hl : X.env.scope.names.lookup x = some .local := by rw [C.sc]; exact q1
      have hsw : swapsWith (.ListComp el [⟨t, itE, ifs, 0⟩] scope pos) (some (.Name x p)) sp.line X.env = pure true := by
        have ky : X.env.kindOf x = some .local := hl
        have q3 : (scope.names.any fun (n, k) => n == x && (k == .local || k == .cell)) = false := by simpa using q3
        unfold swapsWith
        simp only [C.bk, ky, q3, Expr.pos, q2]
        rfl
      refine es_setLc C k1 hl k4 hsw ok (ckI_ok it C h6) (noSet_ok h4) (fun X' C' => ckTg_ok C' tg t h3') (fun X' C' => ?_) (fun X' C' => ckE_ok elt C' el h7)
      split at h5
      · cases isTr_eq h5
        exact pts_no
      · exact pts_one (ckT_ok cd C' _ h5)
      · cases h5
    | c d => simp only [ckE, isC] at h3; cases h3
    | v j => simp only [ckE, isV] at h3; cases h3
    | nt a => simp only [ckE] at h3; cases h3
    | lrg tp es =>
      match es, h3 with
      | [], h3 => simp only [ckE] at h3; cases h3
      | [_], h3 => simp only [ckE] at h3; cases h3
      | [_, _], h3 => simp only [ckE] at h3; cases h3
      | _ :: _ :: _ :: _, h3 => simp only [ckE] at h3; cases h3
    | _ => simp only [ckE] at h3; cases h3
  · cases h2
mutual
theorem ckS_ok (C : Ctx X cl T) : ∀ (s' : S) (s : Stmt), ckS T s' s = true → ES X cl T.A T.np s s'
  | .set i e, s, h => by
    simp only [ckS] at h
    split at h
    · obtain ⟨h, h3⟩ := and2 h
      obtain ⟨h1, h2⟩ := and2 h
      obtain ⟨x, p, rfl, k1, k2, k3, k4⟩ := isW_ok C h1
      rw [Bool.or_eq_true] at h2
      rcases h2 with h2 | h2
      · exact es_set C.nd k1 k2 k3 k4 h2 (ckE_ok e C _ h3)
      · exact setLc_ok C k1 k4 h2 h3
    · cases h
  | .par ts es, s, h => by
    simp only [ckS] at h
    split at h
    · obtain ⟨h, h3⟩ := and2 h
      obtain ⟨h1, h2⟩ := and2 h
      rw [Bool.or_eq_true] at h1
      rcases h1 with h1 | h1
      · exact ckPar_ok C h1 h2 (ckA_ok es C _ _ h3)
      · exact parG_ok C h1 h2 (ckA_ok es C _ _ h3)
    · cases h
  | .unp ts e, s, h => by
    simp only [ckS] at h
    split at h
    · obtain ⟨h, h5⟩ := and2 h
      obtain ⟨h, h4⟩ := and2 h
      obtain ⟨h, h3⟩ := and2 h
      obtain ⟨h1, h2⟩ := and2 h
      exact es_unp C.calm C.nd h1 (ckTgs_ok C ts _ h2) h3 h4 (ckE_ok e C _ h5)
    · cases h
  | .seti i k e, s, h => by
    simp only [ckS] at h
    split at h
    · obtain ⟨h, h5⟩ := and2 h
      obtain ⟨h, h4⟩ := and2 h
      obtain ⟨h, h3⟩ := and2 h
      obtain ⟨h1, h2⟩ := and2 h
      exact es_seti C.hu (isV_ok C h1) (ckE_ok k C _ h4) (ckE_ok e C _ h5) h2 h3
    · cases h
  | .aug i op e, s, h => by
    simp only [ckS] at h
    split at h
    · obtain ⟨h, h3⟩ := and2 h
      obtain ⟨h1, h2⟩ := and2 h
      obtain ⟨x, p, rfl, k1, k2, k3, k4⟩ := isW_ok C h1
      have h2 := dec h2
      subst h2
      exact es_aug C.nd k1 k2 k3 k4 (ckE_ok e C _ h3)
    · cases h
  | .ex e, s, h => by
    simp only [ckS] at h
    split at h
    · obtain ⟨h1, h2⟩ := and2 h
      exact es_expr h1 (ckE_ok e C _ h2)
    · cases h
  | .ife t a b, s, h => by
    simp only [ckS] at h
    split at h
    · obtain ⟨h, h3⟩ := and2 h
      obtain ⟨h1, h2⟩ := and2 h
      exact es_if (ckT_ok t C _ h1) (ckSs_ok C a _ h2) (ckSs_ok C b _ h3)
    · cases h
  | .fr tg it body, s, h => by
    simp only [ckS] at h
    split at h
    · obtain ⟨h, h4⟩ := and2 h
      obtain ⟨h, h3⟩ := and2 h
      obtain ⟨h1, h2⟩ := and2 h
      exact es_for C.hp C.calm C.nd (ckI_ok it C h2) (ckTg_ok C tg _ h1) (ckSs_ok C body _ h4) (noSet_ok h3)
    · cases h
  | .whl t body, s, h => by
    simp only [ckS] at h
    split at h
    · obtain ⟨h1, h2⟩ := and2 h
      exact es_while C.hp (ckT_ok t C _ h1) (ckSs_ok C body _ h2)
    · cases h
  | .ret e, s, h => by
    simp only [ckS] at h
    split at h
    · exact es_ret (ckE_ok e C _ h)
    · cases h
  | .retv i, s, h => by
    simp only [ckS] at h
    split at h
    · obtain ⟨h1, h2⟩ := and2 h
      exact es_retv (isV_ok C h1) (dec h2)
    · cases h
  | .retn, s, h => by
    simp only [ckS] at h
    split at h
    · exact es_retn
    · cases h
  | .brk, s, h => by
    simp only [ckS] at h
    split at h
    · exact es_brk
    · cases h
  | .cnt, s, h => by
    simp only [ckS] at h
    split at h
    · exact es_cnt
    · cases h
  | .pass, s, h => by
    simp only [ckS] at h
    split at h
    · exact es_pass
    · exact es_doc
    · cases h
  | .seti2 _ _ _ _, s, h => by simp only [ckS] at h; cases h
  | .augi _ _ _ _, s, h => by simp only [ckS] at h; cases h
  | .app2 _ _ _, s, h => by simp only [ckS] at h; cases h
  | .sdapp _ _ _, s, h => by simp only [ckS] at h; cases h
theorem ckSs_ok (C : Ctx X cl T) : ∀ (ss' : List S) (ss : List Stmt), ckSs T ss' ss = true → ESs X cl T.A T.np ss ss'
  | [], [], h => ess_nil
  | a :: as, s :: ss, h => by
    simp only [ckSs] at h
    obtain ⟨h1, h2⟩ := and2 h
    exact ess_cons (ckS_ok C a s h1) (ckSs_ok C as ss h2)
  | [], _ :: _, h => by simp only [ckSs] at h; cases h
  | _ :: _, [], h => by simp only [ckSs] at h; cases h
end
end
end Mt

set_option Elab.async false
set_option linter.all false
set_option maxRecDepth 100000
set_option maxHeartbeats 8000000
/-! The program: every def keeps its promise. -/
namespace Mt
open PySem PySem.Spec PyProof.Rows L2

/-! ### entry and exit of a def -/
theorem gt_app {a : MS} {n : Nat} : ∀ {i : Nat}, gt (a ++ List.replicate n .emp) i = gt a i := by
  intro i
  induction a generalizing i with
  | nil =>
    rw [List.nil_append]
    have : ∀ (n i : Nat), gt (List.replicate n .emp) i = .emp := fun n => by
      induction n with
      | zero => intro i; rfl
      | succ n ih => intro i; cases i with
        | zero => rfl
        | succ i => exact ih i
    rw [this]; rfl
  | cons x a ih => cases i with
    | zero => rfl
    | succ i => exact ih
theorem ga_app {a : List (List Addr)} {n : Nat} : ∀ {i : Nat}, ga (a ++ List.replicate n []) i = ga a i := by
  intro i
  induction a generalizing i with
  | nil =>
    rw [List.nil_append]
    have : ∀ (n i : Nat), ga (List.replicate n []) i = [] := fun n => by
      induction n with
      | zero => intro i; rfl
      | succ n ih => intro i; cases i with
        | zero => rfl
        | succ i => exact ih i
    rw [this]; rfl
  | cons x a ih => cases i with
    | zero => rfl
    | succ i => exact ih
theorem gv_app {a : L2.St} {n : Nat} : ∀ {i : Nat}, gv (a ++ List.replicate n none) i = gv a i := by
  intro i
  induction a generalizing i with
  | nil =>
    rw [List.nil_append]
    have : ∀ (n i : Nat), gv (List.replicate n none) i = none := fun n => by
      induction n with
      | zero => intro i; rfl
      | succ n ih => intro i; cases i with
        | zero => rfl
        | succ i => exact ih i
    rw [this]; rfl
  | cons x a ih => cases i with
    | zero => rfl
    | succ i => exact ih
/-- what stands is masked -/
def maskA (asg : List Nat) : Nat → List (List Addr) → List (List Addr)
  | _, [] => []
  | i, a :: r => (if asg.contains i then [] else a) :: maskA asg (i + 1) r
theorem gt_mask {asg : List Nat} : ∀ {ss : List Sl} {k i : Nat}, gt (maskS asg k ss) i = if asg.contains (k + i) = true then .emp else gt ss i
  | [], k, i => by simp [maskS, gt]
  | s :: r, k, 0 => by simp only [maskS, gt, Nat.add_zero]
  | s :: r, k, i + 1 => by
    simp only [maskS, gt]
    rw [gt_mask, show k + 1 + i = k + (i + 1) by omega]
theorem ga_mask {asg : List Nat} : ∀ {ss : List (List Addr)} {k i : Nat}, ga (maskA asg k ss) i = if asg.contains (k + i) = true then [] else ga ss i
  | [], k, i => by simp [maskA, ga]
  | s :: r, k, 0 => by simp only [maskA, ga, Nat.add_zero]
  | s :: r, k, i + 1 => by
    simp only [maskA, ga]
    rw [ga_mask, show k + 1 + i = k + (i + 1) by omega]
theorem len_mask {asg : List Nat} : ∀ {ss : List Sl} {k : Nat}, (maskS asg k ss).length = ss.length
  | [], _ => rfl
  | s :: r, k => by simp only [maskS, List.length_cons]; rw [len_mask]
theorem len_maskA {asg : List Nat} : ∀ {ss : List (List Addr)} {k : Nat}, (maskA asg k ss).length = ss.length
  | [], _ => rfl
  | s :: r, k => by simp only [maskA, List.length_cons]; rw [len_maskA]
theorem gt_take : ∀ {ss : List Sl} {n i : Nat}, gt (ss.take n) i = if i < n then gt ss i else .emp
  | [], n, i => by simp [gt]
  | s :: r, 0, i => by simp [gt]
  | s :: r, n + 1, 0 => by simp [gt]
  | s :: r, n + 1, i + 1 => by
    simp only [List.take_succ_cons, gt]
    rw [gt_take]
    simp
theorem ga_take : ∀ {ss : List (List Addr)} {n i : Nat}, ga (ss.take n) i = if i < n then ga ss i else []
  | [], n, i => by simp [ga]
  | s :: r, 0, i => by simp [ga]
  | s :: r, n + 1, 0 => by simp [ga]
  | s :: r, n + 1, i + 1 => by
    simp only [List.take_succ_cons, ga]
    rw [ga_take]
    simp
section
variable {K : PySem.W.Frag} {w : World} {args st' : MS} {vs : List V} {H H' : Hp} {g g' : Gs} {σ' : L2.St} {n np : Nat} {A : List Nat}
theorem enter (Rh : Rel K w args (vs.map some) H g) : Rel K w (args ++ List.replicate n .emp) (vs.map some ++ List.replicate n none) H ⟨g.F, g.as ++ List.replicate n []⟩ := by
  refine ⟨?_, ?_, fun i => ?_, fun i => ?_, fun i j b hi hj => ?_, fun i b hb => ?_, Rh.trk⟩
  · rw [List.length_append, List.length_append, Rh.len, List.length_replicate, List.length_replicate]
  · rw [List.length_append, List.length_append, Rh.lena, List.length_replicate, List.length_replicate]
  · rw [gt_app, gv_app, ga_app]; exact Rh.rep i
  · rw [ga_app]; exact Rh.one i
  · rw [ga_app] at hi hj; exact Rh.dis i j b hi hj
  · rw [ga_app] at hb; exact Rh.nof i b hb
/-- the caller's view behind a def -/
theorem leave (Rh : Rel K w args (vs.map some) H g) (hl : args.length = np) (R2 : Rel K w st' σ' H' g') (S : Stp (args ++ List.replicate n .emp) ⟨g.F, g.as ++ List.replicate n []⟩ H st' g' H') (a : Ag A (vs.map some ++ List.replicate n none) σ') :
    Rel K w (maskS A 0 (st'.take np)) (vs.map some) H' ⟨g'.F, maskA A 0 (g'.as.take np)⟩ ∧ Stp args g H (maskS A 0 (st'.take np)) ⟨g'.F, maskA A 0 (g'.as.take np)⟩ H' := by
  have sub : ∀ {i b}, b ∈ ga (maskA A 0 (g'.as.take np)) i → b ∈ ga g'.as i := fun {i b} h => by
    rw [ga_mask, ga_take] at h
    split at h
    · cases h
    · split at h
      · exact h
      · cases h
  have opn : ∀ {i}, isOpen (gt (maskS A 0 (st'.take np)) i) = true → isOpen (gt st' i) = true := fun {i} h => by
    rw [gt_mask, gt_take] at h
    split at h
    · cases h
    · split at h
      · exact h
      · cases h
  have lv : vs.length = np := by rw [← hl, ← Rh.len, List.length_map]
  have l' : st'.length = np + n := by rw [← R2.len, a.1, List.length_append, List.length_map, List.length_replicate, lv]
  refine ⟨⟨?_, ?_, fun i => ?_, fun i => ?_, fun i j b hi hj => R2.dis i j b (sub hi) (sub hj), fun i b hb => R2.nof i b (sub hb), R2.trk⟩, ⟨fun b o e k => S.keep b o e fun ⟨j, hj, hb⟩ => k ⟨j, ?_, ?_⟩, S.sub, fun b h => ?_, fun b ⟨j, hj, hb⟩ => ?_, fun i b hb => ?_, S.there⟩⟩
  · rw [len_mask, List.length_map, List.length_take]; omega
  · rw [len_mask, len_maskA, List.length_take, List.length_take, R2.lena]
  · rw [gt_mask, ga_mask, gt_take, ga_take]
    split
    · exact (rfl : ([] : List Addr) = [])
    · rename_i hA
      split
      · rename_i hi
        have e := a.2 i (by simpa using hA)
        rw [gv_app] at e
        rw [← e]
        exact R2.rep i
      · exact (rfl : ([] : List Addr) = [])
  · rw [ga_mask, ga_take]
    split
    · exact List.nodup_nil
    · split
      · exact R2.one i
      · exact List.nodup_nil
  · rw [gt_app] at hj; exact hj
  · have hb : b ∈ ga (g.as ++ List.replicate n []) j := hb
    rw [ga_app] at hb; exact hb
  · rcases S.new b h with z | ⟨i, z⟩ | z
    · exact .inl z
    · have z : b ∈ ga (g.as ++ List.replicate n []) i := z
      rw [ga_app] at z
      exact .inr (.inl ⟨i, z⟩)
    · exact .inr (.inr z)
  · rcases S.opn b ⟨j, opn hj, sub hb⟩ with ⟨k, hk, hbk⟩ | z
    · have hbk : b ∈ ga (g.as ++ List.replicate n []) k := hbk
      rw [gt_app] at hk
      rw [ga_app] at hbk
      exact .inl ⟨k, hk, hbk⟩
    · exact .inr z
  · rcases S.all i b (sub hb) with z | z
    · have z : b ∈ ga (g.as ++ List.replicate n []) i := z
      rw [ga_app] at z
      exact .inl z
    · exact .inr z
theorem leave_fsh {ts : List Addr} (F : Fsh g' ts) : Fsh ⟨g'.F, maskA A 0 (g'.as.take np)⟩ ts := ⟨F.nd, F.nf, fun t ht ⟨i, hi⟩ => F.no t ht ⟨i, by
  have hi : t ∈ ga (maskA A 0 (g'.as.take np)) i := hi
  rw [ga_mask, ga_take] at hi
  split at hi
  · cases hi
  · split at hi
    · exact hi
    · cases hi⟩⟩
theorem leave_nw {ts : List Addr} (hl : g.as.length = np) (h : Nw np ⟨g.F, g.as ++ List.replicate n []⟩ H ts) : ∀ t ∈ ts, H t = none := fun t ht => by
  rcases h t ht with z | ⟨i, hi, z⟩
  · exact z
  · have z : t ∈ ga (g.as ++ List.replicate n []) i := z
    rw [ga_app, ga_out (by omega)] at z
    cases z
end

/-! ### the defs -/
/-- a def of the program -/
structure Df where
  x : Str
  qual : Str
  st : Stmt
  dvs : List V
  fa : Addr
  fd : FuncData
  ps : List Str
  T : Tc
  fn : Fn
structure DefOk (K : PySem.W.Frag) (d : Df) : Prop where
  F : FunD K d.x d.qual (defArgs d.st) (defBody d.st) (defScope d.st) d.dvs [] d.fa d.fd
  S : FnScope d.T.N d.ps (defScope d.st)
  sc : d.T.sc = defScope d.st
  A : d.T.A = d.fn.asg
  np : d.T.np = d.fn.np
  ps : d.ps.length = d.fn.np
  ns : d.T.N.length = d.fn.ns
  an : (defScope d.st).kind.isAnnotationScope = false
  ck : ckSs d.T d.fn.body (defBody d.st) = true
structure CallOk (K : PySem.W.Frag) (mg : Str → Option Value) (c : CallE) (e : Df) : Prop where
  mg : mg c.x = some (.ref e.fa)
  kb : ∃ (g : List Value → List Value → List Value) (gV : List V → List V → List V) (q : List (Option V)), KBn K e.fd e.ps c.n c.ks g gV ∧ PatOk K c.pat q ∧ ∀ vs zs, vs.length = c.n → zs.length = c.ks.length → gV vs zs = arrV q (vs ++ zs)
structure PrOk (K : PySem.W.Frag) (mg : Str → Option Value) (ds : List Df) : Prop where
  defs : ∀ d ∈ ds, DefOk K d
  calls : ∀ d ∈ ds, ∀ c ∈ d.T.calls, ∃ e, ds[c.f]? = some e ∧ CallOk K mg c e
  glob : ∀ d ∈ ds, ∀ p ∈ d.T.glob, ∃ u v, mg p.1 = some u ∧ RelV v u ∧ ∀ F H, Rp K F H v (cnD p.2)
  blts : ∀ d ∈ ds, ∀ b ∈ d.T.blts, mg b = none
section
variable {Pg : Program} {w : World} {K : PySem.W.Frag} {mg : Str → Option Value} {base : Heap}
theorem prog_ok {ds : List Df} (hP : PrOk K mg ds) : ∀ (k f : Nat) (d : Df), ds[f]? = some d → FnOk Pg w K mg base CX0 k d.fa d.fd d.ps (spF K w (sem (ds.map (·.fn)) k) f)
  | 0, f, d, _ => ⟨fun vs H Q E ⟨args, g, r, ss, _, e, _⟩ => (by simp only [sem] at e; cases e), fun A outer s H args us vs Q E _ _ _ _ ⟨as, g, r, ss, _, e, _⟩ => (by simp only [sem] at e; cases e)⟩
  | k + 1, f, d, hd => by
    have hm : d ∈ ds := List.mem_of_getElem? hd
    have D := hP.defs d hm
    have hfn : (ds.map (·.fn))[f]? = some d.fn := by rw [List.getElem?_map, hd]; rfl
    have len : ∀ vs H Q E, spF K w (sem (ds.map (·.fn)) (k + 1)) f vs H Q E → vs.length = d.ps.length := fun vs H Q E ⟨args, g, r, ss, Rh, e, _⟩ => by
      simp only [sem] at e
      rw [hfn] at e
      simp only [runF] at e
      split at e
      · rename_i hl
        rw [D.ps, ← hl, ← Rh.len, List.length_map]
      · cases e
    refine D.F.ok D.S len fun cdv A outer s H vs Q E hr hsp => ?_
    have hlen := len _ _ _ _ hsp
    obtain ⟨args, g, r, ss, Rh, e, hem, q⟩ := hsp
    have C : Ctx (cxOf CX0 Pg w K mg base d.T.N d.qual (defScope d.st) d.fa cdv A outer s H E).nox (sem (ds.map (·.fn)) k) d.T := by
      refine ⟨rfl, D.S.nd, D.sc.symm, rfl, ?_, ?_, PassesOwn.never, fun _ _ => rfl, fun c hc => ?_, hP.glob d hm, hP.blts d hm⟩
      · show (if (defScope d.st).kind.isAnnotationScope then ScopeKind.function else (defScope d.st).kind) = _
        rw [D.an, D.S.kind]
        rfl
      · have := hr.un
        show (A.deeper _).units + 200 < cLine
        omega
      · obtain ⟨e', he, hc'⟩ := hP.calls d hm c hc
        obtain ⟨g1, gV, qq, k1, k2, k3⟩ := hc'.kb
        exact ⟨k, e'.fa, e'.fd, e'.ps, g1, gV, qq, prog_ok hP k c.f e' he, hr, hc'.mg, (hP.defs e' (List.mem_of_getElem? he)).F.kp, k1, k2, k3⟩
    refine ⟨_, (ckSs_ok C d.fn.body (defBody d.st) D.ck).nox, ?_⟩
    simp only [sem] at e
    rw [hfn] at e
    simp only [runF] at e
    split at e
    · rename_i hl
      have e0 : L2.start d.T.N vs = vs.map some ++ List.replicate (d.fn.ns - d.fn.np) none := by
        unfold L2.start
        rw [D.ns, hlen, D.ps]
      rw [e0]
      have hla : g.as.length = d.fn.np := by rw [Rh.lena, hl]
      split at e
      · rename_i r' st' he
        cases e
        refine ⟨_, _, _, st', enter Rh, he, fun σ' H' g' v ts R2 S2 a2 x1 x2 x3 => ?_⟩
        rw [D.A] at a2
        obtain ⟨R3, S3⟩ := leave (np := d.fn.np) Rh hl R2 S2 a2
        rw [D.np] at x3
        exact q v H' _ ts R3 S3 x1 (leave_fsh x2) (leave_nw hla x3)
      · rename_i st' he
        cases e
        refine ⟨_, _, _, st', enter Rh, he, fun σ' H' g' R2 S2 a2 => ?_⟩
        rw [D.A] at a2
        obtain ⟨R3, S3⟩ := leave (np := d.fn.np) Rh hl R2 S2 a2
        exact q .non H' _ [] R3 S3 ⟨rfl, _, rfl, .non⟩ .nil fun _ h => nomatch h
      · cases e
    · cases e
end
end Mt

set_option Elab.async false
set_option linter.all false
set_option maxRecDepth 100000
set_option maxHeartbeats 8000000
/-! The end of a law. -/
namespace Mt
open PySem PySem.Spec PyProof.Rows L2

theorem fund_mk {K : PySem.W.Frag} {x qual : Str} {st : Stmt} {f : Addr} {oc : Value} {od an : Option Addr} {osl : Array (Option Value)} {kV doc pm cdv ct : Value} (l : K.lookup f = some ⟨oc, od, .func (PySem.W.fnOf x qual (defArgs st) (defBody st) (defScope st) .none kV doc pm an cdv ct), osl⟩)
    (c : PySem.W.codeIn K cdv qual = true) (k : PySem.W.keepIn K (.ref f) = true) : FunD K x qual (defArgs st) (defBody st) (defScope st) [] [] f (PySem.W.fnOf x qual (defArgs st) (defBody st) (defScope st) .none kV doc pm an cdv ct) :=
  ⟨⟨oc, od, .none, kV, doc, pm, an, cdv, ct, osl, rfl, l, c, .inl ⟨rfl, rfl⟩, .inl rfl⟩, k⟩
def nones {α : Type} (n : Nat) : List (Option α) := List.replicate n none
theorem patOk_nones {K : PySem.W.Frag} : ∀ n, PatOk K (nones n) (nones n)
  | 0 => trivial
  | n + 1 => patOk_nones n
theorem arrV_nones : ∀ (n : Nat) (vs : List V), vs.length = n → arrV (nones n) vs = vs
  | 0, [], _ => rfl
  | n + 1, v :: vs, h => by
    show v :: arrV (nones n) vs = v :: vs
    rw [arrV_nones n vs (by simpa using h)]
/-- a call that writes every argument of a def without defaults -/
theorem kb_plain {K : PySem.W.Frag} {x qual : Str} {params : Arguments} {body : List Stmt} {scope : Scope} {f : Addr} {fd : FuncData} {ps : List Str} {n : Nat} {ks : List Str} {pat : List (Option Cn)} (F : FunD K x qual params body scope [] [] f fd)
    (h : ∀ (kV doc pm : Value) (an : Option Addr) (cdv ct : Value) (us ws : List Value), us.length = n → ws.length = ks.length → bindArgs (PySem.W.fnOf x qual params body scope .none kV doc pm an cdv ct) ⟨us, ks.zip ws⟩ = pure (ps.zip (us ++ ws)))
    (hp : pat = nones (n + ks.length) := by rfl) : ∃ (g : List Value → List Value → List Value) (gV : List V → List V → List V) (q : List (Option V)), KBn K fd ps n ks g gV ∧ PatOk K pat q ∧ ∀ vs zs, vs.length = n → zs.length = ks.length → gV vs zs = arrV q (vs ++ zs) := by
  obtain ⟨oc, od, dV, kV, doc, pm, an, cdv, ct, osl, rfl, lk, hcd, hD, hK⟩ := F.ex
  rcases hD with ⟨_, rfl⟩ | ⟨e, _⟩
  · refine ⟨fun us ws => us ++ ws, fun vs zs => vs ++ zs, nones (n + ks.length), ⟨fun s us ws X l1 l2 => .of_eq (h kV doc pm an cdv ct us ws l1 l2), fun r1 r2 => r1.append r2⟩, by rw [hp]; exact patOk_nones _, fun vs zs l1 l2 => ?_⟩
    exact (arrV_nones _ _ (by rw [List.length_append, l1, l2])).symm
  · exact absurd rfl e
/-! ### defaults -/
theorem fund_mkD {K : PySem.W.Frag} {x qual : Str} {st : Stmt} {f T : Addr} {oc tc : Value} {od an td : Option Addr} {osl tsl : Array (Option Value)} {kV doc pm cdv ct : Value} {its : List Value} {n : Nat} {dvs : List V} (l : K.lookup f = some ⟨oc, od, .func (PySem.W.fnOf x qual (defArgs st) (defBody st) (defScope st) (.ref T) kV doc pm an cdv ct), osl⟩)
    (c : PySem.W.codeIn K cdv qual = true) (k : PySem.W.keepIn K (.ref f) = true) (t : K.lookup T = some ⟨tc, td, .seq its.toArray n, tsl⟩) (r : Vals dvs its) (hd : dvs ≠ []) :
    FunD K x qual (defArgs st) (defBody st) (defScope st) dvs [] f (PySem.W.fnOf x qual (defArgs st) (defBody st) (defScope st) (.ref T) kV doc pm an cdv ct) :=
  ⟨⟨oc, od, .ref T, kV, doc, pm, an, cdv, ct, osl, rfl, l, c, .inr ⟨hd, T, _, its, n, rfl, t, rfl, r⟩, .inl rfl⟩, k⟩
def arG {α : Type} : List (Option Nat) → List α → List α → List α
  | [], r, _ => r
  | none :: p, a :: r, its => a :: arG p r its
  | none :: _, [], _ => []
  | some j :: p, r, its => match its[j]? with
    | some x => x :: arG p r its
    | none => arG p r its
theorem arG_rel : ∀ (p : List (Option Nat)) {vs ds : List V} {us its : List Value}, Vals vs us → Vals ds its → Vals (arG p vs ds) (arG p us its)
  | [], _, _, _, _, r, _ => r
  | none :: p, _, _, _, _, .cons r t, h => .cons r (arG_rel p t h)
  | none :: p, _, _, _, _, .nil, h => .nil
  | some j :: p, vs, ds, us, its, r, h => by
    simp only [arG]
    cases e : ds[j]? with
    | none =>
      have e2 : its[j]? = none := by
        rw [List.getElem?_eq_none_iff] at e ⊢
        rw [← h.length]; exact e
      rw [e2]
      exact arG_rel p r h
    | some x =>
      obtain ⟨u, hu, ru⟩ := h.get e
      rw [hu]
      exact .cons ru (arG_rel p r h)
def qOf (p : List (Option Nat)) (dvs : List V) : List (Option V) := p.map fun o => match o with
  | none => none
  | some j => some (dvs.getD j .non)
theorem arrV_arG {dvs : List V} : ∀ (p : List (Option Nat)) (r : List V), (∀ j, some j ∈ p → j < dvs.length) → arrV (qOf p dvs) r = arG p r dvs
  | [], r, _ => by cases r <;> rfl
  | none :: p, a :: r, h => by
    show a :: arrV (qOf p dvs) r = a :: arG p r dvs
    rw [arrV_arG p r fun j hj => h j (List.mem_cons_of_mem _ hj)]
  | none :: p, [], h => rfl
  | some j :: p, r, h => by
    have hj := h j List.mem_cons_self
    have e : dvs[j]? = some (dvs.getD j .non) := by rw [List.getD_eq_getElem?_getD, List.getElem?_eq_getElem hj]; rfl
    have e1 : arrV (qOf (some j :: p) dvs) r = dvs.getD j .non :: arrV (qOf p dvs) r := by cases r <;> rfl
    rw [e1, arrV_arG p r fun i hi => h i (List.mem_cons_of_mem _ hi)]
    simp only [arG]
    rw [e]
/-- a call of a def with defaults -/
theorem kb_dfl {K : PySem.W.Frag} {x qual : Str} {params : Arguments} {body : List Stmt} {scope : Scope} {f : Addr} {fd : FuncData} {ps : List Str} {n : Nat} {ks : List Str} {pat : List (Option Cn)} {dvs : List V} (F : FunD K x qual params body scope dvs [] f fd) (hd : dvs ≠ []) (pj : List (Option Nat))
    (h : ∀ (T : Addr) (kV doc pm : Value) (an : Option Addr) (cdv ct : Value) (us its ws : List Value), us.length = n → its.length = dvs.length → ws.length = ks.length →
      ∃ k, bindArgs (PySem.W.fnOf x qual params body scope (.ref T) kV doc pm an cdv ct) ⟨us, ks.zip ws⟩ = seqItems? (.ref T) >>= k ∧ k (some its.toArray) = pure (ps.zip (arG pj (us ++ ws) its)))
    (hp : PatOk K pat (qOf pj dvs)) (hj : ∀ j, some j ∈ pj → j < dvs.length) : ∃ (g : List Value → List Value → List Value) (gV : List V → List V → List V) (q : List (Option V)), KBn K fd ps n ks g gV ∧ PatOk K pat q ∧ ∀ vs zs, vs.length = n → zs.length = ks.length → gV vs zs = arrV q (vs ++ zs) := by
  obtain ⟨its, hk⟩ := F.kbindsD n ks (fun {α} us its ws => arG pj (us ++ ws) its) hd (fun r1 r2 r3 => arG_rel pj (r1.append r3) r2) h
  exact ⟨_, _, _, hk, hp, fun vs zs _ _ => (arrV_arG pj _ hj).symm⟩
theorem scr_rel {K : PySem.W.Frag} {w : World} {H : Hp} {a : Addr} {ns : List Int} (hO : Only H) (hS : SqL K H a (ns.map V.int)) : Rel K w [.scr (ns.map PyData.int)] [some (.ref a)] H ⟨fun _ => False, [[]]⟩ := by
  refine ⟨rfl, rfl, fun i => ?_, fun i => ?_, fun i j b hi _ => ?_, fun i b hb => ?_, fun b h => h.elim⟩
  · cases i with
    | zero =>
      refine ⟨rfl, a, ns.map V.int, rfl, ?_, ?_⟩
      · rcases hS with (hS | ⟨o, hS⟩) | hS
        · rcases hO a with z | ⟨o, xs, z⟩
          · rw [z] at hS; cases hS
          · rw [z] at hS; cases hS
        · exact .inl ⟨o, hS⟩
        · exact .inr hS
      · have : ∀ ns : List Int, RpA K (fun _ => False) H (ns.map V.int) (ns.map PyData.int) := fun ns => by
          induction ns with
          | nil => exact .nil
          | cons n ns ih => exact .cons (.int n) ih
        exact this ns
    | succ i => exact (rfl : ([] : List Addr) = [])
  · cases i with
    | zero => exact List.nodup_nil
    | succ i => exact List.nodup_nil
  · cases i with
    | zero => cases hi
    | succ i => cases hi
  · cases i with
    | zero => cases hb
    | succ i => cases hb
theorem law_sp {K : PySem.W.Frag} {w : World} {cl : Call} {f : Nat} {H : Hp} {a : Addr} {ns : List Int} {E : XK} (h : ∃ ss, cl f [.scr (ns.map PyData.int)] = some (iB true, ss)) (hO : Only H) (hS : SqL K H a (ns.map V.int)) : spF K w cl f [.ref a] H (fun v _ => v = .bl true) E := by
  obtain ⟨ss, e⟩ := h
  exact ⟨_, _, _, ss, scr_rel hO hS, e, rfl, fun v H' g' ts _ _ X _ _ => X.dat_inv.2.bl_inv⟩
end Mt

set_option Elab.async false
set_option linter.all false
set_option maxRecDepth 100000
set_option maxHeartbeats 8000000
/-! Loops of the small language, reasoned about. -/
namespace Mt
open PySem
theorem loopF_eq {α β : Type} (step : α → Option (α ⊕ β)) (a : α) : loopF step a = match step a with
    | none => none
    | some (.inr b) => some b
    | some (.inl a) => loopF step a := by
  rw [loopF.eq_def]
  try (cases step a with
  | none => rfl
  | some z => cases z <;> rfl)
/-- a turn of a walk -/
def frBody (cl : Call) (tg : Tg) (body : List S) (x : D) (st : MS) : Option (Fl × MS) := match putT tg x st with
  | some st => exSs cl body st
  | none => none
theorem fr_eq {cl : Call} {tg : Tg} {it : E} {body : List S} {st st1 st2 : MS} {xs : List D} {ps : List Nat} {f : Fl} (h : evI cl it st = some (xs, ps, st1)) (h2 : forL (frBody cl tg body) xs (lockAll st1 (opens st1 ps)) = some (f, st2)) : exS cl (.fr tg it body) st = some (f, unlockAll st2 (opens st1 ps)) := by
  simp only [exS]
  rw [h]
  simp only []
  refine Eq.trans (b := match forL (frBody cl tg body) xs (lockAll st1 (opens st1 ps)) with | some (f, st') => some (f, unlockAll st' (opens st1 ps)) | none => none) rfl ?_
  rw [h2]
/-- a walk without a stop -/
theorem forL_inv {f : D → MS → Option (Fl × MS)} (I : MS → Prop) : ∀ (xs : List D) (st : MS), (∀ x ∈ xs, ∀ st, I st → ∃ st', (f x st = some (.nx, st') ∨ f x st = some (.ct, st')) ∧ I st') → I st → ∃ st', forL f xs st = some (.nx, st') ∧ I st'
  | [], st, _, h => ⟨st, by simp only [forL], h⟩
  | x :: xs, st, hx, h => by
    obtain ⟨st1, e, h1⟩ := hx x List.mem_cons_self st h
    obtain ⟨st2, e2, h2⟩ := forL_inv I xs st1 (fun y hy => hx y (List.mem_cons_of_mem _ hy)) h1
    refine ⟨st2, ?_, h2⟩
    rcases e with e | e
    · simp only [forL]; rw [e]; exact e2
    · simp only [forL]; rw [e]; exact e2
theorem mem_range {lo hi : Int} {x : D} (h : x ∈ rangeD lo hi) : ∃ k : Nat, x = .int (lo + (k : Int)) ∧ lo + (k : Int) < hi := by
  unfold rangeD at h
  obtain ⟨k, hk, rfl⟩ := List.mem_map.mp h
  rw [List.mem_range] at hk
  exact ⟨k, rfl, by omega⟩
theorem mem_zip_self {xs : List D} {x : D} (h : x ∈ zipD xs xs) : ∃ y ∈ xs, x = .tuple [y, y] := by
  induction xs with
  | nil => simp [zipD] at h
  | cons a xs ih =>
    simp only [zipD, List.mem_cons] at h
    rcases h with h | h
    · exact ⟨a, List.mem_cons_self, h⟩
    · obtain ⟨y, hy, e⟩ := ih h
      exact ⟨y, List.mem_cons_of_mem _ hy, e⟩
end Mt

set_option Elab.async false
set_option linter.all false
set_option maxRecDepth 100000
set_option maxHeartbeats 8000000
/-! Comprehensions and walks of the small language, reasoned about. -/
namespace Mt
open PySem
/-- a turn of a comprehension -/
def lcBody (cl : Call) (vs : List Nat) (tg : Tg) (cd elt : E) (x : D) (st : MS) : Option (Option D × MS) := match putT tg x st with
  | some st => match evE cl cd st with
    | some (t, st) => match asB t with
      | some true => match evE cl elt st with
        | some (r, st) => match frz st r with
          | some (d, st) => some (some d, wipeS st vs)
          | none => none
        | none => none
      | some false => some (none, wipeS st vs)
      | none => none
    | none => none
  | none => none
theorem lc_eq {cl : Call} {vs : List Nat} {tg : Tg} {it cd elt : E} {st st0 st1 : MS} {xs : List D} {ps : List Nat} {ys : List D} (h : evI cl it st = some (xs, ps, st0)) (hv : vs.any (fun i => isOwn (gt st0 i)) = false)
    (h2 : lcL (lcBody cl vs tg cd elt) xs [] (wipeS (lockAll st0 (opens st0 ps)) vs) = some (ys, st1)) : evE cl (.lc vs tg it cd elt) st = some (.lst ys, unlockAll (backS (lockAll st0 (opens st0 ps)) st1 vs) (opens st0 ps)) := by
  simp only [evE]
  rw [h]
  simp only []
  rw [hv]
  simp only [Bool.false_eq_true, if_false]
  refine Eq.trans (b := match lcL (lcBody cl vs tg cd elt) xs [] (wipeS (lockAll st0 (opens st0 ps)) vs) with | some (ys, st) => some (R.lst ys, unlockAll (backS (lockAll st0 (opens st0 ps)) st vs) (opens st0 ps)) | none => none) rfl ?_
  rw [h2]
theorem lcL_map {α β : Type} {f : D → MS → Option (Option β × MS)} (e : α → D) (g : α → Option β) {st : MS} : ∀ (xs : List α) (acc : List β), (∀ x ∈ xs, f (e x) st = some (g x, st)) → acc.length + xs.length ≤ SZ → lcL f (xs.map e) acc st = some (acc ++ xs.filterMap g, st)
  | [], acc, _, _ => by simp [lcL]
  | x :: xs, acc, h, hl => by
    have h1 := h x List.mem_cons_self
    simp only [List.length_cons] at hl
    rw [List.map_cons]
    simp only [lcL]
    rw [h1]
    cases hg : g x with
    | none =>
      simp only []
      rw [lcL_map e g xs acc (fun y hy => h y (List.mem_cons_of_mem _ hy)) (by omega), List.filterMap_cons, hg]
    | some y =>
      simp only []
      rw [if_pos (by omega), lcL_map e g xs (acc ++ [y]) (fun y hy => h y (List.mem_cons_of_mem _ hy)) (by rw [List.length_append, List.length_singleton]; omega), List.filterMap_cons, hg]
      simp
theorem forL_map {α : Type} {f : D → MS → Option (Fl × MS)} (e : α → D) (J : List α → MS → Prop) : ∀ (L pre : List α) (st : MS), J pre st → (∀ pre x st, x ∈ L → J pre st → ∃ st', (f (e x) st = some (.nx, st') ∨ f (e x) st = some (.ct, st')) ∧ J (pre ++ [x]) st') →
    ∃ st', forL f (L.map e) st = some (.nx, st') ∧ J (pre ++ L) st'
  | [], pre, st, h, _ => ⟨st, by simp [forL], by simpa using h⟩
  | x :: L, pre, st, h, hs => by
    obtain ⟨st1, e1, h1⟩ := hs pre x st List.mem_cons_self h
    obtain ⟨st2, e2, h2⟩ := forL_map e J L (pre ++ [x]) st1 h1 fun p y s hy => hs p y s (List.mem_cons_of_mem _ hy)
    refine ⟨st2, ?_, by simpa using h2⟩
    rw [List.map_cons]
    rcases e1 with e1 | e1
    · simp only [forL]; rw [e1]; exact e2
    · simp only [forL]; rw [e1]; exact e2
theorem zipD_map {α β : Type} (e : α → D) (e2 : β → D) : ∀ (xs : List α) (ys : List β), zipD (xs.map e) (ys.map e2) = (xs.zip ys).map fun p => PyData.tuple [e p.1, e2 p.2]
  | [], _ => by simp [zipD]
  | _ :: _, [] => by simp [zipD]
  | x :: xs, y :: ys => by simp [zipD, zipD_map e e2 xs ys]
theorem intsD_map : ∀ ns : List Int, intsD (ns.map PyData.int) = some ns
  | [] => rfl
  | n :: ns => by simp [intsD, intsD_map ns]
theorem tups_map : ∀ rs : List (List D), tups (rs.map PyData.tuple) = some rs
  | [] => rfl
  | r :: rs => by simp [tups, tups_map rs]
theorem opens_nil (st : MS) : opens st [] = [] := rfl
theorem opens_cons (st : MS) (i : Nat) (r : List Nat) : opens st (i :: r) = if isOpen (gt st i) = true then i :: opens st r else opens st r := by
  unfold opens
  rw [List.filter_cons]
theorem rangeD_nat (n : Nat) : rangeD 0 n = (List.range n).map fun (i : Nat) => PyData.int (i : Int) := by
  unfold rangeD
  have : ((n : Int) - 0).toNat = n := by omega
  rw [this]
  simp
theorem gbk_none {avs : List AV} {ss : List Sl} (h : ∀ i, posOf avs i = none) : ∀ (st : MS) (i : Nat), gbk avs ss st i = st
  | [], _ => rfl
  | s :: r, i => by
    simp only [gbk]
    rw [gbk_none h r (i + 1), h i]
    simp
theorem call1_lst {cl : Call} {f : Nat} {e : E} {st st' : MS} {xs : List D} {r : R} {ss : List Sl} (h : evE cl e st = some (.lst xs, st')) (h2 : cl f [.lst false xs] = some (r, ss)) : evE cl (.call f [none] [.ex e]) st = some (r, st') := by
  have g : gbk [.sl (.lst false xs)] ss st' 0 = st' := gbk_none (fun i => by simp [posOf]) st' 0
  simp [evE, evAs, h, own, asSl, arr, doCall, lents, argSl, slR, emps, h2, giveBack, g]
theorem bi_tuple {cl : Call} {e : E} {st st' : MS} {xs : List D} (h : evE cl e st = some (.lst xs, st')) : evE cl (.bi .tuple [e]) st = some (.dat (.tuple xs), st') := by
  simp [evE, evEs, h, looks, look, opBi, one, tupleOf, asL]
theorem app_dat {cl : Call} {i : Nat} {e : E} {st st' : MS} {xs : List D} {d : D} (h : evE cl e st = some (.dat d, st')) (h0 : ∃ b ys, gt st i = .lst b ys) (hi : gt st' i = .lst false xs) (hl : xs.length < SZ) : exS cl (.ex (.mu .append i [e])) st = some (.nx, st'.set i (.lst false (xs ++ [d]))) := by
  obtain ⟨b, ys, h0⟩ := h0
  simp [exS, evE, evVs, h, frz, hi, opMu, hl, muOk, h0]
theorem set_dat {cl : Call} {i : Nat} {e : E} {st st' : MS} {d : D} (h : evE cl e st = some (.dat d, st')) : exS cl (.set i e) st = some (.nx, st'.set i (.dat d)) := by
  simp [exS, h, own, asSl]
theorem set_lst {cl : Call} {i : Nat} {e : E} {st st' : MS} {d : List D} (h : evE cl e st = some (.lst d, st')) : exS cl (.set i e) st = some (.nx, st'.set i (.lst false d)) := by
  simp [exS, h, own, asSl]
theorem lcBody_nm {cl : Call} {vs : List Nat} {i : Nat} {elt : E} {x d : D} {st st2 : MS} (h : evE cl elt (st.set i (.dat x)) = some (.dat d, st2)) (hw : wipeS st2 vs = st) : lcBody cl vs (.nm i) (.c (.bool true)) elt x st = some (some d, st) := by
  simp [lcBody, putT, evE, asB, h, frz, hw]
theorem forL_aux {α : Type} {f : D → MS → Option (Fl × MS)} (e : α → D) {L : List α} (J : List α → MS → Prop) (h : ∀ pre x post st, L = pre ++ x :: post → J pre st → ∃ st', (f (e x) st = some (.nx, st') ∨ f (e x) st = some (.ct, st')) ∧ J (pre ++ [x]) st') :
    ∀ (post pre : List α) (st : MS), L = pre ++ post → J pre st → ∃ st', forL f (post.map e) st = some (.nx, st') ∧ J L st'
  | [], pre, st, hl, hj => ⟨st, by simp [forL], by rw [hl, List.append_nil]; exact hj⟩
  | x :: post, pre, st, hl, hj => by
    obtain ⟨st1, e1, h1⟩ := h pre x post st hl hj
    obtain ⟨st2, e2, h2⟩ := forL_aux e J h post (pre ++ [x]) st1 (by rw [hl]; simp) h1
    refine ⟨st2, ?_, h2⟩
    rw [List.map_cons]
    rcases e1 with e1 | e1
    · simp only [forL]; rw [e1]; exact e2
    · simp only [forL]; rw [e1]; exact e2
theorem forL_steps {α : Type} {f : D → MS → Option (Fl × MS)} (e : α → D) (L : List α) (J : List α → MS → Prop) {st : MS} (h0 : J [] st) (h : ∀ pre x post st, L = pre ++ x :: post → J pre st → ∃ st', (f (e x) st = some (.nx, st') ∨ f (e x) st = some (.ct, st')) ∧ J (pre ++ [x]) st') :
    ∃ st', forL f (L.map e) st = some (.nx, st') ∧ J L st' := forL_aux e J h L [] st rfl h0
theorem fr_nx {cl : Call} {tg : Tg} {it : E} {body : List S} {st st2 : MS} {xs : List D} (h : evI cl it st = some (xs, [], st)) (h2 : forL (frBody cl tg body) xs st = some (.nx, st2)) : exS cl (.fr tg it body) st = some (.nx, st2) :=
  fr_eq (ps := []) h h2
theorem cutD_take (xs : List D) (h : Nat) : cutD xs none (some (h : Int)) = xs.take h := by
  unfold cutD
  rw [HT.sIx_nat, HT.sIx_none, List.drop_zero, Nat.sub_zero]
  by_cases q : h ≤ xs.length
  · rw [Nat.min_eq_left q]
  · rw [Nat.min_eq_right (by omega), List.take_length, List.take_of_length_le (by omega)]
theorem cutD_drop (xs : List D) (h : Nat) : cutD xs (some (h : Int)) none = xs.drop h := by
  unfold cutD
  rw [HT.sIx_nat, HT.sIx_none]
  by_cases q : h ≤ xs.length
  · rw [Nat.min_eq_left q, List.take_of_length_le (by rw [List.length_drop]; omega)]
  · rw [Nat.min_eq_right (by omega), List.drop_of_length_le (Nat.le_refl _), List.drop_of_length_le (by omega)]
    simp
end Mt

set_option Elab.async false
set_option linter.all false
set_option maxRecDepth 100000
set_option maxHeartbeats 8000000
namespace Mk20
open Mt PySem PySem.Spec PyProof.Rows L2
abbrev top (i : Nat) : Stmt := PySem.Challenge.pw_meantlog_k20_price_trees.main.body.getD i (.Pass ⟨0, 0, 0, 0⟩)
def f0_0 : S := .ret (.ite (.ot [(.cmp .is (.v 0) (.c .none)), (.cmp .is (.v 1) (.c .none))]) (.c .none) (.bin .add (.v 0) (.v 1)))
def f0 : Fn := ⟨2, 2, [], [f0_0]⟩
def f1_0 : S := .set 1 (.lc [2] (.nm 2) (.wk (.v 0)) (.cmp .isNot (.v 2) (.c .none)) (.v 2))
def f1_1 : S := .ret (.ite (.cmp .gt (.bi .len [(.v 1)]) (.c (.int 0))) (.bi .min [(.v 1)]) (.c .none))
def f1 : Fn := ⟨1, 3, [1], [f1_0, f1_1]⟩
def f2_0 : S := .set 2 (.zips (.v 1))
def f2_1 : S := .set 3 (.lst [])
def f2_2a0 : S := .ex (.mu .append 3 [(.bi .tuple [(.lc [7] (.nm 7) (.wk (.v 2)) (.c (.bool true)) (.call 1 [none] [(.ex (.lc [5, 6] (.tup [(.nm 5), (.nm 6)]) (.zip [(.v 4), (.v 7)]) (.c (.bool true)) (.call 0 [none, none] [(.ln 5), (.ln 6)])))]))])])
def f2_2_l : List S := [f2_2a0]
def f2_2 : S := .fr (.nm 4) (.wk (.v 0)) f2_2_l
def f2_3 : S := .ret (.bi .tuple [(.v 3)])
def f2 : Fn := ⟨2, 8, [2, 3, 4], [f2_0, f2_1, f2_2, f2_3]⟩
def f3_0 : S := .ret (.ite (.cmp .is (.v 0) (.c .none)) (.c (.int 0)) (.ix (.v 0) (.c (.int 3))))
def f3 : Fn := ⟨1, 1, [], [f3_0]⟩
def f4_0 : S := .set 4 (.ix (.v 0) (.v 2))
def f4_1a0 : S := .set 4 (.call 2 [none, none] [(.ex (.ix (.v 1) (.c (.int 4)))), (.ln 4)])
def f4_1 : S := .ife (.cmp .isNot (.v 1) (.c .none)) [f4_1a0] []
def f4_2a0 : S := .set 4 (.call 2 [none, none] [(.ln 4), (.ex (.ix (.v 3) (.c (.int 4))))])
def f4_2 : S := .ife (.cmp .isNot (.v 3) (.c .none)) [f4_2a0] []
def f4_3 : S := .ret (.tup [(.v 1), (.v 2), (.v 3), (.bin .add (.bin .add (.call 3 [none] [(.ln 1)]) (.c (.int 1))) (.call 3 [none] [(.ln 3)])), (.v 4)])
def f4 : Fn := ⟨4, 5, [4], [f4_0, f4_1, f4_2, f4_3]⟩
def f5_0a0 : S := .ret (.c .none)
def f5_0 : S := .ife (.cmp .eq (.bi .len [(.v 1)]) (.c (.int 0))) [f5_0a0] []
def f5_1 : S := .set 2 (.bin .fdiv (.bi .len [(.v 1)]) (.c (.int 2)))
def f5_2 : S := .ret (.call 4 [none, none, none, none] [(.ln 0), (.ex (.call 5 [none, none] [(.ln 0), (.ex (.sl (.v 1) .abs (.bd (.v 2))))])), (.ex (.ix (.v 1) (.v 2))), (.ex (.call 5 [none, none] [(.ln 0), (.ex (.sl (.v 1) (.bd (.bin .add (.v 2) (.c (.int 1)))) .abs))]))])
def f5 : Fn := ⟨2, 3, [2], [f5_0, f5_1, f5_2]⟩
def f6_0 : S := .par [(.nm 1), (.nm 2)] [(.ex (.lst [])), (.ex (.lst []))]
def f6_1a0a0 : S := .ex (.mu .append 2 [(.v 0)])
def f6_1a0a1 : S := .set 0 (.ix (.v 0) (.c (.int 0)))
def f6_1a0b0 : S := .set 0 (.mu .pop 2 [])
def f6_1a0b1 : S := .ex (.mu .append 1 [(.ix (.v 0) (.c (.int 1)))])
def f6_1a0b2 : S := .set 0 (.ix (.v 0) (.c (.int 2)))
def f6_1a0 : S := .ife (.cmp .isNot (.v 0) (.c .none)) [f6_1a0a0, f6_1a0a1] [f6_1a0b0, f6_1a0b1, f6_1a0b2]
def f6_1_l : List S := [f6_1a0]
def f6_1 : S := .whl (.ot [(.cmp .isNot (.v 0) (.c .none)), (.cmp .gt (.bi .len [(.v 2)]) (.c (.int 0)))]) f6_1_l
def f6_2 : S := .ret (.bi .tuple [(.v 1)])
def f6 : Fn := ⟨1, 3, [1, 2, 0], [f6_0, f6_1, f6_2]⟩
def f7_0 : S := .set 2 (.tup [(.bin .add (.call 3 [none] [(.ex (.ix (.v 1) (.c (.int 0))))]) (.c (.int 1))), (.bin .add (.call 3 [none] [(.ex (.ix (.v 1) (.c (.int 2))))]) (.c (.int 1)))])
def f7_1a0 : S := .ret (.v 1)
def f7_1 : S := .ife (.cmp .le (.bin .mul (.bi .max [(.v 2)]) (.bin .add (.c (.int 3)) (.c (.int 1)))) (.bin .mul (.c (.int 3)) (.bin .add (.ix (.v 1) (.c (.int 3))) (.c (.int 1))))) [f7_1a0] []
def f7_2 : S := .ret (.call 5 [none, none] [(.ln 0), (.ex (.call 6 [none] [(.ln 1)]))])
def f7 : Fn := ⟨2, 3, [2], [f7_0, f7_1, f7_2]⟩
def f8_0a0 : S := .ret (.call 4 [none, none, none, none] [(.ln 0), (.ex (.c .none)), (.ln 3), (.ex (.c .none))])
def f8_0 : S := .ife (.cmp .is (.v 1) (.c .none)) [f8_0a0] []
def f8_1 : S := .unp [(.nm 4), (.nm 5), (.nm 6)] (.sl (.v 1) .abs (.bd (.c (.int 3))))
def f8_2a0 : S := .ret (.call 7 [none, none] [(.ln 0), (.ex (.call 4 [none, none, none, none] [(.ln 0), (.ex (.call 8 [none, none, none, none] [(.ln 0), (.ln 4), (.ln 2), (.ln 3)])), (.ln 5), (.ln 6)]))])
def f8_2 : S := .ife (.cmp .le (.v 2) (.call 3 [none] [(.ln 4)])) [f8_2a0] []
def f8_3 : S := .set 7 (.call 8 [none, none, none, none] [(.ln 0), (.ln 6), (.ex (.bin .sub (.bin .sub (.v 2) (.call 3 [none] [(.ln 4)])) (.c (.int 1)))), (.ln 3)])
def f8_4 : S := .ret (.call 7 [none, none] [(.ln 0), (.ex (.call 4 [none, none, none, none] [(.ln 0), (.ln 4), (.ln 5), (.ln 7)]))])
def f8 : Fn := ⟨4, 8, [4, 5, 6, 7], [f8_0, f8_1, f8_2, f8_3, f8_4]⟩
def f9_0 : S := .unp [(.nm 3), (.nm 4), (.nm 5)] (.sl (.v 1) .abs (.bd (.c (.int 3))))
def f9_1 : S := .set 6 (.call 3 [none] [(.ln 3)])
def f9_2a0 : S := .ret (.call 7 [none, none] [(.ln 0), (.ex (.call 4 [none, none, none, none] [(.ln 0), (.ex (.call 9 [none, none, none] [(.ln 0), (.ln 3), (.ln 2)])), (.ln 4), (.ln 5)]))])
def f9_2 : S := .ife (.cmp .lt (.v 2) (.v 6)) [f9_2a0] []
def f9_3a0 : S := .ret (.ite (.cmp .is (.v 3) (.c .none)) (.v 5) (.v 3))
def f9_3 : S := .ife (.at [(.cmp .eq (.v 2) (.v 6)), (.ot [(.cmp .is (.v 3) (.c .none)), (.cmp .is (.v 5) (.c .none))])]) [f9_3a0] []
def f9_4 : S := .set 7 (.ite (.cmp .gt (.v 2) (.v 6)) (.v 4) (.ix (.call 6 [none] [(.ln 5)]) (.c (.int 0))))
def f9_5 : S := .set 8 (.call 9 [none, none, none] [(.ln 0), (.ln 5), (.ex (.ite (.cmp .gt (.v 2) (.v 6)) (.bin .sub (.bin .sub (.v 2) (.v 6)) (.c (.int 1))) (.c (.int 0))))])
def f9_6 : S := .ret (.call 7 [none, none] [(.ln 0), (.ex (.call 4 [none, none, none, none] [(.ln 0), (.ln 3), (.ln 7), (.ln 8)]))])
def f9 : Fn := ⟨3, 9, [3, 4, 5, 6, 7, 8], [f9_0, f9_1, f9_2, f9_3, f9_4, f9_5, f9_6]⟩
def f10_0 : S := .unp [(.nm 4), (.nm 5), (.nm 6)] (.sl (.v 1) .abs (.bd (.c (.int 3))))
def f10_1 : S := .set 7 (.call 3 [none] [(.ln 4)])
def f10_2a0 : S := .ret (.call 4 [none, none, none, none] [(.ln 0), (.ex (.call 10 [none, none, none, none] [(.ln 0), (.ln 4), (.ln 2), (.ln 3)])), (.ln 5), (.ln 6)])
def f10_2 : S := .ife (.cmp .lt (.v 2) (.v 7)) [f10_2a0] []
def f10_3a0 : S := .ret (.call 4 [none, none, none, none] [(.ln 0), (.ln 4), (.ln 5), (.ex (.call 10 [none, none, none, none] [(.ln 0), (.ln 6), (.ex (.bin .sub (.bin .sub (.v 2) (.v 7)) (.c (.int 1)))), (.ln 3)]))])
def f10_3 : S := .ife (.cmp .gt (.v 2) (.v 7)) [f10_3a0] []
def f10_4 : S := .ret (.call 4 [none, none, none, none] [(.ln 0), (.ln 4), (.ln 3), (.ln 6)])
def f10 : Fn := ⟨4, 8, [4, 5, 6, 7], [f10_0, f10_1, f10_2, f10_3, f10_4]⟩
def f11_0a0 : S := .ret (.call 8 [none, none, none, none] [(.ln 0), (.ln 1), (.ex (.ix (.v 2) (.c (.int 1)))), (.ex (.ix (.v 2) (.c (.int 2))))])
def f11_0 : S := .ife (.cmp .eq (.ix (.v 2) (.c (.int 0))) (.c (.str "put"))) [f11_0a0] []
def f11_1 : S := .ret (.ite (.cmp .eq (.ix (.v 2) (.c (.int 0))) (.c (.str "out"))) (.call 9 [none, none, none] [(.ln 0), (.ln 1), (.ex (.ix (.v 2) (.c (.int 1))))]) (.call 10 [none, none, none, none] [(.ln 0), (.ln 1), (.ex (.ix (.v 2) (.c (.int 1)))), (.ex (.ix (.v 2) (.c (.int 2))))]))
def f11 : Fn := ⟨3, 3, [], [f11_0, f11_1]⟩
def f12_0 : S := .set 2 (.bin .add (.bin .mul (.c (.int 27011)) (.v 1)) (.c (.int 8101)))
def f12_1a0 : S := .set 2 (.bi .abs [(.bi .int [(.ix (.v 0) (.v 1))])])
def f12_1b0a0 : S := .set 2 (.bin .add (.v 2) (.bin .mul (.bin .mod (.bi .int [(.bi .abs [(.bi .int [(.ix (.v 0) (.bin .mod (.bi .int [(.v 1)]) (.bi .len [(.v 0)])))])])]) (.c (.int 2147483563))) (.c (.int 96137))))
def f12_1b0 : S := .ife (.cmp .gt (.bi .len [(.v 0)]) (.c (.int 0))) [f12_1b0a0] []
def f12_1 : S := .ife (.cmp .lt (.v 1) (.bi .len [(.v 0)])) [f12_1a0] [f12_1b0]
def f12_2 : S := .set 3 (.ite (.cmp .ge (.v 2) (.bin .pow (.c (.int 10)) (.c (.int 18)))) (.v 2) (.c (.int 0)))
def f12_3 : S := .ret (.lst [(.v 3), (.bin .add (.bin .mod (.bi .int [(.bin .add (.bin .mul (.bin .mod (.bi .int [(.v 2)]) (.c (.int 2147483563))) (.c (.int 54250027))) (.bin .mul (.c (.int 8101)) (.v 1)))]) (.c (.int 2147483563))) (.c (.int 1)))])
def f12 : Fn := ⟨2, 4, [2, 3], [f12_0, f12_1, f12_2, f12_3]⟩
def f13_0a0 : S := .set 2 (.bin .mod (.bi .int [(.ix (.v 0) (.c (.int 0)))]) (.v 1))
def f13_0a1 : S := .seti 0 (.c (.int 0)) (.bin .fdiv (.ix (.v 0) (.c (.int 0))) (.v 1))
def f13_0a2 : S := .retv 2
def f13_0 : S := .ife (.cmp .gt (.ix (.v 0) (.c (.int 0))) (.c (.int 0))) [f13_0a0, f13_0a1, f13_0a2] []
def f13_1 : S := .set 3 (.bin .mod (.bi .int [(.bin .add (.bin .mul (.ix (.v 0) (.c (.int 1))) (.c (.int 39373))) (.c (.int 229)))]) (.c (.int 2147483647)))
def f13_2 : S := .seti 0 (.c (.int 1)) (.bin .add (.bin .mod (.bi .int [(.bin .add (.bin .mul (.v 3) (.c (.int 40692))) (.c (.int 103)))]) (.c (.int 2147483563))) (.c (.int 1)))
def f13_3 : S := .ret (.bin .mod (.bi .int [(.bin .fdiv (.bin .add (.bin .mul (.v 3) (.c (.int 2147483629))) (.ix (.v 0) (.c (.int 1)))) (.c (.int 8273)))]) (.v 1))
def f13 : Fn := ⟨2, 4, [2, 3], [f13_0, f13_1, f13_2, f13_3]⟩
def f14_0a0a0 : S := .ret (.c (.bool false))
def f14_0a0 : S := .ife (.ot [(.nt (.tru (.bi .isTup [(.v 0)]))), (.cmp .ne (.bi .len [(.v 0)]) (.bi .len [(.v 1)]))]) [f14_0a0a0] []
def f14_0a1a0a0 : S := .ret (.c (.bool false))
def f14_0a1a0 : S := .ife (.nt (.tru (.call 14 [none, none] [(.ln 2), (.ln 3)]))) [f14_0a1a0a0] []
def f14_0a1_l : List S := [f14_0a1a0]
def f14_0a1 : S := .fr (.tup [(.nm 2), (.nm 3)]) (.zip [(.v 0), (.v 1)]) f14_0a1_l
def f14_0a2 : S := .ret (.c (.bool true))
def f14_0 : S := .ife (.tru (.bi .isTup [(.v 1)])) [f14_0a0, f14_0a1, f14_0a2] []
def f14_1a0 : S := .ret (.cmp .is (.v 0) (.c .none))
def f14_1 : S := .ife (.cmp .is (.v 1) (.c .none)) [f14_1a0] []
def f14_2a0 : S := .ret (.and [(.bi .isBool [(.v 0)]), (.cmp .eq (.v 0) (.v 1))])
def f14_2 : S := .ife (.ot [(.cmp .is (.v 1) (.c (.bool true))), (.cmp .is (.v 1) (.c (.bool false)))]) [f14_2a0] []
def f14_3a0 : S := .ret (.and [(.bi .isInt [(.v 0)]), (.ntv (.bi .isBool [(.v 0)])), (.cmp .eq (.v 0) (.v 1))])
def f14_3 : S := .ife (.tru (.bi .isInt [(.v 1)])) [f14_3a0] []
def f14_4 : S := .ret (.and [(.bi .isStr [(.v 0)]), (.bi .isStr [(.v 1)]), (.cmp .eq (.v 0) (.v 1))])
def f14 : Fn := ⟨2, 4, [2, 3], [f14_0, f14_1, f14_2, f14_3, f14_4]⟩
def f15_0 : S := .set 3 (.ite (.cmp .ne (.v 1) (.tup [])) (.call 13 [none, none] [(.ln 0), (.ex (.c (.int 3)))]) (.c (.int 0)))
def f15_1a0 : S := .ret (.tup [(.c (.str "put")), (.call 13 [none, none] [(.ln 0), (.ex (.bin .add (.bi .len [(.v 1)]) (.c (.int 1))))]), (.call 13 [none, none] [(.ln 0), (.ln 2)])])
def f15_1 : S := .ife (.cmp .eq (.v 3) (.c (.int 0))) [f15_1a0] []
def f15_2 : S := .ret (.ite (.cmp .eq (.v 3) (.c (.int 1))) (.tup [(.c (.str "out")), (.call 13 [none, none] [(.ln 0), (.ex (.bi .len [(.v 1)]))])]) (.tup [(.c (.str "turn")), (.call 13 [none, none] [(.ln 0), (.ex (.bi .len [(.v 1)]))]), (.call 13 [none, none] [(.ln 0), (.ln 2)])]))
def f15 : Fn := ⟨3, 4, [3], [f15_0, f15_1, f15_2]⟩
def f16_0a0 : S := .ret (.bin .add (.bin .add (.sl (.v 0) .abs (.bd (.ix (.v 1) (.c (.int 1))))) (.tup [(.ix (.v 1) (.c (.int 2)))])) (.sl (.v 0) (.bd (.ix (.v 1) (.c (.int 1)))) .abs))
def f16_0 : S := .ife (.cmp .eq (.ix (.v 1) (.c (.int 0))) (.c (.str "put"))) [f16_0a0] []
def f16_1 : S := .ret (.bin .add (.bin .add (.sl (.v 0) .abs (.bd (.ix (.v 1) (.c (.int 1))))) (.ite (.cmp .eq (.ix (.v 1) (.c (.int 0))) (.c (.str "out"))) (.sl (.v 0) .abs (.bd (.c (.int 0)))) (.tup [(.ix (.v 1) (.c (.int 2)))]))) (.sl (.v 0) (.bd (.bin .add (.ix (.v 1) (.c (.int 1))) (.c (.int 1)))) .abs))
def f16 : Fn := ⟨2, 2, [], [f16_0, f16_1]⟩
def f17_0 : S := .par [(.nm 2), (.nm 3)] [(.ex (.lst [(.tup [(.v 1), (.c (.bool false))])])), (.ex (.lst []))]
def f17_1a0 : S := .unp [(.nm 4), (.nm 5)] (.mu .pop 2 [])
def f17_1a1a0 : S := .ex (.mu .append 3 [(.tup [])])
def f17_1a1a1 : S := .cnt
def f17_1a1 : S := .ife (.cmp .is (.v 4) (.c .none)) [f17_1a1a0, f17_1a1a1] []
def f17_1a2a0 : S := .ret (.c .none)
def f17_1a2 : S := .ife (.ot [(.nt (.tru (.bi .isTup [(.v 4)]))), (.cmp .ne (.bi .len [(.v 4)]) (.c (.int 5)))]) [f17_1a2a0] []
def f17_1a3a0 : S := .set 2 (.bin .add (.v 2) (.lst [(.tup [(.v 4), (.c (.bool true))]), (.tup [(.ix (.v 4) (.c (.int 2))), (.c (.bool false))]), (.tup [(.ix (.v 4) (.c (.int 0))), (.c (.bool false))])]))
def f17_1a3a1 : S := .cnt
def f17_1a3 : S := .ife (.nt (.tru (.v 5))) [f17_1a3a0, f17_1a3a1] []
def f17_1a4 : S := .par [(.nm 6), (.nm 7)] [(.ex (.mu .pop 3 [])), (.ex (.mu .pop 3 []))]
def f17_1a5 : S := .set 8 (.bin .add (.bin .add (.v 7) (.tup [(.ix (.v 4) (.c (.int 1)))])) (.v 6))
def f17_1a6 : S := .set 9 (.ix (.v 0) (.ix (.v 8) (.c (.int 0))))
def f17_1a7a0 : S := .set 9 (.call 2 [none, none] [(.ln 9), (.ex (.ix (.v 0) (.v 10)))])
def f17_1a7_l : List S := [f17_1a7a0]
def f17_1a7 : S := .fr (.nm 10) (.wk (.sl (.v 8) (.bd (.c (.int 1))) .abs)) f17_1a7_l
def f17_1a8a0 : S := .ret (.c .none)
def f17_1a8 : S := .ife (.ot [(.cmp .ne (.ix (.v 4) (.c (.int 3))) (.bi .len [(.v 8)])), (.nt (.tru (.call 14 [none, none] [(.ex (.ix (.v 4) (.c (.int 4)))), (.ln 9)]))), (.cmp .gt (.bin .mul (.c (.int 4)) (.bin .add (.bi .max [(.bi .len [(.v 7)]), (.bi .len [(.v 6)])]) (.c (.int 1)))) (.bin .mul (.c (.int 3)) (.bin .add (.bi .len [(.v 8)]) (.c (.int 1)))))]) [f17_1a8a0] []
def f17_1a9 : S := .ex (.mu .append 3 [(.v 8)])
def f17_1_l : List S := [f17_1a0, f17_1a1, f17_1a2, f17_1a3, f17_1a4, f17_1a5, f17_1a6, f17_1a7, f17_1a8, f17_1a9]
def f17_1 : S := .whl (.cmp .ne (.v 2) (.lst [])) f17_1_l
def f17_2 : S := .ret (.ix (.v 3) (.c (.int 0)))
def f17 : Fn := ⟨2, 11, [2, 3, 4, 5, 6, 7, 8, 9, 10], [f17_0, f17_1, f17_2]⟩
def f18_0a0 : S := .set 2 (.call 12 [none, none] [(.ln 0), (.ln 1)])
def f18_0a1 : S := .set 3 (.bin .add (.c (.int 2)) (.call 13 [none, none] [(.ln 2), (.ex (.c (.int 2)))]))
def f18_0a2 : S := .set 4 (.bi .tuple [(.lc [13] (.nm 13) (.rng [(.v 3)]) (.c (.bool true)) (.bi .tuple [(.lc [12] (.nm 12) (.rng [(.c (.int 3))]) (.c (.bool true)) (.bi .tuple [(.lc [11] (.nm 11) (.rng [(.c (.int 3))]) (.c (.bool true)) (.ite (.cmp .eq (.call 13 [none, none] [(.ln 2), (.ex (.c (.int 4)))]) (.c (.int 0))) (.c .none) (.call 13 [none, none] [(.ln 2), (.ex (.c (.int 6)))])))]))]))])
def f18_0a3 : S := .set 5 (.bi .tuple [(.lc [8] (.nm 8) (.rng [(.call 13 [none, none] [(.ln 2), (.ex (.c (.int 20)))])]) (.c (.bool true)) (.call 13 [none, none] [(.ln 2), (.ln 3)]))])
def f18_0a4 : S := .par [(.nm 6), (.nm 7)] [(.ex (.call 5 [none, none] [(.ln 4), (.ln 5)])), (.ex (.call 13 [none, none] [(.ln 2), (.ex (.c (.int 4)))]))]
def f18_0a5a0a0 : S := .ret (.c (.bool false))
def f18_0a5a0 : S := .ife (.ot [(.nt (.tru (.call 14 [none, none] [(.ex (.call 17 [none, none] [(.ln 4), (.ln 6)])), (.ln 5)]))), (.nt (.tru (.call 14 [none, none] [(.ex (.call 6 [none] [(.ln 6)])), (.ln 5)])))]) [f18_0a5a0a0] []
def f18_0a5a1 : S := .set 9 (.call 15 [none, none, none] [(.ln 2), (.ln 5), (.ln 3)])
def f18_0a5a2a0 : S := .set 9 (.tup [(.c (.str "put")), (.ix (.tup [(.c (.int 0)), (.bi .len [(.v 5)]), (.bin .fdiv (.bi .len [(.v 5)]) (.c (.int 2))), (.call 13 [none, none] [(.ln 2), (.ex (.bin .add (.bi .len [(.v 5)]) (.c (.int 1))))])]) (.v 7)), (.call 13 [none, none] [(.ln 2), (.ln 3)])])
def f18_0a5a2 : S := .ife (.cmp .gt (.call 13 [none, none] [(.ln 2), (.ex (.c (.int 3)))]) (.c (.int 0))) [f18_0a5a2a0] []
def f18_0a5a3 : S := .par [(.nm 10), (.nm 6)] [(.ex (.v 6)), (.ex (.call 11 [none, none, none] [(.ln 4), (.ln 6), (.ln 9)]))]
def f18_0a5a4a0 : S := .ret (.c (.bool false))
def f18_0a5a4 : S := .ife (.nt (.tru (.call 14 [none, none] [(.ex (.call 6 [none] [(.ln 10)])), (.ln 5)]))) [f18_0a5a4a0] []
def f18_0a5a5 : S := .set 5 (.call 16 [none, none] [(.ln 5), (.ln 9)])
def f18_0a5_l : List S := [f18_0a5a0, f18_0a5a1, f18_0a5a2, f18_0a5a3, f18_0a5a4, f18_0a5a5]
def f18_0a5 : S := .fr (.nm 8) (.rng [(.c (.int 16))]) f18_0a5_l
def f18_0_l : List S := [f18_0a0, f18_0a1, f18_0a2, f18_0a3, f18_0a4, f18_0a5]
def f18_0 : S := .fr (.nm 1) (.rng [(.bi .max [(.c (.int 3)), (.bi .min [(.bi .len [(.v 0)]), (.c (.int 5))])])]) f18_0_l
def f18_1 : S := .ret (.c (.bool true))
def f18 : Fn := ⟨1, 14, [1, 2, 3, 4, 5, 6, 7, 8, 9, 10], [f18_0, f18_1]⟩
def P : List Fn := [f0, f1, f2, f3, f4, f5, f6, f7, f8, f9, f10, f11, f12, f13, f14, f15, f16, f17, f18]
def calls : List CallE := [⟨1, "least_of", 1, [], [none]⟩, ⟨0, "more", 2, [], [none, none]⟩, ⟨2, "joined", 2, [], [none, none]⟩, ⟨3, "price_size", 1, [], [none]⟩, ⟨4, "price_node", 4, [], [none, none, none, none]⟩, ⟨5, "price_tree", 2, [], [none, none]⟩, ⟨6, "price_row", 1, [], [none]⟩, ⟨7, "level_tree", 2, [], [none, none]⟩, ⟨8, "price_put", 4, [], [none, none, none, none]⟩, ⟨9, "price_out", 3, [], [none, none, none]⟩, ⟨10, "price_turn", 4, [], [none, none, none, none]⟩, ⟨14, "_law_same", 2, [], [none, none]⟩, ⟨13, "_law_take", 2, [], [none, none]⟩, ⟨12, "_law_box", 2, [], [none, none]⟩, ⟨5, "price_tree", 1, ["log"], [none, none]⟩, ⟨17, "_law_looked", 2, [], [none, none]⟩, ⟨15, "_law_edit", 3, [], [none, none, none]⟩, ⟨11, "price_edited", 2, ["edit"], [none, none, none]⟩, ⟨16, "_law_edited", 2, [], [none, none]⟩]
def blts : List Str := ["abs", "bool", "int", "isinstance", "len", "list", "max", "min", "range", "str", "tuple", "zip"]
def glob : List (Str × Cn) := [("QUARTERS", (.int 3))]
def T0 : Tc := ⟨["one", "two"], defScope (top 1), cellNames (defScope (top 1)), [], 2, calls, glob, blts⟩
theorem sc0 : FnScope T0.N ["one", "two"] (defScope (top 1)) := ⟨rfl, rfl, rfl, by decide +kernel, rfl, by decide +kernel, by decide +kernel⟩
theorem ck0 : ckSs T0 f0.body (defBody (top 1)) = true := by decide +kernel
def T1 : Tc := ⟨["prices", "some", "price"], defScope (top 2), cellNames (defScope (top 2)), [1], 1, calls, glob, blts⟩
theorem sc1 : FnScope T1.N ["prices"] (defScope (top 2)) := ⟨rfl, rfl, rfl, by decide +kernel, rfl, by decide +kernel, by decide +kernel⟩
theorem ck1 : ckSs T1 f1.body (defBody (top 2)) = true := by decide +kernel
def T2 : Tc := ⟨["one", "two", "columns", "rows", "row", "mine", "other", "column"], defScope (top 3), cellNames (defScope (top 3)), [2, 3, 4], 2, calls, glob, blts⟩
theorem sc2 : FnScope T2.N ["one", "two"] (defScope (top 3)) := ⟨rfl, rfl, rfl, by decide +kernel, rfl, by decide +kernel, by decide +kernel⟩
theorem ck2 : ckSs T2 f2.body (defBody (top 3)) = true := by decide +kernel
def T3 : Tc := ⟨["tree"], defScope (top 6), cellNames (defScope (top 6)), [], 1, calls, glob, blts⟩
theorem sc3 : FnScope T3.N ["tree"] (defScope (top 6)) := ⟨rfl, rfl, rfl, by decide +kernel, rfl, by decide +kernel, by decide +kernel⟩
theorem ck3 : ckSs T3 f3.body (defBody (top 6)) = true := by decide +kernel
def T4 : Tc := ⟨["bases", "left", "note", "right", "told"], defScope (top 7), cellNames (defScope (top 7)), [4], 4, calls, glob, blts⟩
theorem sc4 : FnScope T4.N ["bases", "left", "note", "right"] (defScope (top 7)) := ⟨rfl, rfl, rfl, by decide +kernel, rfl, by decide +kernel, by decide +kernel⟩
theorem ck4 : ckSs T4 f4.body (defBody (top 7)) = true := by decide +kernel
def T5 : Tc := ⟨["bases", "log", "spot"], defScope (top 8), cellNames (defScope (top 8)), [2], 2, calls, glob, blts⟩
theorem sc5 : FnScope T5.N ["bases", "log"] (defScope (top 8)) := ⟨rfl, rfl, rfl, by decide +kernel, rfl, by decide +kernel, by decide +kernel⟩
theorem ck5 : ckSs T5 f5.body (defBody (top 8)) = true := by decide +kernel
def T6 : Tc := ⟨["tree", "found", "line"], defScope (top 9), cellNames (defScope (top 9)), [1, 2, 0], 1, calls, glob, blts⟩
theorem sc6 : FnScope T6.N ["tree"] (defScope (top 9)) := ⟨rfl, rfl, rfl, by decide +kernel, rfl, by decide +kernel, by decide +kernel⟩
theorem ck6 : ckSs T6 f6.body (defBody (top 9)) = true := by decide +kernel
def T7 : Tc := ⟨["bases", "tree", "weights"], defScope (top 10), cellNames (defScope (top 10)), [2], 2, calls, glob, blts⟩
theorem sc7 : FnScope T7.N ["bases", "tree"] (defScope (top 10)) := ⟨rfl, rfl, rfl, by decide +kernel, rfl, by decide +kernel, by decide +kernel⟩
theorem ck7 : ckSs T7 f7.body (defBody (top 10)) = true := by decide +kernel
def T8 : Tc := ⟨["bases", "tree", "place", "note", "left", "other", "right", "later"], defScope (top 11), cellNames (defScope (top 11)), [4, 5, 6, 7], 4, calls, glob, blts⟩
theorem sc8 : FnScope T8.N ["bases", "tree", "place", "note"] (defScope (top 11)) := ⟨rfl, rfl, rfl, by decide +kernel, rfl, by decide +kernel, by decide +kernel⟩
theorem ck8 : ckSs T8 f8.body (defBody (top 11)) = true := by decide +kernel
def T9 : Tc := ⟨["bases", "tree", "place", "left", "note", "right", "size", "kept", "later"], defScope (top 12), cellNames (defScope (top 12)), [3, 4, 5, 6, 7, 8], 3, calls, glob, blts⟩
theorem sc9 : FnScope T9.N ["bases", "tree", "place"] (defScope (top 12)) := ⟨rfl, rfl, rfl, by decide +kernel, rfl, by decide +kernel, by decide +kernel⟩
theorem ck9 : ckSs T9 f9.body (defBody (top 12)) = true := by decide +kernel
def T10 : Tc := ⟨["bases", "tree", "place", "note", "left", "other", "right", "size"], defScope (top 13), cellNames (defScope (top 13)), [4, 5, 6, 7], 4, calls, glob, blts⟩
theorem sc10 : FnScope T10.N ["bases", "tree", "place", "note"] (defScope (top 13)) := ⟨rfl, rfl, rfl, by decide +kernel, rfl, by decide +kernel, by decide +kernel⟩
theorem ck10 : ckSs T10 f10.body (defBody (top 13)) = true := by decide +kernel
def T11 : Tc := ⟨["bases", "tree", "edit"], defScope (top 14), cellNames (defScope (top 14)), [], 3, calls, glob, blts⟩
theorem sc11 : FnScope T11.N ["bases", "tree", "edit"] (defScope (top 14)) := ⟨rfl, rfl, rfl, by decide +kernel, rfl, by decide +kernel, by decide +kernel⟩
theorem ck11 : ckSs T11 f11.body (defBody (top 14)) = true := by decide +kernel
def T12 : Tc := ⟨["script", "k", "cell", "great"], defScope (top 16), cellNames (defScope (top 16)), [2, 3], 2, calls, glob, blts⟩
theorem sc12 : FnScope T12.N ["script", "k"] (defScope (top 16)) := ⟨rfl, rfl, rfl, by decide +kernel, rfl, by decide +kernel, by decide +kernel⟩
theorem ck12 : ckSs T12 f12.body (defBody (top 16)) = true := by decide +kernel
def T13 : Tc := ⟨["box", "many", "digit", "raw"], defScope (top 17), cellNames (defScope (top 17)), [2, 3], 2, calls, glob, blts⟩
theorem sc13 : FnScope T13.N ["box", "many"] (defScope (top 17)) := ⟨rfl, rfl, rfl, by decide +kernel, rfl, by decide +kernel, by decide +kernel⟩
theorem ck13 : ckSs T13 f13.body (defBody (top 17)) = true := by decide +kernel
def T14 : Tc := ⟨["told", "due", "one", "other"], defScope (top 18), cellNames (defScope (top 18)), [2, 3], 2, calls, glob, blts⟩
theorem sc14 : FnScope T14.N ["told", "due"] (defScope (top 18)) := ⟨rfl, rfl, rfl, by decide +kernel, rfl, by decide +kernel, by decide +kernel⟩
theorem ck14 : ckSs T14 f14.body (defBody (top 18)) = true := by decide +kernel
def T15 : Tc := ⟨["box", "log", "many", "way"], defScope (top 19), cellNames (defScope (top 19)), [3], 3, calls, glob, blts⟩
theorem sc15 : FnScope T15.N ["box", "log", "many"] (defScope (top 19)) := ⟨rfl, rfl, rfl, by decide +kernel, rfl, by decide +kernel, by decide +kernel⟩
theorem ck15 : ckSs T15 f15.body (defBody (top 19)) = true := by decide +kernel
def T16 : Tc := ⟨["log", "edit"], defScope (top 20), cellNames (defScope (top 20)), [], 2, calls, glob, blts⟩
theorem sc16 : FnScope T16.N ["log", "edit"] (defScope (top 20)) := ⟨rfl, rfl, rfl, by decide +kernel, rfl, by decide +kernel, by decide +kernel⟩
theorem ck16 : ckSs T16 f16.body (defBody (top 20)) = true := by decide +kernel
def T17 : Tc := ⟨["bases", "tree", "line", "told", "here", "is_left", "right", "left", "notes", "table", "note"], defScope (top 21), cellNames (defScope (top 21)), [2, 3, 4, 5, 6, 7, 8, 9, 10], 2, calls, glob, blts⟩
theorem sc17 : FnScope T17.N ["bases", "tree"] (defScope (top 21)) := ⟨rfl, rfl, rfl, by decide +kernel, rfl, by decide +kernel, by decide +kernel⟩
theorem ck17 : ckSs T17 f17.body (defBody (top 21)) = true := by decide +kernel
def T18 : Tc := ⟨["script", "k", "box", "many", "bases", "log", "tree", "way", "turn", "edit", "former", "there", "here", "note"], defScope (top 22), cellNames (defScope (top 22)), [1, 2, 3, 4, 5, 6, 7, 8, 9, 10], 1, calls, glob, blts⟩
theorem sc18 : FnScope T18.N ["script"] (defScope (top 22)) := ⟨rfl, rfl, rfl, by decide +kernel, rfl, by decide +kernel, by decide +kernel⟩
theorem ck18 : ckSs T18 f18.body (defBody (top 22)) = true := by decide +kernel
theorem all_mk {l : PySem.W.OpenLaw} {w : World} {K : PySem.W.Frag} {h : Heap} {mg : Str → Option Value} {fa f0 f1 f2 f3 f4 f5 f6 f7 f8 f9 f10 f11 f12 f13 f14 f15 f16 f17 f18 : Addr} (X : K.In h) (G : h.Ns mainGlobals mg) (hfa : mg "law" = some (.ref fa))
    {tg0 : Tok}
    {od0 an0 od1 an1 od2 an2 od3 an3 od4 an4 od5 an5 od6 an6 od7 an7 od8 an8 od9 an9 od10 an10 od11 an11 od12 an12 od13 an13 od14 an14 od15 an15 od16 an16 od17 an17 od18 an18 : Option Addr} {sl0 sl1 sl2 sl3 sl4 sl5 sl6 sl7 sl8 sl9 sl10 sl11 sl12 sl13 sl14 sl15 sl16 sl17 sl18 : Array (Option Value)} {oc0 kV0 dc0 pm0 cd0 ct0 oc1 kV1 dc1 pm1 cd1 ct1 oc2 kV2 dc2 pm2 cd2 ct2 oc3 kV3 dc3 pm3 cd3 ct3 oc4 kV4 dc4 pm4 cd4 ct4 oc5 kV5 dc5 pm5 cd5 ct5 oc6 kV6 dc6 pm6 cd6 ct6 oc7 kV7 dc7 pm7 cd7 ct7 oc8 kV8 dc8 pm8 cd8 ct8 oc9 kV9 dc9 pm9 cd9 ct9 oc10 kV10 dc10 pm10 cd10 ct10 oc11 kV11 dc11 pm11 cd11 ct11 oc12 kV12 dc12 pm12 cd12 ct12 oc13 kV13 dc13 pm13 cd13 ct13 oc14 kV14 dc14 pm14 cd14 ct14 oc15 kV15 dc15 pm15 cd15 ct15 oc16 kV16 dc16 pm16 cd16 ct16 oc17 kV17 dc17 pm17 cd17 ct17 oc18 kV18 dc18 pm18 cd18 ct18 : Value}
    (a0 : PySem.W.nsIn K mainGlobals "more" = some (some (.ref f0))) (l0 : K.lookup f0 = some ⟨oc0, od0, .func (PySem.W.fnOf "more" "more" (defArgs (top 1)) (defBody (top 1)) (defScope (top 1)) .none kV0 dc0 pm0 an0 cd0 ct0), sl0⟩) (c0 : PySem.W.codeIn K cd0 "more" = true) (k0 : PySem.W.keepIn K (.ref f0) = true)
    (a1 : PySem.W.nsIn K mainGlobals "least_of" = some (some (.ref f1))) (l1 : K.lookup f1 = some ⟨oc1, od1, .func (PySem.W.fnOf "least_of" "least_of" (defArgs (top 2)) (defBody (top 2)) (defScope (top 2)) .none kV1 dc1 pm1 an1 cd1 ct1), sl1⟩) (c1 : PySem.W.codeIn K cd1 "least_of" = true) (k1 : PySem.W.keepIn K (.ref f1) = true)
    (a2 : PySem.W.nsIn K mainGlobals "joined" = some (some (.ref f2))) (l2 : K.lookup f2 = some ⟨oc2, od2, .func (PySem.W.fnOf "joined" "joined" (defArgs (top 3)) (defBody (top 3)) (defScope (top 3)) .none kV2 dc2 pm2 an2 cd2 ct2), sl2⟩) (c2 : PySem.W.codeIn K cd2 "joined" = true) (k2 : PySem.W.keepIn K (.ref f2) = true)
    (a3 : PySem.W.nsIn K mainGlobals "price_size" = some (some (.ref f3))) (l3 : K.lookup f3 = some ⟨oc3, od3, .func (PySem.W.fnOf "price_size" "price_size" (defArgs (top 6)) (defBody (top 6)) (defScope (top 6)) .none kV3 dc3 pm3 an3 cd3 ct3), sl3⟩) (c3 : PySem.W.codeIn K cd3 "price_size" = true) (k3 : PySem.W.keepIn K (.ref f3) = true)
    (a4 : PySem.W.nsIn K mainGlobals "price_node" = some (some (.ref f4))) (l4 : K.lookup f4 = some ⟨oc4, od4, .func (PySem.W.fnOf "price_node" "price_node" (defArgs (top 7)) (defBody (top 7)) (defScope (top 7)) .none kV4 dc4 pm4 an4 cd4 ct4), sl4⟩) (c4 : PySem.W.codeIn K cd4 "price_node" = true) (k4 : PySem.W.keepIn K (.ref f4) = true)
    (a5 : PySem.W.nsIn K mainGlobals "price_tree" = some (some (.ref f5))) (l5 : K.lookup f5 = some ⟨oc5, od5, .func (PySem.W.fnOf "price_tree" "price_tree" (defArgs (top 8)) (defBody (top 8)) (defScope (top 8)) .none kV5 dc5 pm5 an5 cd5 ct5), sl5⟩) (c5 : PySem.W.codeIn K cd5 "price_tree" = true) (k5 : PySem.W.keepIn K (.ref f5) = true)
    (a6 : PySem.W.nsIn K mainGlobals "price_row" = some (some (.ref f6))) (l6 : K.lookup f6 = some ⟨oc6, od6, .func (PySem.W.fnOf "price_row" "price_row" (defArgs (top 9)) (defBody (top 9)) (defScope (top 9)) .none kV6 dc6 pm6 an6 cd6 ct6), sl6⟩) (c6 : PySem.W.codeIn K cd6 "price_row" = true) (k6 : PySem.W.keepIn K (.ref f6) = true)
    (a7 : PySem.W.nsIn K mainGlobals "level_tree" = some (some (.ref f7))) (l7 : K.lookup f7 = some ⟨oc7, od7, .func (PySem.W.fnOf "level_tree" "level_tree" (defArgs (top 10)) (defBody (top 10)) (defScope (top 10)) .none kV7 dc7 pm7 an7 cd7 ct7), sl7⟩) (c7 : PySem.W.codeIn K cd7 "level_tree" = true) (k7 : PySem.W.keepIn K (.ref f7) = true)
    (a8 : PySem.W.nsIn K mainGlobals "price_put" = some (some (.ref f8))) (l8 : K.lookup f8 = some ⟨oc8, od8, .func (PySem.W.fnOf "price_put" "price_put" (defArgs (top 11)) (defBody (top 11)) (defScope (top 11)) .none kV8 dc8 pm8 an8 cd8 ct8), sl8⟩) (c8 : PySem.W.codeIn K cd8 "price_put" = true) (k8 : PySem.W.keepIn K (.ref f8) = true)
    (a9 : PySem.W.nsIn K mainGlobals "price_out" = some (some (.ref f9))) (l9 : K.lookup f9 = some ⟨oc9, od9, .func (PySem.W.fnOf "price_out" "price_out" (defArgs (top 12)) (defBody (top 12)) (defScope (top 12)) .none kV9 dc9 pm9 an9 cd9 ct9), sl9⟩) (c9 : PySem.W.codeIn K cd9 "price_out" = true) (k9 : PySem.W.keepIn K (.ref f9) = true)
    (a10 : PySem.W.nsIn K mainGlobals "price_turn" = some (some (.ref f10))) (l10 : K.lookup f10 = some ⟨oc10, od10, .func (PySem.W.fnOf "price_turn" "price_turn" (defArgs (top 13)) (defBody (top 13)) (defScope (top 13)) .none kV10 dc10 pm10 an10 cd10 ct10), sl10⟩) (c10 : PySem.W.codeIn K cd10 "price_turn" = true) (k10 : PySem.W.keepIn K (.ref f10) = true)
    (a11 : PySem.W.nsIn K mainGlobals "price_edited" = some (some (.ref f11))) (l11 : K.lookup f11 = some ⟨oc11, od11, .func (PySem.W.fnOf "price_edited" "price_edited" (defArgs (top 14)) (defBody (top 14)) (defScope (top 14)) .none kV11 dc11 pm11 an11 cd11 ct11), sl11⟩) (c11 : PySem.W.codeIn K cd11 "price_edited" = true) (k11 : PySem.W.keepIn K (.ref f11) = true)
    (a12 : PySem.W.nsIn K mainGlobals "_law_box" = some (some (.ref f12))) (l12 : K.lookup f12 = some ⟨oc12, od12, .func (PySem.W.fnOf "_law_box" "_law_box" (defArgs (top 16)) (defBody (top 16)) (defScope (top 16)) .none kV12 dc12 pm12 an12 cd12 ct12), sl12⟩) (c12 : PySem.W.codeIn K cd12 "_law_box" = true) (k12 : PySem.W.keepIn K (.ref f12) = true)
    (a13 : PySem.W.nsIn K mainGlobals "_law_take" = some (some (.ref f13))) (l13 : K.lookup f13 = some ⟨oc13, od13, .func (PySem.W.fnOf "_law_take" "_law_take" (defArgs (top 17)) (defBody (top 17)) (defScope (top 17)) .none kV13 dc13 pm13 an13 cd13 ct13), sl13⟩) (c13 : PySem.W.codeIn K cd13 "_law_take" = true) (k13 : PySem.W.keepIn K (.ref f13) = true)
    (a14 : PySem.W.nsIn K mainGlobals "_law_same" = some (some (.ref f14))) (l14 : K.lookup f14 = some ⟨oc14, od14, .func (PySem.W.fnOf "_law_same" "_law_same" (defArgs (top 18)) (defBody (top 18)) (defScope (top 18)) .none kV14 dc14 pm14 an14 cd14 ct14), sl14⟩) (c14 : PySem.W.codeIn K cd14 "_law_same" = true) (k14 : PySem.W.keepIn K (.ref f14) = true)
    (a15 : PySem.W.nsIn K mainGlobals "_law_edit" = some (some (.ref f15))) (l15 : K.lookup f15 = some ⟨oc15, od15, .func (PySem.W.fnOf "_law_edit" "_law_edit" (defArgs (top 19)) (defBody (top 19)) (defScope (top 19)) .none kV15 dc15 pm15 an15 cd15 ct15), sl15⟩) (c15 : PySem.W.codeIn K cd15 "_law_edit" = true) (k15 : PySem.W.keepIn K (.ref f15) = true)
    (a16 : PySem.W.nsIn K mainGlobals "_law_edited" = some (some (.ref f16))) (l16 : K.lookup f16 = some ⟨oc16, od16, .func (PySem.W.fnOf "_law_edited" "_law_edited" (defArgs (top 20)) (defBody (top 20)) (defScope (top 20)) .none kV16 dc16 pm16 an16 cd16 ct16), sl16⟩) (c16 : PySem.W.codeIn K cd16 "_law_edited" = true) (k16 : PySem.W.keepIn K (.ref f16) = true)
    (a17 : PySem.W.nsIn K mainGlobals "_law_looked" = some (some (.ref f17))) (l17 : K.lookup f17 = some ⟨oc17, od17, .func (PySem.W.fnOf "_law_looked" "_law_looked" (defArgs (top 21)) (defBody (top 21)) (defScope (top 21)) .none kV17 dc17 pm17 an17 cd17 ct17), sl17⟩) (c17 : PySem.W.codeIn K cd17 "_law_looked" = true) (k17 : PySem.W.keepIn K (.ref f17) = true)
    (a18 : PySem.W.nsIn K mainGlobals "law" = some (some (.ref f18))) (l18 : K.lookup f18 = some ⟨oc18, od18, .func (PySem.W.fnOf "law" "law" (defArgs (top 22)) (defBody (top 22)) (defScope (top 22)) .none kV18 dc18 pm18 an18 cd18 ct18), sl18⟩) (c18 : PySem.W.codeIn K cd18 "law" = true) (k18 : PySem.W.keepIn K (.ref f18) = true)
    (z0 : PySem.W.nsIn K mainGlobals "abs" = some none)
    (z1 : PySem.W.nsIn K mainGlobals "bool" = some none)
    (z2 : PySem.W.nsIn K mainGlobals "int" = some none)
    (z3 : PySem.W.nsIn K mainGlobals "isinstance" = some none)
    (z4 : PySem.W.nsIn K mainGlobals "len" = some none)
    (z5 : PySem.W.nsIn K mainGlobals "list" = some none)
    (z6 : PySem.W.nsIn K mainGlobals "max" = some none)
    (z7 : PySem.W.nsIn K mainGlobals "min" = some none)
    (z8 : PySem.W.nsIn K mainGlobals "range" = some none)
    (z9 : PySem.W.nsIn K mainGlobals "str" = some none)
    (z10 : PySem.W.nsIn K mainGlobals "tuple" = some none)
    (z11 : PySem.W.nsIn K mainGlobals "zip" = some none)
    (b0 : PySem.W.nsIn K mainGlobals "QUARTERS" = some (some (.int 3 tg0)))
    (k : Nat) :
    ∃ fd : FuncData, (∀ (s : Shared) (v : Value), BindsTo s fd ⟨[v], []⟩ [("script", v)]) ∧ ∀ base : Heap, K.In base → base.Ns mainGlobals mg → FnOk l.prog w K mg base CX0 k fa fd ["script"] (spF K w (sem P k) 18) := by
  have e := hfa.symm.trans (PySem.W.mg_of X G a18)
  cases e
  have F0 := fund_mk (st := top 1) l0 c0 k0
  have F1 := fund_mk (st := top 2) l1 c1 k1
  have F2 := fund_mk (st := top 3) l2 c2 k2
  have F3 := fund_mk (st := top 6) l3 c3 k3
  have F4 := fund_mk (st := top 7) l4 c4 k4
  have F5 := fund_mk (st := top 8) l5 c5 k5
  have F6 := fund_mk (st := top 9) l6 c6 k6
  have F7 := fund_mk (st := top 10) l7 c7 k7
  have F8 := fund_mk (st := top 11) l8 c8 k8
  have F9 := fund_mk (st := top 12) l9 c9 k9
  have F10 := fund_mk (st := top 13) l10 c10 k10
  have F11 := fund_mk (st := top 14) l11 c11 k11
  have F12 := fund_mk (st := top 16) l12 c12 k12
  have F13 := fund_mk (st := top 17) l13 c13 k13
  have F14 := fund_mk (st := top 18) l14 c14 k14
  have F15 := fund_mk (st := top 19) l15 c15 k15
  have F16 := fund_mk (st := top 20) l16 c16 k16
  have F17 := fund_mk (st := top 21) l17 c17 k17
  have F18 := fund_mk (st := top 22) l18 c18 k18
  let ds : List Df := [⟨"more", "more", top 1, [], f0, PySem.W.fnOf "more" "more" (defArgs (top 1)) (defBody (top 1)) (defScope (top 1)) .none kV0 dc0 pm0 an0 cd0 ct0, ["one", "two"], T0, Mk20.f0⟩,
    ⟨"least_of", "least_of", top 2, [], f1, PySem.W.fnOf "least_of" "least_of" (defArgs (top 2)) (defBody (top 2)) (defScope (top 2)) .none kV1 dc1 pm1 an1 cd1 ct1, ["prices"], T1, Mk20.f1⟩,
    ⟨"joined", "joined", top 3, [], f2, PySem.W.fnOf "joined" "joined" (defArgs (top 3)) (defBody (top 3)) (defScope (top 3)) .none kV2 dc2 pm2 an2 cd2 ct2, ["one", "two"], T2, Mk20.f2⟩,
    ⟨"price_size", "price_size", top 6, [], f3, PySem.W.fnOf "price_size" "price_size" (defArgs (top 6)) (defBody (top 6)) (defScope (top 6)) .none kV3 dc3 pm3 an3 cd3 ct3, ["tree"], T3, Mk20.f3⟩,
    ⟨"price_node", "price_node", top 7, [], f4, PySem.W.fnOf "price_node" "price_node" (defArgs (top 7)) (defBody (top 7)) (defScope (top 7)) .none kV4 dc4 pm4 an4 cd4 ct4, ["bases", "left", "note", "right"], T4, Mk20.f4⟩,
    ⟨"price_tree", "price_tree", top 8, [], f5, PySem.W.fnOf "price_tree" "price_tree" (defArgs (top 8)) (defBody (top 8)) (defScope (top 8)) .none kV5 dc5 pm5 an5 cd5 ct5, ["bases", "log"], T5, Mk20.f5⟩,
    ⟨"price_row", "price_row", top 9, [], f6, PySem.W.fnOf "price_row" "price_row" (defArgs (top 9)) (defBody (top 9)) (defScope (top 9)) .none kV6 dc6 pm6 an6 cd6 ct6, ["tree"], T6, Mk20.f6⟩,
    ⟨"level_tree", "level_tree", top 10, [], f7, PySem.W.fnOf "level_tree" "level_tree" (defArgs (top 10)) (defBody (top 10)) (defScope (top 10)) .none kV7 dc7 pm7 an7 cd7 ct7, ["bases", "tree"], T7, Mk20.f7⟩,
    ⟨"price_put", "price_put", top 11, [], f8, PySem.W.fnOf "price_put" "price_put" (defArgs (top 11)) (defBody (top 11)) (defScope (top 11)) .none kV8 dc8 pm8 an8 cd8 ct8, ["bases", "tree", "place", "note"], T8, Mk20.f8⟩,
    ⟨"price_out", "price_out", top 12, [], f9, PySem.W.fnOf "price_out" "price_out" (defArgs (top 12)) (defBody (top 12)) (defScope (top 12)) .none kV9 dc9 pm9 an9 cd9 ct9, ["bases", "tree", "place"], T9, Mk20.f9⟩,
    ⟨"price_turn", "price_turn", top 13, [], f10, PySem.W.fnOf "price_turn" "price_turn" (defArgs (top 13)) (defBody (top 13)) (defScope (top 13)) .none kV10 dc10 pm10 an10 cd10 ct10, ["bases", "tree", "place", "note"], T10, Mk20.f10⟩,
    ⟨"price_edited", "price_edited", top 14, [], f11, PySem.W.fnOf "price_edited" "price_edited" (defArgs (top 14)) (defBody (top 14)) (defScope (top 14)) .none kV11 dc11 pm11 an11 cd11 ct11, ["bases", "tree", "edit"], T11, Mk20.f11⟩,
    ⟨"_law_box", "_law_box", top 16, [], f12, PySem.W.fnOf "_law_box" "_law_box" (defArgs (top 16)) (defBody (top 16)) (defScope (top 16)) .none kV12 dc12 pm12 an12 cd12 ct12, ["script", "k"], T12, Mk20.f12⟩,
    ⟨"_law_take", "_law_take", top 17, [], f13, PySem.W.fnOf "_law_take" "_law_take" (defArgs (top 17)) (defBody (top 17)) (defScope (top 17)) .none kV13 dc13 pm13 an13 cd13 ct13, ["box", "many"], T13, Mk20.f13⟩,
    ⟨"_law_same", "_law_same", top 18, [], f14, PySem.W.fnOf "_law_same" "_law_same" (defArgs (top 18)) (defBody (top 18)) (defScope (top 18)) .none kV14 dc14 pm14 an14 cd14 ct14, ["told", "due"], T14, Mk20.f14⟩,
    ⟨"_law_edit", "_law_edit", top 19, [], f15, PySem.W.fnOf "_law_edit" "_law_edit" (defArgs (top 19)) (defBody (top 19)) (defScope (top 19)) .none kV15 dc15 pm15 an15 cd15 ct15, ["box", "log", "many"], T15, Mk20.f15⟩,
    ⟨"_law_edited", "_law_edited", top 20, [], f16, PySem.W.fnOf "_law_edited" "_law_edited" (defArgs (top 20)) (defBody (top 20)) (defScope (top 20)) .none kV16 dc16 pm16 an16 cd16 ct16, ["log", "edit"], T16, Mk20.f16⟩,
    ⟨"_law_looked", "_law_looked", top 21, [], f17, PySem.W.fnOf "_law_looked" "_law_looked" (defArgs (top 21)) (defBody (top 21)) (defScope (top 21)) .none kV17 dc17 pm17 an17 cd17 ct17, ["bases", "tree"], T17, Mk20.f17⟩,
    ⟨"law", "law", top 22, [], fa, PySem.W.fnOf "law" "law" (defArgs (top 22)) (defBody (top 22)) (defScope (top 22)) .none kV18 dc18 pm18 an18 cd18 ct18, ["script"], T18, Mk20.f18⟩]
  have hc : ∀ c ∈ calls, ∃ e, ds[c.f]? = some e ∧ CallOk K mg c e := by
    intro c hc
    simp only [calls, List.mem_cons, List.not_mem_nil, or_false] at hc
    rcases hc with rfl | rfl | rfl | rfl | rfl | rfl | rfl | rfl | rfl | rfl | rfl | rfl | rfl | rfl | rfl | rfl | rfl | rfl | rfl
    · exact ⟨_, rfl, PySem.W.mg_of X G a1, kb_plain F1 fun _ _ _ _ _ _ us ws hl hk => match us, ws, hl, hk with | [_], [], _, _ => rfl⟩
    · exact ⟨_, rfl, PySem.W.mg_of X G a0, kb_plain F0 fun _ _ _ _ _ _ us ws hl hk => match us, ws, hl, hk with | [_, _], [], _, _ => rfl⟩
    · exact ⟨_, rfl, PySem.W.mg_of X G a2, kb_plain F2 fun _ _ _ _ _ _ us ws hl hk => match us, ws, hl, hk with | [_, _], [], _, _ => rfl⟩
    · exact ⟨_, rfl, PySem.W.mg_of X G a3, kb_plain F3 fun _ _ _ _ _ _ us ws hl hk => match us, ws, hl, hk with | [_], [], _, _ => rfl⟩
    · exact ⟨_, rfl, PySem.W.mg_of X G a4, kb_plain F4 fun _ _ _ _ _ _ us ws hl hk => match us, ws, hl, hk with | [_, _, _, _], [], _, _ => rfl⟩
    · exact ⟨_, rfl, PySem.W.mg_of X G a5, kb_plain F5 fun _ _ _ _ _ _ us ws hl hk => match us, ws, hl, hk with | [_, _], [], _, _ => rfl⟩
    · exact ⟨_, rfl, PySem.W.mg_of X G a6, kb_plain F6 fun _ _ _ _ _ _ us ws hl hk => match us, ws, hl, hk with | [_], [], _, _ => rfl⟩
    · exact ⟨_, rfl, PySem.W.mg_of X G a7, kb_plain F7 fun _ _ _ _ _ _ us ws hl hk => match us, ws, hl, hk with | [_, _], [], _, _ => rfl⟩
    · exact ⟨_, rfl, PySem.W.mg_of X G a8, kb_plain F8 fun _ _ _ _ _ _ us ws hl hk => match us, ws, hl, hk with | [_, _, _, _], [], _, _ => rfl⟩
    · exact ⟨_, rfl, PySem.W.mg_of X G a9, kb_plain F9 fun _ _ _ _ _ _ us ws hl hk => match us, ws, hl, hk with | [_, _, _], [], _, _ => rfl⟩
    · exact ⟨_, rfl, PySem.W.mg_of X G a10, kb_plain F10 fun _ _ _ _ _ _ us ws hl hk => match us, ws, hl, hk with | [_, _, _, _], [], _, _ => rfl⟩
    · exact ⟨_, rfl, PySem.W.mg_of X G a14, kb_plain F14 fun _ _ _ _ _ _ us ws hl hk => match us, ws, hl, hk with | [_, _], [], _, _ => rfl⟩
    · exact ⟨_, rfl, PySem.W.mg_of X G a13, kb_plain F13 fun _ _ _ _ _ _ us ws hl hk => match us, ws, hl, hk with | [_, _], [], _, _ => rfl⟩
    · exact ⟨_, rfl, PySem.W.mg_of X G a12, kb_plain F12 fun _ _ _ _ _ _ us ws hl hk => match us, ws, hl, hk with | [_, _], [], _, _ => rfl⟩
    · exact ⟨_, rfl, PySem.W.mg_of X G a5, kb_plain F5 fun _ _ _ _ _ _ us ws hl hk => match us, ws, hl, hk with | [_], [_], _, _ => rfl⟩
    · exact ⟨_, rfl, PySem.W.mg_of X G a17, kb_plain F17 fun _ _ _ _ _ _ us ws hl hk => match us, ws, hl, hk with | [_, _], [], _, _ => rfl⟩
    · exact ⟨_, rfl, PySem.W.mg_of X G a15, kb_plain F15 fun _ _ _ _ _ _ us ws hl hk => match us, ws, hl, hk with | [_, _, _], [], _, _ => rfl⟩
    · exact ⟨_, rfl, PySem.W.mg_of X G a11, kb_plain F11 fun _ _ _ _ _ _ us ws hl hk => match us, ws, hl, hk with | [_, _], [_], _, _ => rfl⟩
    · exact ⟨_, rfl, PySem.W.mg_of X G a16, kb_plain F16 fun _ _ _ _ _ _ us ws hl hk => match us, ws, hl, hk with | [_, _], [], _, _ => rfl⟩
  have hz : ∀ b ∈ blts, mg b = none := by
    intro b hb
    simp only [blts, List.mem_cons, List.not_mem_nil, or_false] at hb
    rcases hb with rfl | rfl | rfl | rfl | rfl | rfl | rfl | rfl | rfl | rfl | rfl | rfl
    · exact PySem.W.mg_none_of X G z0
    · exact PySem.W.mg_none_of X G z1
    · exact PySem.W.mg_none_of X G z2
    · exact PySem.W.mg_none_of X G z3
    · exact PySem.W.mg_none_of X G z4
    · exact PySem.W.mg_none_of X G z5
    · exact PySem.W.mg_none_of X G z6
    · exact PySem.W.mg_none_of X G z7
    · exact PySem.W.mg_none_of X G z8
    · exact PySem.W.mg_none_of X G z9
    · exact PySem.W.mg_none_of X G z10
    · exact PySem.W.mg_none_of X G z11
  have hg : ∀ p ∈ glob, ∃ u v, mg p.1 = some u ∧ RelV v u ∧ ∀ F H, Rp K F H v (cnD p.2) := by
    intro p hp
    simp only [glob, List.mem_cons, List.not_mem_nil, or_false] at hp
    rcases hp with rfl
    · exact ⟨_, .int 3, PySem.W.mg_of X G b0, ⟨_, rfl⟩, fun _ _ => .int _⟩
  have hP : PrOk K mg ds := by
    refine ⟨fun d hd => ?_, fun d hd => ?_, fun d hd => ?_, fun d hd => ?_⟩ <;> (simp only [ds, List.mem_cons, List.not_mem_nil, or_false] at hd; rcases hd with rfl | rfl | rfl | rfl | rfl | rfl | rfl | rfl | rfl | rfl | rfl | rfl | rfl | rfl | rfl | rfl | rfl | rfl | rfl)
    · exact ⟨F0, sc0, rfl, rfl, rfl, rfl, rfl, rfl, ck0⟩
    · exact ⟨F1, sc1, rfl, rfl, rfl, rfl, rfl, rfl, ck1⟩
    · exact ⟨F2, sc2, rfl, rfl, rfl, rfl, rfl, rfl, ck2⟩
    · exact ⟨F3, sc3, rfl, rfl, rfl, rfl, rfl, rfl, ck3⟩
    · exact ⟨F4, sc4, rfl, rfl, rfl, rfl, rfl, rfl, ck4⟩
    · exact ⟨F5, sc5, rfl, rfl, rfl, rfl, rfl, rfl, ck5⟩
    · exact ⟨F6, sc6, rfl, rfl, rfl, rfl, rfl, rfl, ck6⟩
    · exact ⟨F7, sc7, rfl, rfl, rfl, rfl, rfl, rfl, ck7⟩
    · exact ⟨F8, sc8, rfl, rfl, rfl, rfl, rfl, rfl, ck8⟩
    · exact ⟨F9, sc9, rfl, rfl, rfl, rfl, rfl, rfl, ck9⟩
    · exact ⟨F10, sc10, rfl, rfl, rfl, rfl, rfl, rfl, ck10⟩
    · exact ⟨F11, sc11, rfl, rfl, rfl, rfl, rfl, rfl, ck11⟩
    · exact ⟨F12, sc12, rfl, rfl, rfl, rfl, rfl, rfl, ck12⟩
    · exact ⟨F13, sc13, rfl, rfl, rfl, rfl, rfl, rfl, ck13⟩
    · exact ⟨F14, sc14, rfl, rfl, rfl, rfl, rfl, rfl, ck14⟩
    · exact ⟨F15, sc15, rfl, rfl, rfl, rfl, rfl, rfl, ck15⟩
    · exact ⟨F16, sc16, rfl, rfl, rfl, rfl, rfl, rfl, ck16⟩
    · exact ⟨F17, sc17, rfl, rfl, rfl, rfl, rfl, rfl, ck17⟩
    · exact ⟨F18, sc18, rfl, rfl, rfl, rfl, rfl, rfl, ck18⟩
    · exact hc
    · exact hc
    · exact hc
    · exact hc
    · exact hc
    · exact hc
    · exact hc
    · exact hc
    · exact hc
    · exact hc
    · exact hc
    · exact hc
    · exact hc
    · exact hc
    · exact hc
    · exact hc
    · exact hc
    · exact hc
    · exact hc
    · exact hg
    · exact hg
    · exact hg
    · exact hg
    · exact hg
    · exact hg
    · exact hg
    · exact hg
    · exact hg
    · exact hg
    · exact hg
    · exact hg
    · exact hg
    · exact hg
    · exact hg
    · exact hg
    · exact hg
    · exact hg
    · exact hg
    · exact hz
    · exact hz
    · exact hz
    · exact hz
    · exact hz
    · exact hz
    · exact hz
    · exact hz
    · exact hz
    · exact hz
    · exact hz
    · exact hz
    · exact hz
    · exact hz
    · exact hz
    · exact hz
    · exact hz
    · exact hz
    · exact hz
  exact ⟨_, fun s v => .of_eq rfl, fun base _ _ => prog_ok hP k 18 _ rfl⟩
end Mk20

set_option Elab.async false
set_option linter.all false
set_option maxRecDepth 100000
set_option maxHeartbeats 8000000
namespace Mk20
open Mt PySem
theorem s0 (k : Nat) (args : List Sl) : sem P (k + 1) 0 args = runF (sem P k) f0 args := rfl
theorem s1 (k : Nat) (args : List Sl) : sem P (k + 1) 1 args = runF (sem P k) f1 args := rfl
theorem s2 (k : Nat) (args : List Sl) : sem P (k + 1) 2 args = runF (sem P k) f2 args := rfl
/-! ### prices -/
abbrev Pr := Option Int
def eP : Pr → D
  | none => .none
  | some i => .int i
def moreP : Pr → Pr → Pr
  | some x, some y => some (x + y)
  | _, _ => none
def leastP (l : List Pr) : Pr := leastI (l.filterMap id)
theorem more_ok (k : Nat) (a b : Pr) : sem P (k + 1) 0 [.dat (eP a), .dat (eP b)] = some (.dat (eP (moreP a b)), [.dat (eP a), .dat (eP b)]) := by
  rw [s0]
  cases a <;> cases b <;> simp [SZ, runF, exSs, exS, evE, evEs, evVs, evAs, evK, evAt, evOt, evAnd, evOr, evO, evI, gt, look, looks, opIx, asL, asI, asB, atD, ixOf, opCmp, opBi, Mt.one, Mt.two, opBin, opAdd, opMul, own, asSl, frz, opSet, iI, iB, isEmp, maskS, L2.ixN, opLen, opTru, vw, eqD, isScal, isKind, tupleOf, Mt.listOf, seqOf, mkT, mkL, argSl, lents, isOwn, emps, posOf, gbk, giveBack, doCall, arr, slsOf, exTs, exT, putT, putTs, muOk, opMu, okR, itemsOf, plOf, opens_nil, opens_cons, lockAll, unlockAll, lockS, unlockS, isOpen, isTp, inD, isD, opAug, slR, cnD, opIn, wipeS, backS, sqn, PyData.eqv, f0, f0_0, eP, moreP]
theorem least_ok (k : Nat) (l : List Pr) (hl : l.length ≤ SZ) : ∃ ss, sem P (k + 1) 1 [.lst false (l.map eP)] = some (.dat (eP (leastP l)), ss) := by
  rw [s1]
  have e1 : evE (sem P k) (.lc [2] (.nm 2) (.wk (.v 0)) (.cmp .isNot (.v 2) (.c .none)) (.v 2)) [.lst false (l.map eP), .emp, .emp] = some (.lst ((l.filterMap id).map PyData.int), [.lst false (l.map eP), .emp, .emp]) := by
    have h := lcL_map (f := lcBody (sem P k) [2] (.nm 2) (.cmp .isNot (.v 2) (.c .none)) (.v 2)) eP (fun p => p.map PyData.int) (st := [.lst true (l.map eP), .emp, .emp]) l [] (fun p _ => by
      cases p with
      | none => simp [SZ, runF, exSs, exS, evE, evEs, evVs, evAs, evK, evAt, evOt, evAnd, evOr, evO, evI, gt, look, looks, opIx, asL, asI, asB, atD, ixOf, opCmp, opBi, Mt.one, Mt.two, opBin, opAdd, opMul, own, asSl, frz, opSet, iI, iB, isEmp, maskS, L2.ixN, opLen, opTru, vw, eqD, isScal, isKind, tupleOf, Mt.listOf, seqOf, mkT, mkL, argSl, lents, isOwn, emps, posOf, gbk, giveBack, doCall, arr, slsOf, exTs, exT, putT, putTs, muOk, opMu, okR, itemsOf, plOf, opens_nil, opens_cons, lockAll, unlockAll, lockS, unlockS, isOpen, isTp, inD, isD, opAug, slR, cnD, opIn, wipeS, backS, sqn, PyData.eqv, lcBody, eP, wipeS]
      | some i => simp [SZ, runF, exSs, exS, evE, evEs, evVs, evAs, evK, evAt, evOt, evAnd, evOr, evO, evI, gt, look, looks, opIx, asL, asI, asB, atD, ixOf, opCmp, opBi, Mt.one, Mt.two, opBin, opAdd, opMul, own, asSl, frz, opSet, iI, iB, isEmp, maskS, L2.ixN, opLen, opTru, vw, eqD, isScal, isKind, tupleOf, Mt.listOf, seqOf, mkT, mkL, argSl, lents, isOwn, emps, posOf, gbk, giveBack, doCall, arr, slsOf, exTs, exT, putT, putTs, muOk, opMu, okR, itemsOf, plOf, opens_nil, opens_cons, lockAll, unlockAll, lockS, unlockS, isOpen, isTp, inD, isD, opAug, slR, cnD, opIn, wipeS, backS, sqn, PyData.eqv, lcBody, eP, wipeS]) (by simpa using hl)
    have h2 := lc_eq (cl := sem P k) (vs := [2]) (tg := .nm 2) (it := .wk (.v 0)) (cd := .cmp .isNot (.v 2) (.c .none)) (elt := .v 2) (st := [.lst false (l.map eP), .emp, .emp]) (st0 := [.lst false (l.map eP), .emp, .emp]) (xs := l.map eP) (ps := [0]) (ys := l.filterMap fun p => p.map PyData.int) (st1 := [.lst true (l.map eP), .emp, .emp]) (by simp [SZ, runF, exSs, exS, evE, evEs, evVs, evAs, evK, evAt, evOt, evAnd, evOr, evO, evI, gt, look, looks, opIx, asL, asI, asB, atD, ixOf, opCmp, opBi, Mt.one, Mt.two, opBin, opAdd, opMul, own, asSl, frz, opSet, iI, iB, isEmp, maskS, L2.ixN, opLen, opTru, vw, eqD, isScal, isKind, tupleOf, Mt.listOf, seqOf, mkT, mkL, argSl, lents, isOwn, emps, posOf, gbk, giveBack, doCall, arr, slsOf, exTs, exT, putT, putTs, muOk, opMu, okR, itemsOf, plOf, opens_nil, opens_cons, lockAll, unlockAll, lockS, unlockS, isOpen, isTp, inD, isD, opAug, slR, cnD, opIn, wipeS, backS, sqn, PyData.eqv]) (by simp [SZ, runF, exSs, exS, evE, evEs, evVs, evAs, evK, evAt, evOt, evAnd, evOr, evO, evI, gt, look, looks, opIx, asL, asI, asB, atD, ixOf, opCmp, opBi, Mt.one, Mt.two, opBin, opAdd, opMul, own, asSl, frz, opSet, iI, iB, isEmp, maskS, L2.ixN, opLen, opTru, vw, eqD, isScal, isKind, tupleOf, Mt.listOf, seqOf, mkT, mkL, argSl, lents, isOwn, emps, posOf, gbk, giveBack, doCall, arr, slsOf, exTs, exT, putT, putTs, muOk, opMu, okR, itemsOf, plOf, opens_nil, opens_cons, lockAll, unlockAll, lockS, unlockS, isOpen, isTp, inD, isD, opAug, slR, cnD, opIn, wipeS, backS, sqn, PyData.eqv]) (by
      simp [SZ, runF, exSs, exS, evE, evEs, evVs, evAs, evK, evAt, evOt, evAnd, evOr, evO, evI, gt, look, looks, opIx, asL, asI, asB, atD, ixOf, opCmp, opBi, Mt.one, Mt.two, opBin, opAdd, opMul, own, asSl, frz, opSet, iI, iB, isEmp, maskS, L2.ixN, opLen, opTru, vw, eqD, isScal, isKind, tupleOf, Mt.listOf, seqOf, mkT, mkL, argSl, lents, isOwn, emps, posOf, gbk, giveBack, doCall, arr, slsOf, exTs, exT, putT, putTs, muOk, opMu, okR, itemsOf, plOf, opens_nil, opens_cons, lockAll, unlockAll, lockS, unlockS, isOpen, isTp, inD, isD, opAug, slR, cnD, opIn, wipeS, backS, sqn, PyData.eqv, wipeS] at h ⊢
      exact h)
    rw [h2]
    simp [SZ, runF, exSs, exS, evE, evEs, evVs, evAs, evK, evAt, evOt, evAnd, evOr, evO, evI, gt, look, looks, opIx, asL, asI, asB, atD, ixOf, opCmp, opBi, Mt.one, Mt.two, opBin, opAdd, opMul, own, asSl, frz, opSet, iI, iB, isEmp, maskS, L2.ixN, opLen, opTru, vw, eqD, isScal, isKind, tupleOf, Mt.listOf, seqOf, mkT, mkL, argSl, lents, isOwn, emps, posOf, gbk, giveBack, doCall, arr, slsOf, exTs, exT, putT, putTs, muOk, opMu, okR, itemsOf, plOf, opens_nil, opens_cons, lockAll, unlockAll, lockS, unlockS, isOpen, isTp, inD, isD, opAug, slR, cnD, opIn, wipeS, backS, sqn, PyData.eqv, backS, List.map_filterMap]
  have e2 := intsD_map (l.filterMap id)
  have e3 : exS (sem P k) f1_0 [.lst false (l.map eP), .emp, .emp] = some (.nx, [.lst false (l.map eP), .lst false ((l.filterMap id).map PyData.int), .emp]) := set_lst e1
  clear e1
  unfold leastP
  cases hq : l.filterMap id with
  | nil =>
    rw [hq] at e3
    simp [SZ, runF, exSs, exS, evE, evEs, evVs, evAs, evK, evAt, evOt, evAnd, evOr, evO, evI, gt, look, looks, opIx, asL, asI, asB, atD, ixOf, opCmp, opBi, Mt.one, Mt.two, opBin, opAdd, opMul, own, asSl, frz, opSet, iI, iB, isEmp, maskS, L2.ixN, opLen, opTru, vw, eqD, isScal, isKind, tupleOf, Mt.listOf, seqOf, mkT, mkL, argSl, lents, isOwn, emps, posOf, gbk, giveBack, doCall, arr, slsOf, exTs, exT, putT, putTs, muOk, opMu, okR, itemsOf, plOf, opens_nil, opens_cons, lockAll, unlockAll, lockS, unlockS, isOpen, isTp, inD, isD, opAug, slR, cnD, opIn, wipeS, backS, sqn, PyData.eqv, f1, f1_1, e3, leastI, eP]
  | cons x r =>
    rw [hq] at e3 e2
    simp only [List.map_cons] at e3 e2
    have hp : (0 : Int) < (r.length : Int) + 1 := by omega
    simp [SZ, runF, exSs, exS, evE, evEs, evVs, evAs, evK, evAt, evOt, evAnd, evOr, evO, evI, gt, look, looks, opIx, asL, asI, asB, atD, ixOf, opCmp, opBi, Mt.one, Mt.two, opBin, opAdd, opMul, own, asSl, frz, opSet, iI, iB, isEmp, maskS, L2.ixN, opLen, opTru, vw, eqD, isScal, isKind, tupleOf, Mt.listOf, seqOf, mkT, mkL, argSl, lents, isOwn, emps, posOf, gbk, giveBack, doCall, arr, slsOf, exTs, exT, putT, putTs, muOk, opMu, okR, itemsOf, plOf, opens_nil, opens_cons, lockAll, unlockAll, lockS, unlockS, isOpen, isTp, inD, isD, opAug, slR, cnD, opIn, wipeS, backS, sqn, PyData.eqv, f1, f1_1, e3, e2, leastI, eP, hp]
/-! ### the product of tables -/
abbrev Row := List Pr
abbrev Tb := List Row
def eR (r : Row) : D := .tuple (r.map eP)
def eT (t : Tb) : D := .tuple (t.map eR)
def colP (t : Tb) (i : Nat) : Row := t.map fun r => r.getD i none
def joinT (n : Nat) (a b : Tb) : Tb := a.map fun r => (List.range n).map fun i => leastP (List.zipWith moreP r (colP b i))
theorem eR_getD (r : Row) (i : Nat) : (r.map eP).getD i .none = eP (r.getD i none) := by
  rw [List.getD_eq_getElem?_getD, List.getD_eq_getElem?_getD, List.getElem?_map]
  cases r[i]? <;> rfl
theorem zipWith_filterMap (r c : Row) : (List.zipWith moreP r c).map eP = (r.zip c).filterMap fun p => some (eP (moreP p.1 p.2)) := by
  rw [List.filterMap_eq_map', ← List.map_uncurry_zip_eq_zipWith]
  simp
theorem cols_ok {n : Nat} {b : Tb} (h0 : 0 < n) (h1 : n ≤ 1000) (hb : ∀ r ∈ b, r.length = n) (hb0 : b ≠ []) : tups (b.map eR) = some (b.map fun r => r.map eP) ∧ sqn (b.map fun r => r.map eP) = some n ∧ colsD n (b.map fun r => r.map eP) = (List.range n).map fun i => eR (colP b i) := by
  refine ⟨?_, ?_, ?_⟩
  · have := tups_map (b.map fun r => r.map eP)
    rw [List.map_map] at this
    exact this
  · cases b with
    | nil => exact absurd rfl hb0
    | cons r rs =>
      have hr : List.length r = n := hb r List.mem_cons_self
      have hs : ∀ x ∈ rs, x.length = n := fun x hx => hb x (List.mem_cons_of_mem _ hx)
      simp only [List.map_cons, sqn, List.length_map, hr]
      rw [if_pos]
      simp only [SZ, Bool.and_eq_true, decide_eq_true_eq, List.all_eq_true]
      refine ⟨⟨h0, decide_eq_true (Nat.le_trans h1 (by decide))⟩, fun q hq => ?_⟩
      obtain ⟨x, hx, rfl⟩ := List.mem_map.mp hq
      rw [List.length_map]
      exact hs x hx
  · unfold colsD
    apply List.map_congr_left
    intro i _
    rw [List.map_map]
    simp only [eR, colP, List.map_map]
    congr 1
    apply List.map_congr_left
    intro r _
    exact eR_getD r i
theorem cell_ok (k : Nat) (r c : Row) (d1 d2 : D) (cols rows : List D) (hr : r.length ≤ SZ) : evE (sem P (k + 1)) (.call 1 [none] [(.ex (.lc [5, 6] (.tup [(.nm 5), (.nm 6)]) (.zip [(.v 4), (.v 7)]) (.c (.bool true)) (.call 0 [none, none] [(.ln 5), (.ln 6)])))]) [.dat d1, .dat d2, .lst true cols, .lst false rows, .dat (eR r), .emp, .emp, .dat (eR c)] =
    some (.dat (eP (leastP (List.zipWith moreP r c))), [.dat d1, .dat d2, .lst true cols, .lst false rows, .dat (eR r), .emp, .emp, .dat (eR c)]) := by
  have h := lcL_map (f := lcBody (sem P (k + 1)) [5, 6] (.tup [(.nm 5), (.nm 6)]) (.c (.bool true)) (.call 0 [none, none] [(.ln 5), (.ln 6)])) (fun p : Pr × Pr => PyData.tuple [eP p.1, eP p.2]) (fun p => some (eP (moreP p.1 p.2)))
    (st := [.dat d1, .dat d2, .lst true cols, .lst false rows, .dat (eR r), .emp, .emp, .dat (eR c)]) (r.zip c) [] (fun p _ => by
      have e := more_ok k p.1 p.2
      simp [SZ, runF, exSs, exS, evE, evEs, evVs, evAs, evK, evAt, evOt, evAnd, evOr, evO, evI, gt, look, looks, opIx, asL, asI, asB, atD, ixOf, opCmp, opBi, Mt.one, Mt.two, opBin, opAdd, opMul, own, asSl, frz, opSet, iI, iB, isEmp, maskS, L2.ixN, opLen, opTru, vw, eqD, isScal, isKind, tupleOf, Mt.listOf, seqOf, mkT, mkL, argSl, lents, isOwn, emps, posOf, gbk, giveBack, doCall, arr, slsOf, exTs, exT, putT, putTs, muOk, opMu, okR, itemsOf, plOf, opens_nil, opens_cons, lockAll, unlockAll, lockS, unlockS, isOpen, isTp, inD, isD, opAug, slR, cnD, opIn, wipeS, backS, sqn, PyData.eqv, lcBody, e]) (by simp; omega)
  rw [← zipD_map, ← zipWith_filterMap, List.nil_append] at h
  have h2 := lc_eq (cl := sem P (k + 1)) (vs := [5, 6]) (tg := .tup [(.nm 5), (.nm 6)]) (it := .zip [(.v 4), (.v 7)]) (cd := .c (.bool true)) (elt := .call 0 [none, none] [(.ln 5), (.ln 6)])
    (st := [.dat d1, .dat d2, .lst true cols, .lst false rows, .dat (eR r), .emp, .emp, .dat (eR c)]) (st0 := [.dat d1, .dat d2, .lst true cols, .lst false rows, .dat (eR r), .emp, .emp, .dat (eR c)]) (xs := zipD (r.map eP) (c.map eP)) (ps := []) (by simp [SZ, runF, exSs, exS, evE, evEs, evVs, evAs, evK, evAt, evOt, evAnd, evOr, evO, evI, gt, look, looks, opIx, asL, asI, asB, atD, ixOf, opCmp, opBi, Mt.one, Mt.two, opBin, opAdd, opMul, own, asSl, frz, opSet, iI, iB, isEmp, maskS, L2.ixN, opLen, opTru, vw, eqD, isScal, isKind, tupleOf, Mt.listOf, seqOf, mkT, mkL, argSl, lents, isOwn, emps, posOf, gbk, giveBack, doCall, arr, slsOf, exTs, exT, putT, putTs, muOk, opMu, okR, itemsOf, plOf, opens_nil, opens_cons, lockAll, unlockAll, lockS, unlockS, isOpen, isTp, inD, isD, opAug, slR, cnD, opIn, wipeS, backS, sqn, PyData.eqv, eR]) (by simp [SZ, runF, exSs, exS, evE, evEs, evVs, evAs, evK, evAt, evOt, evAnd, evOr, evO, evI, gt, look, looks, opIx, asL, asI, asB, atD, ixOf, opCmp, opBi, Mt.one, Mt.two, opBin, opAdd, opMul, own, asSl, frz, opSet, iI, iB, isEmp, maskS, L2.ixN, opLen, opTru, vw, eqD, isScal, isKind, tupleOf, Mt.listOf, seqOf, mkT, mkL, argSl, lents, isOwn, emps, posOf, gbk, giveBack, doCall, arr, slsOf, exTs, exT, putT, putTs, muOk, opMu, okR, itemsOf, plOf, opens_nil, opens_cons, lockAll, unlockAll, lockS, unlockS, isOpen, isTp, inD, isD, opAug, slR, cnD, opIn, wipeS, backS, sqn, PyData.eqv]) (by simp [SZ, runF, exSs, exS, evE, evEs, evVs, evAs, evK, evAt, evOt, evAnd, evOr, evO, evI, gt, look, looks, opIx, asL, asI, asB, atD, ixOf, opCmp, opBi, Mt.one, Mt.two, opBin, opAdd, opMul, own, asSl, frz, opSet, iI, iB, isEmp, maskS, L2.ixN, opLen, opTru, vw, eqD, isScal, isKind, tupleOf, Mt.listOf, seqOf, mkT, mkL, argSl, lents, isOwn, emps, posOf, gbk, giveBack, doCall, arr, slsOf, exTs, exT, putT, putTs, muOk, opMu, okR, itemsOf, plOf, opens_nil, opens_cons, lockAll, unlockAll, lockS, unlockS, isOpen, isTp, inD, isD, opAug, slR, cnD, opIn, wipeS, backS, sqn, PyData.eqv]; exact h)
  obtain ⟨ss, h3⟩ := least_ok k (List.zipWith moreP r c) (by simp; omega)
  have h4 := call1_lst (f := 1) h2 h3
  refine h4.trans ?_
  simp [SZ, runF, exSs, exS, evE, evEs, evVs, evAs, evK, evAt, evOt, evAnd, evOr, evO, evI, gt, look, looks, opIx, asL, asI, asB, atD, ixOf, opCmp, opBi, Mt.one, Mt.two, opBin, opAdd, opMul, own, asSl, frz, opSet, iI, iB, isEmp, maskS, L2.ixN, opLen, opTru, vw, eqD, isScal, isKind, tupleOf, Mt.listOf, seqOf, mkT, mkL, argSl, lents, isOwn, emps, posOf, gbk, giveBack, doCall, arr, slsOf, exTs, exT, putT, putTs, muOk, opMu, okR, itemsOf, plOf, opens_nil, opens_cons, lockAll, unlockAll, lockS, unlockS, isOpen, isTp, inD, isD, opAug, slR, cnD, opIn, wipeS, backS, sqn, PyData.eqv]
abbrev cellE : E := .call 1 [none] [(.ex (.lc [5, 6] (.tup [(.nm 5), (.nm 6)]) (.zip [(.v 4), (.v 7)]) (.c (.bool true)) (.call 0 [none, none] [(.ln 5), (.ln 6)])))]
abbrev rowS (d1 d2 : D) (b : Bool) (cols rows : List D) (o4 o7 : Sl) : MS := [.dat d1, .dat d2, .lst b cols, .lst false rows, o4, .emp, .emp, o7]
def prodR (n : Nat) (b : Tb) (r : Row) : Row := (List.range n).map fun i => leastP (List.zipWith moreP r (colP b i))
theorem row_ok (k n : Nat) (b : Tb) (r : Row) (d1 d2 : D) (rows : List D) (hr : r.length ≤ SZ) (hn : n ≤ SZ) :
    evE (sem P (k + 1)) (.lc [7] (.nm 7) (.wk (.v 2)) (.c (.bool true)) cellE) (rowS d1 d2 false (((List.range n).map (colP b)).map eR) rows (.dat (eR r)) .emp) = some (.lst ((prodR n b r).map eP), rowS d1 d2 false (((List.range n).map (colP b)).map eR) rows (.dat (eR r)) .emp) := by
  have h := lcL_map (f := lcBody (sem P (k + 1)) [7] (.nm 7) (.c (.bool true)) cellE) eR (fun c => some (eP (leastP (List.zipWith moreP r c)))) (st := rowS d1 d2 true (((List.range n).map (colP b)).map eR) rows (.dat (eR r)) .emp) ((List.range n).map (colP b)) []
    (fun c _ => lcBody_nm (cell_ok k r c d1 d2 _ rows hr) rfl) (by simpa using hn)
  have h2 := lc_eq (cl := sem P (k + 1)) (vs := [7]) (tg := .nm 7) (it := .wk (.v 2)) (cd := .c (.bool true)) (elt := cellE) (st := rowS d1 d2 false (((List.range n).map (colP b)).map eR) rows (.dat (eR r)) .emp) (st0 := rowS d1 d2 false (((List.range n).map (colP b)).map eR) rows (.dat (eR r)) .emp)
    (xs := ((List.range n).map (colP b)).map eR) (ps := [2]) (by simp only [evI, evE, gt, look, itemsOf, plOf]) rfl h
  refine h2.trans ?_
  have e : [] ++ List.filterMap (fun c => some (eP (leastP (List.zipWith moreP r c)))) ((List.range n).map (colP b)) = (prodR n b r).map eP := by
    rw [List.nil_append, List.filterMap_eq_map', List.map_map]
    unfold prodR
    rw [List.map_map]
    rfl
  rw [e]
  rfl
theorem turn2_ok (k n : Nat) (b : Tb) (r : Row) (d1 d2 : D) (rows : List D) (o4 : Sl) (hr : r.length ≤ SZ) (hn : n ≤ SZ) (hl : rows.length < SZ) :
    frBody (sem P (k + 1)) (.nm 4) f2_2_l (eR r) (rowS d1 d2 false (((List.range n).map (colP b)).map eR) rows o4 .emp) = some (.nx, rowS d1 d2 false (((List.range n).map (colP b)).map eR) (rows ++ [eR (prodR n b r)]) (.dat (eR r)) .emp) := by
  have h := app_dat (i := 3) (bi_tuple (row_ok k n b r d1 d2 rows hr hn)) ⟨_, _, rfl⟩ rfl hl
  show exSs (sem P (k + 1)) [f2_2a0] (rowS d1 d2 false (((List.range n).map (colP b)).map eR) rows (.dat (eR r)) .emp) = _
  simp only [exSs]
  have h' : exS (sem P (k + 1)) f2_2a0 (rowS d1 d2 false (((List.range n).map (colP b)).map eR) rows (.dat (eR r)) .emp) = some (.nx, rowS d1 d2 false (((List.range n).map (colP b)).map eR) (rows ++ [eR (prodR n b r)]) (.dat (eR r)) .emp) := h
  rw [h']
theorem joined_ok (k n : Nat) (a b : Tb) (h0 : 0 < n) (h1 : n ≤ 1000) (hb : ∀ r ∈ b, r.length = n) (hb0 : b ≠ []) (ha : ∀ r ∈ a, r.length ≤ SZ) (hl : a.length ≤ SZ) :
    sem P (k + 2) 2 [.dat (eT a), .dat (eT b)] = some (.dat (eT (a.map (prodR n b))), [.dat (eT a), .dat (eT b)]) := by
  rw [s2]
  obtain ⟨c1, c2, c3⟩ := cols_ok h0 h1 hb hb0
  have c4 : colsD n (b.map fun r => r.map eP) = ((List.range n).map (colP b)).map eR := by rw [c3, List.map_map]; rfl
  have hn : n ≤ SZ := Nat.le_trans h1 (by decide)
  have e0 : exS (sem P (k + 1)) f2_0 [.dat (eT a), .dat (eT b), .emp, .emp, .emp, .emp, .emp, .emp] = some (.nx, [.dat (eT a), .dat (eT b), .lst false (((List.range n).map (colP b)).map eR), .emp, .emp, .emp, .emp, .emp]) := by
    have : evE (sem P (k + 1)) (.zips (.v 1)) [.dat (eT a), .dat (eT b), .emp, .emp, .emp, .emp, .emp, .emp] = some (.lst (((List.range n).map (colP b)).map eR), [.dat (eT a), .dat (eT b), .emp, .emp, .emp, .emp, .emp, .emp]) := by
      simp only [evE, gt, eT, c1, c2, c4]
    exact set_lst this
  obtain ⟨st', l, o4, e⟩ := forL_steps (f := frBody (sem P (k + 1)) (.nm 4) f2_2_l) eR a (fun pre st => ∃ o4, st = rowS (eT a) (eT b) false (((List.range n).map (colP b)).map eR) ((pre.map (prodR n b)).map eR) o4 .emp) ⟨.emp, rfl⟩ (fun pre x post st hx ⟨o4, e⟩ => by
    subst e
    have hm : x ∈ a := by rw [hx]; simp
    have hlen : pre.length < a.length := by rw [hx]; simp
    have t := turn2_ok k n b x (eT a) (eT b) ((pre.map (prodR n b)).map eR) o4 (ha x hm) hn (by simp only [List.length_map]; omega)
    exact ⟨_, .inl t, .dat (eR x), by simp⟩)
  subst e
  have e2 : exS (sem P (k + 1)) f2_2 (rowS (eT a) (eT b) false (((List.range n).map (colP b)).map eR) [] .emp .emp) = some (.nx, rowS (eT a) (eT b) false (((List.range n).map (colP b)).map eR) ((a.map (prodR n b)).map eR) o4 .emp) :=
    fr_nx (it := .wk (.v 0)) (by simp only [evI, evE, gt, look, itemsOf, plOf, eT]) l
  have e3 : exS (sem P (k + 1)) f2_1 [.dat (eT a), .dat (eT b), .lst false (((List.range n).map (colP b)).map eR), .emp, .emp, .emp, .emp, .emp] = some (.nx, rowS (eT a) (eT b) false (((List.range n).map (colP b)).map eR) [] .emp .emp) := by
    simp [SZ, runF, exSs, exS, evE, evEs, evVs, evAs, evK, evAt, evOt, evAnd, evOr, evO, evI, gt, look, looks, opIx, asL, asI, asB, atD, ixOf, opCmp, opBi, Mt.one, Mt.two, opBin, opAdd, opMul, own, asSl, frz, opSet, iI, iB, isEmp, maskS, L2.ixN, opLen, opTru, vw, eqD, isScal, isKind, tupleOf, Mt.listOf, seqOf, mkT, mkL, argSl, lents, isOwn, emps, posOf, gbk, giveBack, doCall, arr, slsOf, exTs, exT, putT, putTs, muOk, opMu, okR, itemsOf, plOf, opens_nil, opens_cons, lockAll, unlockAll, lockS, unlockS, isOpen, isTp, inD, isD, opAug, slR, cnD, opIn, wipeS, backS, sqn, PyData.eqv, f2_1]
  have e4 : exS (sem P (k + 1)) f2_3 (rowS (eT a) (eT b) false (((List.range n).map (colP b)).map eR) ((a.map (prodR n b)).map eR) o4 .emp) = some (.rt (.dat (eT (a.map (prodR n b)))), rowS (eT a) (eT b) false (((List.range n).map (colP b)).map eR) ((a.map (prodR n b)).map eR) o4 .emp) := by
    simp [SZ, runF, exSs, exS, evE, evEs, evVs, evAs, evK, evAt, evOt, evAnd, evOr, evO, evI, gt, look, looks, opIx, asL, asI, asB, atD, ixOf, opCmp, opBi, Mt.one, Mt.two, opBin, opAdd, opMul, own, asSl, frz, opSet, iI, iB, isEmp, maskS, L2.ixN, opLen, opTru, vw, eqD, isScal, isKind, tupleOf, Mt.listOf, seqOf, mkT, mkL, argSl, lents, isOwn, emps, posOf, gbk, giveBack, doCall, arr, slsOf, exTs, exT, putT, putTs, muOk, opMu, okR, itemsOf, plOf, opens_nil, opens_cons, lockAll, unlockAll, lockS, unlockS, isOpen, isTp, inD, isD, opAug, slR, cnD, opIn, wipeS, backS, sqn, PyData.eqv, f2_3, eT]
  show runF (sem P (k + 1)) f2 [.dat (eT a), .dat (eT b)] = _
  simp only [runF, f2, List.length_cons, List.length_nil, exSs, List.cons_append, List.nil_append, List.replicate]
  simp only [exSs, List.cons_append, List.nil_append, List.replicate, e0, e3, e2, e4]
  simp [SZ, runF, exSs, exS, evE, evEs, evVs, evAs, evK, evAt, evOt, evAnd, evOr, evO, evI, gt, look, looks, opIx, asL, asI, asB, atD, ixOf, opCmp, opBi, Mt.one, Mt.two, opBin, opAdd, opMul, own, asSl, frz, opSet, iI, iB, isEmp, maskS, L2.ixN, opLen, opTru, vw, eqD, isScal, isKind, tupleOf, Mt.listOf, seqOf, mkT, mkL, argSl, lents, isOwn, emps, posOf, gbk, giveBack, doCall, arr, slsOf, exTs, exT, putT, putTs, muOk, opMu, okR, itemsOf, plOf, opens_nil, opens_cons, lockAll, unlockAll, lockS, unlockS, isOpen, isTp, inD, isD, opAug, slR, cnD, opIn, wipeS, backS, sqn, PyData.eqv]
end Mk20

set_option Elab.async false
set_option linter.all false
set_option maxRecDepth 100000
set_option maxHeartbeats 8000000
namespace Mk20
open Mt PySem
/-! ### the algebra of tables of three -/
def mn : Pr → Pr → Pr
  | none, b => b
  | a, none => a
  | some x, some y => some (if y < x then y else x)
theorem mn_comm (a b : Pr) : mn a b = mn b a := by
  cases a <;> cases b <;> simp only [mn]
  congr 1
  split <;> split <;> omega
theorem mn_assoc (a b c : Pr) : mn (mn a b) c = mn a (mn b c) := by
  cases a <;> cases b <;> cases c <;> simp only [mn]
  congr 1
  split <;> split <;> (try split) <;> (try split) <;> omega
theorem more_assoc (a b c : Pr) : moreP (moreP a b) c = moreP a (moreP b c) := by
  cases a <;> cases b <;> cases c <;> simp only [moreP]
  congr 1
  omega
theorem more_mn (a b c : Pr) : moreP (mn a b) c = mn (moreP a c) (moreP b c) := by
  cases a <;> cases b <;> cases c <;> simp only [moreP, mn]
  congr 1
  split <;> split <;> omega
theorem mn_more (a b c : Pr) : moreP a (mn b c) = mn (moreP a b) (moreP a c) := by
  cases a <;> cases b <;> cases c <;> simp only [moreP, mn]
  congr 1
  split <;> split <;> omega
instance : Std.Associative mn := ⟨mn_assoc⟩
instance : Std.Commutative mn := ⟨mn_comm⟩
theorem least3 (a b c : Pr) : leastP [a, b, c] = mn a (mn b c) := by
  cases a <;> cases b <;> cases c <;> simp [leastP, leastI, mn]
  split <;> split <;> (try split) <;> omega
abbrev F3 := Nat → Nat → Pr
def mulF (f g : F3) : F3 := fun i j => mn (moreP (f i 0) (g 0 j)) (mn (moreP (f i 1) (g 1 j)) (moreP (f i 2) (g 2 j)))
theorem mul_assoc (f g h : F3) : mulF (mulF f g) h = mulF f (mulF g h) := by
  funext i j
  simp only [mulF, more_mn, mn_more, more_assoc]
  ac_rfl
def tb (f : F3) : Tb := [[f 0 0, f 0 1, f 0 2], [f 1 0, f 1 1, f 1 2], [f 2 0, f 2 1, f 2 2]]
theorem prod3 (f g : F3) : (tb f).map (prodR 3 (tb g)) = tb (mulF f g) := by
  have r3 : List.range 3 = [0, 1, 2] := by decide
  simp only [tb, List.map_cons, List.map_nil, prodR, r3, colP, List.zipWith_cons_cons, List.zipWith_nil_left, least3, mulF]
  rfl
theorem joined3 (k : Nat) (f g : F3) : sem P (k + 2) 2 [.dat (eT (tb f)), .dat (eT (tb g))] = some (.dat (eT (tb (mulF f g))), [.dat (eT (tb f)), .dat (eT (tb g))]) := by
  rw [← prod3]
  refine joined_ok k 3 (tb f) (tb g) (by decide) (by decide) (fun r hr => ?_) (by simp [tb]) (fun r hr => ?_) (by simp [tb, SZ])
  · simp only [tb, List.mem_cons, List.not_mem_nil, or_false] at hr
    rcases hr with rfl | rfl | rfl <;> rfl
  · simp only [tb, List.mem_cons, List.not_mem_nil, or_false] at hr
    rcases hr with rfl | rfl | rfl <;> simp [SZ]
/-! ### rows of notes -/
def bF (bs : List F3) (v : Nat) : F3 := bs.getD v fun _ _ => none
def foldF (bs : List F3) (a : F3) (vs : List Nat) : F3 := vs.foldl (fun a x => mulF a (bF bs x)) a
def prodL (bs : List F3) : List Nat → F3
  | [] => fun _ _ => none
  | v :: vs => foldF bs (bF bs v) vs
theorem foldF_mul (bs : List F3) : ∀ (vs : List Nat) (a b : F3), foldF bs (mulF a b) vs = mulF a (foldF bs b vs)
  | [], _, _ => rfl
  | v :: vs, a, b => by
    show foldF bs (mulF (mulF a b) (bF bs v)) vs = mulF a (foldF bs (mulF b (bF bs v)) vs)
    rw [mul_assoc, foldF_mul bs vs]
theorem prodL_append (bs : List F3) (xs ys : List Nat) (hx : xs ≠ []) (hy : ys ≠ []) : prodL bs (xs ++ ys) = mulF (prodL bs xs) (prodL bs ys) := by
  cases xs with
  | nil => exact absurd rfl hx
  | cons x xs =>
    cases ys with
    | nil => exact absurd rfl hy
    | cons y ys =>
      show foldF bs (bF bs x) (xs ++ y :: ys) = mulF (foldF bs (bF bs x) xs) (foldF bs (bF bs y) ys)
      rw [← foldF_mul]
      show (xs ++ y :: ys).foldl _ _ = _
      rw [List.foldl_append]
      rfl
/-! ### trees -/
inductive Tr where
  | nil
  | node (l : Tr) (v : Nat) (r : Tr)
def row : Tr → List Nat
  | .nil => []
  | .node l v r => row l ++ [v] ++ row r
def size (t : Tr) : Nat := (row t).length
def nI (v : Nat) : D := .int (v : Int)
def eL (vs : List Nat) : D := .tuple (vs.map nI)
def eTr (bs : List F3) : Tr → D
  | .nil => .none
  | .node l v r => .tuple [eTr bs l, .int v, eTr bs r, .int (size (.node l v r)), eT (tb (prodL bs (row (.node l v r))))]
def eB (bs : List F3) : D := .tuple (bs.map fun f => eT (tb f))
theorem size_node (l r : Tr) (v : Nat) : size (.node l v r) = size l + 1 + size r := by simp [size, row]; omega
theorem row_ne (l r : Tr) (v : Nat) : row (.node l v r) ≠ [] := by simp [row]
theorem s3 (k : Nat) (args : List Sl) : sem P (k + 1) 3 args = runF (sem P k) f3 args := rfl
theorem s4 (k : Nat) (args : List Sl) : sem P (k + 1) 4 args = runF (sem P k) f4 args := rfl
theorem size_ok (k : Nat) (bs : List F3) (t : Tr) : sem P (k + 1) 3 [.dat (eTr bs t)] = some (.dat (.int (size t)), [.dat (eTr bs t)]) := by
  rw [s3]
  cases t with
  | nil => simp [SZ, runF, exSs, exS, evE, evEs, evVs, evAs, evK, evAt, evOt, evAnd, evOr, evO, evI, gt, look, looks, opIx, asL, asI, asB, atD, ixOf, opCmp, opBi, Mt.one, Mt.two, opBin, opAdd, opMul, own, asSl, frz, opSet, iI, iB, isEmp, maskS, L2.ixN, opLen, opTru, vw, eqD, isScal, isKind, tupleOf, Mt.listOf, seqOf, mkT, mkL, argSl, lents, isOwn, emps, posOf, gbk, giveBack, doCall, arr, slsOf, exTs, exT, putT, putTs, muOk, opMu, okR, itemsOf, plOf, opens_nil, opens_cons, lockAll, unlockAll, lockS, unlockS, isOpen, isTp, inD, isD, opAug, slR, cnD, opIn, wipeS, backS, sqn, PyData.eqv, f3, f3_0, eTr, size, row]
  | node l v r => simp [SZ, runF, exSs, exS, evE, evEs, evVs, evAs, evK, evAt, evOt, evAnd, evOr, evO, evI, gt, look, looks, opIx, asL, asI, asB, atD, ixOf, opCmp, opBi, Mt.one, Mt.two, opBin, opAdd, opMul, own, asSl, frz, opSet, iI, iB, isEmp, maskS, L2.ixN, opLen, opTru, vw, eqD, isScal, isKind, tupleOf, Mt.listOf, seqOf, mkT, mkL, argSl, lents, isOwn, emps, posOf, gbk, giveBack, doCall, arr, slsOf, exTs, exT, putT, putTs, muOk, opMu, okR, itemsOf, plOf, opens_nil, opens_cons, lockAll, unlockAll, lockS, unlockS, isOpen, isTp, inD, isD, opAug, slR, cnD, opIn, wipeS, backS, sqn, PyData.eqv, f3, f3_0, eTr]
theorem eB_at (bs : List F3) (v : Nat) (hv : v < bs.length) : (bs.map fun f => eT (tb f))[v]? = some (eT (tb (bF bs v))) := by
  rw [List.getElem?_map, List.getElem?_eq_getElem hv]
  simp [bF, hv]
abbrev nodeA (bs : List F3) (l : Tr) (v : Nat) (r : Tr) : List Sl := [.dat (eB bs), .dat (eTr bs l), .dat (.int v), .dat (eTr bs r)]
theorem node_ok (k : Nat) (bs : List F3) (l r : Tr) (v : Nat) (hv : v < bs.length) : sem P (k + 3) 4 (nodeA bs l v r) = some (.dat (eTr bs (.node l v r)), nodeA bs l v r) := by
  rw [s4]
  have e0 : atD (bs.map fun f => eT (tb f)) (v : Int) = some (eT (tb (bF bs v))) := by
    simp [atD, ixOf, L2.ixN, hv, eB_at]
    simp [bF, hv]
  have h0 : exS (sem P (k + 2)) f4_0 [.dat (eB bs), .dat (eTr bs l), .dat (.int v), .dat (eTr bs r), .emp] = some (.nx, [.dat (eB bs), .dat (eTr bs l), .dat (.int v), .dat (eTr bs r), .dat (eT (tb (bF bs v)))]) := by
    have : evE (sem P (k + 2)) (.ix (.v 0) (.v 2)) [.dat (eB bs), .dat (eTr bs l), .dat (.int v), .dat (eTr bs r), .emp] = some (.dat (eT (tb (bF bs v))), [.dat (eB bs), .dat (eTr bs l), .dat (.int v), .dat (eTr bs r), .emp]) := by
      simp only [evE, gt, eB, look, opIx, e0]
    exact set_dat this
  have hs1 := size_ok (k + 1) bs l
  have hs2 := size_ok (k + 1) bs r
  have h1 : exS (sem P (k + 2)) f4_1 [.dat (eB bs), .dat (eTr bs l), .dat (.int v), .dat (eTr bs r), .dat (eT (tb (bF bs v)))] = some (.nx, [.dat (eB bs), .dat (eTr bs l), .dat (.int v), .dat (eTr bs r), .dat (eT (tb (prodL bs (row l ++ [v]))))]) := by
    cases l with
    | nil =>
      have e : prodL bs (row .nil ++ [v]) = bF bs v := rfl
      rw [e]
      simp [SZ, runF, exSs, exS, evE, evEs, evVs, evAs, evK, evAt, evOt, evAnd, evOr, evO, evI, gt, look, looks, opIx, asL, asI, asB, atD, ixOf, opCmp, opBi, Mt.one, Mt.two, opBin, opAdd, opMul, own, asSl, frz, opSet, iI, iB, isEmp, maskS, L2.ixN, opLen, opTru, vw, eqD, isScal, isKind, tupleOf, Mt.listOf, seqOf, mkT, mkL, argSl, lents, isOwn, emps, posOf, gbk, giveBack, doCall, arr, slsOf, exTs, exT, putT, putTs, muOk, opMu, okR, itemsOf, plOf, opens_nil, opens_cons, lockAll, unlockAll, lockS, unlockS, isOpen, isTp, inD, isD, opAug, slR, cnD, opIn, wipeS, backS, sqn, PyData.eqv, f4_1, eTr]
    | node a u b =>
      rw [prodL_append bs _ _ (row_ne a b u) (by simp)]
      have e : prodL bs [v] = bF bs v := rfl
      rw [e]
      have j := joined3 k (prodL bs (row (.node a u b))) (bF bs v)
      simp [SZ, runF, exSs, exS, evE, evEs, evVs, evAs, evK, evAt, evOt, evAnd, evOr, evO, evI, gt, look, looks, opIx, asL, asI, asB, atD, ixOf, opCmp, opBi, Mt.one, Mt.two, opBin, opAdd, opMul, own, asSl, frz, opSet, iI, iB, isEmp, maskS, L2.ixN, opLen, opTru, vw, eqD, isScal, isKind, tupleOf, Mt.listOf, seqOf, mkT, mkL, argSl, lents, isOwn, emps, posOf, gbk, giveBack, doCall, arr, slsOf, exTs, exT, putT, putTs, muOk, opMu, okR, itemsOf, plOf, opens_nil, opens_cons, lockAll, unlockAll, lockS, unlockS, isOpen, isTp, inD, isD, opAug, slR, cnD, opIn, wipeS, backS, sqn, PyData.eqv, f4_1, f4_1a0, eTr, j]
  have h2 : exS (sem P (k + 2)) f4_2 [.dat (eB bs), .dat (eTr bs l), .dat (.int v), .dat (eTr bs r), .dat (eT (tb (prodL bs (row l ++ [v]))))] = some (.nx, [.dat (eB bs), .dat (eTr bs l), .dat (.int v), .dat (eTr bs r), .dat (eT (tb (prodL bs (row (.node l v r)))))]) := by
    cases r with
    | nil =>
      have e : prodL bs (row (.node l v .nil)) = prodL bs (row l ++ [v]) := by simp [row]
      rw [e]
      simp [SZ, runF, exSs, exS, evE, evEs, evVs, evAs, evK, evAt, evOt, evAnd, evOr, evO, evI, gt, look, looks, opIx, asL, asI, asB, atD, ixOf, opCmp, opBi, Mt.one, Mt.two, opBin, opAdd, opMul, own, asSl, frz, opSet, iI, iB, isEmp, maskS, L2.ixN, opLen, opTru, vw, eqD, isScal, isKind, tupleOf, Mt.listOf, seqOf, mkT, mkL, argSl, lents, isOwn, emps, posOf, gbk, giveBack, doCall, arr, slsOf, exTs, exT, putT, putTs, muOk, opMu, okR, itemsOf, plOf, opens_nil, opens_cons, lockAll, unlockAll, lockS, unlockS, isOpen, isTp, inD, isD, opAug, slR, cnD, opIn, wipeS, backS, sqn, PyData.eqv, f4_2, eTr]
    | node a u b =>
      have e : prodL bs (row (.node l v (.node a u b))) = mulF (prodL bs (row l ++ [v])) (prodL bs (row (.node a u b))) := prodL_append bs _ _ (by simp) (row_ne a b u)
      rw [e]
      have j := joined3 k (prodL bs (row l ++ [v])) (prodL bs (row (.node a u b)))
      simp [SZ, runF, exSs, exS, evE, evEs, evVs, evAs, evK, evAt, evOt, evAnd, evOr, evO, evI, gt, look, looks, opIx, asL, asI, asB, atD, ixOf, opCmp, opBi, Mt.one, Mt.two, opBin, opAdd, opMul, own, asSl, frz, opSet, iI, iB, isEmp, maskS, L2.ixN, opLen, opTru, vw, eqD, isScal, isKind, tupleOf, Mt.listOf, seqOf, mkT, mkL, argSl, lents, isOwn, emps, posOf, gbk, giveBack, doCall, arr, slsOf, exTs, exT, putT, putTs, muOk, opMu, okR, itemsOf, plOf, opens_nil, opens_cons, lockAll, unlockAll, lockS, unlockS, isOpen, isTp, inD, isD, opAug, slR, cnD, opIn, wipeS, backS, sqn, PyData.eqv, f4_2, f4_2a0, eTr, j]
  have e5 : eTr bs (.node l v r) = .tuple [eTr bs l, .int v, eTr bs r, .int ((size l : Int) + 1 + size r), eT (tb (prodL bs (row (.node l v r))))] := by
    rw [eTr, size_node]
    simp
  rw [e5]
  generalize eT (tb (prodL bs (row (.node l v r)))) = T at h2 ⊢
  simp [SZ, runF, exSs, exS, evE, evEs, evVs, evAs, evK, evAt, evOt, evAnd, evOr, evO, evI, gt, look, looks, opIx, asL, asI, asB, atD, ixOf, opCmp, opBi, Mt.one, Mt.two, opBin, opAdd, opMul, own, asSl, frz, opSet, iI, iB, isEmp, maskS, L2.ixN, opLen, opTru, vw, eqD, isScal, isKind, tupleOf, Mt.listOf, seqOf, mkT, mkL, argSl, lents, isOwn, emps, posOf, gbk, giveBack, doCall, arr, slsOf, exTs, exT, putT, putTs, muOk, opMu, okR, itemsOf, plOf, opens_nil, opens_cons, lockAll, unlockAll, lockS, unlockS, isOpen, isTp, inD, isD, opAug, slR, cnD, opIn, wipeS, backS, sqn, PyData.eqv, f4, h0, h1, h2, f4_3, hs1, hs2]
/-! ### a row made a tree -/
def mk (vs : List Nat) : Tr :=
  if h : vs = [] then .nil else .node (mk (vs.take (vs.length / 2))) (vs.getD (vs.length / 2) 0) (mk (vs.drop (vs.length / 2 + 1)))
termination_by vs.length
decreasing_by
  · have : 0 < vs.length := List.length_pos_iff.mpr h
    simp only [List.length_take]; omega
  · have : 0 < vs.length := List.length_pos_iff.mpr h
    simp only [List.length_drop]; omega
theorem mk_nil : mk [] = .nil := by rw [mk]; simp
theorem mk_ne {vs : List Nat} (h : vs ≠ []) : mk vs = .node (mk (vs.take (vs.length / 2))) (vs.getD (vs.length / 2) 0) (mk (vs.drop (vs.length / 2 + 1))) := by rw [mk]; simp [h]
theorem cut_eq (vs : List Nat) (i : Nat) (h : i < vs.length) : vs.take i ++ [vs.getD i 0] ++ vs.drop (i + 1) = vs := by
  have e : vs.getD i 0 = vs[i] := by simp [h]
  rw [e, List.append_assoc, List.singleton_append, List.getElem_cons_drop, List.take_append_drop]
theorem row_mk (n : Nat) : ∀ vs : List Nat, vs.length ≤ n → row (mk vs) = vs := by
  induction n with
  | zero =>
    intro vs h
    have : vs = [] := List.length_eq_zero_iff.mp (Nat.le_zero.mp h)
    subst this
    rw [mk_nil]; rfl
  | succ n ih =>
    intro vs h
    by_cases hv : vs = []
    · subst hv; rw [mk_nil]; rfl
    · have hp : 0 < vs.length := List.length_pos_iff.mpr hv
      rw [mk_ne hv, row, ih _ (by rw [List.length_take]; omega), ih _ (by rw [List.length_drop]; omega)]
      exact cut_eq vs _ (by omega)
theorem s5 (k : Nat) (args : List Sl) : sem P (k + 1) 5 args = runF (sem P k) f5 args := rfl
def Ok (bs : List F3) (vs : List Nat) : Prop := ∀ v ∈ vs, v < bs.length
theorem tree_ok (bs : List F3) : ∀ (n k : Nat) (vs : List Nat), vs.length ≤ n → n + 4 ≤ k → Ok bs vs → vs.length < 1000000 → sem P k 5 [.dat (eB bs), .dat (eL vs)] = some (.dat (eTr bs (mk vs)), [.dat (eB bs), .dat (eL vs)]) := by
  intro n
  induction n with
  | zero =>
    intro k vs h hk hv hl
    have : vs = [] := List.length_eq_zero_iff.mp (Nat.le_zero.mp h)
    subst this
    obtain ⟨k, rfl⟩ : ∃ j, k = j + 1 := ⟨k - 1, by omega⟩
    rw [s5, mk_nil]
    simp [SZ, runF, exSs, exS, evE, evEs, evVs, evAs, evK, evAt, evOt, evAnd, evOr, evO, evI, gt, look, looks, opIx, asL, asI, asB, atD, ixOf, opCmp, opBi, Mt.one, Mt.two, opBin, opAdd, opMul, own, asSl, frz, opSet, iI, iB, isEmp, maskS, L2.ixN, opLen, opTru, vw, eqD, isScal, isKind, tupleOf, Mt.listOf, seqOf, mkT, mkL, argSl, lents, isOwn, emps, posOf, gbk, giveBack, doCall, arr, slsOf, exTs, exT, putT, putTs, muOk, opMu, okR, itemsOf, plOf, opens_nil, opens_cons, lockAll, unlockAll, lockS, unlockS, isOpen, isTp, inD, isD, opAug, slR, cnD, opIn, wipeS, backS, sqn, PyData.eqv, f5, f5_0, f5_0a0, eL, eTr]
  | succ n ih =>
    intro k vs h hk hv hl
    obtain ⟨k, rfl⟩ : ∃ j, k = j + 4 := ⟨k - 4, by omega⟩
    by_cases hn : vs = []
    · subst hn
      rw [s5, mk_nil]
      simp [SZ, runF, exSs, exS, evE, evEs, evVs, evAs, evK, evAt, evOt, evAnd, evOr, evO, evI, gt, look, looks, opIx, asL, asI, asB, atD, ixOf, opCmp, opBi, Mt.one, Mt.two, opBin, opAdd, opMul, own, asSl, frz, opSet, iI, iB, isEmp, maskS, L2.ixN, opLen, opTru, vw, eqD, isScal, isKind, tupleOf, Mt.listOf, seqOf, mkT, mkL, argSl, lents, isOwn, emps, posOf, gbk, giveBack, doCall, arr, slsOf, exTs, exT, putT, putTs, muOk, opMu, okR, itemsOf, plOf, opens_nil, opens_cons, lockAll, unlockAll, lockS, unlockS, isOpen, isTp, inD, isD, opAug, slR, cnD, opIn, wipeS, backS, sqn, PyData.eqv, f5, f5_0, f5_0a0, eL, eTr]
    · have hp : 0 < vs.length := List.length_pos_iff.mpr hn
      have i1 := ih (k + 3) (vs.take (vs.length / 2)) (by rw [List.length_take]; omega) (by omega) (fun v h => hv v (List.mem_of_mem_take h)) (by rw [List.length_take]; omega)
      have i2 := ih (k + 3) (vs.drop (vs.length / 2 + 1)) (by rw [List.length_drop]; omega) (by omega) (fun v h => hv v (List.mem_of_mem_drop h)) (by rw [List.length_drop]; omega)
      have hh : vs.length / 2 < vs.length := by omega
      have hg : vs.getD (vs.length / 2) 0 = vs[vs.length / 2] := by simp [hh]
      have i3 := node_ok k bs (mk (vs.take (vs.length / 2))) (mk (vs.drop (vs.length / 2 + 1))) (vs.getD (vs.length / 2) 0) (by rw [hg]; exact hv _ (List.getElem_mem hh))
      rw [← mk_ne hn] at i3
      rw [s5]
      have hp0 : ((vs.length : Int) == 0) = false := by simp [hn]
      have c0 : exS (sem P (k + 3)) f5_0 [.dat (eB bs), .dat (eL vs), .emp] = some (.nx, [.dat (eB bs), .dat (eL vs), .emp]) := by
        simp [SZ, runF, exSs, exS, evE, evEs, evVs, evAs, evK, evAt, evOt, evAnd, evOr, evO, evI, gt, look, looks, opIx, asL, asI, asB, atD, ixOf, opCmp, opBi, Mt.one, Mt.two, opBin, opAdd, opMul, own, asSl, frz, opSet, iI, iB, isEmp, maskS, L2.ixN, opLen, opTru, vw, eqD, isScal, isKind, tupleOf, Mt.listOf, seqOf, mkT, mkL, argSl, lents, isOwn, emps, posOf, gbk, giveBack, doCall, arr, slsOf, exTs, exT, putT, putTs, muOk, opMu, okR, itemsOf, plOf, opens_nil, opens_cons, lockAll, unlockAll, lockS, unlockS, isOpen, isTp, inD, isD, opAug, slR, cnD, opIn, wipeS, backS, sqn, PyData.eqv, f5_0, eL, hn, hp0]
      have c1 : exS (sem P (k + 3)) f5_1 [.dat (eB bs), .dat (eL vs), .emp] = some (.nx, [.dat (eB bs), .dat (eL vs), .dat (.int ((vs.length : Int) / 2))]) := by
        simp [SZ, runF, exSs, exS, evE, evEs, evVs, evAs, evK, evAt, evOt, evAnd, evOr, evO, evI, gt, look, looks, opIx, asL, asI, asB, atD, ixOf, opCmp, opBi, Mt.one, Mt.two, opBin, opAdd, opMul, own, asSl, frz, opSet, iI, iB, isEmp, maskS, L2.ixN, opLen, opTru, vw, eqD, isScal, isKind, tupleOf, Mt.listOf, seqOf, mkT, mkL, argSl, lents, isOwn, emps, posOf, gbk, giveBack, doCall, arr, slsOf, exTs, exT, putT, putTs, muOk, opMu, okR, itemsOf, plOf, opens_nil, opens_cons, lockAll, unlockAll, lockS, unlockS, isOpen, isTp, inD, isD, opAug, slR, cnD, opIn, wipeS, backS, sqn, PyData.eqv, f5_1, eL]
      have c3 : cutD (vs.map nI) none (some ((vs.length : Int) / 2)) = (vs.take (vs.length / 2)).map nI := by
        have := cutD_take (vs.map nI) (vs.length / 2)
        rw [← List.map_take] at this
        simpa using this
      have c4 : cutD (vs.map nI) (some ((vs.length : Int) / 2 + 1)) none = (vs.drop (vs.length / 2 + 1)).map nI := by
        have := cutD_drop (vs.map nI) (vs.length / 2 + 1)
        rw [← List.map_drop] at this
        simpa using this
      have c5 : atD (vs.map nI) ((vs.length : Int) / 2) = some (nI (vs.getD (vs.length / 2) 0)) := by
        have q1 : (0 : Int) ≤ (vs.length : Int) / 2 := by omega
        have q2 : (vs.length : Int) / 2 < (vs.length : Int) := by omega
        have q3 : ((vs.length : Int) / 2).toNat = vs.length / 2 := by omega
        simp [atD, ixOf, L2.ixN, q1, q2, q3, hh]
      have c2 : exS (sem P (k + 3)) f5_2 [.dat (eB bs), .dat (eL vs), .dat (.int ((vs.length : Int) / 2))] = some (.rt (.dat (eTr bs (mk vs))), [.dat (eB bs), .dat (eL vs), .dat (.int ((vs.length : Int) / 2))]) := by
        simp only [eL] at i1 i2
        simp only [nodeA] at i3
        have n3 : nI (vs.getD (vs.length / 2) 0) = .int ((vs.getD (vs.length / 2) 0 : Nat) : Int) := rfl
        rw [n3] at c5
        generalize vs.getD (vs.length / 2) 0 = v at c5 i3
        simp [SZ, runF, exSs, exS, evE, evEs, evVs, evAs, evK, evAt, evOt, evAnd, evOr, evO, evI, gt, look, looks, opIx, asL, asI, asB, atD, ixOf, opCmp, opBi, Mt.one, Mt.two, opBin, opAdd, opMul, own, asSl, frz, opSet, iI, iB, isEmp, maskS, L2.ixN, opLen, opTru, vw, eqD, isScal, isKind, tupleOf, Mt.listOf, seqOf, mkT, mkL, argSl, lents, isOwn, emps, posOf, gbk, giveBack, doCall, arr, slsOf, exTs, exT, putT, putTs, muOk, opMu, okR, itemsOf, plOf, opens_nil, opens_cons, lockAll, unlockAll, lockS, unlockS, isOpen, isTp, inD, isD, opAug, slR, cnD, opIn, wipeS, backS, sqn, PyData.eqv, -atD, -List.map_take, -List.map_drop, f5_2, eL, opSl, c3, c4, c5, i1, i2, i3]
      simp only [eL] at c0 c1 c2 ⊢
      simp [SZ, runF, exSs, exS, evE, evEs, evVs, evAs, evK, evAt, evOt, evAnd, evOr, evO, evI, gt, look, looks, opIx, asL, asI, asB, atD, ixOf, opCmp, opBi, Mt.one, Mt.two, opBin, opAdd, opMul, own, asSl, frz, opSet, iI, iB, isEmp, maskS, L2.ixN, opLen, opTru, vw, eqD, isScal, isKind, tupleOf, Mt.listOf, seqOf, mkT, mkL, argSl, lents, isOwn, emps, posOf, gbk, giveBack, doCall, arr, slsOf, exTs, exT, putT, putTs, muOk, opMu, okR, itemsOf, plOf, opens_nil, opens_cons, lockAll, unlockAll, lockS, unlockS, isOpen, isTp, inD, isD, opAug, slR, cnD, opIn, wipeS, backS, sqn, PyData.eqv, f5, c0, c1, c2]
end Mk20

set_option Elab.async false
set_option linter.all false
set_option maxRecDepth 100000
set_option maxHeartbeats 8000000
namespace Mk20
open Mt PySem
theorem s6 (k : Nat) (args : List Sl) : sem P (k + 1) 6 args = runF (sem P k) f6 args := rfl
theorem s7 (k : Nat) (args : List Sl) : sem P (k + 1) 7 args = runF (sem P k) f7 args := rfl
theorem s8 (k : Nat) (args : List Sl) : sem P (k + 1) 8 args = runF (sem P k) f8 args := rfl
theorem s9 (k : Nat) (args : List Sl) : sem P (k + 1) 9 args = runF (sem P k) f9 args := rfl
theorem s10 (k : Nat) (args : List Sl) : sem P (k + 1) 10 args = runF (sem P k) f10 args := rfl
theorem s11 (k : Nat) (args : List Sl) : sem P (k + 1) 11 args = runF (sem P k) f11 args := rfl
/-! ### a tree's row -/
abbrev c6 : E := .ot [(.cmp .isNot (.v 0) (.c .none)), (.cmp .gt (.bi .len [(.v 2)]) (.c (.int 0)))]
theorem step6a (cl : Call) (bs : List F3) (l r : Tr) (v : Nat) (fs ls : List D) (h : ls.length < 16777216) : whStep cl c6 f6_1_l [.dat (eTr bs (.node l v r)), .lst false fs, .lst false ls] = some (.inl [.dat (eTr bs l), .lst false fs, .lst false (ls ++ [eTr bs (.node l v r)])]) := by
  simp [SZ, runF, exSs, exS, evE, evEs, evVs, evAs, evK, evAt, evOt, evAnd, evOr, evO, evI, gt, look, looks, opIx, asL, asI, asB, atD, ixOf, opCmp, opBi, Mt.one, Mt.two, opBin, opAdd, opMul, own, asSl, frz, opSet, iI, iB, isEmp, maskS, L2.ixN, opLen, opTru, vw, eqD, isScal, isKind, tupleOf, Mt.listOf, seqOf, mkT, mkL, argSl, lents, isOwn, emps, posOf, gbk, giveBack, doCall, arr, slsOf, exTs, exT, putT, putTs, muOk, opMu, okR, itemsOf, plOf, opens_nil, opens_cons, lockAll, unlockAll, lockS, unlockS, isOpen, isTp, inD, isD, opAug, slR, cnD, opIn, wipeS, backS, sqn, PyData.eqv, whStep, c6, f6_1_l, f6_1a0, f6_1a0a0, f6_1a0a1, eTr, h]
theorem step6b (cl : Call) (bs : List F3) (l r : Tr) (v : Nat) (fs ls : List D) (h : fs.length < 16777216) : whStep cl c6 f6_1_l [.dat .none, .lst false fs, .lst false (ls ++ [eTr bs (.node l v r)])] = some (.inl [.dat (eTr bs r), .lst false (fs ++ [nI v]), .lst false ls]) := by
  have hp : (0 : Int) < (ls.length : Int) + 1 := by omega
  simp [SZ, runF, exSs, exS, evE, evEs, evVs, evAs, evK, evAt, evOt, evAnd, evOr, evO, evI, gt, look, looks, opIx, asL, asI, asB, atD, ixOf, opCmp, opBi, Mt.one, Mt.two, opBin, opAdd, opMul, own, asSl, frz, opSet, iI, iB, isEmp, maskS, L2.ixN, opLen, opTru, vw, eqD, isScal, isKind, tupleOf, Mt.listOf, seqOf, mkT, mkL, argSl, lents, isOwn, emps, posOf, gbk, giveBack, doCall, arr, slsOf, exTs, exT, putT, putTs, muOk, opMu, okR, itemsOf, plOf, opens_nil, opens_cons, lockAll, unlockAll, lockS, unlockS, isOpen, isTp, inD, isD, opAug, slR, cnD, opIn, wipeS, backS, sqn, PyData.eqv, whStep, c6, f6_1_l, f6_1a0, f6_1a0b0, f6_1a0b1, f6_1a0b2, eTr, h, hp, nI]
theorem step6c (cl : Call) (fs : List D) : whStep cl c6 f6_1_l [.dat .none, .lst false fs, .lst false []] = some (.inr (.nx, [.dat .none, .lst false fs, .lst false []])) := by
  simp [SZ, runF, exSs, exS, evE, evEs, evVs, evAs, evK, evAt, evOt, evAnd, evOr, evO, evI, gt, look, looks, opIx, asL, asI, asB, atD, ixOf, opCmp, opBi, Mt.one, Mt.two, opBin, opAdd, opMul, own, asSl, frz, opSet, iI, iB, isEmp, maskS, L2.ixN, opLen, opTru, vw, eqD, isScal, isKind, tupleOf, Mt.listOf, seqOf, mkT, mkL, argSl, lents, isOwn, emps, posOf, gbk, giveBack, doCall, arr, slsOf, exTs, exT, putT, putTs, muOk, opMu, okR, itemsOf, plOf, opens_nil, opens_cons, lockAll, unlockAll, lockS, unlockS, isOpen, isTp, inD, isD, opAug, slR, cnD, opIn, wipeS, backS, sqn, PyData.eqv, whStep, c6]
theorem walk6 (cl : Call) (bs : List F3) : ∀ (t : Tr) (fs : List Nat) (ls : List D), fs.length + size t ≤ 1000000 → ls.length + size t ≤ 1000000 →
    loopF (whStep cl c6 f6_1_l) [.dat (eTr bs t), .lst false (fs.map nI), .lst false ls] = loopF (whStep cl c6 f6_1_l) [.dat .none, .lst false ((fs ++ row t).map nI), .lst false ls]
  | .nil, fs, ls, _, _ => by simp [eTr, row]
  | .node l v r, fs, ls, h1, h2 => by
    have sn := size_node l r v
    rw [loopF_eq, step6a _ _ _ _ _ _ _ (by omega)]
    simp only []
    rw [walk6 cl bs l fs _ (by omega) (by rw [List.length_append, List.length_singleton]; omega)]
    have hl : (row l).length = size l := rfl
    rw [loopF_eq, step6b _ _ _ _ _ _ _ (by rw [List.length_map, List.length_append]; omega)]
    simp only []
    have := walk6 cl bs r (fs ++ row l ++ [v]) ls (by simp only [List.length_append, List.length_singleton]; omega) (by omega)
    simp only [List.map_append, List.map_cons, List.map_nil, row, List.append_assoc, List.singleton_append] at this ⊢
    exact this
theorem row_ok6 (k : Nat) (bs : List F3) (t : Tr) (h : size t ≤ 1000000) : ∃ T, sem P (k + 1) 6 [.dat (eTr bs t)] = some (.dat (eL (row t)), [T]) := by
  rw [s6]
  have e := walk6 (sem P k) bs t [] [] (by simpa using h) (by simpa using h)
  have e9 := loopF_eq (whStep (sem P k) c6 f6_1_l) [.dat .none, .lst false (List.map nI ([] ++ row t)), .lst false []]
  rw [step6c] at e9
  rw [e9] at e
  have e1 : exS (sem P k) f6_1 [.dat (eTr bs t), .lst false [], .lst false []] = some (.nx, [.dat .none, .lst false ((row t).map nI), .lst false []]) := by
    show exS (sem P k) (.whl c6 f6_1_l) _ = _
    rw [wh_eq]
    simpa using e
  simp [SZ, runF, exSs, exS, evE, evEs, evVs, evAs, evK, evAt, evOt, evAnd, evOr, evO, evI, gt, look, looks, opIx, asL, asI, asB, atD, ixOf, opCmp, opBi, Mt.one, Mt.two, opBin, opAdd, opMul, own, asSl, frz, opSet, iI, iB, isEmp, maskS, L2.ixN, opLen, opTru, vw, eqD, isScal, isKind, tupleOf, Mt.listOf, seqOf, mkT, mkL, argSl, lents, isOwn, emps, posOf, gbk, giveBack, doCall, arr, slsOf, exTs, exT, putT, putTs, muOk, opMu, okR, itemsOf, plOf, opens_nil, opens_cons, lockAll, unlockAll, lockS, unlockS, isOpen, isTp, inD, isD, opAug, slR, cnD, opIn, wipeS, backS, sqn, PyData.eqv, f6, f6_0, f6_2, e1, eL]
/-! ### levelled trees -/
def fair (l r : Nat) : Prop := max (l + 1) (r + 1) * 4 ≤ 3 * (l + 1 + r + 1)
instance (l r : Nat) : Decidable (fair l r) := by unfold fair; exact inferInstance
def Bal : Tr → Prop
  | .nil => True
  | .node l _ r => fair (size l) (size r) ∧ Bal l ∧ Bal r
def level : Tr → Tr
  | .nil => .nil
  | .node l v r => if fair (size l) (size r) then .node l v r else mk (row (.node l v r))
theorem level_node (l r : Tr) (v : Nat) : level (.node l v r) = if fair (size l) (size r) then .node l v r else mk (row (.node l v r)) := rfl
theorem bal_mk (n : Nat) : ∀ vs : List Nat, vs.length ≤ n → Bal (mk vs) := by
  induction n with
  | zero =>
    intro vs h
    have : vs = [] := List.length_eq_zero_iff.mp (Nat.le_zero.mp h)
    subst this
    rw [mk_nil]; trivial
  | succ n ih =>
    intro vs h
    by_cases hv : vs = []
    · subst hv; rw [mk_nil]; trivial
    · have hp : 0 < vs.length := List.length_pos_iff.mpr hv
      rw [mk_ne hv]
      refine ⟨?_, ih _ (by rw [List.length_take]; omega), ih _ (by rw [List.length_drop]; omega)⟩
      unfold size
      rw [row_mk _ _ (Nat.le_refl _), row_mk _ _ (Nat.le_refl _), List.length_take, List.length_drop]
      unfold fair
      omega
theorem row_level (t : Tr) : row (level t) = row t := by
  cases t with
  | nil => rfl
  | node l v r =>
    rw [level_node]
    split
    · rfl
    · exact row_mk _ _ (Nat.le_refl _)
theorem bal_level (l r : Tr) (v : Nat) (hl : Bal l) (hr : Bal r) : Bal (level (.node l v r)) := by
  rw [level_node]
  split
  · rename_i h; exact ⟨h, hl, hr⟩
  · exact bal_mk _ _ (Nat.le_refl _)
theorem eTr_node (bs : List F3) (l r : Tr) (v : Nat) : eTr bs (.node l v r) = .tuple [eTr bs l, .int v, eTr bs r, .int ((size l : Int) + 1 + size r), eT (tb (prodL bs (row (.node l v r))))] := by
  rw [eTr, size_node]
  simp
theorem level_ok (k n : Nat) (bs : List F3) (l r : Tr) (v : Nat) (hn : size (.node l v r) ≤ n) (hk : n + 5 ≤ k) (hv : Ok bs (row (.node l v r))) (hs : n ≤ 1000) : ∃ T, sem P k 7 [.dat (eB bs), .dat (eTr bs (.node l v r))] = some (.dat (eTr bs (level (.node l v r))), [.dat (eB bs), T]) := by
  obtain ⟨k, rfl⟩ : ∃ j, k = j + 2 := ⟨k - 2, by omega⟩
  have z1 := size_ok k bs l
  have z2 := size_ok k bs r
  have sn := size_node l r v
  rw [s7]
  have c0 : exS (sem P (k + 1)) f7_0 [.dat (eB bs), .dat (eTr bs (.node l v r)), .emp] = some (.nx, [.dat (eB bs), .dat (eTr bs (.node l v r)), .dat (.tuple [.int ((size l : Int) + 1), .int ((size r : Int) + 1)])]) := by
    simp [SZ, runF, exSs, exS, evE, evEs, evVs, evAs, evK, evAt, evOt, evAnd, evOr, evO, evI, gt, look, looks, opIx, asL, asI, asB, atD, ixOf, opCmp, opBi, Mt.one, Mt.two, opBin, opAdd, opMul, own, asSl, frz, opSet, iI, iB, isEmp, maskS, L2.ixN, opLen, opTru, vw, eqD, isScal, isKind, tupleOf, Mt.listOf, seqOf, mkT, mkL, argSl, lents, isOwn, emps, posOf, gbk, giveBack, doCall, arr, slsOf, exTs, exT, putT, putTs, muOk, opMu, okR, itemsOf, plOf, opens_nil, opens_cons, lockAll, unlockAll, lockS, unlockS, isOpen, isTp, inD, isD, opAug, slR, cnD, opIn, wipeS, backS, sqn, PyData.eqv, f7_0, eTr, z1, z2]
  by_cases hf : fair (size l) (size r)
  · have c1 : exS (sem P (k + 1)) f7_1 [.dat (eB bs), .dat (eTr bs (.node l v r)), .dat (.tuple [.int ((size l : Int) + 1), .int ((size r : Int) + 1)])] = some (.rt (.dat (eTr bs (.node l v r))), [.dat (eB bs), .dat (eTr bs (.node l v r)), .dat (.tuple [.int ((size l : Int) + 1), .int ((size r : Int) + 1)])]) := by
      have hf' := hf
      unfold fair at hf'
      have q : (if (size l : Int) + 1 < (size r : Int) + 1 then (size r : Int) + 1 else (size l : Int) + 1) * (3 + 1) ≤ 3 * ((size l : Int) + 1 + size r + 1) := by split <;> omega
      rw [eTr_node]
      simp at q
      simp [SZ, runF, exSs, exS, evE, evEs, evVs, evAs, evK, evAt, evOt, evAnd, evOr, evO, evI, gt, look, looks, opIx, asL, asI, asB, atD, ixOf, opCmp, opBi, Mt.one, Mt.two, opBin, opAdd, opMul, own, asSl, frz, opSet, iI, iB, isEmp, maskS, L2.ixN, opLen, opTru, vw, eqD, isScal, isKind, tupleOf, Mt.listOf, seqOf, mkT, mkL, argSl, lents, isOwn, emps, posOf, gbk, giveBack, doCall, arr, slsOf, exTs, exT, putT, putTs, muOk, opMu, okR, itemsOf, plOf, opens_nil, opens_cons, lockAll, unlockAll, lockS, unlockS, isOpen, isTp, inD, isD, opAug, slR, cnD, opIn, wipeS, backS, sqn, PyData.eqv, f7_1, f7_1a0, intsD, mostI, q]
    have e : level (.node l v r) = .node l v r := by rw [level_node, if_pos hf]
    rw [e]
    simp [SZ, runF, exSs, exS, evE, evEs, evVs, evAs, evK, evAt, evOt, evAnd, evOr, evO, evI, gt, look, looks, opIx, asL, asI, asB, atD, ixOf, opCmp, opBi, Mt.one, Mt.two, opBin, opAdd, opMul, own, asSl, frz, opSet, iI, iB, isEmp, maskS, L2.ixN, opLen, opTru, vw, eqD, isScal, isKind, tupleOf, Mt.listOf, seqOf, mkT, mkL, argSl, lents, isOwn, emps, posOf, gbk, giveBack, doCall, arr, slsOf, exTs, exT, putT, putTs, muOk, opMu, okR, itemsOf, plOf, opens_nil, opens_cons, lockAll, unlockAll, lockS, unlockS, isOpen, isTp, inD, isD, opAug, slR, cnD, opIn, wipeS, backS, sqn, PyData.eqv, f7, c0, c1]
  · have c1 : exS (sem P (k + 1)) f7_1 [.dat (eB bs), .dat (eTr bs (.node l v r)), .dat (.tuple [.int ((size l : Int) + 1), .int ((size r : Int) + 1)])] = some (.nx, [.dat (eB bs), .dat (eTr bs (.node l v r)), .dat (.tuple [.int ((size l : Int) + 1), .int ((size r : Int) + 1)])]) := by
      have hf' := hf
      unfold fair at hf'
      have q : ¬ ((if size l < size r then (size r : Int) + 1 else (size l : Int) + 1) * 4 ≤ 3 * ((size l : Int) + 1 + size r + 1)) := by split <;> omega
      rw [eTr_node]
      simp [SZ, runF, exSs, exS, evE, evEs, evVs, evAs, evK, evAt, evOt, evAnd, evOr, evO, evI, gt, look, looks, opIx, asL, asI, asB, atD, ixOf, opCmp, opBi, Mt.one, Mt.two, opBin, opAdd, opMul, own, asSl, frz, opSet, iI, iB, isEmp, maskS, L2.ixN, opLen, opTru, vw, eqD, isScal, isKind, tupleOf, Mt.listOf, seqOf, mkT, mkL, argSl, lents, isOwn, emps, posOf, gbk, giveBack, doCall, arr, slsOf, exTs, exT, putT, putTs, muOk, opMu, okR, itemsOf, plOf, opens_nil, opens_cons, lockAll, unlockAll, lockS, unlockS, isOpen, isTp, inD, isD, opAug, slR, cnD, opIn, wipeS, backS, sqn, PyData.eqv, f7_1, f7_1a0, intsD, mostI, q]
    have e : level (.node l v r) = mk (row (.node l v r)) := by rw [level_node, if_neg hf]
    obtain ⟨T6, r1⟩ := row_ok6 k bs (.node l v r) (by omega)
    have t1 := tree_ok bs n (k + 1) (row (.node l v r)) hn (by omega) hv (by unfold size at hn; omega)
    rw [e]
    generalize eTr bs (.node l v r) = T at *
    simp [SZ, runF, exSs, exS, evE, evEs, evVs, evAs, evK, evAt, evOt, evAnd, evOr, evO, evI, gt, look, looks, opIx, asL, asI, asB, atD, ixOf, opCmp, opBi, Mt.one, Mt.two, opBin, opAdd, opMul, own, asSl, frz, opSet, iI, iB, isEmp, maskS, L2.ixN, opLen, opTru, vw, eqD, isScal, isKind, tupleOf, Mt.listOf, seqOf, mkT, mkL, argSl, lents, isOwn, emps, posOf, gbk, giveBack, doCall, arr, slsOf, exTs, exT, putT, putTs, muOk, opMu, okR, itemsOf, plOf, opens_nil, opens_cons, lockAll, unlockAll, lockS, unlockS, isOpen, isTp, inD, isD, opAug, slR, cnD, opIn, wipeS, backS, sqn, PyData.eqv, f7, c0, c1, f7_2, r1, t1]
/-! ### edits -/
def put : Tr → Nat → Nat → Tr
  | .nil, _, n => .node .nil n .nil
  | .node l v r, i, n => if i ≤ size l then level (.node (put l i n) v r) else level (.node l v (put r (i - size l - 1) n))
theorem row_put : ∀ (t : Tr) (i n : Nat), i ≤ size t → row (put t i n) = (row t).take i ++ [n] ++ (row t).drop i
  | .nil, i, n, h => by
    have : i = 0 := by simpa [size, row] using h
    subst this
    rfl
  | .node l v r, i, n, h => by
    have sn := size_node l r v
    have hl : (row l).length = size l := rfl
    by_cases hi : i ≤ size l
    · rw [put, if_pos hi, row_level, row, row_put l i n hi, row]
      rw [List.append_assoc (row l), List.take_append_of_le_length hi, List.drop_append_of_le_length hi]
      simp
    · rw [put, if_neg hi, row_level, row, row_put r _ n (by omega), row]
      obtain ⟨j, rfl⟩ : ∃ j, i = size l + 1 + j := ⟨i - size l - 1, by omega⟩
      have e : size l + 1 + j - size l - 1 = j := by omega
      rw [e]
      have e2 : size l + 1 + j = (row l ++ [v]).length + j := by simp [size]
      rw [e2, List.take_length_add_append, List.drop_length_add_append]
      simp
theorem bal_put : ∀ (t : Tr) (i n : Nat), Bal t → Bal (put t i n)
  | .nil, _, _, _ => ⟨by unfold fair size row; decide, trivial, trivial⟩
  | .node l v r, i, n, ⟨_, hl, hr⟩ => by
    rw [put]
    split
    · exact bal_level _ _ _ (bal_put l i n hl) hr
    · exact bal_level _ _ _ hl (bal_put r _ n hr)
theorem cut3 (a b c d e : D) : cutD [a, b, c, d, e] none (some 3) = [a, b, c] := rfl
theorem ok_put {bs : List F3} {t : Tr} {i n : Nat} (hi : i ≤ size t) (ht : Ok bs (row t)) (hn : n < bs.length) : Ok bs (row (put t i n)) := by
  rw [row_put t i n hi]
  intro v hv
  rw [List.mem_append, List.mem_append, List.mem_singleton] at hv
  rcases hv with (hv | rfl) | hv
  · exact ht v (List.mem_of_mem_take hv)
  · exact hn
  · exact ht v (List.mem_of_mem_drop hv)
theorem size_put {t : Tr} {i n : Nat} (hi : i ≤ size t) : size (put t i n) = size t + 1 := by
  unfold size at *
  rw [row_put t i n hi]
  simp only [List.length_append, List.length_take, List.length_drop, List.length_singleton]
  omega
theorem ok_node {bs : List F3} {l r : Tr} {v : Nat} : Ok bs (row (.node l v r)) ↔ Ok bs (row l) ∧ v < bs.length ∧ Ok bs (row r) := by
  constructor
  · intro h
    exact ⟨fun x hx => h x (by simp [row, hx]), h v (by simp [row]), fun x hx => h x (by simp [row, hx])⟩
  · rintro ⟨h1, h2, h3⟩ x hx
    simp only [row, List.mem_append, List.mem_singleton] at hx
    rcases hx with (hx | rfl) | hx
    · exact h1 x hx
    · exact h2
    · exact h3 x hx
theorem put_ok (N : Nat) (hN : N ≤ 1000) (bs : List F3) : ∀ (t : Tr) (k i n : Nat), i ≤ size t → size t + 1 ≤ N → size t + N + 10 ≤ k → Ok bs (row t) → n < bs.length →
    sem P k 8 [.dat (eB bs), .dat (eTr bs t), .dat (.int i), .dat (.int n)] = some (.dat (eTr bs (put t i n)), [.dat (eB bs), .dat (eTr bs t), .dat (.int i), .dat (.int n)])
  | .nil, k, i, n, hi, hs, hk, ht, hn => by
    obtain ⟨k, rfl⟩ : ∃ j, k = j + 4 := ⟨k - 4, by omega⟩
    have nd := node_ok k bs .nil .nil n hn
    rw [s8]
    show _ = some (R.dat (eTr bs (.node .nil n .nil)), _)
    have e : eTr bs .nil = .none := rfl
    generalize eTr bs (.node .nil n .nil) = T at nd ⊢
    simp only [nodeA, e] at nd ⊢
    simp [SZ, runF, exSs, exS, evE, evEs, evVs, evAs, evK, evAt, evOt, evAnd, evOr, evO, evI, gt, look, looks, opIx, asL, asI, asB, atD, ixOf, opCmp, opBi, Mt.one, Mt.two, opBin, opAdd, opMul, own, asSl, frz, opSet, iI, iB, isEmp, maskS, L2.ixN, opLen, opTru, vw, eqD, isScal, isKind, tupleOf, Mt.listOf, seqOf, mkT, mkL, argSl, lents, isOwn, emps, posOf, gbk, giveBack, doCall, arr, slsOf, exTs, exT, putT, putTs, muOk, opMu, okR, itemsOf, plOf, opens_nil, opens_cons, lockAll, unlockAll, lockS, unlockS, isOpen, isTp, inD, isD, opAug, slR, cnD, opIn, wipeS, backS, sqn, PyData.eqv, f8, f8_0, f8_0a0, nd]
  | .node l v r, k, i, n, hi, hs, hk, ht, hn => by
    obtain ⟨k, rfl⟩ : ∃ j, k = j + 4 := ⟨k - 4, by omega⟩
    have sn := size_node l r v
    obtain ⟨ol, ov, or⟩ := ok_node.mp ht
    have zl := size_ok (k + 2) bs l
    rw [s8]
    by_cases h : i ≤ size l
    · have ih := put_ok N hN bs l (k + 3) i n h (by omega) (by omega) ol hn
      have nd := node_ok k bs (put l i n) r v ov
      have sp := size_put (n := n) h
      obtain ⟨T, lv⟩ := level_ok (k + 3) N bs (put l i n) r v (by rw [size_node]; omega) (by omega) (ok_node.mpr ⟨ok_put h ol hn, ov, or⟩) hN
      rw [put, if_pos h]
      generalize eTr bs (level (.node (put l i n) v r)) = Z at lv ⊢
      generalize eTr bs (.node (put l i n) v r) = Y at lv nd
      rw [eTr_node]
      have h' : (i : Int) ≤ (size l : Int) := by omega
      simp [SZ, runF, exSs, exS, evE, evEs, evVs, evAs, evK, evAt, evOt, evAnd, evOr, evO, evI, gt, look, looks, opIx, asL, asI, asB, atD, ixOf, opCmp, opBi, Mt.one, Mt.two, opBin, opAdd, opMul, own, asSl, frz, opSet, iI, iB, isEmp, maskS, L2.ixN, opLen, opTru, vw, eqD, isScal, isKind, tupleOf, Mt.listOf, seqOf, mkT, mkL, argSl, lents, isOwn, emps, posOf, gbk, giveBack, doCall, arr, slsOf, exTs, exT, putT, putTs, muOk, opMu, okR, itemsOf, plOf, opens_nil, opens_cons, lockAll, unlockAll, lockS, unlockS, isOpen, isTp, inD, isD, opAug, slR, cnD, opIn, wipeS, backS, sqn, PyData.eqv, f8, f8_0, f8_1, opSl, cut3, f8_2, f8_2a0, zl, h', ih, nd, lv]
    · have ih := put_ok N hN bs r (k + 3) (i - size l - 1) n (by omega) (by omega) (by omega) or hn
      have nd := node_ok k bs l (put r (i - size l - 1) n) v ov
      have sp := size_put (t := r) (i := i - size l - 1) (n := n) (by omega)
      obtain ⟨T, lv⟩ := level_ok (k + 3) N bs l (put r (i - size l - 1) n) v (by rw [size_node]; omega) (by omega) (ok_node.mpr ⟨ol, ov, ok_put (by omega) or hn⟩) hN
      rw [put, if_neg h]
      generalize eTr bs (level (.node l v (put r (i - size l - 1) n))) = Z at lv ⊢
      generalize eTr bs (.node l v (put r (i - size l - 1) n)) = Y at lv nd
      rw [eTr_node]
      have h' : ¬ (i : Int) ≤ (size l : Int) := by omega
      have e : ((i - size l - 1 : Nat) : Int) = (i : Int) - (size l : Int) - 1 := by omega
      rw [e] at ih
      simp [SZ, runF, exSs, exS, evE, evEs, evVs, evAs, evK, evAt, evOt, evAnd, evOr, evO, evI, gt, look, looks, opIx, asL, asI, asB, atD, ixOf, opCmp, opBi, Mt.one, Mt.two, opBin, opAdd, opMul, own, asSl, frz, opSet, iI, iB, isEmp, maskS, L2.ixN, opLen, opTru, vw, eqD, isScal, isKind, tupleOf, Mt.listOf, seqOf, mkT, mkL, argSl, lents, isOwn, emps, posOf, gbk, giveBack, doCall, arr, slsOf, exTs, exT, putT, putTs, muOk, opMu, okR, itemsOf, plOf, opens_nil, opens_cons, lockAll, unlockAll, lockS, unlockS, isOpen, isTp, inD, isD, opAug, slR, cnD, opIn, wipeS, backS, sqn, PyData.eqv, f8, f8_0, f8_1, opSl, cut3, f8_2, f8_3, f8_4, zl, h', ih, nd, lv]
def isN : Tr → Bool
  | .nil => true
  | _ => false
theorem isN_row {t : Tr} (h : isN t = true) : t = .nil := by cases t <;> simp_all [isN]
def out : Tr → Nat → Tr
  | .nil, _ => .nil
  | .node l v r, i => if i < size l then level (.node (out l i) v r) else if size l < i then level (.node l v (out r (i - size l - 1))) else
    if isN l then r else if isN r then l else level (.node l ((row r).getD 0 0) (out r 0))
def turn : Tr → Nat → Nat → Tr
  | .nil, _, _ => .nil
  | .node l v r, i, n => if i < size l then .node (turn l i n) v r else if size l < i then .node l v (turn r (i - size l - 1) n) else .node l n r
theorem row_turn : ∀ (t : Tr) (i n : Nat), i < size t → row (turn t i n) = (row t).take i ++ [n] ++ (row t).drop (i + 1)
  | .nil, i, n, h => by simp [size, row] at h
  | .node l v r, i, n, h => by
    have sn := size_node l r v
    have hl : (row l).length = size l := rfl
    rw [turn]
    by_cases h1 : i < size l
    · rw [if_pos h1, row, row_turn l i n h1, row, List.append_assoc (row l), List.take_append_of_le_length (by omega), List.drop_append_of_le_length (by omega)]
      simp
    · rw [if_neg h1]
      by_cases h2 : size l < i
      · rw [if_pos h2, row, row_turn r _ n (by omega), row]
        obtain ⟨j, rfl⟩ : ∃ j, i = size l + 1 + j := ⟨i - size l - 1, by omega⟩
        have e : size l + 1 + j - size l - 1 = j := by omega
        have e2 : size l + 1 + j = (row l ++ [v]).length + j := by simp [size]
        rw [e, e2, List.take_length_add_append, Nat.add_assoc, List.drop_length_add_append]
        simp
      · rw [if_neg h2]
        have e : i = (row l).length := by omega
        subst e
        simp [row]
theorem size_turn {t : Tr} {i n : Nat} (h : i < size t) : size (turn t i n) = size t := by
  unfold size at *
  rw [row_turn t i n h]
  simp only [List.length_append, List.length_take, List.length_drop, List.length_singleton]
  omega
theorem bal_turn : ∀ (t : Tr) (i n : Nat), i < size t → Bal t → Bal (turn t i n)
  | .nil, _, _, _, _ => trivial
  | .node l v r, i, n, h, ⟨h0, hl, hr⟩ => by
    have sn := size_node l r v
    rw [turn]
    split
    · rename_i h1
      exact ⟨by rw [size_turn h1]; exact h0, bal_turn l i n h1 hl, hr⟩
    · split
      · have h3 : i - size l - 1 < size r := by omega
        exact ⟨by rw [size_turn h3]; exact h0, hl, bal_turn r _ n h3 hr⟩
      · exact ⟨h0, hl, hr⟩
theorem row_out : ∀ (t : Tr) (i : Nat), i < size t → row (out t i) = (row t).take i ++ (row t).drop (i + 1)
  | .nil, i, h => by simp [size, row] at h
  | .node l v r, i, h => by
    have sn := size_node l r v
    have hl : (row l).length = size l := rfl
    rw [out]
    by_cases h1 : i < size l
    · rw [if_pos h1, row_level, row, row_out l i h1, row, List.append_assoc (row l), List.take_append_of_le_length (by omega), List.drop_append_of_le_length (by omega)]
      simp
    · rw [if_neg h1]
      by_cases h2 : size l < i
      · rw [if_pos h2, row_level, row, row_out r _ (by omega), row]
        obtain ⟨j, rfl⟩ : ∃ j, i = size l + 1 + j := ⟨i - size l - 1, by omega⟩
        have e : size l + 1 + j - size l - 1 = j := by omega
        have e2 : size l + 1 + j = (row l ++ [v]).length + j := by simp [size]
        rw [e, e2, List.take_length_add_append, Nat.add_assoc, List.drop_length_add_append]
        simp
      · rw [if_neg h2]
        have e : i = (row l).length := by omega
        subst e
        split
        · rename_i q
          rw [isN_row q]
          simp [row]
        · split
          · rename_i q
            rw [isN_row q]
            simp [row]
          rename_i _ hr2
          have hr0 : 0 < size r := by
            cases r with
            | nil => exact absurd rfl hr2
            | node a b c => rw [size_node]; omega
          rw [row_level, row, row_out r 0 hr0]
          have : (row r).getD 0 0 :: (row r).drop 1 = row r := by
            cases hq : row r with
            | nil => unfold size at hr0; rw [hq] at hr0; simp at hr0
            | cons a b => rfl
          simp [row]
          simpa using this
theorem bal_out : ∀ (t : Tr) (i : Nat), Bal t → Bal (out t i)
  | .nil, _, _ => trivial
  | .node l v r, i, ⟨_, hl, hr⟩ => by
    rw [out]
    split
    · exact bal_level _ _ _ (bal_out l i hl) hr
    · split
      · exact bal_level _ _ _ hl (bal_out r _ hr)
      · split
        · exact hr
        · split
          · exact hl
          · exact bal_level _ _ _ hl (bal_out r 0 hr)
end Mk20

set_option Elab.async false
set_option linter.all false
set_option maxRecDepth 100000
set_option maxHeartbeats 8000000
namespace Mk20
open Mt PySem
theorem ok_turn {bs : List F3} {t : Tr} {i n : Nat} (hi : i < size t) (ht : Ok bs (row t)) (hn : n < bs.length) : Ok bs (row (turn t i n)) := by
  rw [row_turn t i n hi]
  intro v hv
  rw [List.mem_append, List.mem_append, List.mem_singleton] at hv
  rcases hv with (hv | rfl) | hv
  · exact ht v (List.mem_of_mem_take hv)
  · exact hn
  · exact ht v (List.mem_of_mem_drop hv)
theorem ok_out {bs : List F3} {t : Tr} {i : Nat} (hi : i < size t) (ht : Ok bs (row t)) : Ok bs (row (out t i)) := by
  rw [row_out t i hi]
  intro v hv
  rw [List.mem_append] at hv
  rcases hv with hv | hv
  · exact ht v (List.mem_of_mem_take hv)
  · exact ht v (List.mem_of_mem_drop hv)
theorem size_out {t : Tr} {i : Nat} (hi : i < size t) : size (out t i) = size t - 1 := by
  unfold size at *
  rw [row_out t i hi]
  simp only [List.length_append, List.length_take, List.length_drop]
  omega
theorem turn_okk (bs : List F3) : ∀ (t : Tr) (k i n : Nat), i < size t → size t + 10 ≤ k → Ok bs (row t) → n < bs.length →
    sem P k 10 [.dat (eB bs), .dat (eTr bs t), .dat (.int i), .dat (.int n)] = some (.dat (eTr bs (turn t i n)), [.dat (eB bs), .dat (eTr bs t), .dat (.int i), .dat (.int n)])
  | .nil, k, i, n, hi, hk, ht, hn => by simp [size, row] at hi
  | .node l v r, k, i, n, hi, hk, ht, hn => by
    obtain ⟨k, rfl⟩ : ∃ j, k = j + 4 := ⟨k - 4, by omega⟩
    have sn := size_node l r v
    obtain ⟨ol, ov, or⟩ := ok_node.mp ht
    have zl := size_ok (k + 2) bs l
    rw [s10, turn]
    by_cases h : i < size l
    · have ih := turn_okk bs l (k + 3) i n h (by omega) ol hn
      have nd := node_ok k bs (turn l i n) r v ov
      rw [if_pos h]
      generalize eTr bs (.node (turn l i n) v r) = Y at nd ⊢
      rw [eTr_node]
      have h' : (i : Int) < (size l : Int) := by omega
      simp [SZ, runF, exSs, exS, evE, evEs, evVs, evAs, evK, evAt, evOt, evAnd, evOr, evO, evI, gt, look, looks, opIx, asL, asI, asB, atD, ixOf, opCmp, opBi, Mt.one, Mt.two, opBin, opAdd, opMul, own, asSl, frz, opSet, iI, iB, isEmp, maskS, L2.ixN, opLen, opTru, vw, eqD, isScal, isKind, tupleOf, Mt.listOf, seqOf, mkT, mkL, argSl, lents, isOwn, emps, posOf, gbk, giveBack, doCall, arr, slsOf, exTs, exT, putT, putTs, muOk, opMu, okR, itemsOf, plOf, opens_nil, opens_cons, lockAll, unlockAll, lockS, unlockS, isOpen, isTp, inD, isD, opAug, slR, cnD, opIn, wipeS, backS, sqn, PyData.eqv, f10, f10_0, f10_1, opSl, cut3, f10_2, f10_2a0, zl, h', h, ih, nd]
    · by_cases h2 : size l < i
      · have ih := turn_okk bs r (k + 3) (i - size l - 1) n (by omega) (by omega) or hn
        have nd := node_ok k bs l (turn r (i - size l - 1) n) v ov
        rw [if_neg h, if_pos h2]
        generalize eTr bs (.node l v (turn r (i - size l - 1) n)) = Y at nd ⊢
        rw [eTr_node]
        have e : ((i - size l - 1 : Nat) : Int) = (i : Int) - (size l : Int) - 1 := by omega
        rw [e] at ih
        simp [SZ, runF, exSs, exS, evE, evEs, evVs, evAs, evK, evAt, evOt, evAnd, evOr, evO, evI, gt, look, looks, opIx, asL, asI, asB, atD, ixOf, opCmp, opBi, Mt.one, Mt.two, opBin, opAdd, opMul, own, asSl, frz, opSet, iI, iB, isEmp, maskS, L2.ixN, opLen, opTru, vw, eqD, isScal, isKind, tupleOf, Mt.listOf, seqOf, mkT, mkL, argSl, lents, isOwn, emps, posOf, gbk, giveBack, doCall, arr, slsOf, exTs, exT, putT, putTs, muOk, opMu, okR, itemsOf, plOf, opens_nil, opens_cons, lockAll, unlockAll, lockS, unlockS, isOpen, isTp, inD, isD, opAug, slR, cnD, opIn, wipeS, backS, sqn, PyData.eqv, f10, f10_0, f10_1, opSl, cut3, f10_2, f10_3, f10_3a0, zl, h, h2, ih, nd]
      · have nd := node_ok k bs l r n hn
        rw [if_neg h, if_neg h2]
        generalize eTr bs (.node l n r) = Y at nd ⊢
        rw [eTr_node]
        simp [SZ, runF, exSs, exS, evE, evEs, evVs, evAs, evK, evAt, evOt, evAnd, evOr, evO, evI, gt, look, looks, opIx, asL, asI, asB, atD, ixOf, opCmp, opBi, Mt.one, Mt.two, opBin, opAdd, opMul, own, asSl, frz, opSet, iI, iB, isEmp, maskS, L2.ixN, opLen, opTru, vw, eqD, isScal, isKind, tupleOf, Mt.listOf, seqOf, mkT, mkL, argSl, lents, isOwn, emps, posOf, gbk, giveBack, doCall, arr, slsOf, exTs, exT, putT, putTs, muOk, opMu, okR, itemsOf, plOf, opens_nil, opens_cons, lockAll, unlockAll, lockS, unlockS, isOpen, isTp, inD, isD, opAug, slR, cnD, opIn, wipeS, backS, sqn, PyData.eqv, f10, f10_0, f10_1, opSl, cut3, f10_2, f10_3, f10_4, zl, h, h2, nd]
theorem isD_tr (bs : List F3) (t : Tr) : isD (eTr bs t) .none = some (isN t) := by cases t <;> rfl
theorem out_okk (N : Nat) (hN : N ≤ 1000) (bs : List F3) : ∀ (t : Tr) (k i : Nat), i < size t → size t ≤ N → size t + N + 10 ≤ k → Ok bs (row t) →
    sem P k 9 [.dat (eB bs), .dat (eTr bs t), .dat (.int i)] = some (.dat (eTr bs (out t i)), [.dat (eB bs), .dat (eTr bs t), .dat (.int i)])
  | .nil, k, i, hi, hs, hk, ht => by simp [size, row] at hi
  | .node l v r, k, i, hi, hs, hk, ht => by
    obtain ⟨k, rfl⟩ : ∃ j, k = j + 4 := ⟨k - 4, by omega⟩
    have sn := size_node l r v
    obtain ⟨ol, ov, or⟩ := ok_node.mp ht
    have zl := size_ok (k + 2) bs l
    rw [s9, out]
    by_cases h : i < size l
    · have ih := out_okk N hN bs l (k + 3) i h (by omega) (by omega) ol
      have nd := node_ok k bs (out l i) r v ov
      have sp := size_out h
      obtain ⟨T, lv⟩ := level_ok (k + 3) N bs (out l i) r v (by rw [size_node]; omega) (by omega) (ok_node.mpr ⟨ok_out h ol, ov, or⟩) hN
      rw [if_pos h]
      generalize eTr bs (level (.node (out l i) v r)) = Z at lv ⊢
      generalize eTr bs (.node (out l i) v r) = Y at lv nd
      rw [eTr_node]
      simp [SZ, runF, exSs, exS, evE, evEs, evVs, evAs, evK, evAt, evOt, evAnd, evOr, evO, evI, gt, look, looks, opIx, asL, asI, asB, atD, ixOf, opCmp, opBi, Mt.one, Mt.two, opBin, opAdd, opMul, own, asSl, frz, opSet, iI, iB, isEmp, maskS, L2.ixN, opLen, opTru, vw, eqD, isScal, isKind, tupleOf, Mt.listOf, seqOf, mkT, mkL, argSl, lents, isOwn, emps, posOf, gbk, giveBack, doCall, arr, slsOf, exTs, exT, putT, putTs, muOk, opMu, okR, itemsOf, plOf, opens_nil, opens_cons, lockAll, unlockAll, lockS, unlockS, isOpen, isTp, inD, isD, opAug, slR, cnD, opIn, wipeS, backS, sqn, PyData.eqv, f9, f9_0, f9_1, opSl, cut3, f9_2, f9_2a0, zl, h, ih, nd, lv]
    · by_cases h2 : size l < i
      · have ih := out_okk N hN bs r (k + 3) (i - size l - 1) (by omega) (by omega) (by omega) or
        have nd := node_ok k bs l (out r (i - size l - 1)) v ov
        have sp := size_out (t := r) (i := i - size l - 1) (by omega)
        obtain ⟨T, lv⟩ := level_ok (k + 3) N bs l (out r (i - size l - 1)) v (by rw [size_node]; omega) (by omega) (ok_node.mpr ⟨ol, ov, ok_out (by omega) or⟩) hN
        rw [if_neg h, if_pos h2]
        generalize eTr bs (level (.node l v (out r (i - size l - 1)))) = Z at lv ⊢
        generalize eTr bs (.node l v (out r (i - size l - 1))) = Y at lv nd
        rw [eTr_node]
        have h3 : ((i : Int) == (size l : Int)) = false := by simp; omega
        have e : ((i - size l - 1 : Nat) : Int) = (i : Int) - (size l : Int) - 1 := by omega
        rw [e] at ih
        simp [SZ, runF, exSs, exS, evE, evEs, evVs, evAs, evK, evAt, evOt, evAnd, evOr, evO, evI, gt, look, looks, opIx, asL, asI, asB, atD, ixOf, opCmp, opBi, Mt.one, Mt.two, opBin, opAdd, opMul, own, asSl, frz, opSet, iI, iB, isEmp, maskS, L2.ixN, opLen, opTru, vw, eqD, isScal, isKind, tupleOf, Mt.listOf, seqOf, mkT, mkL, argSl, lents, isOwn, emps, posOf, gbk, giveBack, doCall, arr, slsOf, exTs, exT, putT, putTs, muOk, opMu, okR, itemsOf, plOf, opens_nil, opens_cons, lockAll, unlockAll, lockS, unlockS, isOpen, isTp, inD, isD, opAug, slR, cnD, opIn, wipeS, backS, sqn, PyData.eqv, f9, f9_0, f9_1, opSl, cut3, f9_2, f9_3, f9_4, f9_5, f9_6, zl, h, h2, h3, ih, nd, lv]
      · have ei : i = size l := by omega
        subst ei
        rw [if_neg h, if_neg h2]
        have dl := isD_tr bs l
        have dr := isD_tr bs r
        cases hl : isN l with
        | true =>
          rw [hl] at dl
          rw [eTr_node]
          simp [SZ, runF, exSs, exS, evE, evEs, evVs, evAs, evK, evAt, evOt, evAnd, evOr, evO, evI, gt, look, looks, opIx, asL, asI, asB, atD, ixOf, opCmp, opBi, Mt.one, Mt.two, opBin, opAdd, opMul, own, asSl, frz, opSet, iI, iB, isEmp, maskS, L2.ixN, opLen, opTru, vw, eqD, isScal, isKind, tupleOf, Mt.listOf, seqOf, mkT, mkL, argSl, lents, isOwn, emps, posOf, gbk, giveBack, doCall, arr, slsOf, exTs, exT, putT, putTs, muOk, opMu, okR, itemsOf, plOf, opens_nil, opens_cons, lockAll, unlockAll, lockS, unlockS, isOpen, isTp, inD, isD, opAug, slR, cnD, opIn, wipeS, backS, sqn, PyData.eqv, -isD, f9, f9_0, f9_1, opSl, cut3, f9_2, f9_3, f9_3a0, zl, dl]
        | false =>
          rw [hl] at dl
          cases hr : isN r with
          | true =>
            rw [hr] at dr
            rw [eTr_node]
            simp [SZ, runF, exSs, exS, evE, evEs, evVs, evAs, evK, evAt, evOt, evAnd, evOr, evO, evI, gt, look, looks, opIx, asL, asI, asB, atD, ixOf, opCmp, opBi, Mt.one, Mt.two, opBin, opAdd, opMul, own, asSl, frz, opSet, iI, iB, isEmp, maskS, L2.ixN, opLen, opTru, vw, eqD, isScal, isKind, tupleOf, Mt.listOf, seqOf, mkT, mkL, argSl, lents, isOwn, emps, posOf, gbk, giveBack, doCall, arr, slsOf, exTs, exT, putT, putTs, muOk, opMu, okR, itemsOf, plOf, opens_nil, opens_cons, lockAll, unlockAll, lockS, unlockS, isOpen, isTp, inD, isD, opAug, slR, cnD, opIn, wipeS, backS, sqn, PyData.eqv, -isD, f9, f9_0, f9_1, opSl, cut3, f9_2, f9_3, f9_3a0, zl, dl, dr]
          | false =>
            rw [hr] at dr
            have hr0 : 0 < size r := by
              cases r with
              | nil => cases hr
              | node a b c => rw [size_node]; omega
            have ih := out_okk N hN bs r (k + 3) 0 hr0 (by omega) (by omega) or
            have hk0 : (row r).getD 0 0 < bs.length := by
              have : 0 < (row r).length := hr0
              rw [List.getD_eq_getElem?_getD, List.getElem?_eq_getElem this]
              exact or _ (List.getElem_mem this)
            have nd := node_ok k bs l (out r 0) ((row r).getD 0 0) hk0
            have sp := size_out hr0
            obtain ⟨T, lv⟩ := level_ok (k + 3) N bs l (out r 0) ((row r).getD 0 0) (by rw [size_node]; omega) (by omega) (ok_node.mpr ⟨ol, hk0, ok_out hr0 or⟩) hN
            obtain ⟨T6, r6⟩ := row_ok6 (k + 2) bs r (by omega)
            have e0 : atD ((row r).map nI) 0 = some (.int (((row r).getD 0 0 : Nat) : Int)) := by
              have : 0 < (row r).length := hr0
              simp [atD, ixOf, L2.ixN, this, nI]
            simp only [eL] at r6
            rw [if_neg Bool.false_ne_true, if_neg Bool.false_ne_true]
            generalize (row r).getD 0 0 = v0 at *
            generalize eTr bs (level (.node l v0 (out r 0))) = Z at lv ⊢
            generalize eTr bs (.node l v0 (out r 0)) = Y at lv nd
            rw [eTr_node]
            simp only [Int.natCast_zero] at ih
            simp [SZ, runF, exSs, exS, evE, evEs, evVs, evAs, evK, evAt, evOt, evAnd, evOr, evO, evI, gt, look, looks, opIx, asL, asI, asB, atD, ixOf, opCmp, opBi, Mt.one, Mt.two, opBin, opAdd, opMul, own, asSl, frz, opSet, iI, iB, isEmp, maskS, L2.ixN, opLen, opTru, vw, eqD, isScal, isKind, tupleOf, Mt.listOf, seqOf, mkT, mkL, argSl, lents, isOwn, emps, posOf, gbk, giveBack, doCall, arr, slsOf, exTs, exT, putT, putTs, muOk, opMu, okR, itemsOf, plOf, opens_nil, opens_cons, lockAll, unlockAll, lockS, unlockS, isOpen, isTp, inD, isD, opAug, slR, cnD, opIn, wipeS, backS, sqn, PyData.eqv, -isD, -atD, f9, f9_0, f9_1, opSl, cut3, f9_2, f9_3, f9_4, f9_5, f9_6, zl, dl, dr, ih, nd, lv, r6, e0]
end Mk20

set_option Elab.async false
set_option linter.all false
set_option maxRecDepth 100000
set_option maxHeartbeats 8000000
namespace Mk20
open Mt PySem
inductive Ed where
  | put (i n : Nat)
  | out (i : Nat)
  | turn (i n : Nat)
def eEd : Ed → D
  | .put i n => .tuple [.str "put", .int i, .int n]
  | .out i => .tuple [.str "out", .int i]
  | .turn i n => .tuple [.str "turn", .int i, .int n]
def Fit (vs : List Nat) (m : Nat) : Ed → Prop
  | .put i n => i ≤ vs.length ∧ n < m
  | .out i => i < vs.length
  | .turn i n => i < vs.length ∧ n < m
def edT (t : Tr) : Ed → Tr
  | .put i n => put t i n
  | .out i => out t i
  | .turn i n => turn t i n
def edL (vs : List Nat) : Ed → List Nat
  | .put i n => vs.take i ++ [n] ++ vs.drop i
  | .out i => vs.take i ++ vs.drop (i + 1)
  | .turn i n => vs.take i ++ [n] ++ vs.drop (i + 1)
theorem row_ed {t : Tr} {m : Nat} (e : Ed) (h : Fit (row t) m e) : row (edT t e) = edL (row t) e := by
  cases e with
  | put i n => exact row_put t i n h.1
  | out i => exact row_out t i h
  | turn i n => exact row_turn t i n h.1
theorem bal_ed {t : Tr} {m : Nat} (e : Ed) (h : Fit (row t) m e) (hb : Bal t) : Bal (edT t e) := by
  cases e with
  | put i n => exact bal_put t i n hb
  | out i => exact bal_out t i hb
  | turn i n => exact bal_turn t i n h.1 hb
theorem s12 (k : Nat) (args : List Sl) : sem P (k + 1) 12 args = runF (sem P k) f12 args := rfl
theorem s13 (k : Nat) (args : List Sl) : sem P (k + 1) 13 args = runF (sem P k) f13 args := rfl
theorem s14 (k : Nat) (args : List Sl) : sem P (k + 1) 14 args = runF (sem P k) f14 args := rfl
theorem s15 (k : Nat) (args : List Sl) : sem P (k + 1) 15 args = runF (sem P k) f15 args := rfl
theorem s16 (k : Nat) (args : List Sl) : sem P (k + 1) 16 args = runF (sem P k) f16 args := rfl
theorem s17 (k : Nat) (args : List Sl) : sem P (k + 1) 17 args = runF (sem P k) f17 args := rfl
theorem s18 (k : Nat) (args : List Sl) : sem P (k + 1) 18 args = runF (sem P k) f18 args := rfl
theorem q1 : (Str.ofString "put" == Str.ofString "out") = false := by decide +kernel
theorem q2 : (Str.ofString "out" == Str.ofString "put") = false := by decide +kernel
theorem q3 : (Str.ofString "turn" == Str.ofString "put") = false := by decide +kernel
theorem q4 : (Str.ofString "turn" == Str.ofString "out") = false := by decide +kernel
theorem edited_ok (k : Nat) (bs : List F3) (t : Tr) (e : Ed) (h : Fit (row t) bs.length e) (ht : Ok bs (row t)) (hs : size t + 1 ≤ 40) (hk : 91 ≤ k) :
    sem P (k + 1) 11 [.dat (eB bs), .dat (eTr bs t), .dat (eEd e)] = some (.dat (eTr bs (edT t e)), [.dat (eB bs), .dat (eTr bs t), .dat (eEd e)]) := by
  rw [s11]
  cases e with
  | put i n =>
    have r := put_ok 40 (by decide) bs t k i n h.1 (by omega) (by omega) ht h.2
    simp [SZ, runF, exSs, exS, evE, evEs, evVs, evAs, evK, evAt, evOt, evAnd, evOr, evO, evI, gt, look, looks, opIx, asL, asI, asB, atD, ixOf, opCmp, opBi, Mt.one, Mt.two, opBin, opAdd, opMul, own, asSl, frz, opSet, iI, iB, isEmp, maskS, L2.ixN, opLen, opTru, vw, eqD, isScal, isKind, tupleOf, Mt.listOf, seqOf, mkT, mkL, argSl, lents, isOwn, emps, posOf, gbk, giveBack, doCall, arr, slsOf, exTs, exT, putT, putTs, muOk, opMu, okR, itemsOf, plOf, opens_nil, opens_cons, lockAll, unlockAll, lockS, unlockS, isOpen, isTp, inD, isD, opAug, slR, cnD, opIn, wipeS, backS, sqn, PyData.eqv, f11, f11_0, f11_0a0, eEd, r, edT]
  | out i =>
    have r := out_okk 40 (by decide) bs t k i h (by omega) (by omega) ht
    simp [SZ, runF, exSs, exS, evE, evEs, evVs, evAs, evK, evAt, evOt, evAnd, evOr, evO, evI, gt, look, looks, opIx, asL, asI, asB, atD, ixOf, opCmp, opBi, Mt.one, Mt.two, opBin, opAdd, opMul, own, asSl, frz, opSet, iI, iB, isEmp, maskS, L2.ixN, opLen, opTru, vw, eqD, isScal, isKind, tupleOf, Mt.listOf, seqOf, mkT, mkL, argSl, lents, isOwn, emps, posOf, gbk, giveBack, doCall, arr, slsOf, exTs, exT, putT, putTs, muOk, opMu, okR, itemsOf, plOf, opens_nil, opens_cons, lockAll, unlockAll, lockS, unlockS, isOpen, isTp, inD, isD, opAug, slR, cnD, opIn, wipeS, backS, sqn, PyData.eqv, f11, f11_0, f11_1, eEd, q2, r, edT]
  | turn i n =>
    have r := turn_okk bs t k i n h.1 (by omega) ht h.2
    simp [SZ, runF, exSs, exS, evE, evEs, evVs, evAs, evK, evAt, evOt, evAnd, evOr, evO, evI, gt, look, looks, opIx, asL, asI, asB, atD, ixOf, opCmp, opBi, Mt.one, Mt.two, opBin, opAdd, opMul, own, asSl, frz, opSet, iI, iB, isEmp, maskS, L2.ixN, opLen, opTru, vw, eqD, isScal, isKind, tupleOf, Mt.listOf, seqOf, mkT, mkL, argSl, lents, isOwn, emps, posOf, gbk, giveBack, doCall, arr, slsOf, exTs, exT, putT, putTs, muOk, opMu, okR, itemsOf, plOf, opens_nil, opens_cons, lockAll, unlockAll, lockS, unlockS, isOpen, isTp, inD, isD, opAug, slR, cnD, opIn, wipeS, backS, sqn, PyData.eqv, f11, f11_0, f11_1, eEd, q3, q4, r, edT]
theorem edL_ok (k : Nat) (vs : List Nat) (m : Nat) (e : Ed) (h : Fit vs m e) (hl : vs.length ≤ 1000) : sem P (k + 1) 16 [.dat (eL vs), .dat (eEd e)] = some (.dat (eL (edL vs e)), [.dat (eL vs), .dat (eEd e)]) := by
  rw [s16]
  have ct := fun i : Nat => cutD_take (vs.map nI) i
  have cd := fun i : Nat => cutD_drop (vs.map nI) i
  have c1 := fun i : Nat => cutD_drop (vs.map nI) (i + 1)
  simp only [Int.natCast_add, Int.natCast_one] at c1
  have c0 := ct 0
  simp only [Int.natCast_zero] at c0
  cases e with
  | put i n =>
    have l1 : min i vs.length + 1 ≤ 16777216 := by omega
    have l2 : min i vs.length + 1 + (vs.length - i) ≤ 16777216 := by omega
    simp [SZ, runF, exSs, exS, evE, evEs, evVs, evAs, evK, evAt, evOt, evAnd, evOr, evO, evI, gt, look, looks, opIx, asL, asI, asB, atD, ixOf, opCmp, opBi, Mt.one, Mt.two, opBin, opAdd, opMul, own, asSl, frz, opSet, iI, iB, isEmp, maskS, L2.ixN, opLen, opTru, vw, eqD, isScal, isKind, tupleOf, Mt.listOf, seqOf, mkT, mkL, argSl, lents, isOwn, emps, posOf, gbk, giveBack, doCall, arr, slsOf, exTs, exT, putT, putTs, muOk, opMu, okR, itemsOf, plOf, opens_nil, opens_cons, lockAll, unlockAll, lockS, unlockS, isOpen, isTp, inD, isD, opAug, slR, cnD, opIn, wipeS, backS, sqn, PyData.eqv, f16, f16_0, f16_0a0, eL, eEd, opSl, ct, cd, edL, nI, l1, l2]
  | out i =>
    have l2 : min i vs.length + (vs.length - (i + 1)) ≤ 16777216 := by omega
    have l3 : min i vs.length ≤ 16777216 := by omega
    simp [SZ, runF, exSs, exS, evE, evEs, evVs, evAs, evK, evAt, evOt, evAnd, evOr, evO, evI, gt, look, looks, opIx, asL, asI, asB, atD, ixOf, opCmp, opBi, Mt.one, Mt.two, opBin, opAdd, opMul, own, asSl, frz, opSet, iI, iB, isEmp, maskS, L2.ixN, opLen, opTru, vw, eqD, isScal, isKind, tupleOf, Mt.listOf, seqOf, mkT, mkL, argSl, lents, isOwn, emps, posOf, gbk, giveBack, doCall, arr, slsOf, exTs, exT, putT, putTs, muOk, opMu, okR, itemsOf, plOf, opens_nil, opens_cons, lockAll, unlockAll, lockS, unlockS, isOpen, isTp, inD, isD, opAug, slR, cnD, opIn, wipeS, backS, sqn, PyData.eqv, f16, f16_0, f16_1, eL, eEd, opSl, ct, c1, c0, edL, nI, q2, l2, l3]
  | turn i n =>
    have l1 : min i vs.length + 1 ≤ 16777216 := by omega
    have l2 : min i vs.length + 1 + (vs.length - (i + 1)) ≤ 16777216 := by omega
    simp [SZ, runF, exSs, exS, evE, evEs, evVs, evAs, evK, evAt, evOt, evAnd, evOr, evO, evI, gt, look, looks, opIx, asL, asI, asB, atD, ixOf, opCmp, opBi, Mt.one, Mt.two, opBin, opAdd, opMul, own, asSl, frz, opSet, iI, iB, isEmp, maskS, L2.ixN, opLen, opTru, vw, eqD, isScal, isKind, tupleOf, Mt.listOf, seqOf, mkT, mkL, argSl, lents, isOwn, emps, posOf, gbk, giveBack, doCall, arr, slsOf, exTs, exT, putT, putTs, muOk, opMu, okR, itemsOf, plOf, opens_nil, opens_cons, lockAll, unlockAll, lockS, unlockS, isOpen, isTp, inD, isD, opAug, slR, cnD, opIn, wipeS, backS, sqn, PyData.eqv, f16, f16_0, f16_1, eL, eEd, opSl, ct, c1, edL, nI, q3, q4, l1, l2]
end Mk20

set_option Elab.async false
set_option linter.all false
set_option maxRecDepth 100000
set_option maxHeartbeats 8000000
namespace Mk20
open Mt PySem
/-! ### data that is alike itself -/
inductive Nc : Nat → D → Prop
  | non (n : Nat) : Nc n .none
  | int (n : Nat) (i : Int) : Nc n (.int i)
  | tup (n : Nat) (xs : List D) : (∀ x ∈ xs, Nc n x) → Nc (n + 1) (.tuple xs)
theorem Nc.mono {n : Nat} {d : D} (h : Nc n d) : ∀ {m : Nat}, n ≤ m → Nc m d := by
  induction h with
  | non n => intro m _; exact .non m
  | int n i => intro m _; exact .int m i
  | tup n xs _ ih =>
    intro m hm
    obtain ⟨m, rfl⟩ : ∃ j, m = j + 1 := ⟨m - 1, by omega⟩
    exact .tup m xs fun x hx => ih x hx (by omega)
theorem same_int (k : Nat) (n : Int) : sem P (k + 1) 14 [.dat (.int n), .dat (.int n)] = some (iB true, [.dat (.int n), .dat (.int n)]) := by
  rw [s14]
  simp [SZ, runF, exSs, exS, evE, evEs, evVs, evAs, evK, evAt, evOt, evAnd, evOr, evO, evI, gt, look, looks, opIx, asL, asI, asB, atD, ixOf, opCmp, opBi, Mt.one, Mt.two, opBin, opAdd, opMul, own, asSl, frz, opSet, iI, iB, isEmp, maskS, L2.ixN, opLen, opTru, vw, eqD, isScal, isKind, tupleOf, Mt.listOf, seqOf, mkT, mkL, argSl, lents, isOwn, emps, posOf, gbk, giveBack, doCall, arr, slsOf, exTs, exT, putT, putTs, muOk, opMu, okR, itemsOf, plOf, opens_nil, opens_cons, lockAll, unlockAll, lockS, unlockS, isOpen, isTp, inD, isD, opAug, slR, cnD, opIn, wipeS, backS, sqn, PyData.eqv, f14, f14_0, f14_1, f14_2, f14_3, f14_3a0]
theorem same_non (k : Nat) : sem P (k + 1) 14 [.dat .none, .dat .none] = some (iB true, [.dat .none, .dat .none]) := by
  rw [s14]
  simp [SZ, runF, exSs, exS, evE, evEs, evVs, evAs, evK, evAt, evOt, evAnd, evOr, evO, evI, gt, look, looks, opIx, asL, asI, asB, atD, ixOf, opCmp, opBi, Mt.one, Mt.two, opBin, opAdd, opMul, own, asSl, frz, opSet, iI, iB, isEmp, maskS, L2.ixN, opLen, opTru, vw, eqD, isScal, isKind, tupleOf, Mt.listOf, seqOf, mkT, mkL, argSl, lents, isOwn, emps, posOf, gbk, giveBack, doCall, arr, slsOf, exTs, exT, putT, putTs, muOk, opMu, okR, itemsOf, plOf, opens_nil, opens_cons, lockAll, unlockAll, lockS, unlockS, isOpen, isTp, inD, isD, opAug, slR, cnD, opIn, wipeS, backS, sqn, PyData.eqv, f14, f14_0, f14_1, f14_1a0]
theorem same_ok {n : Nat} {d : D} (h : Nc n d) : ∀ k, n < k → sem P k 14 [.dat d, .dat d] = some (iB true, [.dat d, .dat d]) := by
  induction h with
  | non n =>
    intro k hk
    obtain ⟨k, rfl⟩ : ∃ j, k = j + 1 := ⟨k - 1, by omega⟩
    exact same_non k
  | int n i =>
    intro k hk
    obtain ⟨k, rfl⟩ : ∃ j, k = j + 1 := ⟨k - 1, by omega⟩
    exact same_int k i
  | tup n xs _ ih =>
    intro k hk
    obtain ⟨k, rfl⟩ : ∃ j, k = j + 1 := ⟨k - 1, by omega⟩
    rw [s14]
    have l : ∃ st', forL (frBody (sem P k) (.tup [(.nm 2), (.nm 3)]) f14_0a1_l) (zipD xs xs) [.dat (.tuple xs), .dat (.tuple xs), .emp, .emp] = some (.nx, st') ∧ ∃ o p, st' = [.dat (.tuple xs), .dat (.tuple xs), o, p] := by
      refine forL_inv (fun st => ∃ o p, st = [.dat (.tuple xs), .dat (.tuple xs), o, p]) _ _ (fun x hx st ⟨o, p, h⟩ => ?_) ⟨_, _, rfl⟩
      subst h
      obtain ⟨y, hy, rfl⟩ := mem_zip_self hx
      have e := ih y hy k (by omega)
      simp [SZ, runF, exSs, exS, evE, evEs, evVs, evAs, evK, evAt, evOt, evAnd, evOr, evO, evI, gt, look, looks, opIx, asL, asI, asB, atD, ixOf, opCmp, opBi, Mt.one, Mt.two, opBin, opAdd, opMul, own, asSl, frz, opSet, iI, iB, isEmp, maskS, L2.ixN, opLen, opTru, vw, eqD, isScal, isKind, tupleOf, Mt.listOf, seqOf, mkT, mkL, argSl, lents, isOwn, emps, posOf, gbk, giveBack, doCall, arr, slsOf, exTs, exT, putT, putTs, muOk, opMu, okR, itemsOf, plOf, opens_nil, opens_cons, lockAll, unlockAll, lockS, unlockS, isOpen, isTp, inD, isD, opAug, slR, cnD, opIn, wipeS, backS, sqn, PyData.eqv, frBody, f14_0a1_l, f14_0a1a0, e]
    obtain ⟨st', l, o, p, rfl⟩ := l
    have e1 : exS (sem P k) f14_0a1 [.dat (.tuple xs), .dat (.tuple xs), .emp, .emp] = some (.nx, [.dat (.tuple xs), .dat (.tuple xs), o, p]) := by
      refine fr_nx (xs := zipD xs xs) ?_ l
      simp [SZ, runF, exSs, exS, evE, evEs, evVs, evAs, evK, evAt, evOt, evAnd, evOr, evO, evI, gt, look, looks, opIx, asL, asI, asB, atD, ixOf, opCmp, opBi, Mt.one, Mt.two, opBin, opAdd, opMul, own, asSl, frz, opSet, iI, iB, isEmp, maskS, L2.ixN, opLen, opTru, vw, eqD, isScal, isKind, tupleOf, Mt.listOf, seqOf, mkT, mkL, argSl, lents, isOwn, emps, posOf, gbk, giveBack, doCall, arr, slsOf, exTs, exT, putT, putTs, muOk, opMu, okR, itemsOf, plOf, opens_nil, opens_cons, lockAll, unlockAll, lockS, unlockS, isOpen, isTp, inD, isD, opAug, slR, cnD, opIn, wipeS, backS, sqn, PyData.eqv]
    simp [SZ, runF, exSs, exS, evE, evEs, evVs, evAs, evK, evAt, evOt, evAnd, evOr, evO, evI, gt, look, looks, opIx, asL, asI, asB, atD, ixOf, opCmp, opBi, Mt.one, Mt.two, opBin, opAdd, opMul, own, asSl, frz, opSet, iI, iB, isEmp, maskS, L2.ixN, opLen, opTru, vw, eqD, isScal, isKind, tupleOf, Mt.listOf, seqOf, mkT, mkL, argSl, lents, isOwn, emps, posOf, gbk, giveBack, doCall, arr, slsOf, exTs, exT, putT, putTs, muOk, opMu, okR, itemsOf, plOf, opens_nil, opens_cons, lockAll, unlockAll, lockS, unlockS, isOpen, isTp, inD, isD, opAug, slR, cnD, opIn, wipeS, backS, sqn, PyData.eqv, f14, f14_0, f14_0a0, f14_0a2, e1]
theorem nc_row (r : Row) : Nc 1 (eR r) := .tup 0 _ fun x hx => by
  obtain ⟨p, _, rfl⟩ := List.mem_map.mp hx
  cases p with
  | none => exact .non 0
  | some i => exact .int 0 i
theorem nc_tab (t : Tb) : Nc 2 (eT t) := .tup 1 _ fun x hx => by
  obtain ⟨r, _, rfl⟩ := List.mem_map.mp hx
  exact nc_row r
theorem nc_log (vs : List Nat) : Nc 1 (eL vs) := .tup 0 _ fun x hx => by
  obtain ⟨p, _, rfl⟩ := List.mem_map.mp hx
  exact .int 0 _
theorem nc_tree (bs : List F3) : ∀ t : Tr, Nc (size t + 3) (eTr bs t)
  | .nil => .non _
  | .node l v r => by
    have sn := size_node l r v
    rw [eTr]
    have e : size (.node l v r) + 3 = (size l + size r + 3) + 1 := by omega
    rw [e]
    refine .tup _ _ fun x hx => ?_
    simp only [List.mem_cons, List.not_mem_nil, or_false] at hx
    rcases hx with rfl | rfl | rfl | rfl | rfl
    · exact (nc_tree bs l).mono (by omega)
    · exact .int _ _
    · exact (nc_tree bs r).mono (by omega)
    · exact .int _ _
    · exact (nc_tab _).mono (by omega)
theorem lay_all : ∀ xs : List D, (∀ x ∈ xs, x.canLay0 = true) → PyData.canLayAll0 xs = true
  | [], _ => rfl
  | x :: xs, h => by simp [PyData.canLayAll0, h x List.mem_cons_self, lay_all xs fun y hy => h y (List.mem_cons_of_mem _ hy)]
theorem deep_all (n : Nat) : ∀ xs : List D, (∀ x ∈ xs, x.depth ≤ n) → PyData.depthAll xs ≤ n
  | [], _ => Nat.zero_le _
  | x :: xs, h => by
    rw [PyData.depthAll]
    exact Nat.max_le.mpr ⟨h x List.mem_cons_self, deep_all n xs fun y hy => h y (List.mem_cons_of_mem _ hy)⟩
theorem nc_lay {n : Nat} {d : D} (h : Nc n d) : d.canLay0 = true ∧ d.depth ≤ n := by
  induction h with
  | non n => exact ⟨rfl, Nat.zero_le _⟩
  | int n i => exact ⟨rfl, Nat.zero_le _⟩
  | tup n xs _ ih =>
    constructor
    · rw [PyData.canLay0]
      exact lay_all xs fun x hx => (ih x hx).1
    · rw [PyData.depth]
      exact Nat.succ_le_succ (deep_all n xs fun x hx => (ih x hx).2)
theorem sh_log (vs : List Nat) : SeqAt.shaped (eL vs) = true := by
  obtain ⟨h1, h2⟩ := nc_lay (nc_log vs)
  unfold SeqAt.shaped
  rw [h1, Bool.true_and]
  exact decide_eq_true (by omega)
/-! ### the tasks -/
def task (bs : List F3) (t : Tr) (b : Bool) : D := .tuple [eTr bs t, .bool b]
def tasks (bs : List F3) (ls : List (Tr × Bool)) : List D := ls.map fun p => task bs p.1 p.2
theorem sh_tasks (bs : List F3) (ls : List (Tr × Bool)) (h : ∀ p ∈ ls, size p.1 ≤ 40) : SeqAt.shaped (.list (tasks bs ls)) = true := by
  have key : ∀ x ∈ tasks bs ls, x.canLay0 = true ∧ x.depth ≤ 44 := fun x hx => by
    obtain ⟨p, hp, rfl⟩ := List.mem_map.mp hx
    obtain ⟨h1, h2⟩ := nc_lay (nc_tree bs p.1)
    have h3 := h p hp
    unfold task
    constructor
    · rw [PyData.canLay0]
      simp [PyData.canLayAll0, h1, PyData.canLay0]
    · rw [PyData.depth]
      simp only [PyData.depthAll, PyData.depth]
      omega
  unfold SeqAt.shaped
  rw [PyData.canLay0, lay_all _ fun x hx => (key x hx).1, Bool.true_and, PyData.depth]
  have := deep_all 44 _ fun x hx => (key x hx).2
  exact decide_eq_true (by omega)
theorem sh_nil : SeqAt.shaped (.list []) = true := by decide
theorem ne_nil (xs : List D) (x : D) : PyData.eqvAll (xs ++ [x]) [] = false := by cases xs <;> rfl
end Mk20

set_option Elab.async false
set_option linter.all false
set_option maxRecDepth 100000
set_option maxHeartbeats 8000000
namespace Mk20
open Mt PySem
abbrev c17 : E := .cmp .ne (.v 2) (.lst [])
theorem cond17 (cl : Call) (b t a3 : Sl) (js : List Sl) (xs : List D) (x : D) (h : SeqAt.shaped (.list (xs ++ [x])) = true) : evE cl c17 ([b, t, .lst false (xs ++ [x]), a3] ++ js) = some (iB true, [b, t, .lst false (xs ++ [x]), a3] ++ js) := by
  simp [SZ, runF, exSs, exS, evE, evEs, evVs, evAs, evK, evAt, evOt, evAnd, evOr, evO, evI, gt, look, looks, opIx, asL, asI, asB, atD, ixOf, opCmp, opBi, Mt.one, Mt.two, opBin, opAdd, opMul, own, asSl, frz, opSet, iI, iB, isEmp, maskS, L2.ixN, opLen, opTru, vw, eqD, isScal, isKind, tupleOf, Mt.listOf, seqOf, mkT, mkL, argSl, lents, isOwn, emps, posOf, gbk, giveBack, doCall, arr, slsOf, exTs, exT, putT, putTs, muOk, opMu, okR, itemsOf, plOf, opens_nil, opens_cons, lockAll, unlockAll, lockS, unlockS, isOpen, isTp, inD, isD, opAug, slR, cnD, opIn, wipeS, backS, sqn, PyData.eqv, c17, h, sh_nil, ne_nil]
theorem cond17n (cl : Call) (b t a3 : Sl) (js : List Sl) : evE cl c17 ([b, t, .lst false [], a3] ++ js) = some (iB false, [b, t, .lst false [], a3] ++ js) := by
  simp [SZ, runF, exSs, exS, evE, evEs, evVs, evAs, evK, evAt, evOt, evAnd, evOr, evO, evI, gt, look, looks, opIx, asL, asI, asB, atD, ixOf, opCmp, opBi, Mt.one, Mt.two, opBin, opAdd, opMul, own, asSl, frz, opSet, iI, iB, isEmp, maskS, L2.ixN, opLen, opTru, vw, eqD, isScal, isKind, tupleOf, Mt.listOf, seqOf, mkT, mkL, argSl, lents, isOwn, emps, posOf, gbk, giveBack, doCall, arr, slsOf, exTs, exT, putT, putTs, muOk, opMu, okR, itemsOf, plOf, opens_nil, opens_cons, lockAll, unlockAll, lockS, unlockS, isOpen, isTp, inD, isD, opAug, slR, cnD, opIn, wipeS, backS, sqn, PyData.eqv, c17, sh_nil, PyData.eqvAll]
theorem wh_true {cl : Call} {c : E} {b : List S} {st st' st2 : MS} (h : evE cl c st = some (iB true, st')) (h2 : exSs cl b st' = some (.nx, st2) ∨ exSs cl b st' = some (.ct, st2)) : whStep cl c b st = some (.inl st2) := by
  rcases h2 with h2 | h2 <;> simp [whStep, h, h2, asB, iB, opTru]
theorem wh_false {cl : Call} {c : E} {b : List S} {st st' : MS} (h : evE cl c st = some (iB false, st')) : whStep cl c b st = some (.inr (.nx, st')) := by
  simp [whStep, h, asB, iB]
/-- an empty tree -/
theorem look_nil (cl : Call) (bs : List F3) (Tt : Sl) (xs told : List D) (j4 j5 j6 j7 j8 j9 j10 : Sl) (hs : SeqAt.shaped (.list (xs ++ [task bs .nil false])) = true) (hl : told.length < 16777216) :
    whStep cl c17 f17_1_l ([.dat (eB bs), Tt, .lst false (xs ++ [task bs .nil false]), .lst false told] ++ [j4, j5, j6, j7, j8, j9, j10]) = some (.inl ([.dat (eB bs), Tt, .lst false xs, .lst false (told ++ [.tuple []])] ++ [.dat .none, .dat (.bool false), j6, j7, j8, j9, j10])) := by
  refine wh_true (cond17 cl _ _ _ _ _ _ hs) (.inr ?_)
  simp [SZ, runF, exSs, exS, evE, evEs, evVs, evAs, evK, evAt, evOt, evAnd, evOr, evO, evI, gt, look, looks, opIx, asL, asI, asB, atD, ixOf, opCmp, opBi, Mt.one, Mt.two, opBin, opAdd, opMul, own, asSl, frz, opSet, iI, iB, isEmp, maskS, L2.ixN, opLen, opTru, vw, eqD, isScal, isKind, tupleOf, Mt.listOf, seqOf, mkT, mkL, argSl, lents, isOwn, emps, posOf, gbk, giveBack, doCall, arr, slsOf, exTs, exT, putT, putTs, muOk, opMu, okR, itemsOf, plOf, opens_nil, opens_cons, lockAll, unlockAll, lockS, unlockS, isOpen, isTp, inD, isD, opAug, slR, cnD, opIn, wipeS, backS, sqn, PyData.eqv, f17_1_l, f17_1a0, f17_1a1, f17_1a1a0, f17_1a1a1, task, eTr, hl]
theorem look_node (cl : Call) (bs : List F3) (Tt : Sl) (xs told : List D) (l r : Tr) (v : Nat) (j4 j5 j6 j7 j8 j9 j10 : Sl) (hs : SeqAt.shaped (.list (xs ++ [task bs (.node l v r) false])) = true) (hl : xs.length + 3 ≤ 16777216) :
    whStep cl c17 f17_1_l ([.dat (eB bs), Tt, .lst false (xs ++ [task bs (.node l v r) false]), .lst false told] ++ [j4, j5, j6, j7, j8, j9, j10]) = some (.inl ([.dat (eB bs), Tt, .lst false (xs ++ [task bs (.node l v r) true, task bs r false, task bs l false]), .lst false told] ++ [.dat (eTr bs (.node l v r)), .dat (.bool false), j6, j7, j8, j9, j10])) := by
  refine wh_true (cond17 cl _ _ _ _ _ _ hs) (.inr ?_)
  simp [SZ, runF, exSs, exS, evE, evEs, evVs, evAs, evK, evAt, evOt, evAnd, evOr, evO, evI, gt, look, looks, opIx, asL, asI, asB, atD, ixOf, opCmp, opBi, Mt.one, Mt.two, opBin, opAdd, opMul, own, asSl, frz, opSet, iI, iB, isEmp, maskS, L2.ixN, opLen, opTru, vw, eqD, isScal, isKind, tupleOf, Mt.listOf, seqOf, mkT, mkL, argSl, lents, isOwn, emps, posOf, gbk, giveBack, doCall, arr, slsOf, exTs, exT, putT, putTs, muOk, opMu, okR, itemsOf, plOf, opens_nil, opens_cons, lockAll, unlockAll, lockS, unlockS, isOpen, isTp, inD, isD, opAug, slR, cnD, opIn, wipeS, backS, sqn, PyData.eqv, f17_1_l, f17_1a0, f17_1a1, f17_1a2, f17_1a3, f17_1a3a0, f17_1a3a1, task, eTr, hl]
theorem look_fold (k : Nat) (bs : List F3) (v : Nat) (vs : List Nat) (hv : Ok bs vs) (a0 a1 a2 a3 a4 a5 a6 a7 a8 j10 : Sl) (h0 : a0 = .dat (eB bs)) : ∃ j, forL (frBody (sem P (k + 2)) (.nm 10) f17_1a7_l) (vs.map nI) [a0, a1, a2, a3, a4, a5, a6, a7, a8, .dat (eT (tb (bF bs v))), j10] =
    some (.nx, [a0, a1, a2, a3, a4, a5, a6, a7, a8, .dat (eT (tb (prodL bs (v :: vs)))), j]) := by
  subst h0
  obtain ⟨st', l, j, e⟩ := forL_steps (f := frBody (sem P (k + 2)) (.nm 10) f17_1a7_l) nI vs (fun pre st => ∃ j, st = [.dat (eB bs), a1, a2, a3, a4, a5, a6, a7, a8, .dat (eT (tb (prodL bs (v :: pre)))), j]) (st := [.dat (eB bs), a1, a2, a3, a4, a5, a6, a7, a8, .dat (eT (tb (bF bs v))), j10]) ⟨j10, rfl⟩ (fun pre x post st hx ⟨j, e⟩ => by
    subst e
    have hxv : x < bs.length := hv x (by rw [hx]; simp)
    have e0 : atD (bs.map fun f => eT (tb f)) (x : Int) = some (eT (tb (bF bs x))) := by
      simp [atD, ixOf, L2.ixN, hxv]
      simp [bF, hxv]
    have jn := joined3 k (prodL bs (v :: pre)) (bF bs x)
    have ep : prodL bs (v :: (pre ++ [x])) = mulF (prodL bs (v :: pre)) (bF bs x) := by
      simp [prodL, foldF]
    refine ⟨[.dat (eB bs), a1, a2, a3, a4, a5, a6, a7, a8, .dat (eT (tb (prodL bs (v :: (pre ++ [x]))))), .dat (nI x)], .inl ?_, _, rfl⟩
    rw [ep]
    generalize eT (tb (mulF (prodL bs (v :: pre)) (bF bs x))) = R at jn ⊢
    simp [SZ, runF, exSs, exS, evE, evEs, evVs, evAs, evK, evAt, evOt, evAnd, evOr, evO, evI, gt, look, looks, opIx, asL, asI, asB, atD, ixOf, opCmp, opBi, Mt.one, Mt.two, opBin, opAdd, opMul, own, asSl, frz, opSet, iI, iB, isEmp, maskS, L2.ixN, opLen, opTru, vw, eqD, isScal, isKind, tupleOf, Mt.listOf, seqOf, mkT, mkL, argSl, lents, isOwn, emps, posOf, gbk, giveBack, doCall, arr, slsOf, exTs, exT, putT, putTs, muOk, opMu, okR, itemsOf, plOf, opens_nil, opens_cons, lockAll, unlockAll, lockS, unlockS, isOpen, isTp, inD, isD, opAug, slR, cnD, opIn, wipeS, backS, sqn, PyData.eqv, -atD, frBody, f17_1a7_l, f17_1a7a0, eB, e0, jn, nI])
  subst e
  exact ⟨j, l⟩
theorem ix_ok {cl : Call} {e1 e2 : E} {st : MS} {xs : List D} {i : Int} {d : D} (h1 : evE cl e1 st = some (.dat (.tuple xs), st)) (h2 : evE cl e2 st = some (.dat (.int i), st)) (h3 : atD xs i = some d) : evE cl (.ix e1 e2) st = some (.dat d, st) := by
  simp only [evE, h1, h2, look, opIx, h3]
theorem look_full (k : Nat) (hk : 4 ≤ k) (bs : List F3) (Tt : Sl) (xs told : List D) (l r : Tr) (v : Nat) (j4 j5 j6 j7 j8 j9 j10 : Sl) (hs : SeqAt.shaped (.list (xs ++ [task bs (.node l v r) true])) = true) (hl : told.length + 2 ≤ 16777216) (hf : fair (size l) (size r)) (hv : Ok bs (row (.node l v r))) (hz : size (.node l v r) ≤ 1000) :
    ∃ q4 q5 q6 q7 q8 q9 q10, whStep (sem P k) c17 f17_1_l ([.dat (eB bs), Tt, .lst false (xs ++ [task bs (.node l v r) true]), .lst false (told ++ [eL (row l), eL (row r)])] ++ [j4, j5, j6, j7, j8, j9, j10]) = some (.inl ([.dat (eB bs), Tt, .lst false xs, .lst false (told ++ [eL (row (.node l v r))])] ++ [q4, q5, q6, q7, q8, q9, q10])) := by
  obtain ⟨k, rfl⟩ : ∃ j, k = j + 2 := ⟨k - 2, by omega⟩
  have sn := size_node l r v
  obtain ⟨x, N, hN⟩ : ∃ x N, row (.node l v r) = x :: N := by
    cases hq : row (.node l v r) with
    | nil => exact absurd hq (row_ne l r v)
    | cons x N => exact ⟨x, N, rfl⟩
  have hsz : size (.node l v r) = (x :: N).length := by unfold size; rw [hN]
  have hL : (row l).length = size l := rfl
  have hR : (row r).length = size r := rfl
  have hcat : row l ++ [v] ++ row r = x :: N := hN
  rw [hN] at hv
  have hx : x < bs.length := hv x List.mem_cons_self
  have hN2 : Ok bs N := fun y hy => hv y (List.mem_cons_of_mem _ hy)
  have e0 : atD (bs.map fun f => eT (tb f)) (x : Int) = some (eT (tb (bF bs x))) := by
    simp [atD, ixOf, L2.ixN, hx]
    simp [bF, hx]
  obtain ⟨H, eH⟩ : ∃ H, eTr bs (.node l v r) = .tuple [eTr bs l, .int v, eTr bs r, .int ((x :: N).length : Nat), eT (tb (prodL bs (x :: N)))] ∧ H = eTr bs (.node l v r) := ⟨_, by rw [eTr, hsz, hN], rfl⟩
  have eH := eH.1
  obtain ⟨j, fo⟩ := look_fold k bs x N hN2 (.dat (eB bs)) Tt (.lst false xs) (.lst false told) (.dat (eTr bs (.node l v r))) (.dat (.bool true)) (.dat (eL (row r))) (.dat (eL (row l))) (.dat (eL (x :: N))) j10 rfl
  have sm := same_ok (nc_tab (tb (prodL bs (x :: N)))) (k + 2) (by omega)
  refine ⟨.dat (eTr bs (.node l v r)), .dat (.bool true), .dat (eL (row r)), .dat (eL (row l)), .dat (eL (x :: N)), .dat (eT (tb (prodL bs (x :: N)))), j, wh_true (cond17 _ _ _ _ _ _ _ hs) (.inl ?_)⟩
  have b0 : exS (sem P (k + 2)) f17_1a0 ([.dat (eB bs), Tt, .lst false (xs ++ [task bs (.node l v r) true]), .lst false (told ++ [eL (row l), eL (row r)])] ++ [j4, j5, j6, j7, j8, j9, j10]) = some (.nx, [.dat (eB bs), Tt, .lst false xs, .lst false (told ++ [eL (row l), eL (row r)]), .dat (eTr bs (.node l v r)), .dat (.bool true), j6, j7, j8, j9, j10]) := by
    simp [SZ, runF, exSs, exS, evE, evEs, evVs, evAs, evK, evAt, evOt, evAnd, evOr, evO, evI, gt, look, looks, opIx, asL, asI, asB, atD, ixOf, opCmp, opBi, Mt.one, Mt.two, opBin, opAdd, opMul, own, asSl, frz, opSet, iI, iB, isEmp, maskS, L2.ixN, opLen, opTru, vw, eqD, isScal, isKind, tupleOf, Mt.listOf, seqOf, mkT, mkL, argSl, lents, isOwn, emps, posOf, gbk, giveBack, doCall, arr, slsOf, exTs, exT, putT, putTs, muOk, opMu, okR, itemsOf, plOf, opens_nil, opens_cons, lockAll, unlockAll, lockS, unlockS, isOpen, isTp, inD, isD, opAug, slR, cnD, opIn, wipeS, backS, sqn, PyData.eqv, f17_1a0, task]
  have b1 : exS (sem P (k + 2)) f17_1a1 [.dat (eB bs), Tt, .lst false xs, .lst false (told ++ [eL (row l), eL (row r)]), .dat (eTr bs (.node l v r)), .dat (.bool true), j6, j7, j8, j9, j10] = some (.nx, [.dat (eB bs), Tt, .lst false xs, .lst false (told ++ [eL (row l), eL (row r)]), .dat (eTr bs (.node l v r)), .dat (.bool true), j6, j7, j8, j9, j10]) := by
    rw [eH]
    simp [SZ, runF, exSs, exS, evE, evEs, evVs, evAs, evK, evAt, evOt, evAnd, evOr, evO, evI, gt, look, looks, opIx, asL, asI, asB, atD, ixOf, opCmp, opBi, Mt.one, Mt.two, opBin, opAdd, opMul, own, asSl, frz, opSet, iI, iB, isEmp, maskS, L2.ixN, opLen, opTru, vw, eqD, isScal, isKind, tupleOf, Mt.listOf, seqOf, mkT, mkL, argSl, lents, isOwn, emps, posOf, gbk, giveBack, doCall, arr, slsOf, exTs, exT, putT, putTs, muOk, opMu, okR, itemsOf, plOf, opens_nil, opens_cons, lockAll, unlockAll, lockS, unlockS, isOpen, isTp, inD, isD, opAug, slR, cnD, opIn, wipeS, backS, sqn, PyData.eqv, f17_1a1]
  have b2 : exS (sem P (k + 2)) f17_1a2 [.dat (eB bs), Tt, .lst false xs, .lst false (told ++ [eL (row l), eL (row r)]), .dat (eTr bs (.node l v r)), .dat (.bool true), j6, j7, j8, j9, j10] = some (.nx, [.dat (eB bs), Tt, .lst false xs, .lst false (told ++ [eL (row l), eL (row r)]), .dat (eTr bs (.node l v r)), .dat (.bool true), j6, j7, j8, j9, j10]) := by
    rw [eH]
    simp [SZ, runF, exSs, exS, evE, evEs, evVs, evAs, evK, evAt, evOt, evAnd, evOr, evO, evI, gt, look, looks, opIx, asL, asI, asB, atD, ixOf, opCmp, opBi, Mt.one, Mt.two, opBin, opAdd, opMul, own, asSl, frz, opSet, iI, iB, isEmp, maskS, L2.ixN, opLen, opTru, vw, eqD, isScal, isKind, tupleOf, Mt.listOf, seqOf, mkT, mkL, argSl, lents, isOwn, emps, posOf, gbk, giveBack, doCall, arr, slsOf, exTs, exT, putT, putTs, muOk, opMu, okR, itemsOf, plOf, opens_nil, opens_cons, lockAll, unlockAll, lockS, unlockS, isOpen, isTp, inD, isD, opAug, slR, cnD, opIn, wipeS, backS, sqn, PyData.eqv, f17_1a2]
  have b3 : exS (sem P (k + 2)) f17_1a3 [.dat (eB bs), Tt, .lst false xs, .lst false (told ++ [eL (row l), eL (row r)]), .dat (eTr bs (.node l v r)), .dat (.bool true), j6, j7, j8, j9, j10] = some (.nx, [.dat (eB bs), Tt, .lst false xs, .lst false (told ++ [eL (row l), eL (row r)]), .dat (eTr bs (.node l v r)), .dat (.bool true), j6, j7, j8, j9, j10]) := by
    simp [SZ, runF, exSs, exS, evE, evEs, evVs, evAs, evK, evAt, evOt, evAnd, evOr, evO, evI, gt, look, looks, opIx, asL, asI, asB, atD, ixOf, opCmp, opBi, Mt.one, Mt.two, opBin, opAdd, opMul, own, asSl, frz, opSet, iI, iB, isEmp, maskS, L2.ixN, opLen, opTru, vw, eqD, isScal, isKind, tupleOf, Mt.listOf, seqOf, mkT, mkL, argSl, lents, isOwn, emps, posOf, gbk, giveBack, doCall, arr, slsOf, exTs, exT, putT, putTs, muOk, opMu, okR, itemsOf, plOf, opens_nil, opens_cons, lockAll, unlockAll, lockS, unlockS, isOpen, isTp, inD, isD, opAug, slR, cnD, opIn, wipeS, backS, sqn, PyData.eqv, f17_1a3]
  have b4 : exS (sem P (k + 2)) f17_1a4 [.dat (eB bs), Tt, .lst false xs, .lst false (told ++ [eL (row l), eL (row r)]), .dat (eTr bs (.node l v r)), .dat (.bool true), j6, j7, j8, j9, j10] = some (.nx, [.dat (eB bs), Tt, .lst false xs, .lst false told, .dat (eTr bs (.node l v r)), .dat (.bool true), .dat (eL (row r)), .dat (eL (row l)), j8, j9, j10]) := by
    simp [SZ, runF, exSs, exS, evE, evEs, evVs, evAs, evK, evAt, evOt, evAnd, evOr, evO, evI, gt, look, looks, opIx, asL, asI, asB, atD, ixOf, opCmp, opBi, Mt.one, Mt.two, opBin, opAdd, opMul, own, asSl, frz, opSet, iI, iB, isEmp, maskS, L2.ixN, opLen, opTru, vw, eqD, isScal, isKind, tupleOf, Mt.listOf, seqOf, mkT, mkL, argSl, lents, isOwn, emps, posOf, gbk, giveBack, doCall, arr, slsOf, exTs, exT, putT, putTs, muOk, opMu, okR, itemsOf, plOf, opens_nil, opens_cons, lockAll, unlockAll, lockS, unlockS, isOpen, isTp, inD, isD, opAug, slR, cnD, opIn, wipeS, backS, sqn, PyData.eqv, f17_1a4]
  have l1 : (row l).length + 1 ≤ 16777216 := by omega
  have l2 : (row l).length + 1 + (row r).length ≤ 16777216 := by omega
  have eLN : eL (x :: N) = .tuple ((row l).map nI ++ [nI v] ++ (row r).map nI) := by
    unfold eL
    rw [← hcat]
    simp
  have b5 : exS (sem P (k + 2)) f17_1a5 [.dat (eB bs), Tt, .lst false xs, .lst false told, .dat (eTr bs (.node l v r)), .dat (.bool true), .dat (eL (row r)), .dat (eL (row l)), j8, j9, j10] = some (.nx, [.dat (eB bs), Tt, .lst false xs, .lst false told, .dat (eTr bs (.node l v r)), .dat (.bool true), .dat (eL (row r)), .dat (eL (row l)), .dat (eL (x :: N)), j9, j10]) := by
    rw [eH, eLN]
    simp [SZ, runF, exSs, exS, evE, evEs, evVs, evAs, evK, evAt, evOt, evAnd, evOr, evO, evI, gt, look, looks, opIx, asL, asI, asB, atD, ixOf, opCmp, opBi, Mt.one, Mt.two, opBin, opAdd, opMul, own, asSl, frz, opSet, iI, iB, isEmp, maskS, L2.ixN, opLen, opTru, vw, eqD, isScal, isKind, tupleOf, Mt.listOf, seqOf, mkT, mkL, argSl, lents, isOwn, emps, posOf, gbk, giveBack, doCall, arr, slsOf, exTs, exT, putT, putTs, muOk, opMu, okR, itemsOf, plOf, opens_nil, opens_cons, lockAll, unlockAll, lockS, unlockS, isOpen, isTp, inD, isD, opAug, slR, cnD, opIn, wipeS, backS, sqn, PyData.eqv, f17_1a5, eL, l1, l2, nI]
  have b6 : exS (sem P (k + 2)) f17_1a6 [.dat (eB bs), Tt, .lst false xs, .lst false told, .dat (eTr bs (.node l v r)), .dat (.bool true), .dat (eL (row r)), .dat (eL (row l)), .dat (eL (x :: N)), j9, j10] = some (.nx, [.dat (eB bs), Tt, .lst false xs, .lst false told, .dat (eTr bs (.node l v r)), .dat (.bool true), .dat (eL (row r)), .dat (eL (row l)), .dat (eL (x :: N)), .dat (eT (tb (bF bs x))), j10]) := by
    have a1 : atD ((x :: N).map nI) 0 = some (.int x) := by simp [atD, ixOf, L2.ixN, nI]
    have i1 : evE (sem P (k + 2)) (.ix (.v 8) (.c (.int 0))) [.dat (eB bs), Tt, .lst false xs, .lst false told, .dat (eTr bs (.node l v r)), .dat (.bool true), .dat (eL (row r)), .dat (eL (row l)), .dat (eL (x :: N)), j9, j10] = some (.dat (.int x), [.dat (eB bs), Tt, .lst false xs, .lst false told, .dat (eTr bs (.node l v r)), .dat (.bool true), .dat (eL (row r)), .dat (eL (row l)), .dat (eL (x :: N)), j9, j10]) := by
      simp only [evE, gt, look, eL, opIx, a1]
    have i2 : evE (sem P (k + 2)) (.ix (.v 0) (.ix (.v 8) (.c (.int 0)))) [.dat (eB bs), Tt, .lst false xs, .lst false told, .dat (eTr bs (.node l v r)), .dat (.bool true), .dat (eL (row r)), .dat (eL (row l)), .dat (eL (x :: N)), j9, j10] = some (.dat (eT (tb (bF bs x))), [.dat (eB bs), Tt, .lst false xs, .lst false told, .dat (eTr bs (.node l v r)), .dat (.bool true), .dat (eL (row r)), .dat (eL (row l)), .dat (eL (x :: N)), j9, j10]) := by
      exact ix_ok (i := (x : Int)) (xs := bs.map fun f => eT (tb f)) rfl i1 e0
    exact set_dat i2
  have b7 : exS (sem P (k + 2)) f17_1a7 [.dat (eB bs), Tt, .lst false xs, .lst false told, .dat (eTr bs (.node l v r)), .dat (.bool true), .dat (eL (row r)), .dat (eL (row l)), .dat (eL (x :: N)), .dat (eT (tb (bF bs x))), j10] = some (.nx, [.dat (eB bs), Tt, .lst false xs, .lst false told, .dat (eTr bs (.node l v r)), .dat (.bool true), .dat (eL (row r)), .dat (eL (row l)), .dat (eL (x :: N)), .dat (eT (tb (prodL bs (x :: N)))), j]) := by
    refine fr_nx (xs := N.map nI) ?_ fo
    have c1 : cutD ((x :: N).map nI) (some 1) none = N.map nI := by
      have := cutD_drop ((x :: N).map nI) 1
      simpa using this
    simp only [evI, evE, evO, gt, look, eL, opSl, asI, c1, itemsOf, plOf]
  have b8 : exS (sem P (k + 2)) f17_1a8 [.dat (eB bs), Tt, .lst false xs, .lst false told, .dat (eTr bs (.node l v r)), .dat (.bool true), .dat (eL (row r)), .dat (eL (row l)), .dat (eL (x :: N)), .dat (eT (tb (prodL bs (x :: N)))), j] = some (.nx, [.dat (eB bs), Tt, .lst false xs, .lst false told, .dat (eTr bs (.node l v r)), .dat (.bool true), .dat (eL (row r)), .dat (eL (row l)), .dat (eL (x :: N)), .dat (eT (tb (prodL bs (x :: N)))), j]) := by
    have hf' := hf
    unfold fair at hf'
    have hN3 : size l + 1 + size r = N.length + 1 := by rw [← sn, hsz]; rfl
    have q : ¬ (3 * ((N.length : Int) + 1 + 1) < 4 * ((if size l < size r then (size r : Int) else (size l : Int)) + 1)) := by split <;> omega
    rw [eH]
    generalize eT (tb (prodL bs (x :: N))) = R at sm ⊢
    simp [SZ, runF, exSs, exS, evE, evEs, evVs, evAs, evK, evAt, evOt, evAnd, evOr, evO, evI, gt, look, looks, opIx, asL, asI, asB, atD, ixOf, opCmp, opBi, Mt.one, Mt.two, opBin, opAdd, opMul, own, asSl, frz, opSet, iI, iB, isEmp, maskS, L2.ixN, opLen, opTru, vw, eqD, isScal, isKind, tupleOf, Mt.listOf, seqOf, mkT, mkL, argSl, lents, isOwn, emps, posOf, gbk, giveBack, doCall, arr, slsOf, exTs, exT, putT, putTs, muOk, opMu, okR, itemsOf, plOf, opens_nil, opens_cons, lockAll, unlockAll, lockS, unlockS, isOpen, isTp, inD, isD, opAug, slR, cnD, opIn, wipeS, backS, sqn, PyData.eqv, f17_1a8, eL, sm, hL, hR, q]
  have b9 : exS (sem P (k + 2)) f17_1a9 [.dat (eB bs), Tt, .lst false xs, .lst false told, .dat (eTr bs (.node l v r)), .dat (.bool true), .dat (eL (row r)), .dat (eL (row l)), .dat (eL (x :: N)), .dat (eT (tb (prodL bs (x :: N)))), j] = some (.nx, [.dat (eB bs), Tt, .lst false xs, .lst false (told ++ [eL (x :: N)]), .dat (eTr bs (.node l v r)), .dat (.bool true), .dat (eL (row r)), .dat (eL (row l)), .dat (eL (x :: N)), .dat (eT (tb (prodL bs (x :: N)))), j]) := by
    have : told.length < 16777216 := by omega
    simp [SZ, runF, exSs, exS, evE, evEs, evVs, evAs, evK, evAt, evOt, evAnd, evOr, evO, evI, gt, look, looks, opIx, asL, asI, asB, atD, ixOf, opCmp, opBi, Mt.one, Mt.two, opBin, opAdd, opMul, own, asSl, frz, opSet, iI, iB, isEmp, maskS, L2.ixN, opLen, opTru, vw, eqD, isScal, isKind, tupleOf, Mt.listOf, seqOf, mkT, mkL, argSl, lents, isOwn, emps, posOf, gbk, giveBack, doCall, arr, slsOf, exTs, exT, putT, putTs, muOk, opMu, okR, itemsOf, plOf, opens_nil, opens_cons, lockAll, unlockAll, lockS, unlockS, isOpen, isTp, inD, isD, opAug, slR, cnD, opIn, wipeS, backS, sqn, PyData.eqv, f17_1a9, this]
  rw [hN]
  simp only [f17_1_l, exSs]
  rw [b0]
  simp only []
  rw [b1]
  simp only []
  rw [b2]
  simp only []
  rw [b3]
  simp only []
  rw [b4]
  simp only []
  rw [b5]
  simp only []
  rw [b6]
  simp only []
  rw [b7]
  simp only []
  rw [b8]
  simp only []
  rw [b9]
  rfl
end Mk20

set_option Elab.async false
set_option linter.all false
set_option maxRecDepth 100000
set_option maxHeartbeats 8000000
namespace Mk20
open Mt PySem
abbrev S17 (bs : List F3) (Tt : Sl) (xs told : List D) (js : List Sl) : MS := [.dat (eB bs), Tt, .lst false xs, .lst false told] ++ js
def Js (js : List Sl) : Prop := ∃ j4 j5 j6 j7 j8 j9 j10, js = [j4, j5, j6, j7, j8, j9, j10]
theorem tasks_snoc (bs : List F3) (ls : List (Tr × Bool)) (t : Tr) (b : Bool) : tasks bs (ls ++ [(t, b)]) = tasks bs ls ++ [task bs t b] := by simp [tasks]
theorem look_run (k : Nat) (hk : 4 ≤ k) (bs : List F3) (Tt : Sl) : ∀ (t : Tr) (ls : List (Tr × Bool)) (told : List D) (js : List Sl), Js js → Bal t → Ok bs (row t) → (∀ p ∈ ls, size p.1 ≤ 40) → size t ≤ 40 → told.length + size t + 3 ≤ 1000 → ls.length + 3 * size t + 3 ≤ 1000 →
    ∃ qs, Js qs ∧ loopF (whStep (sem P k) c17 f17_1_l) (S17 bs Tt (tasks bs ls ++ [task bs t false]) told js) = loopF (whStep (sem P k) c17 f17_1_l) (S17 bs Tt (tasks bs ls) (told ++ [eL (row t)]) qs)
  | .nil, ls, told, js, hj, hb, ho, hl, hs, h1, h2 => by
    obtain ⟨j4, j5, j6, j7, j8, j9, j10, rfl⟩ := hj
    have sh := sh_tasks bs (ls ++ [(.nil, false)]) fun p hp => by
      rcases List.mem_append.mp hp with hp | hp
      · exact hl p hp
      · rw [List.mem_singleton.mp hp]; exact hs
    rw [tasks_snoc] at sh
    rw [loopF_eq, look_nil _ _ _ _ _ _ _ _ _ _ _ _ sh (by omega)]
    exact ⟨_, ⟨_, _, _, _, _, _, _, rfl⟩, rfl⟩
  | .node l v r, ls, told, js, hj, ⟨b0, b1, b2⟩, ho, hl, hs, h1, h2 => by
    have sn := size_node l r v
    have full := ho
    obtain ⟨o1, o2, o3⟩ := ok_node.mp ho
    obtain ⟨j4, j5, j6, j7, j8, j9, j10, rfl⟩ := hj
    have sh := fun b : Bool => sh_tasks bs (ls ++ [(.node l v r, b)]) fun p hp => by
      rcases List.mem_append.mp hp with hp | hp
      · exact hl p hp
      · rw [List.mem_singleton.mp hp]; exact hs
    simp only [tasks_snoc] at sh
    have e1 : tasks bs ls ++ [task bs (.node l v r) true, task bs r false, task bs l false] = tasks bs (ls ++ [(.node l v r, true), (r, false)]) ++ [task bs l false] := by simp [tasks]
    have e2 : tasks bs (ls ++ [(.node l v r, true), (r, false)]) = tasks bs (ls ++ [(.node l v r, true)]) ++ [task bs r false] := by simp [tasks]
    have tl : (tasks bs ls).length = ls.length := by simp [tasks]
    rw [loopF_eq, look_node _ _ _ _ _ _ _ _ _ _ _ _ _ _ _ (sh false) (by omega)]
    simp only []
    obtain ⟨qs, g1, r1⟩ := look_run k hk bs Tt l (ls ++ [(.node l v r, true), (r, false)]) told [.dat (eTr bs (.node l v r)), .dat (.bool false), j6, j7, j8, j9, j10] ⟨_, _, _, _, _, _, _, rfl⟩ b1 o1 (fun p hp => by
      rcases List.mem_append.mp hp with hp | hp
      · exact hl p hp
      · simp only [List.mem_cons, List.not_mem_nil, or_false] at hp
        rcases hp with rfl | rfl
        · exact hs
        · show size r ≤ 40; omega) (by omega) (by omega) (by simp only [List.length_append, List.length_cons, List.length_nil]; omega)
    obtain ⟨qs2, g2, r2⟩ := look_run k hk bs Tt r (ls ++ [(.node l v r, true)]) (told ++ [eL (row l)]) qs g1 b2 o3 (fun p hp => by
      rcases List.mem_append.mp hp with hp | hp
      · exact hl p hp
      · rw [List.mem_singleton.mp hp]; exact hs) (by omega) (by simp only [List.length_append, List.length_cons, List.length_nil]; omega) (by simp only [List.length_append, List.length_cons, List.length_nil]; omega)
    obtain ⟨k4, k5, k6, k7, k8, k9, k10, rfl⟩ := g2
    obtain ⟨m4, m5, m6, m7, m8, m9, m10, r3⟩ := look_full k hk bs Tt (tasks bs ls) told l r v k4 k5 k6 k7 k8 k9 k10 (sh true) (by omega) b0 full (by omega)
    refine ⟨[m4, m5, m6, m7, m8, m9, m10], ⟨_, _, _, _, _, _, _, rfl⟩, ?_⟩
    rw [e2] at r1
    rw [tasks_snoc] at r1 r2
    rw [loopF_eq _ (S17 bs Tt (tasks bs ls ++ [task bs (.node l v r) true]) _ _)] at r2
    have e3 : told ++ [eL (row l)] ++ [eL (row r)] = told ++ [eL (row l), eL (row r)] := by simp
    rw [e3, r3] at r2
    rw [e1, e2, tasks_snoc]
    exact r1.trans r2
end Mk20

set_option Elab.async false
set_option linter.all false
set_option maxRecDepth 100000
set_option maxHeartbeats 8000000
namespace Mk20
open Mt PySem
theorem looked_ok (k : Nat) (hk : 4 ≤ k) (bs : List F3) (t : Tr) (hb : Bal t) (ho : Ok bs (row t)) (hs : size t ≤ 40) : ∃ ss, sem P (k + 1) 17 [.dat (eB bs), .dat (eTr bs t)] = some (.dat (eL (row t)), ss) := by
  rw [s17]
  obtain ⟨qs, ⟨q4, q5, q6, q7, q8, q9, q10, rfl⟩, r⟩ := look_run k hk bs (.dat (eTr bs t)) t [] [] [.emp, .emp, .emp, .emp, .emp, .emp, .emp] ⟨_, _, _, _, _, _, _, rfl⟩ hb ho (fun p hp => nomatch hp) hs (by simp; omega) (by simp; omega)
  have e8 : whStep (sem P k) c17 f17_1_l (S17 bs (.dat (eTr bs t)) [] [eL (row t)] [q4, q5, q6, q7, q8, q9, q10]) = some (.inr (.nx, S17 bs (.dat (eTr bs t)) [] [eL (row t)] [q4, q5, q6, q7, q8, q9, q10])) := wh_false (cond17n (sem P k) _ _ _ [q4, q5, q6, q7, q8, q9, q10])
  have e9 := loopF_eq (whStep (sem P k) c17 f17_1_l) (S17 bs (.dat (eTr bs t)) [] [eL (row t)] [q4, q5, q6, q7, q8, q9, q10])
  rw [e8] at e9
  replace r := r.trans e9
  have e1 : exS (sem P k) f17_1 [.dat (eB bs), .dat (eTr bs t), .lst false [task bs t false], .lst false [], .emp, .emp, .emp, .emp, .emp, .emp, .emp] = some (.nx, [.dat (eB bs), .dat (eTr bs t), .lst false [], .lst false [eL (row t)], q4, q5, q6, q7, q8, q9, q10]) := by
    show exS (sem P k) (.whl c17 f17_1_l) _ = _
    rw [wh_eq]
    exact r
  have e0 : exS (sem P k) f17_0 [.dat (eB bs), .dat (eTr bs t), .emp, .emp, .emp, .emp, .emp, .emp, .emp, .emp, .emp] = some (.nx, [.dat (eB bs), .dat (eTr bs t), .lst false [task bs t false], .lst false [], .emp, .emp, .emp, .emp, .emp, .emp, .emp]) := by
    simp [SZ, runF, exSs, exS, evE, evEs, evVs, evAs, evK, evAt, evOt, evAnd, evOr, evO, evI, gt, look, looks, opIx, asL, asI, asB, atD, ixOf, opCmp, opBi, Mt.one, Mt.two, opBin, opAdd, opMul, own, asSl, frz, opSet, iI, iB, isEmp, maskS, L2.ixN, opLen, opTru, vw, eqD, isScal, isKind, tupleOf, Mt.listOf, seqOf, mkT, mkL, argSl, lents, isOwn, emps, posOf, gbk, giveBack, doCall, arr, slsOf, exTs, exT, putT, putTs, muOk, opMu, okR, itemsOf, plOf, opens_nil, opens_cons, lockAll, unlockAll, lockS, unlockS, isOpen, isTp, inD, isD, opAug, slR, cnD, opIn, wipeS, backS, sqn, PyData.eqv, f17_0, task]
  simp [SZ, runF, exSs, exS, evE, evEs, evVs, evAs, evK, evAt, evOt, evAnd, evOr, evO, evI, gt, look, looks, opIx, asL, asI, asB, atD, ixOf, opCmp, opBi, Mt.one, Mt.two, opBin, opAdd, opMul, own, asSl, frz, opSet, iI, iB, isEmp, maskS, L2.ixN, opLen, opTru, vw, eqD, isScal, isKind, tupleOf, Mt.listOf, seqOf, mkT, mkL, argSl, lents, isOwn, emps, posOf, gbk, giveBack, doCall, arr, slsOf, exTs, exT, putT, putTs, muOk, opMu, okR, itemsOf, plOf, opens_nil, opens_cons, lockAll, unlockAll, lockS, unlockS, isOpen, isTp, inD, isD, opAug, slR, cnD, opIn, wipeS, backS, sqn, PyData.eqv, f17, e0, e1, f17_2]
/-! ### draws -/
theorem take_ok (k : Nat) (a b m : Int) (h : 0 < m) (h2 : m < 1073741824) : ∃ d a' b', sem P (k + 1) 13 [.lst false [.int a, .int b], .dat (.int m)] = some (iI d, [.lst false [.int a', .int b'], .dat (.int m)]) ∧ 0 ≤ d ∧ d < m := by
  rw [s13]
  by_cases ha : 0 < a
  · simp [SZ, runF, exSs, exS, evE, evEs, evVs, evAs, evK, evAt, evOt, evAnd, evOr, evO, evI, gt, look, looks, opIx, asL, asI, asB, atD, ixOf, opCmp, opBi, Mt.one, Mt.two, opBin, opAdd, opMul, own, asSl, frz, opSet, iI, iB, isEmp, maskS, L2.ixN, opLen, opTru, vw, eqD, isScal, isKind, tupleOf, Mt.listOf, seqOf, mkT, mkL, argSl, lents, isOwn, emps, posOf, gbk, giveBack, doCall, arr, slsOf, exTs, exT, putT, putTs, muOk, opMu, okR, itemsOf, plOf, opens_nil, opens_cons, lockAll, unlockAll, lockS, unlockS, isOpen, isTp, inD, isD, opAug, slR, cnD, opIn, wipeS, backS, sqn, PyData.eqv, f13, f13_0, f13_0a0, f13_0a1, f13_0a2, h, h2, ha]
    exact ⟨Int.emod_nonneg _ (by omega), Int.emod_lt_of_pos _ h⟩
  · simp [SZ, runF, exSs, exS, evE, evEs, evVs, evAs, evK, evAt, evOt, evAnd, evOr, evO, evI, gt, look, looks, opIx, asL, asI, asB, atD, ixOf, opCmp, opBi, Mt.one, Mt.two, opBin, opAdd, opMul, own, asSl, frz, opSet, iI, iB, isEmp, maskS, L2.ixN, opLen, opTru, vw, eqD, isScal, isKind, tupleOf, Mt.listOf, seqOf, mkT, mkL, argSl, lents, isOwn, emps, posOf, gbk, giveBack, doCall, arr, slsOf, exTs, exT, putT, putTs, muOk, opMu, okR, itemsOf, plOf, opens_nil, opens_cons, lockAll, unlockAll, lockS, unlockS, isOpen, isTp, inD, isD, opAug, slR, cnD, opIn, wipeS, backS, sqn, PyData.eqv, f13, f13_0, f13_1, f13_2, f13_3, h, h2, ha]
    exact ⟨Int.emod_nonneg _ (by omega), Int.emod_lt_of_pos _ h⟩
theorem take_int (k : Nat) (a b : Int) (m : Int) (h : 0 < m) (h2 : m < 1000) : ∃ (d : Nat) (a' b' : Int), sem P (k + 1) 13 [.lst false [.int a, .int b], .dat (.int m)] = some (.dat (.int (d : Int)), [.lst false [.int a', .int b'], .dat (.int m)]) ∧ (d : Int) < m := by
  obtain ⟨d, a', b', e, h3, h4⟩ := take_ok k a b m (by omega) (by omega)
  obtain ⟨n, rfl⟩ : ∃ n : Nat, d = n := ⟨d.toNat, by omega⟩
  exact ⟨n, a', b', e, by omega⟩
theorem box_cell {cl : Call} (ns : List Int) (j : Nat) : ∃ c : Int, exS cl f12_1 [.scr (ns.map PyData.int), .dat (.int j), .dat (.int (27011 * j + 8101)), .emp] = some (.nx, [.scr (ns.map PyData.int), .dat (.int j), .dat (.int c), .emp]) := by
  by_cases hj : j < ns.length
  · have e : (ns.map PyData.int)[j]? = some (.int ns[j]) := by rw [List.getElem?_map, List.getElem?_eq_getElem hj]; rfl
    simp [SZ, runF, exSs, exS, evE, evEs, evVs, evAs, evK, evAt, evOt, evAnd, evOr, evO, evI, gt, look, looks, opIx, asL, asI, asB, atD, ixOf, opCmp, opBi, Mt.one, Mt.two, opBin, opAdd, opMul, own, asSl, frz, opSet, iI, iB, isEmp, maskS, L2.ixN, opLen, opTru, vw, eqD, isScal, isKind, tupleOf, Mt.listOf, seqOf, mkT, mkL, argSl, lents, isOwn, emps, posOf, gbk, giveBack, doCall, arr, slsOf, exTs, exT, putT, putTs, muOk, opMu, okR, itemsOf, plOf, opens_nil, opens_cons, lockAll, unlockAll, lockS, unlockS, isOpen, isTp, inD, isD, opAug, slR, cnD, opIn, wipeS, backS, sqn, PyData.eqv, f12_1, f12_1a0, hj, e]
  · by_cases h0 : 0 < ns.length
    · have hm : ((j : Int) % (ns.length : Int)).toNat = j % ns.length := by rw [← Int.natCast_emod]; rfl
      have hm1 : 0 ≤ (j : Int) % (ns.length : Int) := Int.emod_nonneg _ (by omega)
      have hm2 : (j : Int) % (ns.length : Int) < (ns.length : Int) := Int.emod_lt_of_pos _ (by omega)
      have hl : j % ns.length < ns.length := Nat.mod_lt _ h0
      have e : (ns.map PyData.int)[j % ns.length]? = some (.int ns[j % ns.length]) := by rw [List.getElem?_map, List.getElem?_eq_getElem hl]; rfl
      simp [SZ, runF, exSs, exS, evE, evEs, evVs, evAs, evK, evAt, evOt, evAnd, evOr, evO, evI, gt, look, looks, opIx, asL, asI, asB, atD, ixOf, opCmp, opBi, Mt.one, Mt.two, opBin, opAdd, opMul, own, asSl, frz, opSet, iI, iB, isEmp, maskS, L2.ixN, opLen, opTru, vw, eqD, isScal, isKind, tupleOf, Mt.listOf, seqOf, mkT, mkL, argSl, lents, isOwn, emps, posOf, gbk, giveBack, doCall, arr, slsOf, exTs, exT, putT, putTs, muOk, opMu, okR, itemsOf, plOf, opens_nil, opens_cons, lockAll, unlockAll, lockS, unlockS, isOpen, isTp, inD, isD, opAug, slR, cnD, opIn, wipeS, backS, sqn, PyData.eqv, f12_1, f12_1b0, f12_1b0a0, hj, h0, hm, hm1, hm2, hl, e]
    · simp [SZ, runF, exSs, exS, evE, evEs, evVs, evAs, evK, evAt, evOt, evAnd, evOr, evO, evI, gt, look, looks, opIx, asL, asI, asB, atD, ixOf, opCmp, opBi, Mt.one, Mt.two, opBin, opAdd, opMul, own, asSl, frz, opSet, iI, iB, isEmp, maskS, L2.ixN, opLen, opTru, vw, eqD, isScal, isKind, tupleOf, Mt.listOf, seqOf, mkT, mkL, argSl, lents, isOwn, emps, posOf, gbk, giveBack, doCall, arr, slsOf, exTs, exT, putT, putTs, muOk, opMu, okR, itemsOf, plOf, opens_nil, opens_cons, lockAll, unlockAll, lockS, unlockS, isOpen, isTp, inD, isD, opAug, slR, cnD, opIn, wipeS, backS, sqn, PyData.eqv, f12_1, f12_1b0, hj, h0]
theorem box_ok (k : Nat) (ns : List Int) (j : Nat) : ∃ a b, sem P (k + 1) 12 [.scr (ns.map PyData.int), .dat (.int j)] = some (.lst [.int a, .int b], [.scr (ns.map PyData.int), .dat (.int j)]) := by
  rw [s12]
  obtain ⟨c, e⟩ := box_cell (cl := sem P k) ns j
  by_cases hc : 1000000000000000000 ≤ c
  · simp [SZ, runF, exSs, exS, evE, evEs, evVs, evAs, evK, evAt, evOt, evAnd, evOr, evO, evI, gt, look, looks, opIx, asL, asI, asB, atD, ixOf, opCmp, opBi, Mt.one, Mt.two, opBin, opAdd, opMul, own, asSl, frz, opSet, iI, iB, isEmp, maskS, L2.ixN, opLen, opTru, vw, eqD, isScal, isKind, tupleOf, Mt.listOf, seqOf, mkT, mkL, argSl, lents, isOwn, emps, posOf, gbk, giveBack, doCall, arr, slsOf, exTs, exT, putT, putTs, muOk, opMu, okR, itemsOf, plOf, opens_nil, opens_cons, lockAll, unlockAll, lockS, unlockS, isOpen, isTp, inD, isD, opAug, slR, cnD, opIn, wipeS, backS, sqn, PyData.eqv, f12, f12_0, e, f12_2, f12_3, hc]
  · simp [SZ, runF, exSs, exS, evE, evEs, evVs, evAs, evK, evAt, evOt, evAnd, evOr, evO, evI, gt, look, looks, opIx, asL, asI, asB, atD, ixOf, opCmp, opBi, Mt.one, Mt.two, opBin, opAdd, opMul, own, asSl, frz, opSet, iI, iB, isEmp, maskS, L2.ixN, opLen, opTru, vw, eqD, isScal, isKind, tupleOf, Mt.listOf, seqOf, mkT, mkL, argSl, lents, isOwn, emps, posOf, gbk, giveBack, doCall, arr, slsOf, exTs, exT, putT, putTs, muOk, opMu, okR, itemsOf, plOf, opens_nil, opens_cons, lockAll, unlockAll, lockS, unlockS, isOpen, isTp, inD, isD, opAug, slR, cnD, opIn, wipeS, backS, sqn, PyData.eqv, f12, f12_0, e, f12_2, f12_3, hc]
abbrev bx (a b : Int) : Sl := .lst false [.int a, .int b]
theorem edit_ok (k : Nat) (a b : Int) (vs : List Nat) (m : Nat) (h : 0 < m) (hm : m < 10) (hl : vs.length < 100) : ∃ e a' b', sem P (k + 2) 15 [bx a b, .dat (eL vs), .dat (.int m)] = some (.dat (eEd e), [bx a' b', .dat (eL vs), .dat (.int m)]) ∧ Fit vs m e := by
  rw [s15]
  have sl := sh_log vs
  have s0 := sh_log []
  simp only [eL, List.map_nil] at sl s0
  obtain ⟨w, a1, b1, t1, h1⟩ := take_int k a b 3 (by omega) (by omega)
  by_cases hv : vs = []
  · subst hv
    obtain ⟨p, a2, b2, t2, h2⟩ := take_int k a b 1 (by omega) (by omega)
    obtain ⟨n, a3, b3, t3, h3⟩ := take_int k a2 b2 m (by omega) (by omega)
    refine ⟨.put p n, a3, b3, ?_, by show p ≤ 0; omega, by omega⟩
    simp [SZ, runF, exSs, exS, evE, evEs, evVs, evAs, evK, evAt, evOt, evAnd, evOr, evO, evI, gt, look, looks, opIx, asL, asI, asB, atD, ixOf, opCmp, opBi, Mt.one, Mt.two, opBin, opAdd, opMul, own, asSl, frz, opSet, iI, iB, isEmp, maskS, L2.ixN, opLen, opTru, vw, eqD, isScal, isKind, tupleOf, Mt.listOf, seqOf, mkT, mkL, argSl, lents, isOwn, emps, posOf, gbk, giveBack, doCall, arr, slsOf, exTs, exT, putT, putTs, muOk, opMu, okR, itemsOf, plOf, opens_nil, opens_cons, lockAll, unlockAll, lockS, unlockS, isOpen, isTp, inD, isD, opAug, slR, cnD, opIn, wipeS, backS, sqn, PyData.eqv, f15, f15_0, f15_1, f15_1a0, t2, t3, eEd, eL, s0, PyData.eqvAll]
  · have hp : 0 < vs.length := List.length_pos_iff.mpr hv
    have hq : PyData.eqvAll (vs.map nI) [] = false := by
      cases vs with
      | nil => exact absurd rfl hv
      | cons x r => rfl
    have c0 : exS (sem P (k + 1)) f15_0 [bx a b, .dat (.tuple (vs.map nI)), .dat (.int m), .emp] = some (.nx, [bx a1 b1, .dat (.tuple (vs.map nI)), .dat (.int m), .dat (.int (w : Int))]) := by
      simp [SZ, runF, exSs, exS, evE, evEs, evVs, evAs, evK, evAt, evOt, evAnd, evOr, evO, evI, gt, look, looks, opIx, asL, asI, asB, atD, ixOf, opCmp, opBi, Mt.one, Mt.two, opBin, opAdd, opMul, own, asSl, frz, opSet, iI, iB, isEmp, maskS, L2.ixN, opLen, opTru, vw, eqD, isScal, isKind, tupleOf, Mt.listOf, seqOf, mkT, mkL, argSl, lents, isOwn, emps, posOf, gbk, giveBack, doCall, arr, slsOf, exTs, exT, putT, putTs, muOk, opMu, okR, itemsOf, plOf, opens_nil, opens_cons, lockAll, unlockAll, lockS, unlockS, isOpen, isTp, inD, isD, opAug, slR, cnD, opIn, wipeS, backS, sqn, PyData.eqv, f15_0, sl, s0, hq, t1]
    by_cases w0 : w = 0
    · subst w0
      obtain ⟨p, a2, b2, t2, h2⟩ := take_int k a1 b1 ((vs.length : Int) + 1) (by omega) (by omega)
      obtain ⟨n, a3, b3, t3, h3⟩ := take_int k a2 b2 m (by omega) (by omega)
      refine ⟨.put p n, a3, b3, ?_, by show p ≤ vs.length; omega, by omega⟩
      simp [SZ, runF, exSs, exS, evE, evEs, evVs, evAs, evK, evAt, evOt, evAnd, evOr, evO, evI, gt, look, looks, opIx, asL, asI, asB, atD, ixOf, opCmp, opBi, Mt.one, Mt.two, opBin, opAdd, opMul, own, asSl, frz, opSet, iI, iB, isEmp, maskS, L2.ixN, opLen, opTru, vw, eqD, isScal, isKind, tupleOf, Mt.listOf, seqOf, mkT, mkL, argSl, lents, isOwn, emps, posOf, gbk, giveBack, doCall, arr, slsOf, exTs, exT, putT, putTs, muOk, opMu, okR, itemsOf, plOf, opens_nil, opens_cons, lockAll, unlockAll, lockS, unlockS, isOpen, isTp, inD, isD, opAug, slR, cnD, opIn, wipeS, backS, sqn, PyData.eqv, f15, c0, f15_1, f15_1a0, t2, t3, eEd, eL]
    · obtain ⟨p, a2, b2, t2, h2⟩ := take_int k a1 b1 (vs.length : Int) (by omega) (by omega)
      by_cases w1 : w = 1
      · subst w1
        refine ⟨.out p, a2, b2, ?_, by show p < vs.length; omega⟩
        simp [SZ, runF, exSs, exS, evE, evEs, evVs, evAs, evK, evAt, evOt, evAnd, evOr, evO, evI, gt, look, looks, opIx, asL, asI, asB, atD, ixOf, opCmp, opBi, Mt.one, Mt.two, opBin, opAdd, opMul, own, asSl, frz, opSet, iI, iB, isEmp, maskS, L2.ixN, opLen, opTru, vw, eqD, isScal, isKind, tupleOf, Mt.listOf, seqOf, mkT, mkL, argSl, lents, isOwn, emps, posOf, gbk, giveBack, doCall, arr, slsOf, exTs, exT, putT, putTs, muOk, opMu, okR, itemsOf, plOf, opens_nil, opens_cons, lockAll, unlockAll, lockS, unlockS, isOpen, isTp, inD, isD, opAug, slR, cnD, opIn, wipeS, backS, sqn, PyData.eqv, f15, c0, f15_1, f15_2, t2, eEd, eL]
      · obtain ⟨n, a3, b3, t3, h3⟩ := take_int k a2 b2 m (by omega) (by omega)
        refine ⟨.turn p n, a3, b3, ?_, by show p < vs.length; omega, by omega⟩
        have z0 : ((w : Int) == 0) = false := by simp; omega
        have z1 : ((w : Int) == 1) = false := by simp; omega
        simp [SZ, runF, exSs, exS, evE, evEs, evVs, evAs, evK, evAt, evOt, evAnd, evOr, evO, evI, gt, look, looks, opIx, asL, asI, asB, atD, ixOf, opCmp, opBi, Mt.one, Mt.two, opBin, opAdd, opMul, own, asSl, frz, opSet, iI, iB, isEmp, maskS, L2.ixN, opLen, opTru, vw, eqD, isScal, isKind, tupleOf, Mt.listOf, seqOf, mkT, mkL, argSl, lents, isOwn, emps, posOf, gbk, giveBack, doCall, arr, slsOf, exTs, exT, putT, putTs, muOk, opMu, okR, itemsOf, plOf, opens_nil, opens_cons, lockAll, unlockAll, lockS, unlockS, isOpen, isTp, inD, isD, opAug, slR, cnD, opIn, wipeS, backS, sqn, PyData.eqv, f15, c0, f15_1, f15_2, t2, t3, eEd, eL, z0, z1]
end Mk20

set_option Elab.async false
set_option linter.all false
set_option maxRecDepth 100000
set_option maxHeartbeats 8000000
namespace Mk20
open Mt PySem
theorem lcL_inv {f : D → MS → Option (Option D × MS)} (I : MS → Prop) (Q : D → Prop) : ∀ (xs : List D) (acc : List D) (st : MS), I st → (∀ x ∈ xs, ∀ st, I st → ∃ y st', f x st = some (some y, st') ∧ I st' ∧ Q y) → acc.length + xs.length ≤ SZ →
    ∃ ys st', lcL f xs acc st = some (acc ++ ys, st') ∧ I st' ∧ ys.length = xs.length ∧ ∀ y ∈ ys, Q y
  | [], acc, st, hi, _, _ => ⟨[], st, by simp [lcL], hi, rfl, fun y h => nomatch h⟩
  | x :: xs, acc, st, hi, h, hl => by
    obtain ⟨y, st1, e1, i1, q1⟩ := h x List.mem_cons_self st hi
    simp only [List.length_cons] at hl
    obtain ⟨ys, st2, e2, i2, l2, q2⟩ := lcL_inv I Q xs (acc ++ [y]) st1 i1 (fun z hz => h z (List.mem_cons_of_mem _ hz)) (by rw [List.length_append, List.length_singleton]; omega)
    refine ⟨y :: ys, st2, ?_, i2, by rw [List.length_cons, List.length_cons, l2], List.forall_mem_cons.mpr ⟨q1, q2⟩⟩
    simp only [lcL]
    rw [e1]
    simp only []
    rw [if_pos (by omega), e2]
    simp
theorem lc_inv {cl : Call} {vs : List Nat} {tg : Tg} {it elt : E} {st st0 : MS} {xs : List D} (I : MS → Prop) (Q : D → Prop) (h : evI cl it st = some (xs, [], st0)) (hv : vs.any (fun i => isOwn (gt st0 i)) = false)
    (h0 : I (wipeS st0 vs)) (hs : ∀ x ∈ xs, ∀ st, I st → ∃ y st', lcBody cl vs tg (.c (.bool true)) elt x st = some (some y, st') ∧ I st' ∧ Q y) (hl : xs.length ≤ SZ) :
    ∃ ys st1, evE cl (.lc vs tg it (.c (.bool true)) elt) st = some (.lst ys, backS st0 st1 vs) ∧ I st1 ∧ ys.length = xs.length ∧ ∀ y ∈ ys, Q y := by
  obtain ⟨ys, st1, e, i1, l1, q1⟩ := lcL_inv I Q xs [] _ h0 hs (by simpa using hl)
  exact ⟨ys, st1, lc_eq (ps := []) h hv e, i1, l1, q1⟩
theorem lcBody_ev {cl : Call} {vs : List Nat} {i : Nat} {elt : E} {x d : D} {st st2 : MS} (h : evE cl elt (st.set i (.dat x)) = some (.dat d, st2)) : lcBody cl vs (.nm i) (.c (.bool true)) elt x st = some (some d, wipeS st2 vs) := by
  simp [lcBody, putT, evE, asB, h, frz]
theorem r3 : rangeD 0 3 = [.int 0, .int 1, .int 2] := rfl
/-! ### the drawn tables -/
abbrev entE : E := .ite (.cmp .eq (.call 13 [none, none] [(.ln 2), (.ex (.c (.int 4)))]) (.c (.int 0))) (.c .none) (.call 13 [none, none] [(.ln 2), (.ex (.c (.int 6)))])
abbrev L18 (sc j1 : Sl) (a b : Int) (j3 j4 j5 j6 j7 j8 j9 j10 o11 o12 o13 : Sl) : MS := [sc, j1, bx a b, j3, j4, j5, j6, j7, j8, j9, j10, o11, o12, o13]
section
variable (k : Nat) (sc j1 j3 j4 j5 j6 j7 j8 j9 j10 : Sl)
theorem ent_ok (a b : Int) (o11 o12 o13 : Sl) : ∃ (p : Pr) (a' b' : Int), evE (sem P (k + 1)) entE (L18 sc j1 a b j3 j4 j5 j6 j7 j8 j9 j10 o11 o12 o13) = some (.dat (eP p), L18 sc j1 a' b' j3 j4 j5 j6 j7 j8 j9 j10 o11 o12 o13) := by
  obtain ⟨w, a1, b1, t1, h1⟩ := take_int k a b 4 (by omega) (by omega)
  obtain ⟨n, a2, b2, t2, h2⟩ := take_int k a1 b1 6 (by omega) (by omega)
  by_cases w0 : w = 0
  · subst w0
    refine ⟨none, a1, b1, ?_⟩
    simp [SZ, runF, exSs, exS, evE, evEs, evVs, evAs, evK, evAt, evOt, evAnd, evOr, evO, evI, gt, look, looks, opIx, asL, asI, asB, atD, ixOf, opCmp, opBi, Mt.one, Mt.two, opBin, opAdd, opMul, own, asSl, frz, opSet, iI, iB, isEmp, maskS, L2.ixN, opLen, opTru, vw, eqD, isScal, isKind, tupleOf, Mt.listOf, seqOf, mkT, mkL, argSl, lents, isOwn, emps, posOf, gbk, giveBack, doCall, arr, slsOf, exTs, exT, putT, putTs, muOk, opMu, okR, itemsOf, plOf, opens_nil, opens_cons, lockAll, unlockAll, lockS, unlockS, isOpen, isTp, inD, isD, opAug, slR, cnD, opIn, wipeS, backS, sqn, PyData.eqv, t1, eP]
  · refine ⟨some n, a2, b2, ?_⟩
    have z0 : ((w : Int) == 0) = false := by simp; omega
    simp [SZ, runF, exSs, exS, evE, evEs, evVs, evAs, evK, evAt, evOt, evAnd, evOr, evO, evI, gt, look, looks, opIx, asL, asI, asB, atD, ixOf, opCmp, opBi, Mt.one, Mt.two, opBin, opAdd, opMul, own, asSl, frz, opSet, iI, iB, isEmp, maskS, L2.ixN, opLen, opTru, vw, eqD, isScal, isKind, tupleOf, Mt.listOf, seqOf, mkT, mkL, argSl, lents, isOwn, emps, posOf, gbk, giveBack, doCall, arr, slsOf, exTs, exT, putT, putTs, muOk, opMu, okR, itemsOf, plOf, opens_nil, opens_cons, lockAll, unlockAll, lockS, unlockS, isOpen, isTp, inD, isD, opAug, slR, cnD, opIn, wipeS, backS, sqn, PyData.eqv, t1, t2, z0, eP]
abbrev rowE : E := .lc [11] (.nm 11) (.rng [(.c (.int 3))]) (.c (.bool true)) entE
theorem rowE_ok (a b : Int) (o12 o13 : Sl) : ∃ (p q r : Pr) (a' b' : Int), evE (sem P (k + 1)) (.bi .tuple [rowE]) (L18 sc j1 a b j3 j4 j5 j6 j7 j8 j9 j10 .emp o12 o13) = some (.dat (eR [p, q, r]), L18 sc j1 a' b' j3 j4 j5 j6 j7 j8 j9 j10 .emp o12 o13) := by
  obtain ⟨ys, st1, e, ⟨a', b', rfl⟩, l, q⟩ := lc_inv (cl := sem P (k + 1)) (vs := [11]) (tg := .nm 11) (it := .rng [(.c (.int 3))]) (elt := entE) (st := L18 sc j1 a b j3 j4 j5 j6 j7 j8 j9 j10 .emp o12 o13) (st0 := L18 sc j1 a b j3 j4 j5 j6 j7 j8 j9 j10 .emp o12 o13) (xs := rangeD 0 3)
    (fun st => ∃ a b, st = L18 sc j1 a b j3 j4 j5 j6 j7 j8 j9 j10 .emp o12 o13) (fun y => ∃ p, y = eP p) (by simp [SZ, runF, exSs, exS, evE, evEs, evVs, evAs, evK, evAt, evOt, evAnd, evOr, evO, evI, gt, look, looks, opIx, asL, asI, asB, atD, ixOf, opCmp, opBi, Mt.one, Mt.two, opBin, opAdd, opMul, own, asSl, frz, opSet, iI, iB, isEmp, maskS, L2.ixN, opLen, opTru, vw, eqD, isScal, isKind, tupleOf, Mt.listOf, seqOf, mkT, mkL, argSl, lents, isOwn, emps, posOf, gbk, giveBack, doCall, arr, slsOf, exTs, exT, putT, putTs, muOk, opMu, okR, itemsOf, plOf, opens_nil, opens_cons, lockAll, unlockAll, lockS, unlockS, isOpen, isTp, inD, isD, opAug, slR, cnD, opIn, wipeS, backS, sqn, PyData.eqv]) rfl ⟨a, b, rfl⟩ (fun x _ st ⟨a, b, e⟩ => by
      subst e
      obtain ⟨p, a', b', e⟩ := ent_ok k sc j1 j3 j4 j5 j6 j7 j8 j9 j10 a b (.dat x) o12 o13
      exact ⟨_, _, lcBody_ev e, ⟨a', b', rfl⟩, p, rfl⟩) (by rw [r3]; decide)
  rw [r3] at l
  match ys, l, q with
  | [y0, y1, y2], _, q =>
    obtain ⟨p0, rfl⟩ := q y0 (by simp)
    obtain ⟨p1, rfl⟩ := q y1 (by simp)
    obtain ⟨p2, rfl⟩ := q y2 (by simp)
    exact ⟨p0, p1, p2, a', b', bi_tuple e⟩
abbrev tabE : E := .lc [12] (.nm 12) (.rng [(.c (.int 3))]) (.c (.bool true)) (.bi .tuple [rowE])
theorem tabE_ok (a b : Int) (o13 : Sl) : ∃ (f : F3) (a' b' : Int), evE (sem P (k + 1)) (.bi .tuple [tabE]) (L18 sc j1 a b j3 j4 j5 j6 j7 j8 j9 j10 .emp .emp o13) = some (.dat (eT (tb f)), L18 sc j1 a' b' j3 j4 j5 j6 j7 j8 j9 j10 .emp .emp o13) := by
  obtain ⟨ys, st1, e, ⟨a', b', rfl⟩, l, q⟩ := lc_inv (cl := sem P (k + 1)) (vs := [12]) (tg := .nm 12) (it := .rng [(.c (.int 3))]) (elt := .bi .tuple [rowE]) (st := L18 sc j1 a b j3 j4 j5 j6 j7 j8 j9 j10 .emp .emp o13) (st0 := L18 sc j1 a b j3 j4 j5 j6 j7 j8 j9 j10 .emp .emp o13) (xs := rangeD 0 3)
    (fun st => ∃ a b, st = L18 sc j1 a b j3 j4 j5 j6 j7 j8 j9 j10 .emp .emp o13) (fun y => ∃ p q r, y = eR [p, q, r]) (by simp [SZ, runF, exSs, exS, evE, evEs, evVs, evAs, evK, evAt, evOt, evAnd, evOr, evO, evI, gt, look, looks, opIx, asL, asI, asB, atD, ixOf, opCmp, opBi, Mt.one, Mt.two, opBin, opAdd, opMul, own, asSl, frz, opSet, iI, iB, isEmp, maskS, L2.ixN, opLen, opTru, vw, eqD, isScal, isKind, tupleOf, Mt.listOf, seqOf, mkT, mkL, argSl, lents, isOwn, emps, posOf, gbk, giveBack, doCall, arr, slsOf, exTs, exT, putT, putTs, muOk, opMu, okR, itemsOf, plOf, opens_nil, opens_cons, lockAll, unlockAll, lockS, unlockS, isOpen, isTp, inD, isD, opAug, slR, cnD, opIn, wipeS, backS, sqn, PyData.eqv]) rfl ⟨a, b, rfl⟩ (fun x _ st ⟨a, b, e⟩ => by
      subst e
      obtain ⟨p, q, r, a', b', e⟩ := rowE_ok k sc j1 j3 j4 j5 j6 j7 j8 j9 j10 a b (.dat x) o13
      exact ⟨_, _, lcBody_ev e, ⟨a', b', rfl⟩, p, q, r, rfl⟩) (by rw [r3]; decide)
  rw [r3] at l
  match ys, l, q with
  | [y0, y1, y2], _, q =>
    obtain ⟨p0, q0, r0, rfl⟩ := q y0 (by simp)
    obtain ⟨p1, q1, r1, rfl⟩ := q y1 (by simp)
    obtain ⟨p2, q2, r2, rfl⟩ := q y2 (by simp)
    exact ⟨fun i j => ([[p0, q0, r0], [p1, q1, r1], [p2, q2, r2]].getD i []).getD j none, a', b', bi_tuple e⟩
theorem pick_all {α : Type} (e : α → D) : ∀ ys : List D, (∀ y ∈ ys, ∃ f, y = e f) → ∃ fs : List α, ys = fs.map e
  | [], _ => ⟨[], rfl⟩
  | y :: ys, h => by
    obtain ⟨f, rfl⟩ := h y List.mem_cons_self
    obtain ⟨fs, rfl⟩ := pick_all e ys fun z hz => h z (List.mem_cons_of_mem _ hz)
    exact ⟨f :: fs, rfl⟩
theorem bases_ok (a b : Int) (m : Nat) (hm : m < 10) : ∃ (bs : List F3) (a' b' : Int), exS (sem P (k + 1)) f18_0a2 (L18 sc j1 a b (.dat (.int m)) j4 j5 j6 j7 j8 j9 j10 .emp .emp .emp) = some (.nx, L18 sc j1 a' b' (.dat (.int m)) (.dat (eB bs)) j5 j6 j7 j8 j9 j10 .emp .emp .emp) ∧ bs.length = m := by
  have hr : okR (m : Int) = true := by simp [okR]; omega
  obtain ⟨ys, st1, e, ⟨a', b', rfl⟩, l, q⟩ := lc_inv (cl := sem P (k + 1)) (vs := [13]) (tg := .nm 13) (it := .rng [(.v 3)]) (elt := .bi .tuple [tabE]) (st := L18 sc j1 a b (.dat (.int m)) j4 j5 j6 j7 j8 j9 j10 .emp .emp .emp) (st0 := L18 sc j1 a b (.dat (.int m)) j4 j5 j6 j7 j8 j9 j10 .emp .emp .emp) (xs := rangeD 0 m)
    (fun st => ∃ a b, st = L18 sc j1 a b (.dat (.int m)) j4 j5 j6 j7 j8 j9 j10 .emp .emp .emp) (fun y => ∃ f, y = eT (tb f)) (by simp only [evI, evE, gt, asI]; rw [hr]; rfl) rfl ⟨a, b, rfl⟩ (fun x _ st ⟨a, b, e⟩ => by
      subst e
      obtain ⟨f, a', b', e⟩ := tabE_ok k sc j1 (.dat (.int m)) j4 j5 j6 j7 j8 j9 j10 a b (.dat x)
      exact ⟨_, _, lcBody_ev e, ⟨a', b', rfl⟩, f, rfl⟩) (by rw [rangeD_nat, List.length_map, List.length_range]; show m ≤ 16777216; omega)
  rw [rangeD_nat, List.length_map, List.length_range] at l
  obtain ⟨bs, rfl⟩ := pick_all (fun f : F3 => eT (tb f)) ys q
  refine ⟨bs, a', b', ?_, by simpa using l⟩
  exact set_dat (bi_tuple e)
theorem log_ok (a b : Int) (m : Nat) (hm0 : 0 < m) (hm : m < 10) (h8 : isOwn j8 = false) : ∃ (vs : List Nat) (a' b' : Int), exS (sem P (k + 1)) f18_0a3 (L18 sc j1 a b (.dat (.int m)) j4 j5 j6 j7 j8 j9 j10 .emp .emp .emp) = some (.nx, L18 sc j1 a' b' (.dat (.int m)) j4 (.dat (eL vs)) j6 j7 j8 j9 j10 .emp .emp .emp) ∧ vs.length < 20 ∧ ∀ v ∈ vs, v < m := by
  obtain ⟨w, a1, b1, t1, h1⟩ := take_int k a b 20 (by omega) (by omega)
  have hr : okR (w : Int) = true := by simp [okR]; omega
  have hi : evI (sem P (k + 1)) (.rng [(.call 13 [none, none] [(.ln 2), (.ex (.c (.int 20)))])]) (L18 sc j1 a b (.dat (.int m)) j4 j5 j6 j7 j8 j9 j10 .emp .emp .emp) = some (rangeD 0 w, [], L18 sc j1 a1 b1 (.dat (.int m)) j4 j5 j6 j7 j8 j9 j10 .emp .emp .emp) := by
    have q1 : -(4611686018427387904 : Int) ≤ (w : Int) := by omega
    have q2 : (w : Int) < 4611686018427387904 := by omega
    simp [SZ, runF, exSs, exS, evE, evEs, evVs, evAs, evK, evAt, evOt, evAnd, evOr, evO, evI, gt, look, looks, opIx, asL, asI, asB, atD, ixOf, opCmp, opBi, Mt.one, Mt.two, opBin, opAdd, opMul, own, asSl, frz, opSet, iI, iB, isEmp, maskS, L2.ixN, opLen, opTru, vw, eqD, isScal, isKind, tupleOf, Mt.listOf, seqOf, mkT, mkL, argSl, lents, isOwn, emps, posOf, gbk, giveBack, doCall, arr, slsOf, exTs, exT, putT, putTs, muOk, opMu, okR, itemsOf, plOf, opens_nil, opens_cons, lockAll, unlockAll, lockS, unlockS, isOpen, isTp, inD, isD, opAug, slR, cnD, opIn, wipeS, backS, sqn, PyData.eqv, t1, q1, q2]
  obtain ⟨ys, st1, e, ⟨a', b', rfl⟩, l, q⟩ := lc_inv (cl := sem P (k + 1)) (vs := [8]) (tg := .nm 8) (elt := .call 13 [none, none] [(.ln 2), (.ln 3)]) 
    (fun st => ∃ a b, st = L18 sc j1 a b (.dat (.int m)) j4 j5 j6 j7 .emp j9 j10 .emp .emp .emp) (fun y => ∃ f : {v : Nat // v < m}, y = nI f.1) hi (by simp [gt, h8]) ⟨a1, b1, rfl⟩ (fun x _ st ⟨a, b, e⟩ => by
      subst e
      obtain ⟨d, a', b', e, hd⟩ := take_int k a b m (by omega) (by omega)
      refine ⟨_, _, lcBody_ev (d := nI d) (st2 := L18 sc j1 a' b' (.dat (.int m)) j4 j5 j6 j7 (.dat x) j9 j10 .emp .emp .emp) ?_, ⟨a', b', rfl⟩, ⟨d, by omega⟩, rfl⟩
      simp [SZ, runF, exSs, exS, evE, evEs, evVs, evAs, evK, evAt, evOt, evAnd, evOr, evO, evI, gt, look, looks, opIx, asL, asI, asB, atD, ixOf, opCmp, opBi, Mt.one, Mt.two, opBin, opAdd, opMul, own, asSl, frz, opSet, iI, iB, isEmp, maskS, L2.ixN, opLen, opTru, vw, eqD, isScal, isKind, tupleOf, Mt.listOf, seqOf, mkT, mkL, argSl, lents, isOwn, emps, posOf, gbk, giveBack, doCall, arr, slsOf, exTs, exT, putT, putTs, muOk, opMu, okR, itemsOf, plOf, opens_nil, opens_cons, lockAll, unlockAll, lockS, unlockS, isOpen, isTp, inD, isD, opAug, slR, cnD, opIn, wipeS, backS, sqn, PyData.eqv, e, nI]) (by rw [rangeD_nat, List.length_map, List.length_range]; show w ≤ 16777216; omega)
  rw [rangeD_nat, List.length_map, List.length_range] at l
  obtain ⟨vs, rfl⟩ := pick_all (fun f : {v : Nat // v < m} => nI f.1) ys q
  refine ⟨vs.map fun f => f.1, a', b', ?_, by rw [List.length_map] at l ⊢; omega, fun v hv => ?_⟩
  · have e2 := set_dat (i := 5) (bi_tuple e)
    have e3 : PyData.tuple (vs.map fun f => nI f.1) = eL (vs.map fun f => f.1) := by unfold eL; rw [List.map_map]; rfl
    rw [e3] at e2
    exact e2
  · obtain ⟨f, _, rfl⟩ := List.mem_map.mp hv
    exact f.2
end
end Mk20

set_option Elab.async false
set_option linter.all false
set_option maxRecDepth 100000
set_option maxHeartbeats 8000000
namespace Mk20
open Mt PySem
theorem fit_ok {bs : List F3} {vs : List Nat} (e : Ed) (h : Fit vs bs.length e) (hv : Ok bs vs) : Ok bs (edL vs e) := by
  intro v hm
  cases e with
  | put i n =>
    simp only [edL, List.mem_append, List.mem_singleton] at hm
    rcases hm with (hm | rfl) | hm
    · exact hv v (List.mem_of_mem_take hm)
    · exact h.2
    · exact hv v (List.mem_of_mem_drop hm)
  | out i =>
    simp only [edL, List.mem_append] at hm
    rcases hm with hm | hm
    · exact hv v (List.mem_of_mem_take hm)
    · exact hv v (List.mem_of_mem_drop hm)
  | turn i n =>
    simp only [edL, List.mem_append, List.mem_singleton] at hm
    rcases hm with (hm | rfl) | hm
    · exact hv v (List.mem_of_mem_take hm)
    · exact h.2
    · exact hv v (List.mem_of_mem_drop hm)
theorem edL_len (vs : List Nat) (e : Ed) : (edL vs e).length ≤ vs.length + 1 := by
  cases e <;> simp only [edL, List.length_append, List.length_take, List.length_drop, List.length_singleton] <;> omega
section
variable (sc j1 : Sl)
/-- the state at the beginning of a turn -/
abbrev TS (a b : Int) (bs : List F3) (vs : List Nat) (t : Tr) (w : Nat) (j8 j9 j10 : Sl) : MS := L18 sc j1 a b (.dat (.int bs.length)) (.dat (eB bs)) (.dat (eL vs)) (.dat (eTr bs t)) (.dat (.int w)) j8 j9 j10 .emp .emp .emp
theorem turn_a0 (a b : Int) (bs : List F3) (t : Tr) (w : Nat) (j8 j9 j10 : Sl) (hb : Bal t) (ho : Ok bs (row t)) (hs : size t ≤ 40) : exS (sem P 99) f18_0a5a0 (TS sc j1 a b bs (row t) t w j8 j9 j10) = some (.nx, TS sc j1 a b bs (row t) t w j8 j9 j10) := by
  obtain ⟨ss, lk⟩ := looked_ok 98 (by omega) bs t hb ho hs
  obtain ⟨T, rw6⟩ := row_ok6 98 bs t (by omega)
  have sm := same_ok (nc_log (row t)) 99 (by omega)
  simp [SZ, runF, exSs, exS, evE, evEs, evVs, evAs, evK, evAt, evOt, evAnd, evOr, evO, evI, gt, look, looks, opIx, asL, asI, asB, atD, ixOf, opCmp, opBi, Mt.one, Mt.two, opBin, opAdd, opMul, own, asSl, frz, opSet, iI, iB, isEmp, maskS, L2.ixN, opLen, opTru, vw, eqD, isScal, isKind, tupleOf, Mt.listOf, seqOf, mkT, mkL, argSl, lents, isOwn, emps, posOf, gbk, giveBack, doCall, arr, slsOf, exTs, exT, putT, putTs, muOk, opMu, okR, itemsOf, plOf, opens_nil, opens_cons, lockAll, unlockAll, lockS, unlockS, isOpen, isTp, inD, isD, opAug, slR, cnD, opIn, wipeS, backS, sqn, PyData.eqv, f18_0a5a0, lk, rw6, sm]
theorem turn_a1 (a b : Int) (bs : List F3) (vs : List Nat) (t : Tr) (w : Nat) (j8 j9 j10 : Sl) (h0 : 0 < bs.length) (hm : bs.length < 10) (hl : vs.length < 100) : ∃ e a' b', exS (sem P 99) f18_0a5a1 (TS sc j1 a b bs vs t w j8 j9 j10) = some (.nx, TS sc j1 a' b' bs vs t w j8 (.dat (eEd e)) j10) ∧ Fit vs bs.length e := by
  obtain ⟨e, a', b', ed, hf⟩ := edit_ok 97 a b vs bs.length h0 hm hl
  refine ⟨e, a', b', ?_, hf⟩
  simp [SZ, runF, exSs, exS, evE, evEs, evVs, evAs, evK, evAt, evOt, evAnd, evOr, evO, evI, gt, look, looks, opIx, asL, asI, asB, atD, ixOf, opCmp, opBi, Mt.one, Mt.two, opBin, opAdd, opMul, own, asSl, frz, opSet, iI, iB, isEmp, maskS, L2.ixN, opLen, opTru, vw, eqD, isScal, isKind, tupleOf, Mt.listOf, seqOf, mkT, mkL, argSl, lents, isOwn, emps, posOf, gbk, giveBack, doCall, arr, slsOf, exTs, exT, putT, putTs, muOk, opMu, okR, itemsOf, plOf, opens_nil, opens_cons, lockAll, unlockAll, lockS, unlockS, isOpen, isTp, inD, isD, opAug, slR, cnD, opIn, wipeS, backS, sqn, PyData.eqv, f18_0a5a1, ed]
theorem turn_a2 (a b : Int) (bs : List F3) (vs : List Nat) (t : Tr) (w : Nat) (j8 j10 : Sl) (e : Ed) (he : Fit vs bs.length e) (hw : w < 4) (h0 : 0 < bs.length) (hm : bs.length < 10) (hl : vs.length < 100) : ∃ e' a' b', exS (sem P 99) f18_0a5a2 (TS sc j1 a b bs vs t w j8 (.dat (eEd e)) j10) = some (.nx, TS sc j1 a' b' bs vs t w j8 (.dat (eEd e')) j10) ∧ Fit vs bs.length e' := by
  obtain ⟨c, a1, b1, t1, h1⟩ := take_int 98 a b 3 (by omega) (by omega)
  by_cases hc : c = 0
  · subst hc
    refine ⟨e, a1, b1, ?_, he⟩
    simp [SZ, runF, exSs, exS, evE, evEs, evVs, evAs, evK, evAt, evOt, evAnd, evOr, evO, evI, gt, look, looks, opIx, asL, asI, asB, atD, ixOf, opCmp, opBi, Mt.one, Mt.two, opBin, opAdd, opMul, own, asSl, frz, opSet, iI, iB, isEmp, maskS, L2.ixN, opLen, opTru, vw, eqD, isScal, isKind, tupleOf, Mt.listOf, seqOf, mkT, mkL, argSl, lents, isOwn, emps, posOf, gbk, giveBack, doCall, arr, slsOf, exTs, exT, putT, putTs, muOk, opMu, okR, itemsOf, plOf, opens_nil, opens_cons, lockAll, unlockAll, lockS, unlockS, isOpen, isTp, inD, isD, opAug, slR, cnD, opIn, wipeS, backS, sqn, PyData.eqv, f18_0a5a2, t1]
  · have hc' : 0 < (c : Int) := by omega
    have hc2 : 0 < c := by omega
    obtain ⟨d, a2, b2, t2, h2⟩ := take_int 98 a1 b1 ((vs.length : Int) + 1) (by omega) (by omega)
    obtain ⟨n, a3, b3, t3, h3⟩ := take_int 98 a2 b2 bs.length (by omega) (by omega)
    have hn : n < bs.length := by omega
    have fin : ∀ p : Nat, p ≤ vs.length → atD [.int 0, .int vs.length, .int ((vs.length : Int) / 2), .int d] (w : Int) = some (.int p) → ∃ e' a' b', exS (sem P 99) f18_0a5a2 (TS sc j1 a b bs vs t w j8 (.dat (eEd e)) j10) = some (.nx, TS sc j1 a' b' bs vs t w j8 (.dat (eEd e')) j10) ∧ Fit vs bs.length e' := fun p hp hat => by
      refine ⟨.put p n, a3, b3, ?_, hp, hn⟩
      simp [SZ, runF, exSs, exS, evE, evEs, evVs, evAs, evK, evAt, evOt, evAnd, evOr, evO, evI, gt, look, looks, opIx, asL, asI, asB, atD, ixOf, opCmp, opBi, Mt.one, Mt.two, opBin, opAdd, opMul, own, asSl, frz, opSet, iI, iB, isEmp, maskS, L2.ixN, opLen, opTru, vw, eqD, isScal, isKind, tupleOf, Mt.listOf, seqOf, mkT, mkL, argSl, lents, isOwn, emps, posOf, gbk, giveBack, doCall, arr, slsOf, exTs, exT, putT, putTs, muOk, opMu, okR, itemsOf, plOf, opens_nil, opens_cons, lockAll, unlockAll, lockS, unlockS, isOpen, isTp, inD, isD, opAug, slR, cnD, opIn, wipeS, backS, sqn, PyData.eqv, -atD, f18_0a5a2, f18_0a5a2a0, t1, hc', hc2, t2, t3, hat, eL, eEd]
    have hw4 : w = 0 ∨ w = 1 ∨ w = 2 ∨ w = 3 := by omega
    rcases hw4 with rfl | rfl | rfl | rfl
    · exact fin 0 (Nat.zero_le _) rfl
    · exact fin vs.length (Nat.le_refl _) rfl
    · exact fin (vs.length / 2) (Nat.div_le_self _ _) (by simp [atD, ixOf, L2.ixN])
    · exact fin d (by omega) rfl
theorem turn_a3 (a b : Int) (bs : List F3) (t : Tr) (w : Nat) (j8 j10 : Sl) (e : Ed) (he : Fit (row t) bs.length e) (ho : Ok bs (row t)) (hs : size t + 1 ≤ 40) : exS (sem P 99) f18_0a5a3 (TS sc j1 a b bs (row t) t w j8 (.dat (eEd e)) j10) = some (.nx, TS sc j1 a b bs (row t) (edT t e) w j8 (.dat (eEd e)) (.dat (eTr bs t))) := by
  have ed := edited_ok 98 bs t e he ho hs (by omega)
  simp [SZ, runF, exSs, exS, evE, evEs, evVs, evAs, evK, evAt, evOt, evAnd, evOr, evO, evI, gt, look, looks, opIx, asL, asI, asB, atD, ixOf, opCmp, opBi, Mt.one, Mt.two, opBin, opAdd, opMul, own, asSl, frz, opSet, iI, iB, isEmp, maskS, L2.ixN, opLen, opTru, vw, eqD, isScal, isKind, tupleOf, Mt.listOf, seqOf, mkT, mkL, argSl, lents, isOwn, emps, posOf, gbk, giveBack, doCall, arr, slsOf, exTs, exT, putT, putTs, muOk, opMu, okR, itemsOf, plOf, opens_nil, opens_cons, lockAll, unlockAll, lockS, unlockS, isOpen, isTp, inD, isD, opAug, slR, cnD, opIn, wipeS, backS, sqn, PyData.eqv, f18_0a5a3, ed]
theorem turn_a4 (a b : Int) (bs : List F3) (t u : Tr) (w : Nat) (j8 j9 : Sl) (hs : size t ≤ 40) : exS (sem P 99) f18_0a5a4 (TS sc j1 a b bs (row t) u w j8 j9 (.dat (eTr bs t))) = some (.nx, TS sc j1 a b bs (row t) u w j8 j9 (.dat (eTr bs t))) := by
  obtain ⟨T, rw6⟩ := row_ok6 98 bs t (by omega)
  have sm := same_ok (nc_log (row t)) 99 (by omega)
  simp [SZ, runF, exSs, exS, evE, evEs, evVs, evAs, evK, evAt, evOt, evAnd, evOr, evO, evI, gt, look, looks, opIx, asL, asI, asB, atD, ixOf, opCmp, opBi, Mt.one, Mt.two, opBin, opAdd, opMul, own, asSl, frz, opSet, iI, iB, isEmp, maskS, L2.ixN, opLen, opTru, vw, eqD, isScal, isKind, tupleOf, Mt.listOf, seqOf, mkT, mkL, argSl, lents, isOwn, emps, posOf, gbk, giveBack, doCall, arr, slsOf, exTs, exT, putT, putTs, muOk, opMu, okR, itemsOf, plOf, opens_nil, opens_cons, lockAll, unlockAll, lockS, unlockS, isOpen, isTp, inD, isD, opAug, slR, cnD, opIn, wipeS, backS, sqn, PyData.eqv, f18_0a5a4, rw6, sm]
theorem turn_a5 (a b : Int) (bs : List F3) (vs : List Nat) (t : Tr) (w : Nat) (j8 j10 : Sl) (e : Ed) (he : Fit vs bs.length e) (hl : vs.length ≤ 1000) : exS (sem P 99) f18_0a5a5 (TS sc j1 a b bs vs t w j8 (.dat (eEd e)) j10) = some (.nx, TS sc j1 a b bs (edL vs e) t w j8 (.dat (eEd e)) j10) := by
  have ed := edL_ok 98 vs bs.length e he hl
  simp [SZ, runF, exSs, exS, evE, evEs, evVs, evAs, evK, evAt, evOt, evAnd, evOr, evO, evI, gt, look, looks, opIx, asL, asI, asB, atD, ixOf, opCmp, opBi, Mt.one, Mt.two, opBin, opAdd, opMul, own, asSl, frz, opSet, iI, iB, isEmp, maskS, L2.ixN, opLen, opTru, vw, eqD, isScal, isKind, tupleOf, Mt.listOf, seqOf, mkT, mkL, argSl, lents, isOwn, emps, posOf, gbk, giveBack, doCall, arr, slsOf, exTs, exT, putT, putTs, muOk, opMu, okR, itemsOf, plOf, opens_nil, opens_cons, lockAll, unlockAll, lockS, unlockS, isOpen, isTp, inD, isD, opAug, slR, cnD, opIn, wipeS, backS, sqn, PyData.eqv, f18_0a5a5, ed]
theorem turn_ok (a b : Int) (bs : List F3) (t : Tr) (w : Nat) (x : D) (j8 j9 j10 : Sl) (hb : Bal t) (ho : Ok bs (row t)) (hs : size t + 1 ≤ 40) (hw : w < 4) (h0 : 0 < bs.length) (hm : bs.length < 10) :
    ∃ a' b' t' j8' j9' j10', frBody (sem P 99) (.nm 8) f18_0a5_l x (TS sc j1 a b bs (row t) t w j8 j9 j10) = some (.nx, TS sc j1 a' b' bs (row t') t' w (.dat j8') j9' j10') ∧ Bal t' ∧ Ok bs (row t') ∧ size t' ≤ size t + 1 := by
  have hl : (row t).length = size t := rfl
  have c0 := turn_a0 sc j1 a b bs t w (.dat x) j9 j10 hb ho (by omega)
  obtain ⟨e1, a1, b1, c1, f1⟩ := turn_a1 sc j1 a b bs (row t) t w (.dat x) j9 j10 h0 hm (by omega)
  obtain ⟨e, a2, b2, c2, f2⟩ := turn_a2 sc j1 a1 b1 bs (row t) t w (.dat x) j10 e1 f1 hw h0 hm (by omega)
  have c3 := turn_a3 sc j1 a2 b2 bs t w (.dat x) j10 e f2 ho hs
  have c4 := turn_a4 sc j1 a2 b2 bs t (edT t e) w (.dat x) (.dat (eEd e)) (by omega)
  have c5 := turn_a5 sc j1 a2 b2 bs (row t) (edT t e) w (.dat x) (.dat (eTr bs t)) e f2 (by omega)
  have hr := row_ed e f2
  refine ⟨a2, b2, edT t e, x, .dat (eEd e), .dat (eTr bs t), ?_, bal_ed e f2 hb, by rw [hr]; exact fit_ok e f2 ho, by unfold size; rw [hr]; exact edL_len _ _⟩
  rw [hr]
  show exSs (sem P 99) f18_0a5_l (TS sc j1 a b bs (row t) t w (.dat x) j9 j10) = _
  simp only [f18_0a5_l, exSs]
  rw [c0]
  simp only []
  rw [c1]
  simp only []
  rw [c2]
  simp only []
  rw [c3]
  simp only []
  rw [c4]
  simp only []
  rw [c5]
end
theorem turns_ok (sc j1 : Sl) (a b : Int) (bs : List F3) (t : Tr) (w : Nat) (j8 j9 j10 : Sl) (hb : Bal t) (ho : Ok bs (row t)) (hs : size t ≤ 20) (hw : w < 4) (h0 : 0 < bs.length) (hm : bs.length < 10) :
    ∃ a' b' t' j8' j9' j10', exS (sem P 99) f18_0a5 (TS sc j1 a b bs (row t) t w j8 j9 j10) = some (.nx, TS sc j1 a' b' bs (row t') t' w (.dat j8') j9' j10') := by
  obtain ⟨st', l, q⟩ := forL_steps (f := frBody (sem P 99) (.nm 8) f18_0a5_l) (fun i : Nat => PyData.int (i : Int)) (List.range 16) (fun pre st => ∃ a' b' t' j8 j9 j10, st = TS sc j1 a' b' bs (row t') t' w j8 j9 j10 ∧ Bal t' ∧ Ok bs (row t') ∧ size t' ≤ 20 + pre.length ∧ (pre ≠ [] → ∃ d, j8 = .dat d)) (st := TS sc j1 a b bs (row t) t w j8 j9 j10)
    ⟨a, b, t, j8, j9, j10, rfl, hb, ho, by simpa using hs, fun h => absurd rfl h⟩ (fun pre x post st hx ⟨a1, b1, t1, k8, k9, k10, e, hb1, ho1, hs1, _⟩ => by
      subst e
      have hl : pre.length < 16 := by
        have := congrArg List.length hx
        simp at this
        omega
      obtain ⟨a', b', t', k8', k9', k10', e, hb2, ho2, hs2⟩ := turn_ok sc j1 a1 b1 bs t1 w (.int x) k8 k9 k10 hb1 ho1 (by omega) hw h0 hm
      exact ⟨_, .inl e, a', b', t', _, _, _, rfl, hb2, ho2, by rw [List.length_append, List.length_singleton]; omega, fun _ => ⟨k8', rfl⟩⟩)
  obtain ⟨a', b', t', k8, k9, k10, e, _, _, _, h8⟩ := q
  obtain ⟨d, rfl⟩ := h8 (by decide)
  subst e
  refine ⟨a', b', t', d, k9, k10, fr_nx (xs := rangeD 0 16) ?_ ?_⟩
  · simp [SZ, runF, exSs, exS, evE, evEs, evVs, evAs, evK, evAt, evOt, evAnd, evOr, evO, evI, gt, look, looks, opIx, asL, asI, asB, atD, ixOf, opCmp, opBi, Mt.one, Mt.two, opBin, opAdd, opMul, own, asSl, frz, opSet, iI, iB, isEmp, maskS, L2.ixN, opLen, opTru, vw, eqD, isScal, isKind, tupleOf, Mt.listOf, seqOf, mkT, mkL, argSl, lents, isOwn, emps, posOf, gbk, giveBack, doCall, arr, slsOf, exTs, exT, putT, putTs, muOk, opMu, okR, itemsOf, plOf, opens_nil, opens_cons, lockAll, unlockAll, lockS, unlockS, isOpen, isTp, inD, isD, opAug, slR, cnD, opIn, wipeS, backS, sqn, PyData.eqv]
  · have e16 : rangeD 0 16 = (List.range 16).map fun (i : Nat) => PyData.int (i : Int) := rangeD_nat 16
    rw [e16]
    exact l
theorem frBody_nm {cl : Call} {i : Nat} {body : List S} {x : D} {st : MS} : frBody cl (.nm i) body x st = exSs cl body (st.set i (.dat x)) := by simp [frBody, putT]
theorem exSs_nx {cl : Call} {s : S} {r : List S} {st st1 : MS} (h : exS cl s st = some (.nx, st1)) : exSs cl (s :: r) st = exSs cl r st1 := by simp [exSs, h]
theorem exSs_nil {cl : Call} {st : MS} : exSs cl [] st = some (.nx, st) := by simp [exSs]
theorem round_ok (K : Nat) (hK : K = 98) (ns : List Int) (i : Nat) (j1 j2 j3 j4 j5 j6 j7 j8 j9 j10 : Sl) (h8 : isOwn j8 = false) : ∃ k1 k2 k3 k4 k5 k6 k7 k8 k9 k10, frBody (sem P (K + 1)) (.nm 1) f18_0_l (.int i) [.scr (ns.map PyData.int), j1, j2, j3, j4, j5, j6, j7, j8, j9, j10, .emp, .emp, .emp] =
    some (.nx, [.scr (ns.map PyData.int), k1, k2, k3, k4, k5, k6, k7, k8, k9, k10, .emp, .emp, .emp]) ∧ isOwn k8 = false := by
  obtain ⟨a, b, eb⟩ := box_ok K ns i
  obtain ⟨c, a1, b1, t1, hc⟩ := take_int K a b 2 (by omega) (by omega)
  obtain ⟨bs, a2, b2, c2, hbs⟩ := bases_ok K (.scr (ns.map PyData.int)) (.dat (.int i)) j4 j5 j6 j7 j8 j9 j10 a1 b1 (2 + c) (by omega)
  obtain ⟨vs, a3, b3, c3, hl, hv⟩ := log_ok K (.scr (ns.map PyData.int)) (.dat (.int i)) (.dat (eB bs)) j5 j6 j7 j8 j9 j10 a2 b2 (2 + c) (by omega) (by omega) h8
  obtain ⟨w, a4, b4, t4, hw⟩ := take_int K a3 b3 4 (by omega) (by omega)
  have ov : Ok bs vs := fun v h => by rw [hbs]; exact hv v h
  have tr := tree_ok bs 20 (K + 1) vs (by omega) (by omega) ov (by omega)
  have hr : row (mk vs) = vs := row_mk _ _ (Nat.le_refl _)
  obtain ⟨a5, b5, t', k8, k9, k10, c5⟩ := turns_ok (.scr (ns.map PyData.int)) (.dat (.int i)) a4 b4 bs (mk vs) w j8 j9 j10 (bal_mk _ _ (Nat.le_refl _)) (by rw [hr]; exact ov) (by unfold size; rw [hr]; omega) (by omega) (by omega) (by omega)
  have e99 : 99 = K + 1 := by omega
  rw [hr, e99] at c5
  replace c5 : exS (sem P (K + 1)) f18_0a5 (L18 (.scr (ns.map PyData.int)) (.dat (.int i)) a4 b4 (.dat (.int bs.length)) (.dat (eB bs)) (.dat (eL vs)) (.dat (eTr bs (mk vs))) (.dat (.int w)) j8 j9 j10 .emp .emp .emp) = some (.nx, TS (.scr (ns.map PyData.int)) (.dat (.int i)) a5 b5 bs (row t') t' w (.dat k8) k9 k10) := c5
  rw [hbs] at c5
  have c0 : exS (sem P (K + 1)) f18_0a0 [.scr (ns.map PyData.int), .dat (.int i), j2, j3, j4, j5, j6, j7, j8, j9, j10, .emp, .emp, .emp] = some (.nx, [.scr (ns.map PyData.int), .dat (.int i), bx a b, j3, j4, j5, j6, j7, j8, j9, j10, .emp, .emp, .emp]) := by
    simp [SZ, runF, exSs, exS, evE, evEs, evVs, evAs, evK, evAt, evOt, evAnd, evOr, evO, evI, gt, look, looks, opIx, asL, asI, asB, atD, ixOf, opCmp, opBi, Mt.one, Mt.two, opBin, opAdd, opMul, own, asSl, frz, opSet, iI, iB, isEmp, maskS, L2.ixN, opLen, opTru, vw, eqD, isScal, isKind, tupleOf, Mt.listOf, seqOf, mkT, mkL, argSl, lents, isOwn, emps, posOf, gbk, giveBack, doCall, arr, slsOf, exTs, exT, putT, putTs, muOk, opMu, okR, itemsOf, plOf, opens_nil, opens_cons, lockAll, unlockAll, lockS, unlockS, isOpen, isTp, inD, isD, opAug, slR, cnD, opIn, wipeS, backS, sqn, PyData.eqv, f18_0a0, eb]
  have c1 : exS (sem P (K + 1)) f18_0a1 [.scr (ns.map PyData.int), .dat (.int i), bx a b, j3, j4, j5, j6, j7, j8, j9, j10, .emp, .emp, .emp] = some (.nx, [.scr (ns.map PyData.int), .dat (.int i), bx a1 b1, .dat (.int ((2 + c : Nat) : Int)), j4, j5, j6, j7, j8, j9, j10, .emp, .emp, .emp]) := by
    simp [SZ, runF, exSs, exS, evE, evEs, evVs, evAs, evK, evAt, evOt, evAnd, evOr, evO, evI, gt, look, looks, opIx, asL, asI, asB, atD, ixOf, opCmp, opBi, Mt.one, Mt.two, opBin, opAdd, opMul, own, asSl, frz, opSet, iI, iB, isEmp, maskS, L2.ixN, opLen, opTru, vw, eqD, isScal, isKind, tupleOf, Mt.listOf, seqOf, mkT, mkL, argSl, lents, isOwn, emps, posOf, gbk, giveBack, doCall, arr, slsOf, exTs, exT, putT, putTs, muOk, opMu, okR, itemsOf, plOf, opens_nil, opens_cons, lockAll, unlockAll, lockS, unlockS, isOpen, isTp, inD, isD, opAug, slR, cnD, opIn, wipeS, backS, sqn, PyData.eqv, f18_0a1, t1]
  have c4 : exS (sem P (K + 1)) f18_0a4 (L18 (.scr (ns.map PyData.int)) (.dat (.int i)) a3 b3 (.dat (.int ((2 + c : Nat) : Int))) (.dat (eB bs)) (.dat (eL vs)) j6 j7 j8 j9 j10 .emp .emp .emp) = some (.nx, L18 (.scr (ns.map PyData.int)) (.dat (.int i)) a4 b4 (.dat (.int ((2 + c : Nat) : Int))) (.dat (eB bs)) (.dat (eL vs)) (.dat (eTr bs (mk vs))) (.dat (.int w)) j8 j9 j10 .emp .emp .emp) := by
    simp [SZ, runF, exSs, exS, evE, evEs, evVs, evAs, evK, evAt, evOt, evAnd, evOr, evO, evI, gt, look, looks, opIx, asL, asI, asB, atD, ixOf, opCmp, opBi, Mt.one, Mt.two, opBin, opAdd, opMul, own, asSl, frz, opSet, iI, iB, isEmp, maskS, L2.ixN, opLen, opTru, vw, eqD, isScal, isKind, tupleOf, Mt.listOf, seqOf, mkT, mkL, argSl, lents, isOwn, emps, posOf, gbk, giveBack, doCall, arr, slsOf, exTs, exT, putT, putTs, muOk, opMu, okR, itemsOf, plOf, opens_nil, opens_cons, lockAll, unlockAll, lockS, unlockS, isOpen, isTp, inD, isD, opAug, slR, cnD, opIn, wipeS, backS, sqn, PyData.eqv, f18_0a4, tr, t4]
  have big : frBody (sem P (K + 1)) (.nm 1) f18_0_l (.int i) [.scr (ns.map PyData.int), j1, j2, j3, j4, j5, j6, j7, j8, j9, j10, .emp, .emp, .emp] = some (.nx, TS (.scr (ns.map PyData.int)) (.dat (.int i)) a5 b5 bs (row t') t' w (.dat k8) k9 k10) := by
    rw [frBody_nm, f18_0_l]
    exact (exSs_nx c0).trans ((exSs_nx c1).trans ((exSs_nx c2).trans ((exSs_nx c3).trans ((exSs_nx c4).trans ((exSs_nx c5).trans exSs_nil)))))
  exact ⟨_, _, _, _, _, _, _, _, _, _, big, rfl⟩
theorem math_at (K : Nat) (hK : K = 98) (ns : List Int) : ∃ ss, Mt.sem P (K + 1 + 1) 18 [.scr (ns.map PySem.PyData.int)] = some (Mt.iB true, ss) := by
  rw [s18]
  obtain ⟨n, hn⟩ : ∃ n : Nat, (if (3 : Int) < (if (5 : Int) < (ns.length : Int) then 5 else (ns.length : Int)) then (if (5 : Int) < (ns.length : Int) then 5 else (ns.length : Int)) else 3) = (n : Int) := by
    split <;> (try split) <;> exact ⟨_, (Int.toNat_of_nonneg (by omega)).symm⟩
  have hn2 : n < 10 := by
    have : (n : Int) < 10 := by rw [← hn]; split <;> (try split) <;> omega
    omega
  obtain ⟨st', l, k1, k2, k3, k4, k5, k6, k7, k8, k9, k10, e, _⟩ := forL_steps (f := frBody (sem P (K + 1)) (.nm 1) f18_0_l) (fun i : Nat => PyData.int (i : Int)) (List.range n) (fun pre st => ∃ k1 k2 k3 k4 k5 k6 k7 k8 k9 k10, st = [.scr (ns.map PyData.int), k1, k2, k3, k4, k5, k6, k7, k8, k9, k10, .emp, .emp, .emp] ∧ isOwn k8 = false)
    (st := [.scr (ns.map PyData.int), .emp, .emp, .emp, .emp, .emp, .emp, .emp, .emp, .emp, .emp, .emp, .emp, .emp]) ⟨_, _, _, _, _, _, _, _, _, _, rfl, rfl⟩ (fun pre x post st hx ⟨k1, k2, k3, k4, k5, k6, k7, k8, k9, k10, e, h8⟩ => by
      subst e
      obtain ⟨m1, m2, m3, m4, m5, m6, m7, m8, m9, m10, e, h⟩ := round_ok K hK ns x k1 k2 k3 k4 k5 k6 k7 k8 k9 k10 h8
      exact ⟨_, .inl e, m1, m2, m3, m4, m5, m6, m7, m8, m9, m10, rfl, h⟩)
  subst e
  have c0 : exS (sem P (K + 1)) f18_0 [.scr (ns.map PyData.int), .emp, .emp, .emp, .emp, .emp, .emp, .emp, .emp, .emp, .emp, .emp, .emp, .emp] = some (.nx, [.scr (ns.map PyData.int), k1, k2, k3, k4, k5, k6, k7, k8, k9, k10, .emp, .emp, .emp]) := by
    refine fr_nx (xs := rangeD 0 n) ?_ (by rw [rangeD_nat]; exact l)
    have q1 : -(4611686018427387904 : Int) ≤ (n : Int) := by omega
    have q2 : (n : Int) < 4611686018427387904 := by omega
    simp [SZ, runF, exSs, exS, evE, evEs, evVs, evAs, evK, evAt, evOt, evAnd, evOr, evO, evI, gt, look, looks, opIx, asL, asI, asB, atD, ixOf, opCmp, opBi, Mt.one, Mt.two, opBin, opAdd, opMul, own, asSl, frz, opSet, iI, iB, isEmp, maskS, L2.ixN, opLen, opTru, vw, eqD, isScal, isKind, tupleOf, Mt.listOf, seqOf, mkT, mkL, argSl, lents, isOwn, emps, posOf, gbk, giveBack, doCall, arr, slsOf, exTs, exT, putT, putTs, muOk, opMu, okR, itemsOf, plOf, opens_nil, opens_cons, lockAll, unlockAll, lockS, unlockS, isOpen, isTp, inD, isD, opAug, slR, cnD, opIn, wipeS, backS, sqn, PyData.eqv]
    rw [hn]
    exact ⟨⟨q1, q2⟩, rfl⟩
  simp [SZ, runF, exSs, exS, evE, evEs, evVs, evAs, evK, evAt, evOt, evAnd, evOr, evO, evI, gt, look, looks, opIx, asL, asI, asB, atD, ixOf, opCmp, opBi, Mt.one, Mt.two, opBin, opAdd, opMul, own, asSl, frz, opSet, iI, iB, isEmp, maskS, L2.ixN, opLen, opTru, vw, eqD, isScal, isKind, tupleOf, Mt.listOf, seqOf, mkT, mkL, argSl, lents, isOwn, emps, posOf, gbk, giveBack, doCall, arr, slsOf, exTs, exT, putT, putTs, muOk, opMu, okR, itemsOf, plOf, opens_nil, opens_cons, lockAll, unlockAll, lockS, unlockS, isOpen, isTp, inD, isD, opAug, slR, cnD, opIn, wipeS, backS, sqn, PyData.eqv, f18, c0, f18_1]
theorem math (ns : List Int) (hl : ns.length ≤ 63) : ∃ ss, Mt.sem P 100 18 [.scr (ns.map PySem.PyData.int)] = some (Mt.iB true, ss) := math_at 98 rfl ns
end Mk20

set_option maxRecDepth 100000
open PySem PySem.W PyProof.Rows
set_option maxHeartbeats 0 in
theorem PySem.Challenge.cw_meantlog_k20_price_trees_holds : PySem.Challenge.rw_meantlog_k20_price_trees.Holds := by
  w_on; o_law; k_head; (case hw => w_witness2)
  k_fill
  refine L2.walk_of (l := PySem.Challenge.rw_meantlog_k20_price_trees) (n := 63) (k := 100) (x := "script") (CX := fun _ => L2.CX0) (sp := fun w => Mt.spF _ w (Mt.sem Mk20.P 100) 18) rfl (by decide) rfl ⟨rfl, by decide, by decide⟩ (fun w h Y => PySem.W.kIn_of Y) ?F (fun _ _ a nums hl hO hS => Mt.law_sp (Mk20.math nums hl) hO hS) (fun _ _ _ _ _ h => h)
  case F =>
    intro w mg fa h KX G hmg
    refine' Mk20.all_mk KX G hmg ?a0 ?l0 ?c0 ?k0 ?a1 ?l1 ?c1 ?k1 ?a2 ?l2 ?c2 ?k2 ?a3 ?l3 ?c3 ?k3 ?a4 ?l4 ?c4 ?k4 ?a5 ?l5 ?c5 ?k5 ?a6 ?l6 ?c6 ?k6 ?a7 ?l7 ?c7 ?k7 ?a8 ?l8 ?c8 ?k8 ?a9 ?l9 ?c9 ?k9 ?a10 ?l10 ?c10 ?k10 ?a11 ?l11 ?c11 ?k11 ?a12 ?l12 ?c12 ?k12 ?a13 ?l13 ?c13 ?k13 ?a14 ?l14 ?c14 ?k14 ?a15 ?l15 ?c15 ?k15 ?a16 ?l16 ?c16 ?k16 ?a17 ?l17 ?c17 ?k17 ?a18 ?l18 ?c18 ?k18 ?z0 ?z1 ?z2 ?z3 ?z4 ?z5 ?z6 ?z7 ?z8 ?z9 ?z10 ?z11 ?b0 100
    (case a0 => k_is); (case l0 => k_is); (case c0 => k_is); (case k0 => k_is); (case a1 => k_is); (case l1 => k_is); (case c1 => k_is); (case k1 => k_is); (case a2 => k_is); (case l2 => k_is); (case c2 => k_is); (case k2 => k_is); (case a3 => k_is); (case l3 => k_is); (case c3 => k_is); (case k3 => k_is); (case a4 => k_is); (case l4 => k_is); (case c4 => k_is); (case k4 => k_is); (case a5 => k_is); (case l5 => k_is); (case c5 => k_is); (case k5 => k_is); (case a6 => k_is); (case l6 => k_is); (case c6 => k_is); (case k6 => k_is); (case a7 => k_is); (case l7 => k_is); (case c7 => k_is); (case k7 => k_is); (case a8 => k_is); (case l8 => k_is); (case c8 => k_is); (case k8 => k_is); (case a9 => k_is); (case l9 => k_is); (case c9 => k_is); (case k9 => k_is); (case a10 => k_is); (case l10 => k_is); (case c10 => k_is); (case k10 => k_is); (case a11 => k_is); (case l11 => k_is); (case c11 => k_is); (case k11 => k_is); (case a12 => k_is); (case l12 => k_is); (case c12 => k_is); (case k12 => k_is); (case a13 => k_is); (case l13 => k_is); (case c13 => k_is); (case k13 => k_is); (case a14 => k_is); (case l14 => k_is); (case c14 => k_is); (case k14 => k_is); (case a15 => k_is); (case l15 => k_is); (case c15 => k_is); (case k15 => k_is); (case a16 => k_is); (case l16 => k_is); (case c16 => k_is); (case k16 => k_is); (case a17 => k_is); (case l17 => k_is); (case c17 => k_is); (case k17 => k_is); (case a18 => k_is); (case l18 => k_is); (case c18 => k_is); (case k18 => k_is); (case z0 => k_is); (case z1 => k_is); (case z2 => k_is); (case z3 => k_is); (case z4 => k_is); (case z5 => k_is); (case z6 => k_is); (case z7 => k_is); (case z8 => k_is); (case z9 => k_is); (case z10 => k_is); (case z11 => k_is); (case b0 => k_is)
