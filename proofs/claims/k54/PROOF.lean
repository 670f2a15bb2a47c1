import PyProof.Rows.All
import Wide.All
import OpenK.AllK
import Wide.FinOn
import HandS.ForMost
import HandS.ForExc
import HandS.WideBits
import HandS.SortInts
import HandS.Zip
import HandS.Conv
import HandS.Style
import HandS.IsInst
import HandS.TupAny
import HandS.Defaults
import HandS.Walk
import HandS.WordsDict
import HandS.Codes
import HandS.CallRecv
import PyProof.EnumMake
import PyProof.Draws
import KE.GoesMore
import HandS.Small
import HandS.TryOnly
import HandS.More
import PySem.Challenge.RW_foldberth_k54_whole_gathers_reach_all
set_option Elab.async false
set_option linter.all false
set_option maxRecDepth 100000
/-! Z1: values, the small language, its evaluator. -/
namespace Z
open PySem

/-- a value; the flag o of a mutable node: it is owned by the one place at which it stands -/
inductive PV where
  | non
  | bl (b : Bool)
  | int (i : Int)
  | str (s : Str)
  | lst (o : Bool) (xs : List PV)
  | tup (xs : List PV)
  | dic (o : Bool) (ks : List L2.Key) (xs : List PV)
  | obj (o : Bool) (C : Nat) (as : List Nat) (xs : List PV)
  | scr (ns : List Int)
  deriving Inhabited

mutual
/-- no node is owned -/
def PV.frz : PV → Bool
  | .lst o xs => !o && frzL xs
  | .tup xs => frzL xs
  | .dic o _ xs => !o && frzL xs
  | .obj o _ _ xs => !o && frzL xs
  | _ => true
def frzL : List PV → Bool
  | [] => true
  | x :: xs => x.frz && frzL xs
end
mutual
/-- given up: no node is owned any more -/
def PV.fz : PV → PV
  | .lst true xs => .lst false (fzL xs)
  | .tup xs => .tup (fzL xs)
  | .dic true ks xs => .dic false ks (fzL xs)
  | .obj true C as xs => .obj false C as (fzL xs)
  | x => x
def fzL : List PV → List PV
  | [] => []
  | x :: xs => x.fz :: fzL xs
end

/-- an exception: its class, the texts and numbers that it bears -/
structure XV where
  C : Nat
  fs : List PV

abbrev Env := List (Option PV)
inductive Res (α : Type) where
  | ok (a : α) (env : Env)
  | exn (x : XV) (env : Env)
  | bad
/-- a call's answer; ms: what the parameters that it may change hold at the end -/
inductive RC where
  | ret (y : PV) (ms : List PV)
  | exn (x : XV) (ms : List PV)
  | bad
inductive Fl where
  | nx (env : Env)
  | rt (y : PV) (env : Env)
  | exn (x : XV) (env : Env)
  | bad

inductive BOp where
  | add | sub | mul | fdiv | mod | pow | shl | shr | band | bor | bxor
  deriving DecidableEq
inductive COp where
  | lt | le | gt | ge | eq | ne | isn | notn | isin | notin
  deriving DecidableEq
/-- built-in functions of values -/
inductive BF where
  | len | sorted | sum | max1 | min1 | max2 | min2 | abs | int | list | tuple | any | all | lenset | isinst (k : Nat)
  deriving DecidableEq
/-- methods of built-in types that change nothing -/
inductive BM where
  | bits | isalnum | count | index | join | get2
  deriving DecidableEq
/-- methods that change a list or a dict in its place -/
inductive MM where
  | append | insert | clear | reverse | pop
  deriving DecidableEq
inductive Pat where
  | one (i : Nat)
  | many (is : List Nat)

mutual
inductive Ex where
  | var (i : Nat)
  | mv (i : Nat)
  | cint (n : Int) | cbool (b : Bool) | cnon | cstr (s : Str)
  | glb (g : Nat)
  | bin (o : BOp) (a b : Ex)
  | neg (a : Ex)
  | cmp (o : COp) (a b : Ex)
  | chn (o p : COp) (a b c : Ex)
  | one (a : Ex)
  | and (a b : Ex)
  | or (a b : Ex)
  | not (a : Ex)
  | ife (c a b : Ex)
  | lst (es : Exs)
  | tup (es : Exs)
  | dct0
  | idx (a i : Ex)
  | slc (a : Ex) (lo hi : OEx)
  | rev (a : Ex)
  | fld (a : Ex) (f : Nat)
  | call (f : Nat) (es ks : Exs)
  | meth (m : Nat) (a : Ex) (es ks : Exs)
  | methm (m : Nat) (i : Nat) (es ks : Exs)
  | make (C : Nat) (es ks : Exs)
  | bf (b : BF) (es : Exs)
  | bm (b : BM) (a : Ex) (es : Exs)
  | com (elt : Ex) (own : List Nat) (t : Pat) (it : It) (cond : OEx)
  | marg (i : Nat)
  | rd (p : Pl)
  | lenp (p : Pl)
  | inp (neg : Bool) (e : Ex) (p : Pl)
inductive Exs where
  | nil
  | cons (e : Ex) (es : Exs)
inductive OEx where
  | no
  | so (e : Ex)
/-- a place: a name, an attribute of a place, an item of a place -/
inductive Pl where
  | pv (i : Nat)
  | pf (p : Pl) (f : Nat)
  | pi (p : Pl) (e : Ex)
/-- what is walked -/
inductive It where
  | val (e : Ex)
  | rng1 (e : Ex)
  | rng2 (a b : Ex)
  | enum (e : Ex)
  | zip (a b : Ex)
end
mutual
inductive St where
  | set (i : Nat) (fr : Bool) (e : Ex)
  | unp (is : List Nat) (e : Ex)
  | par (is : List Nat) (es : Exs)
  | unps (is : List Nat) (k : Nat) (e : Ex)
  | aug (i : Nat) (o : BOp) (e : Ex)
  | seti (p : Pl) (k : Ex) (e : Ex)
  | augi (p : Pl) (k : Ex) (o : BOp) (e : Ex)
  | setf (p : Pl) (f : Nat) (e : Ex)
  | augf (p : Pl) (f : Nat) (o : BOp) (e : Ex)
  | mth (b : MM) (p : Pl) (es : Exs)
  | expr (e : Ex)
  | ret (e : Ex)
  | retN
  | ife (c : Ex) (a b : Sts)
  | for (t : Pat) (it : It) (kill : List Nat) (body : Sts)
  | whl (n : Nat) (c : Ex) (kill : List Nat) (body : Sts)
  | pass
  | bad
inductive Sts where
  | nil
  | cons (s : St) (ss : Sts)
end

/-! ### operations on values -/
def lineB : Nat := 16777216
def mulOk (i j : Int) : Bool := (decide (-(2 ^ 64) < i) && decide (i < 2 ^ 64)) || (decide (-(2 ^ 64) < j) && decide (j < 2 ^ 64))
def binI : BOp → Int → Int → Option Int
  | .add, i, j => some (i + j)
  | .sub, i, j => some (i - j)
  | .mul, i, j => if mulOk i j then some (i * j) else none
  | .fdiv, i, j => if 0 < j ∧ j < 1073741824 then some (i / j) else none
  | .mod, i, j => if 0 < j then some (i % j) else none
  | .pow, i, j => if 0 ≤ j ∧ j ≤ 1000000 ∧ i.natAbs < 2 ^ 64 then some (i ^ j.toNat) else none
  | .shl, i, j => if 0 ≤ j ∧ j ≤ 1000000 ∧ i.natAbs < 2 ^ 64 then some (i * 2 ^ j.toNat) else none
  | .shr, i, j => if 0 ≤ j then some (i / 2 ^ j.toNat) else none
  | .band, i, j => some (Builtin.bitAnd i j)
  | .bor, i, j => some (Builtin.bitOr i j)
  | .bxor, i, j => some (Builtin.bitXor i j)
def binop : BOp → PV → PV → Option PV
  | o, .int i, .int j => (binI o i j).map .int
  | .add, .str a, .str b => if a.length + b.length ≤ lineB then some (.str (a ++ b)) else none
  | .add, .lst _ xs, .lst _ ys => if xs.length + ys.length ≤ lineB ∧ frzL xs = true ∧ frzL ys = true then some (.lst true (xs ++ ys)) else none
  | .add, .tup xs, .tup ys => if xs.length + ys.length ≤ lineB ∧ frzL xs = true ∧ frzL ys = true then some (.tup (xs ++ ys)) else none
  | .mul, .lst _ xs, .int k => if 0 ≤ k ∧ k < 2 ^ 62 ∧ xs.length * k.toNat ≤ lineB ∧ frzL xs = true then some (.lst true (List.replicate k.toNat xs).flatten) else none
  | _, _, _ => none

mutual
/-- as data, for == -/
def PV.dat : PV → Option PyData
  | .non => some .none
  | .bl b => some (.bool b)
  | .int i => some (.int i)
  | .str s => some (.str s)
  | .lst _ xs => (datL xs).map .list
  | .tup xs => (datL xs).map .tuple
  | _ => none
def datL : List PV → Option (List PyData)
  | [] => some []
  | x :: xs => match x.dat, datL xs with
    | some d, some ds => some (d :: ds)
    | _, _ => none
end
def eqD (x y : PV) : Option Bool := match x.dat, y.dat with
  | some d, some e => if SeqAt.shaped d = true ∧ SeqAt.shaped e = true then some (PyData.eqv d e) else none
  | _, _ => none
/-- scalars that == tells apart as data does -/
def scal : PV → PV → Option Bool
  | .non, .non => some true
  | .non, .int _ => some false
  | .int _, .non => some false
  | .non, .bl _ => some false
  | .bl _, .non => some false
  | .non, .str _ => some false
  | .str _, .non => some false
  | .int i, .int j => some (decide (i = j))
  | .bl i, .bl j => some (decide (i = j))
  | .str i, .str j => some (decide (i = j))
  | .int _, .str _ => some false
  | .str _, .int _ => some false
  | .bl _, .str _ => some false
  | .str _, .bl _ => some false
  | _, _ => none
def eqP (x y : PV) : Option Bool := match scal x y with
  | some b => some b
  | none => eqD x y
/-- a key -/
def keyP : PV → Option L2.Key
  | .int i => some (.inl i)
  | .str s => some (.inr s)
  | _ => none
def valP : List L2.Key → List PV → L2.Key → Option PV
  | k :: ks, x :: xs, q => if k = q then some x else valP ks xs q
  | _, _, _ => none
def putP : List L2.Key → List PV → L2.Key → PV → List L2.Key × List PV
  | k :: ks, x :: xs, q, y => if k = q then (k :: ks, y :: xs) else ((k :: (putP ks xs q y).1), (x :: (putP ks xs q y).2))
  | _, _, q, y => ([q], [y])
def flatP : PV → Bool
  | .non => true
  | .bl _ => true
  | .int _ => true
  | .str _ => true
  | _ => false
/-- x in c -/
def inP (x : PV) : PV → Option Bool
  | .lst _ ys => if flatP x then inL x ys else none
  | .tup ys => if flatP x then inL x ys else none
  | .dic _ ks xs => (keyP x).map fun q => (valP ks xs q).isSome
  | .str b => match x with
    | .str a => some (!(Builtin.Str.occurrences b a 0 b.length 1).isEmpty)
    | _ => none
  | _ => none
where inL (x : PV) : List PV → Option Bool
  | [] => some false
  | y :: ys => match scal y x, inL x ys with
    | some a, some b => some (a || b)
    | _, _ => none
def isNon : PV → Bool
  | .non => true
  | _ => false
def cmpop : COp → PV → PV → Option Bool
  | .lt, .int i, .int j => some (decide (i < j))
  | .le, .int i, .int j => some (decide (i ≤ j))
  | .gt, .int i, .int j => some (decide (j < i))
  | .ge, .int i, .int j => some (decide (j ≤ i))
  | .eq, x, y => eqP x y
  | .ne, x, y => (eqP x y).map (!·)
  | .isn, x, .non => some (isNon x)
  | .notn, x, .non => some (!isNon x)
  | .isin, x, y => inP x y
  | .notin, x, y => (inP x y).map (!·)
  | _, _, _ => none
/-- a place in a sequence -/
def ixN (n : Nat) (i : Int) : Option Nat := if 0 ≤ i then (if i < n then some i.toNat else none) else if -(n : Int) ≤ i then some (i + n).toNat else none
def getI (xs : List PV) (i : Int) : Option PV := (ixN xs.length i).bind fun j => xs[j]?
def lookF : List Nat → List PV → Nat → Option PV
  | a :: as, x :: xs, f => if a = f then some x else lookF as xs f
  | _, _, _ => none
def putFl : List Nat → List PV → Nat → PV → List Nat × List PV
  | a :: as, x :: xs, f, y => if a = f then (a :: as, y :: xs) else (a :: (putFl as xs f y).1, x :: (putFl as xs f y).2)
  | _, _, f, y => ([f], [y])
/-- c[i], read -/
def item : PV → PV → Option PV
  | .lst _ xs, .int i => getI xs i
  | .tup xs, .int i => getI xs i
  | .dic _ ks xs, k => (keyP k).bind (valP ks xs)
  | .str s, .int i => if s.length ≤ lineB then ((ixN s.cps.toList.length i).bind fun j => s.cps.toList[j]?).map fun c => .str ⟨#[c]⟩ else none
  | _, _ => none
def cut (xs : List PV) (lo hi : Option Int) : List PV := (xs.drop (HT.sIx xs.length 0 lo)).take (HT.sIx xs.length xs.length hi - HT.sIx xs.length 0 lo)
def slice (x : PV) (lo hi : Option Int) : Option PV := match x with
  | .lst _ xs => if frzL xs = true then some (.lst true (cut xs lo hi)) else none
  | .tup xs => if frzL xs = true then some (.tup (cut xs lo hi)) else none
  | .scr ns => some (.lst true ((((ns.drop (HT.sIx ns.length 0 lo)).take (HT.sIx ns.length ns.length hi - HT.sIx ns.length 0 lo))).map .int))
  | _ => none
def revP : PV → Option PV
  | .lst _ xs => if frzL xs = true then some (.lst true xs.reverse) else none
  | .tup xs => if frzL xs = true ∧ xs.length ≤ lineB then some (.tup xs.reverse) else none
  | _ => none
def intsOf : List PV → Option (List Int)
  | [] => some []
  | .int i :: xs => (intsOf xs).map (i :: ·)
  | _ => none
def strsOf : List PV → Option (List Str)
  | [] => some []
  | .str i :: xs => (strsOf xs).map (i :: ·)
  | _ => none
def blsOf : List PV → Option (List Bool)
  | [] => some []
  | .bl i :: xs => (blsOf xs).map (i :: ·)
  | _ => none
/-- insertion into a rising list -/
def insI (x : Int) : List Int → List Int
  | [] => [x]
  | y :: ys => if x ≤ y then x :: y :: ys else y :: insI x ys
def sortI : List Int → List Int
  | [] => []
  | x :: xs => insI x (sortI xs)
def leS (a b : Str) : Bool := decide (a.cps.toList ≤ b.cps.toList)
def insS (x : Str) : List Str → List Str
  | [] => [x]
  | y :: ys => if leS x y then x :: y :: ys else y :: insS x ys
def sortS : List Str → List Str
  | [] => []
  | x :: xs => insS x (sortS xs)
def keysP : List L2.Key → List PV
  | [] => []
  | .inl i :: ks => .int i :: keysP ks
  | .inr s :: ks => .str s :: keysP ks
/-- the items of what may be walked or copied -/
def itemsOf : PV → Option (List PV)
  | .lst _ xs => some xs
  | .tup xs => some xs
  | _ => none
def maxI (x : Int) : List Int → Int
  | [] => x
  | y :: ys => maxI (if y > x then y else x) ys
def minI (x : Int) : List Int → Int
  | [] => x
  | y :: ys => minI (if y < x then y else x) ys
/-- isinstance(x, T): T by number: 0 list, 1 tuple, 2 (list, tuple), 3 bool, 4 int, 5 str; 10 + C an own class -/
def isinst : Nat → PV → Option Bool
  | 0, .lst _ _ => some true
  | 0, .scr _ => none
  | 0, _ => some false
  | 1, .tup _ => some true
  | 1, .scr _ => none
  | 1, _ => some false
  | 2, .lst _ _ => some true
  | 2, .tup _ => some true
  | 2, .scr _ => none
  | 2, _ => some false
  | 3, .bl _ => some true
  | 3, .scr _ => none
  | 3, _ => some false
  | 4, .bl _ => some true
  | 4, .int _ => some true
  | 4, .scr _ => none
  | 4, _ => some false
  | 5, .str _ => some true
  | 5, .scr _ => none
  | 5, _ => some false
  | n + 10, .obj _ C _ _ => if n = C then some true else none
  | _, _ => none
def lenP : PV → Option Nat
  | .lst _ xs => some xs.length
  | .tup xs => some xs.length
  | .str s => if s.length ≤ lineB then some s.length else none
  | .dic _ ks _ => some ks.length
  | _ => none
def bfun : BF → List PV → Option PV
  | .len, [x] => (lenP x).map fun n => .int n
  | .sorted, [.lst _ xs] => (intsOf xs).map fun ns => .lst true ((sortI ns).map .int)
  | .sum, [.lst _ xs] => (intsOf xs).map fun ns => .int ns.sum
  | .max1, [.lst _ xs] => match intsOf xs with
    | some (n :: ns) => some (.int (maxI n ns))
    | _ => none
  | .min1, [.lst _ xs] => match intsOf xs with
    | some (n :: ns) => some (.int (minI n ns))
    | _ => none
  | .max2, [.int i, .int j] => some (.int (if j > i then j else i))
  | .min2, [.int i, .int j] => some (.int (if j < i then j else i))
  | .abs, [.int i] => some (.int (if i < 0 then -i else i))
  | .int, [.int i] => some (.int i)
  | .int, [.bl b] => some (.int (if b then 1 else 0))
  | .list, [.lst _ xs] => if frzL xs = true then some (.lst true xs) else none
  | .list, [.tup xs] => if frzL xs = true then some (.lst true xs) else none
  | .tuple, [.lst _ xs] => if frzL xs = true then some (.tup xs) else none
  | .tuple, [.tup xs] => if frzL xs = true then some (.tup xs) else none
  | .any, [.lst _ xs] => (blsOf xs).map fun bs => .bl (bs.any id)
  | .all, [.lst _ xs] => (blsOf xs).map fun bs => .bl (bs.all id)
  | .lenset, [.lst _ xs] => match intsOf xs with
    | some ns => if ns.length ≤ 4000 ∧ ns.Nodup then some (.int ns.length) else none
    | none => none
  | .isinst k, [x] => (isinst k x).map .bl
  | _, _ => none
def bmeth : BM → PV → List PV → Option PV
  | .bits, .int i, [] => some (.int (Builtin.Int.intBits i : Nat))
  | .isalnum, .str s, [] => some (.bl (Txt.isalnum s))
  | _, _, _ => none
/-- a method that changes x: x behind it -/
def mmeth : MM → PV → List PV → Option PV
  | .append, .lst true xs, [y] => if xs.length < lineB then some (.lst true (xs ++ [y])) else none
  | .insert, .lst true xs, [.int i, y] => if xs.length < lineB ∧ 0 ≤ i ∧ i < 2 ^ 62 then some (.lst true (xs.take i.toNat ++ [y] ++ xs.drop i.toNat)) else none
  | .clear, .lst true _, [] => some (.lst true [])
  | .reverse, .lst true xs, [] => some (.lst true xs.reverse)
  | _, _, _ => none
/-- the keys, the values behind d[q] = y -/
def hasK (ks : List L2.Key) (q : L2.Key) : Bool := ks.any fun k => decide (k = q)
def putKs (ks : List L2.Key) (q : L2.Key) : List L2.Key := if hasK ks q = true then ks else ks ++ [q]
def putXs {α : Type} (ks : List L2.Key) (xs : List α) (q : L2.Key) (y : α) : List α := if hasK ks q = true then List.zipWith (fun k x => if k = q then y else x) ks xs else xs ++ [y]
/-- x[k] = y -/
def seti : PV → PV → PV → Option PV
  | .lst true xs, .int i, y => (ixN xs.length i).map fun j => .lst true (xs.set j y)
  | .dic true ks xs, k, y => match keyP k with
    | some q => if ks.length < lineB then some (.dic true (putKs ks q) (putXs ks xs q y.fz)) else none
    | none => none
  | _, _, _ => none
def setf (ok : Nat → Nat → Bool) : PV → Nat → PV → Option PV
  | .obj true C as xs, f, y => if as.length < 900 ∧ ok C f = true then some (.obj true C (putFl as xs f y).1 (putFl as xs f y).2) else none
  | _, _, _ => none

def clsP : PV → Option Nat
  | .obj _ C _ _ => some C
  | _ => none

/-! ### the evaluator -/
structure Tab where
  fn : Nat → List PV → RC
  mode : Nat → List Bool
  meth : Nat → Nat → Option Nat
  init : Nat → Option Nat
  glb : Nat → Option PV
  fld : Nat → Nat → Bool

def Env.at (env : Env) (i : Nat) : Option PV := match env[i]? with
  | some (some x) => some x
  | _ => none
def Res.bind {α β : Type} (r : Res α) (k : α → Env → Res β) : Res β := match r with
  | .ok a env => k a env
  | .exn x env => .exn x env
  | .bad => .bad
def Res.fl {α : Type} (r : Res α) (k : α → Env → Fl) : Fl := match r with
  | .ok a env => k a env
  | .exn x env => .exn x env
  | .bad => .bad
def lift {α : Type} (o : Option α) (env : Env) : Res α := match o with
  | some a => .ok a env
  | none => .bad
def liftF {α : Type} (o : Option α) (k : α → Fl) : Fl := match o with
  | some a => k a
  | none => .bad
def asB : PV → Env → Res Bool
  | .bl b, env => .ok b env
  | _, _ => .bad
def kil (env : Env) : List Nat → Env
  | [] => env
  | i :: is => kil (env.set i none) is
def setAll : List Nat → List PV → Env → Option Env
  | [], [], env => some env
  | i :: is, x :: xs, env => setAll is xs (env.set i (some x))
  | _, _, _ => none
def bindP : Pat → PV → Env → Option Env
  | .one i, x, env => some (env.set i (some x))
  | .many is, .tup xs, env => setAll is xs env
  | _, _, _ => none
def loopF (t : Pat) (kill : List Nat) (body : Env → Fl) : List PV → Env → Fl
  | [], env => .nx env
  | x :: xs, env => match bindP t x env with
    | none => .bad
    | some e1 => match body e1 with
      | .nx e2 => loopF t kill body xs (kil e2 kill)
      | r => r
def loopW (c : Env → Res PV) (kill : List Nat) (body : Env → Fl) : Nat → Env → Fl
  | 0, _ => .bad
  | n + 1, env => (c env).fl fun b e1 => match b with
    | .bl true => match body e1 with
      | .nx e2 => loopW c kill body n (kil e2 kill)
      | r => r
    | .bl false => .nx e1
    | _ => .bad
/-- a comprehension's turns; acc: what is made so far -/
def loopC (own : List Nat) (t : Pat) (cond elt : Env → Res PV) : List PV → List PV → Env → Res (List PV)
  | [], acc, env => .ok acc env
  | x :: xs, acc, env => match bindP t x env with
    | none => .bad
    | some e1 => (cond e1).bind fun b e2 => match b with
      | .bl true => (elt e2).bind fun y e3 => if acc.length < lineB then loopC own t cond elt xs (acc ++ [y]) (kil e3 own) else .bad
      | .bl false => loopC own t cond elt xs acc (kil e2 own)
      | _ => .bad
def resto (own : List Nat) (old new : Env) : Env := match own with
  | [] => new
  | i :: is => resto is old (match old[i]? with | some x => new.set i x | none => new)
/-- which arguments are handed to be changed: their slots -/
def Ex.mg : Ex → Option Nat
  | .marg i => some i
  | _ => none
def kinds : Exs → List (Option Nat)
  | .nil => []
  | .cons e es => e.mg :: kinds es
/-- the values of the arguments in the order of the parameters: those that may be changed out of their slots -/
def fillM : List (Option Nat) → List PV → Env → Option (List PV)
  | [], [], _ => some []
  | some i :: ks, _ :: xs, env => match env.at i, fillM ks xs (env.set i none) with
    | some x, some ys => some (x :: ys)
    | _, _ => none
  | none :: ks, x :: xs, env => (fillM ks xs env).map (x.fz :: ·)
  | _, _, _ => none
/-- the names without those that are handed to be changed -/
def outK : List (Option Nat) → Env → Env
  | [], env => env
  | some i :: ks, env => outK ks (env.set i none)
  | none :: ks, env => outK ks env
/-- .. and back -/
def backM : List (Option Nat) → List PV → Env → Option Env
  | [], [], env => some env
  | some i :: ks, m :: ms, env => backM ks ms (env.set i (some m))
  | some _ :: _, [], _ => none
  | none :: ks, ms, env => backM ks ms env
  | [], _ :: _, _ => none
def modesOf : List (Option Nat) → List Bool
  | [] => []
  | o :: ks => o.isSome :: modesOf ks
def RC.res (r : RC) (ks : List (Option Nat)) (env : Env) : Res PV := match r with
  | .ret y ms => match backM ks ms env with
    | some env' => .ok y env'
    | none => .bad
  | .exn x ms => match backM ks ms env with
    | some env' => .exn x env'
    | none => .bad
  | .bad => .bad
/-- a call of f with evaluated arguments -/
def callX (T : Tab) (f : Nat) (ks : List (Option Nat)) (xs : List PV) (env : Env) : Res PV :=
  if T.mode f = modesOf ks then
    match fillM ks xs env with
    | some ys => (T.fn f ys).res ks (outK ks env)
    | none => .bad
  else .bad
/-- C(..): a new object, its __init__; the answer is the object -/
def makeX (T : Tab) (C : Nat) (ks : List (Option Nat)) (xs : List PV) (env : Env) : Res PV := match T.init C with
  | some f => if T.mode f = true :: modesOf ks then
      match fillM ks xs env with
      | some ys => match T.fn f (.obj true C [] [] :: ys) with
        | .ret .non (o :: ms) => (RC.ret o ms).res ks (outK ks env)
        | .exn x (_ :: ms) => (RC.exn x ms).res ks (outK ks env)
        | _ => .bad
      | none => .bad
    else .bad
  | none => .bad

/-- no call of a def: nothing that stands is changed, but owned things may be given up -/
def rngs (a : Int) (n : Nat) : List PV := (List.range n).map fun (k : Nat) => PV.int (a + k)
def okR (j : Int) : Bool := decide (-(2 ^ 62) ≤ j) && decide (j < 2 ^ 62)

mutual
def ev (T : Tab) : Ex → Env → Res PV
  | .var i, env => match env.at i with
    | some x => .ok x.fz (if x.frz then env else env.set i (some x.fz))
    | none => .bad
  | .mv i, env => match env.at i with
    | some x => .ok x (env.set i none)
    | none => .bad
  | .cint n, env => .ok (.int n) env
  | .cbool b, env => .ok (.bl b) env
  | .cnon, env => .ok .non env
  | .cstr s, env => .ok (.str s) env
  | .glb g, env => lift (T.glb g) env
  | .bin o a b, env => (ev T a env).bind fun x env => (ev T b env).bind fun y env => lift (binop o x y) env
  | .neg a, env => (ev T a env).bind fun x env => match x with
    | .int i => .ok (.int (-i)) env
    | _ => .bad
  | .cmp o a b, env => (ev T a env).bind fun x env => (ev T b env).bind fun y env => lift ((cmpop o x y).map .bl) env
  | .chn o p a b c, env => (ev T a env).bind fun x env => (ev T b env).bind fun y env => match cmpop o x y with
    | some true => (ev T c env).bind fun z env => lift ((cmpop p y z).map .bl) env
    | some false => .ok (.bl false) env
    | none => .bad
  | .one a, env => ev T a env
  | .and a b, env => (ev T a env).bind fun x env => match x with
    | .bl true => ev T b env
    | .bl false => .ok (.bl false) env
    | _ => .bad
  | .or a b, env => (ev T a env).bind fun x env => match x with
    | .bl false => ev T b env
    | .bl true => .ok (.bl true) env
    | _ => .bad
  | .not a, env => (ev T a env).bind fun x env => match x with
    | .bl b => .ok (.bl (!b)) env
    | _ => .bad
  | .ife c a b, env => (ev T c env).bind fun x env => match x with
    | .bl true => ev T a env
    | .bl false => ev T b env
    | _ => .bad
  | .lst es, env => (evs T es env).bind fun xs env => .ok (.lst true xs) env
  | .tup es, env => (evs T es env).bind fun xs env => .ok (.tup xs) env
  | .dct0, env => .ok (.dic true [] []) env
  | .idx a i, env => (ev T a env).bind fun x env => (ev T i env).bind fun y env => lift (item x.fz y) env
  | .slc a lo hi, env => (ev T a env).bind fun x env => (evo T lo env).bind fun l env => (evo T hi env).bind fun h env => lift (slice x l h) env
  | .rev a, env => (ev T a env).bind fun x env => lift (revP x) env
  | .fld a f, env => (ev T a env).bind fun x env => match x.fz with
    | .obj _ _ as xs => lift (lookF as xs f) env
    | _ => .bad
  | .call f es ks, env => (evs T es env).bind fun xs env => (evs T ks env).bind fun zs env => callX T f (kinds es ++ kinds ks) (xs ++ zs) env
  | .meth m a es ks, env => (ev T a env).bind fun o env => match o.fz with
    | .obj false C as ys => match T.meth C m with
      | some f => (evs T es env).bind fun xs env => (evs T ks env).bind fun zs env => callX T f (none :: (kinds es ++ kinds ks)) (.obj false C as ys :: (xs ++ zs)) env
      | none => .bad
    | _ => .bad
  | .methm m i es ks, env => match env.at i with
    | some (.obj _ C _ _) => match T.meth C m with
      | some f => (evs T es env).bind fun xs env => (evs T ks env).bind fun zs env => callX T f (some i :: (kinds es ++ kinds ks)) (.non :: (xs ++ zs)) env
      | none => .bad
    | _ => .bad
  | .make C es ks, env => (evs T es env).bind fun xs env => (evs T ks env).bind fun zs env => makeX T C (kinds es ++ kinds ks) (xs ++ zs) env
  | .bf b es, env => (evs T es env).bind fun xs env => lift (bfun b xs) env
  | .bm b a es, env => (ev T a env).bind fun x env => (evs T es env).bind fun xs env => lift (bmeth b x xs) env
  | .com elt own t it cond, env => (evI T it env).bind fun xs env => (loopC own t (evc T cond) (ev T elt) xs [] (kil env own)).bind fun ys e2 => .ok (.lst true ys) (kil e2 own)
  | .marg i, env => match env.at i with
    | some _ => .ok .non env
    | none => .bad
  | .rd p, env => (evp T p env).bind fun x env => if x.frz then .ok x env else .bad
  | .lenp p, env => (evp T p env).bind fun x env => lift ((lenP x).map fun n => .int n) env
  | .inp neg e p, env => (ev T e env).bind fun x env => (evp T p env).bind fun c env => lift ((inP x c).map fun b => .bl (if neg then !b else b)) env
def evs (T : Tab) : Exs → Env → Res (List PV)
  | .nil, env => .ok [] env
  | .cons e es, env => (ev T e env).bind fun x env => (evs T es env).bind fun xs env => .ok (x :: xs) env
def evo (T : Tab) : OEx → Env → Res (Option Int)
  | .no, env => .ok none env
  | .so e, env => (ev T e env).bind fun x env => match x with
    | .int i => .ok (some i) env
    | _ => .bad
def evc (T : Tab) : OEx → Env → Res PV
  | .no, env => .ok (.bl true) env
  | .so e, env => ev T e env
/-- what stands at a place, looked at -/
def evp (T : Tab) : Pl → Env → Res PV
  | .pv i, env => lift (env.at i) env
  | .pf p f, env => (evp T p env).bind fun x env => match x with
    | .obj _ _ as xs => lift (lookF as xs f) env
    | _ => .bad
  | .pi p e, env => (evp T p env).bind fun x env => (ev T e env).bind fun k env => lift (item x k) env
def evI (T : Tab) : It → Env → Res (List PV)
  | .val e, env => (ev T e env).bind fun x env => lift (itemsOf x.fz) env
  | .rng1 e, env => (ev T e env).bind fun x env => match x with
    | .int j => if okR j then .ok (rngs 0 j.toNat) env else .bad
    | _ => .bad
  | .rng2 a b, env => (ev T a env).bind fun x env => (ev T b env).bind fun y env => match x, y with
    | .int i, .int j => if okR i && okR j then .ok (rngs i (j - i).toNat) env else .bad
    | _, _ => .bad
  | .enum e, env => (ev T e env).bind fun x env => lift ((itemsOf x.fz).map fun xs => xs.zipIdx.map fun p => .tup [.int (p.2 : Nat), p.1]) env
  | .zip a b, env => (ev T a env).bind fun x env => (ev T b env).bind fun y env => match x.fz, y.fz with
    | .lst _ xs, .lst _ ys => .ok ((xs.zip ys).map fun p => .tup [p.1, p.2]) env
    | .tup xs, .tup ys => .ok ((xs.zip ys).map fun p => .tup [p.1, p.2]) env
    | _, _ => .bad
end

/-- the value at a place becomes f of it -/
def modP (i : Nat) (f : PV → Option PV) (env : Env) : Option Env := match env.at i with
  | some x => (f x).map fun y => env.set i (some y)
  | none => none
/-- .. an attribute of the object at a name -/
def modF (i a : Nat) (f : PV → Option PV) (env : Env) : Option Env := modP i (fun x => match x with
  | .obj true C as xs => match lookF as xs a with
    | some z => (f z).map fun y => .obj true C as (putFl as xs a y).2
    | none => none
  | _ => none) env
/-- expressions that change no object and make at most new tuples -/
def Ex.atom : Ex → Bool
  | .var _ => true
  | .cint _ => true
  | .cstr _ => true
  | .cnon => true
  | .cbool _ => true
  | _ => false
mutual
/-- no def is called, nothing is made by a comprehension: all that stands stays -/
def Ex.pure : Ex → Bool
  | .bin _ a b => a.pure && b.pure
  | .neg a => a.pure
  | .cmp _ a b => a.pure && b.pure
  | .chn _ _ a b c => a.pure && b.pure && c.pure
  | .one a => a.pure
  | .and a b => a.pure && b.pure
  | .or a b => a.pure && b.pure
  | .not a => a.pure
  | .ife c a b => c.pure && a.pure && b.pure
  | .lst es => es.pure
  | .tup es => es.pure
  | .idx a i => a.pure && i.pure
  | .slc a lo hi => a.pure && lo.pure && hi.pure
  | .rev a => a.pure
  | .fld a _ => a.pure
  | .bf _ es => es.pure
  | .bm _ a es => a.pure && es.pure
  | .rd p => p.pure
  | .lenp p => p.pure
  | .inp _ e p => e.pure && p.pure
  | .call _ _ _ => false
  | .meth _ _ _ _ => false
  | .methm _ _ _ _ => false
  | .make _ _ _ => false
  | .com _ _ _ _ _ => false
  | _ => true
def Exs.pure : Exs → Bool
  | .nil => true
  | .cons e es => e.pure && es.pure
def OEx.pure : OEx → Bool
  | .no => true
  | .so e => e.pure
def Pl.pure : Pl → Bool
  | .pv _ => true
  | .pf p _ => p.pure
  | .pi p e => p.pure && e.pure
end
mutual
def Ex.simple : Ex → Bool
  | .var _ => true
  | .cint _ => true
  | .cstr _ => true
  | .cnon => true
  | .cbool _ => true
  | .idx a i => a.atom && i.atom
  | .tup es => es.simple
  | _ => false
def Exs.simple : Exs → Bool
  | .nil => true
  | .cons e es => e.simple && es.simple
end
mutual
def evS (T : Tab) : St → Env → Fl
  | .set i fr e, env => (ev T e env).fl fun x env => .nx (env.set i (some (if fr then x.fz else x)))
  | .unp is e, env => (ev T e env).fl fun x env => liftF (match x with
    | .tup xs => setAll is xs env
    | .lst _ xs => setAll is xs env
    | _ => none) .nx
  | .par is es, env => (evs T es env).fl fun xs env => liftF (setAll is xs env) .nx
  | .unps is k e, env => (ev T e env).fl fun x env => match x with
    | .tup xs => if is.length ≤ xs.length ∧ frzL xs = true then liftF (setAll is (xs.take is.length) env) (fun env => .nx (env.set k (some (.lst true (xs.drop is.length))))) else .bad
    | _ => .bad
  | .aug i o e, env => match env.at i with
    | some (.int x) => (ev T e env).fl fun y env => match y with
      | .int y => liftF (binI o x y) fun z => .nx (env.set i (some (.int z)))
      | _ => .bad
    | _ => .bad
  | .seti (.pv i) k e, env => (ev T e env).fl fun y env => match env.at i with
    | some _ => (ev T k env).fl fun q env => liftF (modP i (fun x => seti x q y) env) .nx
    | none => .bad
  | .seti (.pf (.pv i) f) k e, env => if k.atom then (ev T e env).fl fun y env => (ev T k env).fl fun q env => liftF (modF i f (fun x => seti x q y) env) .nx else .bad
  | .seti _ _ _, _ => .bad
  | .augi (.pv i) k o e, env => match env.at i with
    | some _ => (ev T k env).fl fun q env => match env.at i with
      | some (.lst true xs) => match q with
        | .int j => match getI xs j with
          | some (.int a) => (ev T e env).fl fun y env => match y with
            | .int b => liftF (binI o a b) fun z => liftF (modP i (fun x => seti x (.int j) (.int z)) env) .nx
            | _ => .bad
          | _ => .bad
        | _ => .bad
      | _ => .bad
    | none => .bad
  | .augi _ _ _ _, _ => .bad
  | .setf (.pv i) f e, env => (ev T e env).fl fun y env => liftF (modP i (fun x => setf T.fld x f y) env) .nx
  | .setf _ _ _, _ => .bad
  | .augf (.pv i) f o e, env => match env.at i with
    | some (.obj _ C as xs) => match lookF as xs f with
      | some (.int a) => (ev T e env).fl fun y env => match y with
        | .int b => liftF (binI o a b) fun z => liftF (modP i (fun x => if clsP x = some C then setf T.fld x f (.int z) else none) env) .nx
        | _ => .bad
      | _ => .bad
    | _ => .bad
  | .augf _ _ _ _, _ => .bad
  | .mth b (.pv i) es, env => match env.at i with
    | some (.lst true _) => (evs T es env).fl fun ys env => liftF (modP i (fun x => mmeth b x ys) env) .nx
    | _ => .bad
  | .mth b (.pf (.pv i) f) es, env => if es.simple then (evs T es env).fl fun ys env => liftF (modF i f (fun x => mmeth b x ys) env) .nx else .bad
  | .mth _ _ _, _ => .bad
  | .expr e, env => (ev T e env).fl fun _ env => .nx env
  | .ret e, env => (ev T e env).fl fun x env => .rt x env
  | .retN, env => .rt .non env
  | .ife c a b, env => (ev T c env).fl fun x env => match x with
    | .bl true => evSs T a env
    | .bl false => evSs T b env
    | _ => .bad
  | .for t it kill body, env => (evI T it env).fl fun xs env => loopF t kill (evSs T body) xs (kil env kill)
  | .whl n c kill body, env => loopW (ev T c) kill (evSs T body) n (kil env kill)
  | .pass, env => .nx env
  | .bad, _ => .bad
def evSs (T : Tab) : Sts → Env → Fl
  | .nil, env => .nx env
  | .cons s ss, env => match evS T s env with
    | .nx env => evSs T ss env
    | r => r
end

/-- a def: parameters, slots, which parameters it may change, its body -/
structure Def where
  np : Nat
  ns : Nat
  mode : List Bool
  body : Sts
/-- the parameters that may be changed, at the end -/
def outM : List Bool → Env → Option (List PV)
  | [], _ => some []
  | true :: bs, some x :: env => (outM bs env).map (x :: ·)
  | false :: bs, _ :: env => outM bs env
  | _, _ => none
def okA : List Bool → List PV → Bool
  | [], [] => true
  | true :: bs, _ :: xs => okA bs xs
  | false :: bs, x :: xs => x.frz && okA bs xs
  | _, _ => false
def runD (T : Tab) (d : Def) (args : List PV) : RC :=
  if okA d.mode args = true ∧ d.mode.length = d.np ∧ d.np ≤ d.ns then
    match evSs T d.body (args.map some ++ List.replicate (d.ns - d.np) none) with
    | .nx env => match outM d.mode env with
      | some ms => .ret .non ms
      | none => .bad
    | .rt y env => match outM d.mode env with
      | some ms => .ret y ms
      | none => .bad
    | .exn x env => match outM d.mode env with
      | some ms => .exn x ms
      | none => .bad
    | .bad => .bad
  else .bad
structure Prog where
  defs : List Def
  meth : Nat → Nat → Option Nat
  init : Nat → Option Nat
  glb : Nat → Option PV
  fld : Nat → Nat → Bool
def Prog.tab (P : Prog) (fn : Nat → List PV → RC) : Tab := ⟨fn, fun f => match P.defs[f]? with | some d => d.mode | none => [], P.meth, P.init, P.glb, P.fld⟩
/-- a call of the def f, at most n calls deep -/
def callN (P : Prog) : Nat → Nat → List PV → RC
  | 0, _, _ => .bad
  | n + 1, f, args => match P.defs[f]? with
    | some d => runD (P.tab (callN P n)) d args
    | none => .bad
end Z

set_option Elab.async false
set_option linter.all false
set_option maxRecDepth 100000
/-! Z2: how values lie in the abstract heap; what steps keep. -/
namespace Z
open PySem L2

/-- what the text is: where its classes stand, the attributes' names, how an exception lies -/
structure Txt where
  K : PySem.W.Frag
  cls : Nat → Option Addr
  att : Nat → Option Str
  xrep : XV → Value → Option Addr → Hp → Prop

def attL (G : Txt) (C : Addr) : List Nat → List Str → Prop
  | [], [] => True
  | a :: as, n :: ns => G.att a = some n ∧ NoAttr G.K C n ∧ attL G C as ns
  | _, _ => False
/-- a tuple of the written part -/
def KTup (K : PySem.W.Frag) (a : Addr) (vs : List V) : Prop :=
  ∃ (o : Obj) (its : Array Value) (n : Nat), K.lookup a = some o ∧ o.cls = .type "tuple" ∧ o.data = .seq its n ∧ its.size ≤ sizeLine ∧ Vals vs its.toList

/-- a list of the written part -/
def KLst (K : PySem.W.Frag) (a : Addr) (vs : List V) : Prop :=
  ∃ (o : Obj) (its : Array Value) (n : Nat), K.lookup a = some o ∧ o.cls = .type "list" ∧ o.dict = none ∧ o.data = .seq its n ∧ its.size ≤ sizeLine ∧ Vals vs its.toList

mutual
def Rep (G : Txt) (F : Addr → Prop) (H : Hp) : PV → V → List Addr → Prop
  | .non, v, fp => v = .non ∧ fp = []
  | .bl b, v, fp => v = .bl b ∧ fp = []
  | .int i, v, fp => v = .int i ∧ fp = []
  | .str s, v, fp => v = .str s ∧ fp = []
  | .lst o xs, v, fp => ∃ a vs fl, v = .ref a ∧ H a = some (.lst vs) ∧ RepL G F H xs vs fl ∧ ((o = true ∧ ¬ F a ∧ fp = a :: fl) ∨ (o = false ∧ F a ∧ fl = [] ∧ fp = []))
  | .tup xs, v, fp => ∃ a vs, v = .ref a ∧ ((H a = some (.tup vs) ∧ F a) ∨ KTup G.K a vs) ∧ RepL G F H xs vs fp
  | .dic o ks xs, v, fp => ∃ a vs fl, v = .ref a ∧ H a = some (.dK (ks.zip vs)) ∧ ks.length = xs.length ∧ RepL G F H xs vs fl ∧ ((o = true ∧ ¬ F a ∧ fp = a :: fl) ∨ (o = false ∧ F a ∧ fl = [] ∧ fp = []))
  | .obj o C as xs, v, fp => ∃ a Ca dx ns vs fl, v = .ref a ∧ G.cls C = some Ca ∧ H a = some (.ins Ca dx (ns.zip vs)) ∧ attL G Ca as ns ∧ as.length = xs.length ∧ RepL G F H xs vs fl ∧ ((o = true ∧ ¬ F a ∧ fp = a :: fl) ∨ (o = false ∧ F a ∧ fl = [] ∧ fp = []))
  | .scr ns, v, fp => ∃ a, v = .ref a ∧ ((∃ o, H a = some (.frz o (.lst (ns.map .int))) ∧ F a) ∨ KLst G.K a (ns.map .int)) ∧ fp = []
def RepL (G : Txt) (F : Addr → Prop) (H : Hp) : List PV → List V → List Addr → Prop
  | [], vs, fp => vs = [] ∧ fp = []
  | x :: xs, vs, fp => ∃ v vr f1 f2, vs = v :: vr ∧ fp = f1 ++ f2 ∧ Rep G F H x v f1 ∧ RepL G F H xs vr f2
end
/-- roots: values with what they are -/
def RepT (G : Txt) (F : Addr → Prop) (H : Hp) : List (PV × V) → List Addr → Prop
  | [], fp => fp = []
  | r :: rs, fp => ∃ f1 f2, fp = f1 ++ f2 ∧ Rep G F H r.1 r.2 f1 ∧ RepT G F H rs f2

/-- from one state to a later one: fp is what may be changed -/
structure Stp (F : Addr → Prop) (H : Hp) (fp : List Addr) (F' : Addr → Prop) (H' : Hp) (fp' : List Addr) : Prop where
  keep : ∀ a o, H a = some o → a ∉ fp → H' a = some o
  alive : ∀ a, H a ≠ none → H' a ≠ none
  fm : ∀ a, F a → F' a
  fn : ∀ a, F' a → F a ∨ a ∈ fp ∨ H a = none
  pn : ∀ a, a ∈ fp' → a ∈ fp ∨ H a = none
def Ext (H H' : Hp) : Prop := ∀ a o, H a = some o → H' a = some o
theorem Ext.refl {H : Hp} : Ext H H := fun _ _ h => h
theorem Ext.trans {H H1 H2 : Hp} (a : Ext H H1) (b : Ext H1 H2) : Ext H H2 := fun x o h => b x o (a x o h)
theorem Ext.new {H : Hp} {p : Addr} {o : HO} (h : H p = none) : Ext H (upd H p o) := fun a u e => by rw [upd_ne (ne_of_none e h)]; exact e

section
variable {G : Txt} {F F' : Addr → Prop} {H H' : Hp}

mutual
theorem Rep.in_ : ∀ {x : PV} {v : V} {fp : List Addr}, Rep G F H x v fp → ∀ a ∈ fp, ¬ F a ∧ H a ≠ none
  | .non, v, fp, h => by simp only [Rep] at h; rw [h.2]; simp
  | .bl b, v, fp, h => by simp only [Rep] at h; rw [h.2]; simp
  | .int i, v, fp, h => by simp only [Rep] at h; rw [h.2]; simp
  | .str s, v, fp, h => by simp only [Rep] at h; rw [h.2]; simp
  | .lst o xs, v, fp, h => by
    simp only [Rep] at h
    obtain ⟨a, vs, fl, rfl, ha, hl, h⟩ := h
    have ih := RepL.in_ hl
    rcases h with ⟨_, nf, rfl⟩ | ⟨_, _, _, rfl⟩
    · intro b hb
      rcases List.mem_cons.mp hb with rfl | hb
      · exact ⟨nf, by rw [ha]; simp⟩
      · exact ih b hb
    · simp
  | .tup xs, v, fp, h => by
    simp only [Rep] at h
    obtain ⟨a, vs, rfl, _, hl⟩ := h
    exact RepL.in_ hl
  | .dic o ks xs, v, fp, h => by
    simp only [Rep] at h
    obtain ⟨a, vs, fl, rfl, ha, _, hl, h⟩ := h
    have ih := RepL.in_ hl
    rcases h with ⟨_, nf, rfl⟩ | ⟨_, _, _, rfl⟩
    · intro b hb
      rcases List.mem_cons.mp hb with rfl | hb
      · exact ⟨nf, by rw [ha]; simp⟩
      · exact ih b hb
    · simp
  | .obj o C as xs, v, fp, h => by
    simp only [Rep] at h
    obtain ⟨a, Ca, dx, ns, vs, fl, rfl, _, ha, _, _, hl, h⟩ := h
    have ih := RepL.in_ hl
    rcases h with ⟨_, nf, rfl⟩ | ⟨_, _, _, rfl⟩
    · intro b hb
      rcases List.mem_cons.mp hb with rfl | hb
      · exact ⟨nf, by rw [ha]; simp⟩
      · exact ih b hb
    · simp
  | .scr ns, v, fp, h => by
    simp only [Rep] at h
    obtain ⟨_, _, _, rfl⟩ := h
    simp
theorem RepL.in_ : ∀ {xs : List PV} {vs : List V} {fp : List Addr}, RepL G F H xs vs fp → ∀ a ∈ fp, ¬ F a ∧ H a ≠ none
  | [], vs, fp, h => by simp only [RepL] at h; rw [h.2]; simp
  | x :: xs, vs, fp, h => by
    simp only [RepL] at h
    obtain ⟨v, vr, f1, f2, rfl, rfl, h1, h2⟩ := h
    intro a ha
    rcases List.mem_append.mp ha with ha | ha
    · exact Rep.in_ h1 a ha
    · exact RepL.in_ h2 a ha
end
theorem RepT.in_ : ∀ {rs : List (PV × V)} {fp : List Addr}, RepT G F H rs fp → ∀ a ∈ fp, ¬ F a ∧ H a ≠ none
  | [], fp, h => by simp only [RepT] at h; rw [h]; simp
  | r :: rs, fp, h => by
    simp only [RepT] at h
    obtain ⟨f1, f2, rfl, h1, h2⟩ := h
    intro a ha
    rcases List.mem_append.mp ha with ha | ha
    · exact Rep.in_ h1 a ha
    · exact RepT.in_ h2 a ha

mutual
/-- a value stays what it is where what stands at its objects stays: kept, what is frozen; own, what is owned -/
theorem Rep.stay : ∀ {x : PV} {v : V} {fp : List Addr}, Rep G F H x v fp → (∀ a o, F a → H a = some o → H' a = some o) → (∀ a, F a → F' a) → (∀ a ∈ fp, ∀ o, H a = some o → H' a = some o) → (∀ a ∈ fp, ¬ F' a) → Rep G F' H' x v fp
  | .non, v, fp, h, _, _, _, _ => by simp only [Rep] at h ⊢; exact h
  | .bl b, v, fp, h, _, _, _, _ => by simp only [Rep] at h ⊢; exact h
  | .int i, v, fp, h, _, _, _, _ => by simp only [Rep] at h ⊢; exact h
  | .str s, v, fp, h, _, _, _, _ => by simp only [Rep] at h ⊢; exact h
  | .lst o xs, v, fp, h, k, m, w, n => by
    simp only [Rep] at h ⊢
    obtain ⟨a, vs, fl, rfl, ha, hl, h⟩ := h
    rcases h with ⟨ho, nf, rfl⟩ | ⟨ho, hf, rfl, rfl⟩
    · exact ⟨a, vs, fl, rfl, w a List.mem_cons_self _ ha, RepL.stay hl k m (fun b hb => w b (List.mem_cons_of_mem _ hb)) (fun b hb => n b (List.mem_cons_of_mem _ hb)), .inl ⟨ho, n a List.mem_cons_self, rfl⟩⟩
    · exact ⟨a, vs, [], rfl, k a _ hf ha, RepL.stay hl k m w n, .inr ⟨ho, m a hf, rfl, rfl⟩⟩
  | .tup xs, v, fp, h, k, m, w, n => by
    simp only [Rep] at h ⊢
    obtain ⟨a, vs, rfl, ha, hl⟩ := h
    refine ⟨a, vs, rfl, ?_, RepL.stay hl k m w n⟩
    rcases ha with ⟨ha, hf⟩ | ha
    · exact .inl ⟨k a _ hf ha, m a hf⟩
    · exact .inr ha
  | .dic o ks xs, v, fp, h, k, m, w, n => by
    simp only [Rep] at h ⊢
    obtain ⟨a, vs, fl, rfl, ha, hk, hl, h⟩ := h
    rcases h with ⟨ho, nf, rfl⟩ | ⟨ho, hf, rfl, rfl⟩
    · exact ⟨a, vs, fl, rfl, w a List.mem_cons_self _ ha, hk, RepL.stay hl k m (fun b hb => w b (List.mem_cons_of_mem _ hb)) (fun b hb => n b (List.mem_cons_of_mem _ hb)), .inl ⟨ho, n a List.mem_cons_self, rfl⟩⟩
    · exact ⟨a, vs, [], rfl, k a _ hf ha, hk, RepL.stay hl k m w n, .inr ⟨ho, m a hf, rfl, rfl⟩⟩
  | .obj o C as xs, v, fp, h, k, m, w, n => by
    simp only [Rep] at h ⊢
    obtain ⟨a, Ca, dx, ns, vs, fl, rfl, hc, ha, hn, hk, hl, h⟩ := h
    rcases h with ⟨ho, nf, rfl⟩ | ⟨ho, hf, rfl, rfl⟩
    · exact ⟨a, Ca, dx, ns, vs, fl, rfl, hc, w a List.mem_cons_self _ ha, hn, hk, RepL.stay hl k m (fun b hb => w b (List.mem_cons_of_mem _ hb)) (fun b hb => n b (List.mem_cons_of_mem _ hb)), .inl ⟨ho, n a List.mem_cons_self, rfl⟩⟩
    · exact ⟨a, Ca, dx, ns, vs, [], rfl, hc, k a _ hf ha, hn, hk, RepL.stay hl k m w n, .inr ⟨ho, m a hf, rfl, rfl⟩⟩
  | .scr ns, v, fp, h, k, m, w, n => by
    simp only [Rep] at h ⊢
    obtain ⟨a, rfl, ha, rfl⟩ := h
    refine ⟨a, rfl, ?_, rfl⟩
    rcases ha with ⟨o, ha, hf⟩ | ha
    · exact .inl ⟨o, k a _ hf ha, m a hf⟩
    · exact .inr ha
theorem RepL.stay : ∀ {xs : List PV} {vs : List V} {fp : List Addr}, RepL G F H xs vs fp → (∀ a o, F a → H a = some o → H' a = some o) → (∀ a, F a → F' a) → (∀ a ∈ fp, ∀ o, H a = some o → H' a = some o) → (∀ a ∈ fp, ¬ F' a) → RepL G F' H' xs vs fp
  | [], vs, fp, h, _, _, _, _ => by simp only [RepL] at h ⊢; exact h
  | x :: xs, vs, fp, h, k, m, w, n => by
    simp only [RepL] at h ⊢
    obtain ⟨v, vr, f1, f2, rfl, rfl, h1, h2⟩ := h
    exact ⟨v, vr, f1, f2, rfl, rfl, Rep.stay h1 k m (fun a ha => w a (List.mem_append_left _ ha)) (fun a ha => n a (List.mem_append_left _ ha)), RepL.stay h2 k m (fun a ha => w a (List.mem_append_right _ ha)) (fun a ha => n a (List.mem_append_right _ ha))⟩
end
theorem RepT.stay : ∀ {rs : List (PV × V)} {fp : List Addr}, RepT G F H rs fp → (∀ a o, F a → H a = some o → H' a = some o) → (∀ a, F a → F' a) → (∀ a ∈ fp, ∀ o, H a = some o → H' a = some o) → (∀ a ∈ fp, ¬ F' a) → RepT G F' H' rs fp
  | [], fp, h, _, _, _, _ => by simp only [RepT] at h ⊢; exact h
  | r :: rs, fp, h, k, m, w, n => by
    simp only [RepT] at h ⊢
    obtain ⟨f1, f2, rfl, h1, h2⟩ := h
    exact ⟨f1, f2, rfl, h1.stay k m (fun a ha => w a (List.mem_append_left _ ha)) (fun a ha => n a (List.mem_append_left _ ha)), RepT.stay h2 k m (fun a ha => w a (List.mem_append_right _ ha)) (fun a ha => n a (List.mem_append_right _ ha))⟩

theorem fzL_length : ∀ xs : List PV, (fzL xs).length = xs.length
  | [] => rfl
  | x :: xs => by simp [fzL, fzL_length xs]
mutual
/-- given up: what was owned is frozen -/
theorem Rep.fz : ∀ {x : PV} {v : V} {fp : List Addr}, Rep G F H x v fp → (∀ a, F a → F' a) → (∀ a ∈ fp, F' a) → Rep G F' H x.fz v []
  | .non, v, fp, h, _, _ => by simp only [Rep, PV.fz] at h ⊢; exact ⟨h.1, trivial⟩
  | .bl b, v, fp, h, _, _ => by simp only [Rep, PV.fz] at h ⊢; exact ⟨h.1, trivial⟩
  | .int i, v, fp, h, _, _ => by simp only [Rep, PV.fz] at h ⊢; exact ⟨h.1, trivial⟩
  | .str s, v, fp, h, _, _ => by simp only [Rep, PV.fz] at h ⊢; exact ⟨h.1, trivial⟩
  | .lst true xs, v, fp, h, m, g => by
    unfold Rep at h; unfold PV.fz Rep
    obtain ⟨a, vs, fl, rfl, ha, hl, h⟩ := h
    rcases h with ⟨_, nf, rfl⟩ | ⟨ho, _⟩
    · exact ⟨a, vs, [], rfl, ha, RepL.fz hl m (fun b hb => g b (List.mem_cons_of_mem _ hb)), .inr ⟨rfl, g a List.mem_cons_self, rfl, rfl⟩⟩
    · cases ho
  | .lst false xs, v, fp, h, m, g => by
    unfold Rep at h; unfold PV.fz Rep
    obtain ⟨a, vs, fl, rfl, ha, hl, h⟩ := h
    rcases h with ⟨ho, _⟩ | ⟨_, hf, rfl, rfl⟩
    · cases ho
    · exact ⟨a, vs, [], rfl, ha, RepL.stay hl (fun _ _ _ h => h) m (fun _ h => nomatch h) (fun _ h => nomatch h), .inr ⟨rfl, m a hf, rfl, rfl⟩⟩
  | .tup xs, v, fp, h, m, g => by
    unfold Rep at h; unfold PV.fz Rep
    obtain ⟨a, vs, rfl, ha, hl⟩ := h
    refine ⟨a, vs, rfl, ?_, RepL.fz hl m g⟩
    rcases ha with ⟨ha, hf⟩ | ha
    · exact .inl ⟨ha, m a hf⟩
    · exact .inr ha
  | .dic true ks xs, v, fp, h, m, g => by
    unfold Rep at h; unfold PV.fz Rep
    obtain ⟨a, vs, fl, rfl, ha, hk, hl, h⟩ := h
    rcases h with ⟨_, nf, rfl⟩ | ⟨ho, _⟩
    · exact ⟨a, vs, [], rfl, ha, by rw [fzL_length]; exact hk, RepL.fz hl m (fun b hb => g b (List.mem_cons_of_mem _ hb)), .inr ⟨rfl, g a List.mem_cons_self, rfl, rfl⟩⟩
    · cases ho
  | .dic false ks xs, v, fp, h, m, g => by
    unfold Rep at h; unfold PV.fz Rep
    obtain ⟨a, vs, fl, rfl, ha, hk, hl, h⟩ := h
    rcases h with ⟨ho, _⟩ | ⟨_, hf, rfl, rfl⟩
    · cases ho
    · exact ⟨a, vs, [], rfl, ha, hk, RepL.stay hl (fun _ _ _ h => h) m (fun _ h => nomatch h) (fun _ h => nomatch h), .inr ⟨rfl, m a hf, rfl, rfl⟩⟩
  | .obj true C as xs, v, fp, h, m, g => by
    unfold Rep at h; unfold PV.fz Rep
    obtain ⟨a, Ca, dx, ns, vs, fl, rfl, hc, ha, hn, hk, hl, h⟩ := h
    rcases h with ⟨_, nf, rfl⟩ | ⟨ho, _⟩
    · exact ⟨a, Ca, dx, ns, vs, [], rfl, hc, ha, hn, by rw [fzL_length]; exact hk, RepL.fz hl m (fun b hb => g b (List.mem_cons_of_mem _ hb)), .inr ⟨rfl, g a List.mem_cons_self, rfl, rfl⟩⟩
    · cases ho
  | .obj false C as xs, v, fp, h, m, g => by
    unfold Rep at h; unfold PV.fz Rep
    obtain ⟨a, Ca, dx, ns, vs, fl, rfl, hc, ha, hn, hk, hl, h⟩ := h
    rcases h with ⟨ho, _⟩ | ⟨_, hf, rfl, rfl⟩
    · cases ho
    · exact ⟨a, Ca, dx, ns, vs, [], rfl, hc, ha, hn, hk, RepL.stay hl (fun _ _ _ h => h) m (fun _ h => nomatch h) (fun _ h => nomatch h), .inr ⟨rfl, m a hf, rfl, rfl⟩⟩
  | .scr ns, v, fp, h, m, g => by
    unfold Rep at h; unfold PV.fz Rep
    obtain ⟨a, rfl, ha, rfl⟩ := h
    refine ⟨a, rfl, ?_, rfl⟩
    rcases ha with ⟨o, ha, hf⟩ | ha
    · exact .inl ⟨o, ha, m a hf⟩
    · exact .inr ha
theorem RepL.fz : ∀ {xs : List PV} {vs : List V} {fp : List Addr}, RepL G F H xs vs fp → (∀ a, F a → F' a) → (∀ a ∈ fp, F' a) → RepL G F' H (fzL xs) vs []
  | [], vs, fp, h, _, _ => by unfold RepL at h; unfold fzL RepL; exact ⟨h.1, rfl⟩
  | x :: xs, vs, fp, h, m, g => by
    unfold RepL at h; unfold fzL RepL
    obtain ⟨v, vr, f1, f2, rfl, rfl, h1, h2⟩ := h
    exact ⟨v, vr, [], [], rfl, rfl, Rep.fz h1 m (fun a ha => g a (List.mem_append_left _ ha)), RepL.fz h2 m (fun a ha => g a (List.mem_append_right _ ha))⟩
end
mutual
theorem frz_of_nil : ∀ {x : PV} {v : V}, Rep G F H x v [] → x.frz = true
  | .non, v, h => rfl
  | .bl b, v, h => rfl
  | .int i, v, h => rfl
  | .str s, v, h => rfl
  | .lst o xs, v, h => by
    unfold Rep at h; unfold PV.frz
    obtain ⟨a, vs, fl, rfl, ha, hl, h⟩ := h
    rcases h with ⟨_, nf, h⟩ | ⟨rfl, hf, rfl, _⟩
    · cases h
    · rw [frzL_of_nil hl]; rfl
  | .tup xs, v, h => by
    unfold Rep at h; unfold PV.frz
    obtain ⟨a, vs, rfl, ha, hl⟩ := h
    exact frzL_of_nil hl
  | .dic o ks xs, v, h => by
    unfold Rep at h; unfold PV.frz
    obtain ⟨a, vs, fl, rfl, ha, hk, hl, h⟩ := h
    rcases h with ⟨_, nf, h⟩ | ⟨rfl, hf, rfl, _⟩
    · cases h
    · rw [frzL_of_nil hl]; rfl
  | .obj o C as xs, v, h => by
    unfold Rep at h; unfold PV.frz
    obtain ⟨a, Ca, dx, ns, vs, fl, rfl, hc, ha, hn, hk, hl, h⟩ := h
    rcases h with ⟨_, nf, h⟩ | ⟨rfl, hf, rfl, _⟩
    · cases h
    · rw [frzL_of_nil hl]; rfl
  | .scr ns, v, h => rfl
theorem frzL_of_nil : ∀ {xs : List PV} {vs : List V}, RepL G F H xs vs [] → frzL xs = true
  | [], vs, h => rfl
  | x :: xs, vs, h => by
    unfold RepL at h; unfold frzL
    obtain ⟨v, vr, f1, f2, rfl, e, h1, h2⟩ := h
    obtain ⟨rfl, rfl⟩ := List.append_eq_nil_iff.mp e.symm
    rw [frz_of_nil h1, frzL_of_nil h2]; rfl
end
mutual
theorem nil_of_frz : ∀ {x : PV} {v : V} {fp : List Addr}, x.frz = true → Rep G F H x v fp → fp = []
  | .non, v, fp, _, h => by unfold Rep at h; exact h.2
  | .bl b, v, fp, _, h => by unfold Rep at h; exact h.2
  | .int i, v, fp, _, h => by unfold Rep at h; exact h.2
  | .str s, v, fp, _, h => by unfold Rep at h; exact h.2
  | .lst o xs, v, fp, z, h => by
    unfold Rep at h; unfold PV.frz at z
    obtain ⟨a, vs, fl, rfl, ha, hl, h⟩ := h
    rcases h with ⟨rfl, nf, h⟩ | ⟨rfl, hf, rfl, h⟩
    · cases z
    · exact h
  | .tup xs, v, fp, z, h => by
    unfold Rep at h; unfold PV.frz at z
    obtain ⟨a, vs, rfl, ha, hl⟩ := h
    exact nilL_of_frz z hl
  | .dic o ks xs, v, fp, z, h => by
    unfold Rep at h; unfold PV.frz at z
    obtain ⟨a, vs, fl, rfl, ha, hk, hl, h⟩ := h
    rcases h with ⟨rfl, nf, h⟩ | ⟨rfl, hf, rfl, h⟩
    · cases z
    · exact h
  | .obj o C as xs, v, fp, z, h => by
    unfold Rep at h; unfold PV.frz at z
    obtain ⟨a, Ca, dx, ns, vs, fl, rfl, hc, ha, hn, hk, hl, h⟩ := h
    rcases h with ⟨rfl, nf, h⟩ | ⟨rfl, hf, rfl, h⟩
    · cases z
    · exact h
  | .scr ns, v, fp, _, h => by
    unfold Rep at h
    obtain ⟨a, rfl, ha, h⟩ := h
    exact h
theorem nilL_of_frz : ∀ {xs : List PV} {vs : List V} {fp : List Addr}, frzL xs = true → RepL G F H xs vs fp → fp = []
  | [], vs, fp, _, h => by unfold RepL at h; exact h.2
  | x :: xs, vs, fp, z, h => by
    unfold RepL at h; unfold frzL at z
    obtain ⟨v, vr, f1, f2, rfl, rfl, h1, h2⟩ := h
    obtain ⟨z1, z2⟩ := Bool.and_eq_true_iff.mp z
    rw [nil_of_frz z1 h1, nilL_of_frz z2 h2]; rfl
end
mutual
theorem frz_fz_of : ∀ {x : PV}, x.frz = true → x.fz = x
  | .non, _ => rfl
  | .bl b, _ => rfl
  | .int i, _ => rfl
  | .str s, _ => rfl
  | .lst true xs, z => by unfold PV.frz at z; cases z
  | .lst false xs, _ => by unfold PV.fz; rfl
  | .tup xs, z => by unfold PV.frz at z; unfold PV.fz; rw [frzL_fzL_of z]
  | .dic true ks xs, z => by unfold PV.frz at z; cases z
  | .dic false ks xs, _ => by unfold PV.fz; rfl
  | .obj true C as xs, z => by unfold PV.frz at z; cases z
  | .obj false C as xs, _ => by unfold PV.fz; rfl
  | .scr ns, _ => rfl
theorem frzL_fzL_of : ∀ {xs : List PV}, frzL xs = true → fzL xs = xs
  | [], _ => rfl
  | x :: xs, z => by
    unfold frzL at z; unfold fzL
    obtain ⟨z1, z2⟩ := Bool.and_eq_true_iff.mp z
    rw [frz_fz_of z1, frzL_fzL_of z2]
end

theorem RepL.length : ∀ {xs : List PV} {vs : List V} {fp : List Addr}, RepL G F H xs vs fp → xs.length = vs.length
  | [], vs, fp, h => by unfold RepL at h; rw [h.1]; rfl
  | x :: xs, vs, fp, h => by
    unfold RepL at h
    obtain ⟨v, vr, f1, f2, rfl, rfl, h1, h2⟩ := h
    simp [RepL.length h2]

/-! ### roots -/
theorem RepT.append : ∀ {R S : List (PV × V)} {fp : List Addr}, RepT G F H (R ++ S) fp ↔ ∃ f1 f2, fp = f1 ++ f2 ∧ RepT G F H R f1 ∧ RepT G F H S f2
  | [], S, fp => by
    simp only [List.nil_append, RepT]
    constructor
    · intro h; exact ⟨[], fp, rfl, rfl, h⟩
    · rintro ⟨f1, f2, rfl, rfl, h⟩; exact h
  | r :: R, S, fp => by
    simp only [List.cons_append, RepT]
    constructor
    · rintro ⟨f1, f2, rfl, h1, h2⟩
      obtain ⟨g1, g2, rfl, k1, k2⟩ := (RepT.append (S := S)).mp h2
      exact ⟨f1 ++ g1, g2, by rw [List.append_assoc], ⟨f1, g1, rfl, h1, k1⟩, k2⟩
    · rintro ⟨f1, f2, rfl, ⟨g1, g2, rfl, h1, h2⟩, k⟩
      exact ⟨g1, g2 ++ f2, by rw [List.append_assoc], h1, (RepT.append (S := S)).mpr ⟨g2, f2, rfl, h2, k⟩⟩
theorem RepT.perm {R S : List (PV × V)} (p : R.Perm S) : ∀ {fp : List Addr}, RepT G F H R fp → ∃ fq, RepT G F H S fq ∧ fp.Perm fq := by
  induction p with
  | nil => exact fun h => ⟨_, h, .refl _⟩
  | cons r p ih =>
    rintro fp h
    simp only [RepT] at h
    obtain ⟨f1, f2, rfl, h1, h2⟩ := h
    obtain ⟨fq, h3, q⟩ := ih h2
    exact ⟨f1 ++ fq, by simp only [RepT]; exact ⟨f1, fq, rfl, h1, h3⟩, q.append_left _⟩
  | swap r s l =>
    rintro fp h
    simp only [RepT] at h
    obtain ⟨f1, f2, rfl, h1, f3, f4, rfl, h2, h3⟩ := h
    refine ⟨f3 ++ (f1 ++ f4), by simp only [RepT]; exact ⟨f3, _, rfl, h2, f1, f4, rfl, h1, h3⟩, ?_⟩
    rw [← List.append_assoc, ← List.append_assoc]
    exact (List.perm_append_comm).append_right _
  | trans _ _ ih1 ih2 =>
    intro fp h
    obtain ⟨f1, h1, p1⟩ := ih1 h
    obtain ⟨f2, h2, p2⟩ := ih2 h1
    exact ⟨f2, h2, p1.trans p2⟩
theorem RepL.zip : ∀ {xs : List PV} {vs : List V} {fp : List Addr}, RepL G F H xs vs fp ↔ xs.length = vs.length ∧ RepT G F H (xs.zip vs) fp
  | [], [], fp => by simp [RepL, RepT]
  | [], v :: vs, fp => by simp [RepL]
  | x :: xs, [], fp => by simp [RepL]
  | x :: xs, v :: vs, fp => by
    simp only [RepL, RepT, List.zip_cons_cons, List.length_cons]
    constructor
    · rintro ⟨v', vr, f1, f2, e, rfl, h1, h2⟩
      cases e
      obtain ⟨l, t⟩ := RepL.zip.mp h2
      exact ⟨by rw [l], f1, f2, rfl, h1, t⟩
    · rintro ⟨l, f1, f2, rfl, h1, h2⟩
      exact ⟨v, vs, f1, f2, rfl, rfl, h1, RepL.zip.mpr ⟨by omega, h2⟩⟩
end

theorem Stp.refl {F : Addr → Prop} {H : Hp} {fp : List Addr} : Stp F H fp F H fp := ⟨fun _ _ h _ => h, fun _ h => h, fun _ h => h, fun _ h => .inl h, fun _ h => .inl h⟩
theorem Stp.trans {F F1 F2 : Addr → Prop} {H H1 H2 : Hp} {fp f1 f2 : List Addr} (a : Stp F H fp F1 H1 f1) (b : Stp F1 H1 f1 F2 H2 f2) : Stp F H fp F2 H2 f2 := by
  refine ⟨fun x o h n => b.keep x o (a.keep x o h n) fun z => ?_, fun x h => b.alive x (a.alive x h), fun x h => b.fm x (a.fm x h), fun x h => ?_, fun x h => ?_⟩
  · rcases a.pn x z with z | z
    · exact n z
    · rw [h] at z; cases z
  · rcases b.fn x h with z | z | z
    · exact a.fn x z
    · rcases a.pn x z with z | z
      · exact .inr (.inl z)
      · exact .inr (.inr z)
    · refine .inr (.inr (Classical.byContradiction fun n => a.alive x n z))
  · rcases b.pn x h with z | z
    · exact a.pn x z
    · refine .inr (Classical.byContradiction fun n => a.alive x n z)

/-- a def's entry -/
structure Bas where
  F : Addr → Prop
  H : Hp
  fp : List Addr
/-- the roots stand in the heap, apart from each other; X: what is owned and stands open; what has become of the entry's -/
structure Good (G : Txt) (B : Bas) (H : Hp) (F : Addr → Prop) (X : List Addr) (R : List (PV × V)) : Prop where
  ex : ∃ fp, RepT G F H R fp ∧ (X ++ fp).Nodup ∧ Stp B.F B.H B.fp F H (X ++ fp)
  hx : ∀ a ∈ X, ¬ F a ∧ H a ≠ none
  tr : ∀ a, F a → H a ≠ none

section
variable {G : Txt} {B : Bas} {F F' : Addr → Prop} {H H' : Hp} {R S : List (PV × V)} {x : PV} {v : V} {X : List Addr}
theorem Stp.less {F F1 : Addr → Prop} {H H1 : Hp} {fp f1 f2 : List Addr} (a : Stp F H fp F1 H1 f1) (h : ∀ b ∈ f2, b ∈ f1) : Stp F H fp F1 H1 f2 := ⟨a.keep, a.alive, a.fm, a.fn, fun x z => a.pn x (h x z)⟩
theorem Good.perm (g : Good G B H F X R) (p : R.Perm S) : Good G B H F X S := by
  obtain ⟨fp, h, nd, st⟩ := g.ex
  obtain ⟨fq, h', q⟩ := h.perm p
  have q' : (X ++ fp).Perm (X ++ fq) := q.append_left _
  exact ⟨⟨fq, h', (q'.nodup_iff).mp nd, st.less fun b hb => q'.mem_iff.mpr hb⟩, g.hx, g.tr⟩
theorem nodup_mid {A B C : List Addr} (h : (A ++ (B ++ C)).Nodup) : (A ++ C).Nodup := h.sublist (List.Sublist.append (List.Sublist.refl _) (List.sublist_append_right _ _))
theorem mem_mid {A B C : List Addr} {a : Addr} (h : a ∈ A ++ C) : a ∈ A ++ (B ++ C) := by
  rcases List.mem_append.mp h with h | h
  · exact List.mem_append_left _ h
  · exact List.mem_append_right _ (List.mem_append_right _ h)
theorem Good.drop (g : Good G B H F X ((x, v) :: R)) : Good G B H F X R := by
  obtain ⟨fp, h, nd, st⟩ := g.ex
  simp only [RepT] at h
  obtain ⟨f1, f2, rfl, _, h2⟩ := h
  exact ⟨⟨f2, h2, nodup_mid nd, st.less fun b hb => mem_mid hb⟩, g.hx, g.tr⟩
theorem Good.dropL (g : Good G B H F X (S ++ R)) : Good G B H F X R := by
  induction S with
  | nil => exact g
  | cons s S ih => exact ih (Good.drop (x := s.1) (v := s.2) g)
/-- a value that owns nothing, in view of what is frozen -/
theorem Good.push (g : Good G B H F X R) (h : Rep G F H x v []) : Good G B H F X ((x, v) :: R) := by
  obtain ⟨fp, h', nd, st⟩ := g.ex
  exact ⟨⟨fp, by simp only [RepT]; exact ⟨[], fp, rfl, h, h'⟩, nd, st⟩, g.hx, g.tr⟩
theorem Good.rep (g : Good G B H F X ((x, v) :: R)) : ∃ fp, Rep G F H x v fp := by
  obtain ⟨fp, h, _⟩ := g.ex
  simp only [RepT] at h
  obtain ⟨f1, _, _, h1, _⟩ := h
  exact ⟨f1, h1⟩
theorem Good.repF (g : Good G B H F X ((x, v) :: R)) (z : x.frz = true) : Rep G F H x v [] := by
  obtain ⟨fp, h⟩ := g.rep
  have e := nil_of_frz z h
  subst e
  exact h
/-- the first root is given up -/
theorem Good.fz (g : Good G B H F X ((x, v) :: R)) : ∃ F', Good G B H F' X ((x.fz, v) :: R) ∧ ∀ a, F a → F' a := by
  obtain ⟨fp, h, nd, st⟩ := g.ex
  simp only [RepT] at h
  obtain ⟨f1, f2, rfl, h1, h2⟩ := h
  have i1 := h1.in_
  have i2 := h2.in_
  have m : ∀ a, F a → F a ∨ a ∈ f1 := fun a h => .inl h
  have dX : ∀ a ∈ X, a ∉ f1 := fun a ha z => (List.nodup_append.mp nd).2.2 a ha a (List.mem_append_left _ z) rfl
  have d2 : ∀ a ∈ f1, a ∉ f2 := fun a ha z => (List.nodup_append.mp (List.nodup_append.mp nd).2.1).2.2 a ha a z rfl
  refine ⟨fun a => F a ∨ a ∈ f1, ⟨⟨f2, ?_, nodup_mid nd, ?_⟩, fun a ha => ⟨fun z => ?_, (g.hx a ha).2⟩, fun a h => ?_⟩, m⟩
  · simp only [RepT]
    refine ⟨[], f2, rfl, h1.fz m fun a ha => .inr ha, h2.stay (fun _ _ _ h => h) m (fun _ _ _ h => h) fun a ha z => ?_⟩
    rcases z with z | z
    · exact (i2 a ha).1 z
    · exact d2 a z ha
  · refine ⟨st.keep, st.alive, fun a h => .inl (st.fm a h), fun a h => ?_, fun a h => st.pn a (mem_mid h)⟩
    rcases h with h | h
    · exact st.fn a h
    · exact .inr (st.pn a (List.mem_append_right _ (List.mem_append_left _ h)))
  · rcases z with z | z
    · exact (g.hx a ha).1 z
    · exact dX a ha z
  · rcases h with h | h
    · exact g.tr a h
    · exact (i1 a h).2
/-- a frozen root a second time -/
theorem Good.dup (g : Good G B H F X ((x, v) :: R)) (z : x.frz = true) : Good G B H F X ((x, v) :: (x, v) :: R) := g.push (g.repF z)
theorem Ext.alive {H H' : Hp} (e : Ext H H') : ∀ a, H a ≠ none → H' a ≠ none := fun a n z => by
  cases q : H a with
  | none => exact n q
  | some o => rw [e a o q] at z; cases z
/-- the heap is more -/
theorem Good.ext (g : Good G B H F X R) (e : Ext H H') : Good G B H' F X R := by
  obtain ⟨fp, h, nd, st⟩ := g.ex
  refine ⟨⟨fp, h.stay (fun a o _ => e a o) (fun _ h => h) (fun a _ o => e a o) (fun a ha => (h.in_ a ha).1), nd, ?_⟩, fun a h => ⟨(g.hx a h).1, e.alive a (g.hx a h).2⟩, fun a h => e.alive a (g.tr a h)⟩
  exact st.trans ⟨fun a o h _ => e a o h, e.alive, fun _ h => h, fun _ h => .inl h, fun _ h => .inl h⟩
/-- a new object of the first roots: owned, or frozen -/
theorem Good.alloc {xs : List PV} {vs : List V} {p : Addr} {o : HO} {y : PV} (own : Bool) (hl : xs.length = vs.length) (g : Good G B H F X (xs.zip vs ++ R)) (hp : H p = none)
    (mk : ∀ F' fl, (own = true → ¬ F' p) → (own = false → F' p) → RepL G F' (upd H p o) xs vs fl → Rep G F' (upd H p o) y (.ref p) (if own then p :: fl else fl)) :
    ∃ F', Good G B (upd H p o) F' X ((y, .ref p) :: R) ∧ ∀ a, F a → F' a := by
  obtain ⟨fp, h, nd, st⟩ := g.ex
  have e : Ext H (upd H p o) := Ext.new hp
  obtain ⟨f1, f2, rfl, h1, h2⟩ := RepT.append.mp h
  have i1 := h1.in_
  have i2 := h2.in_
  have ne : ∀ a, H a ≠ none → a ≠ p := fun a n z => n (by rw [z]; exact hp)
  cases own with
  | true =>
    have nF : ¬ F p := fun z => g.tr p z hp
    have k1 : RepT G F (upd H p o) (xs.zip vs) f1 := h1.stay (fun a o _ => e a o) (fun _ h => h) (fun a _ o => e a o) (fun a ha => (i1 a ha).1)
    have k2 : RepT G F (upd H p o) R f2 := h2.stay (fun a o _ => e a o) (fun _ h => h) (fun a _ o => e a o) (fun a ha => (i2 a ha).1)
    refine ⟨F, ⟨⟨p :: f1 ++ f2, ?_, ?_, ?_⟩, fun a h => ⟨(g.hx a h).1, e.alive a (g.hx a h).2⟩, fun a h => e.alive a (g.tr a h)⟩, fun _ h => h⟩
    · simp only [RepT]
      exact ⟨p :: f1, f2, rfl, mk F f1 (fun _ => nF) (fun z => nomatch z) (RepL.zip.mpr ⟨hl, k1⟩), k2⟩
    · have np : p ∉ X ++ (f1 ++ f2) := fun z => by
        rcases List.mem_append.mp z with z | z
        · exact ne p (g.hx p z).2 rfl
        · rcases List.mem_append.mp z with z | z
          · exact ne p (i1 p z).2 rfl
          · exact ne p (i2 p z).2 rfl
      have := List.nodup_cons.mpr ⟨np, nd⟩
      exact (List.perm_middle (l₁ := X)).nodup_iff.mpr this
    · refine st.trans ⟨fun a o h _ => e a o h, e.alive, fun _ h => h, fun _ h => .inl h, fun a h => ?_⟩
      rcases List.mem_append.mp h with h | h
      · exact .inl (List.mem_append_left _ h)
      · rcases List.mem_cons.mp h with h | h
        · exact .inr (by rw [h]; exact hp)
        · exact .inl (List.mem_append_right _ h)
  | false =>
    have m : ∀ a, F a → F a ∨ a = p := fun a h => .inl h
    have nm : ∀ a, H a ≠ none → ¬ F a → ¬ (F a ∨ a = p) := fun a n z q => q.elim z (ne a n)
    have k1 : RepT G (fun a => F a ∨ a = p) (upd H p o) (xs.zip vs) f1 := h1.stay (fun a o _ => e a o) m (fun a _ o => e a o) (fun a ha => nm a (i1 a ha).2 (i1 a ha).1)
    have k2 : RepT G (fun a => F a ∨ a = p) (upd H p o) R f2 := h2.stay (fun a o _ => e a o) m (fun a _ o => e a o) (fun a ha => nm a (i2 a ha).2 (i2 a ha).1)
    refine ⟨fun a => F a ∨ a = p, ⟨⟨f1 ++ f2, ?_, nd, ?_⟩, fun a h => ⟨nm a (g.hx a h).2 (g.hx a h).1, e.alive a (g.hx a h).2⟩, fun a h => ?_⟩, m⟩
    · simp only [RepT]
      exact ⟨f1, f2, rfl, mk _ f1 (fun z => nomatch z) (fun _ => .inr rfl) (RepL.zip.mpr ⟨hl, k1⟩), k2⟩
    · refine st.trans ⟨fun a o h _ => e a o h, e.alive, m, fun a h => ?_, fun _ h => .inl h⟩
      rcases h with h | h
      · exact .inl h
      · exact .inr (.inr (by rw [h]; exact hp))
    · rcases h with h | h
      · exact e.alive a (g.tr a h)
      · rw [h, upd_same]; simp
theorem Good.newTup {xs : List PV} {vs : List V} {p : Addr} (hl : xs.length = vs.length) (g : Good G B H F X (xs.zip vs ++ R)) (hp : H p = none) : ∃ F', Good G B (upd H p (.tup vs)) F' X ((.tup xs, .ref p) :: R) ∧ ∀ a, F a → F' a :=
  g.alloc false hl hp fun F' fl _ hF h => by
    unfold Rep
    exact ⟨p, vs, rfl, .inl ⟨upd_same, hF rfl⟩, h⟩
theorem Good.newLst {xs : List PV} {vs : List V} {p : Addr} (hl : xs.length = vs.length) (g : Good G B H F X (xs.zip vs ++ R)) (hp : H p = none) : ∃ F', Good G B (upd H p (.lst vs)) F' X ((.lst true xs, .ref p) :: R) ∧ ∀ a, F a → F' a :=
  g.alloc true hl hp fun F' fl hF _ h => by
    unfold Rep
    exact ⟨p, vs, fl, rfl, upd_same, h, .inl ⟨rfl, hF rfl, rfl⟩⟩
theorem Good.newDic {p : Addr} (g : Good G B H F X R) (hp : H p = none) : ∃ F', Good G B (upd H p (.dK [])) F' X ((.dic true [] [], .ref p) :: R) ∧ ∀ a, F a → F' a :=
  Good.alloc (xs := []) (vs := []) true rfl (by exact g) hp fun F' fl hF _ h => by
    unfold Rep
    exact ⟨p, [], fl, rfl, upd_same, rfl, h, .inl ⟨rfl, hF rfl, rfl⟩⟩

/-! ### opened and closed -/
theorem Good.openL {xs : List PV} (g : Good G B H F X ((.lst true xs, v) :: R)) : ∃ a vs, v = .ref a ∧ H a = some (.lst vs) ∧ xs.length = vs.length ∧ Good G B H F (a :: X) (xs.zip vs ++ R) := by
  obtain ⟨fp, h, nd, st⟩ := g.ex
  simp only [RepT] at h
  obtain ⟨f1, f2, rfl, h1, h2⟩ := h
  have i1 := h1.in_
  unfold Rep at h1
  obtain ⟨a, vs, fl, rfl, ha, hl, h⟩ := h1
  rcases h with ⟨_, nf, rfl⟩ | ⟨z, _⟩
  · have pm : (X ++ (a :: fl ++ f2)).Perm (a :: X ++ (fl ++ f2)) := List.perm_middle
    obtain ⟨len, hz⟩ := RepL.zip.mp hl
    refine ⟨a, vs, rfl, ha, len, ⟨fl ++ f2, RepT.append.mpr ⟨fl, f2, rfl, hz, h2⟩, pm.nodup_iff.mp nd, st.less fun b hb => pm.mem_iff.mpr hb⟩, fun b hb => ?_, g.tr⟩
    rcases List.mem_cons.mp hb with rfl | hb
    · exact i1 _ List.mem_cons_self
    · exact g.hx b hb
  · cases z
theorem Good.openD {ks : List L2.Key} {xs : List PV} (g : Good G B H F X ((.dic true ks xs, v) :: R)) : ∃ a vs, v = .ref a ∧ H a = some (.dK (ks.zip vs)) ∧ ks.length = xs.length ∧ xs.length = vs.length ∧ Good G B H F (a :: X) (xs.zip vs ++ R) := by
  obtain ⟨fp, h, nd, st⟩ := g.ex
  simp only [RepT] at h
  obtain ⟨f1, f2, rfl, h1, h2⟩ := h
  have i1 := h1.in_
  unfold Rep at h1
  obtain ⟨a, vs, fl, rfl, ha, hk, hl, h⟩ := h1
  rcases h with ⟨_, nf, rfl⟩ | ⟨z, _⟩
  · have pm : (X ++ (a :: fl ++ f2)).Perm (a :: X ++ (fl ++ f2)) := List.perm_middle
    obtain ⟨len, hz⟩ := RepL.zip.mp hl
    refine ⟨a, vs, rfl, ha, hk, len, ⟨fl ++ f2, RepT.append.mpr ⟨fl, f2, rfl, hz, h2⟩, pm.nodup_iff.mp nd, st.less fun b hb => pm.mem_iff.mpr hb⟩, fun b hb => ?_, g.tr⟩
    rcases List.mem_cons.mp hb with rfl | hb
    · exact i1 _ List.mem_cons_self
    · exact g.hx b hb
  · cases z
theorem Good.openO {C : Nat} {as : List Nat} {xs : List PV} (g : Good G B H F X ((.obj true C as xs, v) :: R)) :
    ∃ a Ca dx ns vs, v = .ref a ∧ G.cls C = some Ca ∧ H a = some (.ins Ca dx (ns.zip vs)) ∧ attL G Ca as ns ∧ as.length = xs.length ∧ xs.length = vs.length ∧ Good G B H F (a :: X) (xs.zip vs ++ R) := by
  obtain ⟨fp, h, nd, st⟩ := g.ex
  simp only [RepT] at h
  obtain ⟨f1, f2, rfl, h1, h2⟩ := h
  have i1 := h1.in_
  unfold Rep at h1
  obtain ⟨a, Ca, dx, ns, vs, fl, rfl, hc, ha, hn, hk, hl, h⟩ := h1
  rcases h with ⟨_, nf, rfl⟩ | ⟨z, _⟩
  · have pm : (X ++ (a :: fl ++ f2)).Perm (a :: X ++ (fl ++ f2)) := List.perm_middle
    obtain ⟨len, hz⟩ := RepL.zip.mp hl
    refine ⟨a, Ca, dx, ns, vs, rfl, hc, ha, hn, hk, len, ⟨fl ++ f2, RepT.append.mpr ⟨fl, f2, rfl, hz, h2⟩, pm.nodup_iff.mp nd, st.less fun b hb => pm.mem_iff.mpr hb⟩, fun b hb => ?_, g.tr⟩
    rcases List.mem_cons.mp hb with rfl | hb
    · exact i1 _ List.mem_cons_self
    · exact g.hx b hb
  · cases z
/-- what stands open is written anew -/
theorem Good.close {a : Addr} {xs : List PV} {vs : List V} {y : PV} {o : HO} (hl : xs.length = vs.length) (g : Good G B H F (a :: X) (xs.zip vs ++ R))
    (mk : ∀ fl, ¬ F a → RepL G F (upd H a o) xs vs fl → Rep G F (upd H a o) y (.ref a) (a :: fl)) : Good G B (upd H a o) F X ((y, .ref a) :: R) := by
  obtain ⟨fp, h, nd, st⟩ := g.ex
  obtain ⟨f1, f2, rfl, h1, h2⟩ := RepT.append.mp h
  have i1 := h1.in_
  have i2 := h2.in_
  obtain ⟨na, aa⟩ := g.hx a List.mem_cons_self
  have nd' : a ∉ X ++ (f1 ++ f2) := (List.nodup_cons.mp nd).1
  have n1 : ∀ b ∈ f1, b ≠ a := fun b hb z => nd' (by rw [← z]; exact List.mem_append_right _ (List.mem_append_left _ hb))
  have n2 : ∀ b ∈ f2, b ≠ a := fun b hb z => nd' (by rw [← z]; exact List.mem_append_right _ (List.mem_append_right _ hb))
  have nx : ∀ b ∈ X, b ≠ a := fun b hb z => nd' (by rw [← z]; exact List.mem_append_left _ hb)
  have w : ∀ b u, b ≠ a → H b = some u → upd H a o b = some u := fun b u n e => by rw [upd_ne n]; exact e
  have nFa : ∀ b, F b → b ≠ a := fun b hb z => na (by rw [← z]; exact hb)
  have al : ∀ b, H b ≠ none → upd H a o b ≠ none := fun b n => by
    by_cases z : b = a
    · rw [z, upd_same]; simp
    · rw [upd_ne z]; exact n
  have k1 : RepT G F (upd H a o) (xs.zip vs) f1 := h1.stay (fun b u hb => w b u (nFa b hb)) (fun _ h => h) (fun b hb u => w b u (n1 b hb)) (fun b hb => (i1 b hb).1)
  have k2 : RepT G F (upd H a o) R f2 := h2.stay (fun b u hb => w b u (nFa b hb)) (fun _ h => h) (fun b hb u => w b u (n2 b hb)) (fun b hb => (i2 b hb).1)
  have pm : (X ++ (a :: f1 ++ f2)).Perm (a :: X ++ (f1 ++ f2)) := List.perm_middle
  refine ⟨⟨a :: f1 ++ f2, ?_, pm.nodup_iff.mpr nd, ?_⟩, fun b hb => ⟨(g.hx b (List.mem_cons_of_mem _ hb)).1, al b (g.hx b (List.mem_cons_of_mem _ hb)).2⟩, fun b hb => al b (g.tr b hb)⟩
  · simp only [RepT]
    exact ⟨a :: f1, f2, rfl, mk f1 na (RepL.zip.mpr ⟨hl, k1⟩), k2⟩
  · refine st.trans ⟨fun b u e n => w b u (fun z => n (by rw [z]; exact List.mem_cons_self)) e, al, fun _ h => h, fun _ h => .inl h, fun b hb => .inl (pm.mem_iff.mp hb)⟩
theorem Good.closeL {a : Addr} {xs : List PV} {vs : List V} (hl : xs.length = vs.length) (g : Good G B H F (a :: X) (xs.zip vs ++ R)) : Good G B (upd H a (.lst vs)) F X ((.lst true xs, .ref a) :: R) :=
  g.close hl fun fl nf h => by
    unfold Rep
    exact ⟨a, vs, fl, rfl, upd_same, h, .inl ⟨rfl, nf, rfl⟩⟩
theorem Good.closeD {a : Addr} {ks : List L2.Key} {xs : List PV} {vs : List V} (hk : ks.length = xs.length) (hl : xs.length = vs.length) (g : Good G B H F (a :: X) (xs.zip vs ++ R)) : Good G B (upd H a (.dK (ks.zip vs))) F X ((.dic true ks xs, .ref a) :: R) :=
  g.close hl fun fl nf h => by
    unfold Rep
    exact ⟨a, vs, fl, rfl, upd_same, hk, h, .inl ⟨rfl, nf, rfl⟩⟩
theorem Good.closeO {a Ca dx : Addr} {C : Nat} {as : List Nat} {ns : List Str} {xs : List PV} {vs : List V} (hc : G.cls C = some Ca) (hn : attL G Ca as ns) (hk : as.length = xs.length) (hl : xs.length = vs.length) (g : Good G B H F (a :: X) (xs.zip vs ++ R)) :
    Good G B (upd H a (.ins Ca dx (ns.zip vs))) F X ((.obj true C as xs, .ref a) :: R) :=
  g.close hl fun fl nf h => by
    unfold Rep
    exact ⟨a, Ca, dx, ns, vs, fl, rfl, hc, upd_same, hn, hk, h, .inl ⟨rfl, nf, rfl⟩⟩
/-- .. as it was -/
theorem Good.shut {a : Addr} {xs : List PV} {vs : List V} {y : PV} (hl : xs.length = vs.length) (g : Good G B H F (a :: X) (xs.zip vs ++ R))
    (mk : ∀ fl, ¬ F a → RepL G F H xs vs fl → Rep G F H y (.ref a) (a :: fl)) : Good G B H F X ((y, .ref a) :: R) := by
  obtain ⟨fp, h, nd, st⟩ := g.ex
  obtain ⟨f1, f2, rfl, h1, h2⟩ := RepT.append.mp h
  obtain ⟨na, aa⟩ := g.hx a List.mem_cons_self
  have pm : (X ++ (a :: f1 ++ f2)).Perm (a :: X ++ (f1 ++ f2)) := List.perm_middle
  refine ⟨⟨a :: f1 ++ f2, ?_, pm.nodup_iff.mpr nd, st.less fun b hb => pm.mem_iff.mp hb⟩, fun b hb => g.hx b (List.mem_cons_of_mem _ hb), g.tr⟩
  simp only [RepT]
  exact ⟨a :: f1, f2, rfl, mk f1 na (RepL.zip.mpr ⟨hl, h1⟩), h2⟩
/-- a tuple's items, as roots -/
theorem Good.openT {xs : List PV} (g : Good G B H F X ((.tup xs, v) :: R)) : ∃ a vs, v = .ref a ∧ SqT G.K H a vs ∧ xs.length = vs.length ∧ Good G B H F X (xs.zip vs ++ R) := by
  obtain ⟨fp, h, nd, st⟩ := g.ex
  simp only [RepT] at h
  obtain ⟨f1, f2, rfl, h1, h2⟩ := h
  unfold Rep at h1
  obtain ⟨a, vs, rfl, ha, hl⟩ := h1
  obtain ⟨len, hz⟩ := RepL.zip.mp hl
  refine ⟨a, vs, rfl, ?_, len, ⟨f1 ++ f2, RepT.append.mpr ⟨f1, f2, rfl, hz, h2⟩, nd, st⟩, g.hx, g.tr⟩
  rcases ha with ⟨ha, _⟩ | ha
  · exact .inl (.inl ha)
  · exact .inr ha
/-- a frozen or owned list's items -/
theorem Good.itemsL {o : Bool} {xs : List PV} (g : Good G B H F X ((.lst o xs, v) :: R)) : ∃ a vs, v = .ref a ∧ H a = some (.lst vs) ∧ xs.length = vs.length ∧ Good G B H F X (xs.zip vs ++ R) := by
  cases o with
  | true =>
    obtain ⟨a, vs, e1, e2, e3, g'⟩ := g.openL
    obtain ⟨fp, h, nd, st⟩ := g'.ex
    exact ⟨a, vs, e1, e2, e3, ⟨fp, h, (List.nodup_cons.mp nd).2, st.less fun b hb => List.mem_cons_of_mem _ hb⟩, fun b hb => g'.hx b (List.mem_cons_of_mem _ hb), g'.tr⟩
  | false =>
    obtain ⟨fp, h, nd, st⟩ := g.ex
    simp only [RepT] at h
    obtain ⟨f1, f2, rfl, h1, h2⟩ := h
    unfold Rep at h1
    obtain ⟨a, vs, fl, rfl, ha, hl, h⟩ := h1
    rcases h with ⟨z, _⟩ | ⟨_, _, rfl, rfl⟩
    · cases z
    · obtain ⟨len, hz⟩ := RepL.zip.mp hl
      exact ⟨a, vs, rfl, ha, len, ⟨f2, RepT.append.mpr ⟨[], f2, rfl, hz, h2⟩, nd, st⟩, g.hx, g.tr⟩

/-! ### a call -/
theorem Good.call {A : List (PV × V)} (g : Good G B H F X (A ++ R)) : ∃ fA, Good G ⟨F, H, fA⟩ H F [] A ∧ ∀ H' F' O, Good G ⟨F, H, fA⟩ H' F' [] O → Good G B H' F' X (O ++ R) := by
  obtain ⟨fp, h, nd, st⟩ := g.ex
  obtain ⟨fA, fR, rfl, h1, h2⟩ := RepT.append.mp h
  have i1 := h1.in_
  have i2 := h2.in_
  have ndA : fA.Nodup := (List.nodup_append.mp (List.nodup_append.mp nd).2.1).1
  refine ⟨fA, ⟨⟨fA, h1, by simpa using ndA, .refl⟩, fun _ h => (nomatch h), g.tr⟩, fun H' F' O gO => ?_⟩
  obtain ⟨fO, hO, ndO, sO⟩ := gO.ex
  simp only [List.nil_append] at ndO sO
  have dR : ∀ a ∈ fR, a ∉ fA := fun a ha z => (List.nodup_append.mp (List.nodup_append.mp nd).2.1).2.2 a z a ha rfl
  have dX : ∀ a ∈ X, a ∉ fA := fun a ha z => (List.nodup_append.mp nd).2.2 a ha a (List.mem_append_left _ z) rfl
  have nF' : ∀ a, ¬ F a → a ∉ fA → H a ≠ none → ¬ F' a := fun a n1 n2 n3 z => by
    rcases sO.fn a z with q | q | q
    · exact n1 q
    · exact n2 q
    · exact n3 q
  have nO : ∀ a, a ∉ fA → H a ≠ none → a ∉ fO := fun a n2 n3 z => by
    rcases sO.pn a z with q | q
    · exact n2 q
    · exact n3 q
  have k2 : RepT G F' H' R fR := h2.stay (fun a o hf e => sO.keep a o e fun z => (i1 a z).1 hf) sO.fm (fun a ha o e => sO.keep a o e (dR a ha)) (fun a ha => nF' a (i2 a ha).1 (dR a ha) (i2 a ha).2)
  refine ⟨⟨fO ++ fR, RepT.append.mpr ⟨fO, fR, rfl, hO, k2⟩, ?_, ?_⟩, fun a ha => ⟨nF' a (g.hx a ha).1 (dX a ha) (g.hx a ha).2, sO.alive a (g.hx a ha).2⟩, gO.tr⟩
  · have e : (X ++ (fA ++ fR)).Perm (fA ++ (X ++ fR)) := by
      rw [← List.append_assoc, ← List.append_assoc]
      exact List.perm_append_comm.append_right _
    have e' : (X ++ (fO ++ fR)).Perm (fO ++ (X ++ fR)) := by
      rw [← List.append_assoc, ← List.append_assoc]
      exact List.perm_append_comm.append_right _
    refine e'.nodup_iff.mpr (List.nodup_append.mpr ⟨ndO, (List.nodup_append.mp (e.nodup_iff.mp nd)).2.1, fun a ha b hb z => ?_⟩)
    subst z
    rcases List.mem_append.mp hb with hb | hb
    · exact nO a (dX a hb) (g.hx a hb).2 ha
    · exact nO a (dR a hb) (i2 a hb).2 ha
  · refine st.trans ⟨fun a o e n => sO.keep a o e fun z => n (List.mem_append_right _ (List.mem_append_left _ z)), sO.alive, sO.fm, fun a z => ?_, fun a z => ?_⟩
    · rcases sO.fn a z with q | q | q
      · exact .inl q
      · exact .inr (.inl (List.mem_append_right _ (List.mem_append_left _ q)))
      · exact .inr (.inr q)
    · rcases List.mem_append.mp z with z | z
      · exact .inl (List.mem_append_left _ z)
      · rcases List.mem_append.mp z with z | z
        · rcases sO.pn a z with q | q
          · exact .inl (List.mem_append_right _ (List.mem_append_left _ q))
          · exact .inr q
        · exact .inl (List.mem_append_right _ (List.mem_append_right _ z))
end

/-! ### the names -/
def rE : Env → L2.St → List (PV × V)
  | some x :: env, some v :: σ => (x, v) :: rE env σ
  | _ :: env, _ :: σ => rE env σ
  | _, _ => []
def WE : Env → L2.St → Prop
  | [], [] => True
  | none :: env, _ :: σ => WE env σ
  | some _ :: env, some _ :: σ => WE env σ
  | _, _ => False
theorem WE.length : ∀ {env : Env} {σ : L2.St}, WE env σ → env.length = σ.length
  | [], [], _ => rfl
  | none :: env, _ :: σ, h => by simp [WE.length (show WE env σ from by simpa [WE] using h)]
  | some _ :: env, some _ :: σ, h => by simp [WE.length (show WE env σ from by simpa [WE] using h)]
  | [], _ :: _, h => by simp [WE] at h
  | some _ :: _, none :: _, h => by simp [WE] at h
  | none :: _, [], h => by simp [WE] at h
  | some _ :: _, [], h => by simp [WE] at h
/-- slot i, held apart -/
theorem rE_split : ∀ {env : Env} {σ : L2.St} {i : Nat}, WE env σ → i < env.length → ∃ A C, (rE (env.set i none) σ = A ++ C ∧ WE (env.set i none) σ) ∧
    (∀ x v, env[i]? = some (some x) → σ[i]? = some (some v) → rE env σ = A ++ (x, v) :: C) ∧
    (∀ x v, σ[i]? = some (some v) → rE (env.set i (some x)) σ = A ++ (x, v) :: C ∧ WE (env.set i (some x)) σ) ∧
    (∀ x v, rE (env.set i (some x)) (σ.set i (some v)) = A ++ (x, v) :: C ∧ WE (env.set i (some x)) (σ.set i (some v))) ∧
    (∀ x, env[i]? = some (some x) → ∃ v, σ[i]? = some (some v)) ∧ (env[i]? = some none → rE env σ = A ++ C)
  | [], _, i, _, hi => by simp at hi
  | o :: env, [], i, h, hi => by cases o <;> simp [WE] at h
  | o :: env, s :: σ, 0, h, hi => by
    have hw : WE env σ := by cases o <;> cases s <;> simpa [WE] using h
    refine ⟨[], rE env σ, ⟨by simp [rE], by simpa [WE] using hw⟩, fun x v e1 e2 => ?_, fun x v e => ?_, fun x v => ?_, fun x e => ?_, fun e => ?_⟩
    · simp at e1 e2; subst e1; subst e2; simp [rE]
    · simp at e; subst e; simp [rE, WE, hw]
    · simp [rE, WE, hw]
    · simp at e; subst e; cases s with
      | none => simp [WE] at h
      | some v => exact ⟨v, by simp⟩
    · simp at e; subst e; simp [rE]
  | o :: env, s :: σ, i + 1, h, hi => by
    have hw : WE env σ := by cases o <;> cases s <;> simpa [WE] using h
    obtain ⟨A, C, ⟨k1, k1'⟩, k2, k3, k4, k5, k6⟩ := rE_split (i := i) hw (by simpa using hi)
    cases o with
    | none =>
      refine ⟨A, C, ⟨by simpa [rE] using k1, by simpa [WE] using k1'⟩, fun x v e1 e2 => ?_, fun x v e => ?_, fun x v => ?_, fun x e => ?_, fun e => ?_⟩
      · simpa [rE] using k2 x v (by simpa using e1) (by simpa using e2)
      · simpa [rE, WE] using k3 x v (by simpa using e)
      · simpa [rE, WE] using k4 x v
      · simpa using k5 x (by simpa using e)
      · simpa [rE] using k6 (by simpa using e)
    | some y =>
      cases s with
      | none => simp [WE] at h
      | some u =>
        refine ⟨(y, u) :: A, C, ⟨by simpa [rE] using k1, by simpa [WE] using k1'⟩, fun x v e1 e2 => ?_, fun x v e => ?_, fun x v => ?_, fun x e => ?_, fun e => ?_⟩
        · simpa [rE] using k2 x v (by simpa using e1) (by simpa using e2)
        · simpa [rE, WE] using k3 x v (by simpa using e)
        · simpa [rE, WE] using k4 x v
        · simpa using k5 x (by simpa using e)
        · simpa [rE] using k6 (by simpa using e)

/-- the names' values and the values in hand T, in the heap; mv: the parameters that may be changed, as they came -/
structure GE (G : Txt) (B : Bas) (mv : List (Nat × V)) (σ : L2.St) (H : Hp) (F : Addr → Prop) (env : Env) (T : List (PV × V)) : Prop where
  good : Good G B H F [] (T ++ rE env σ)
  we : WE env σ
  pin : ∀ p ∈ mv, σ[p.1]? = some (some p.2)

section
variable {G : Txt} {B : Bas} {mv : List (Nat × V)} {σ : L2.St} {F F' : Addr → Prop} {H H' : Hp} {env : Env} {T U : List (PV × V)} {x y : PV} {v : V} {i : Nat}
theorem at_some (h : env.at i = some x) : env[i]? = some (some x) ∧ i < env.length := by
  unfold Env.at at h
  split at h
  · rename_i z e
    cases h
    exact ⟨e, (List.getElem?_eq_some_iff.mp e).1⟩
  · cases h
theorem GE.top (g : GE G B mv σ H F env (T ++ U)) (k : ∀ R, Good G B H F [] (T ++ R) → ∃ T', Good G B H' F' [] (T' ++ R)) : True := trivial
/-- the values in hand are turned into others -/
theorem GE.step (g : GE G B mv σ H F env T) (h : Good G B H' F' [] (U ++ rE env σ)) : GE G B mv σ H' F' env U := ⟨h, g.we, g.pin⟩
theorem GE.perm (g : GE G B mv σ H F env T) (p : T.Perm U) : GE G B mv σ H F env U := ⟨g.good.perm (p.append_right _), g.we, g.pin⟩
theorem GE.drop (g : GE G B mv σ H F env ((x, v) :: T)) : GE G B mv σ H F env T := ⟨Good.drop (x := x) (v := v) g.good, g.we, g.pin⟩
theorem GE.dropL (g : GE G B mv σ H F env (U ++ T)) : GE G B mv σ H F env T := ⟨Good.dropL (S := U) (by rw [← List.append_assoc]; exact g.good), g.we, g.pin⟩
theorem GE.push (g : GE G B mv σ H F env T) (h : Rep G F H x v []) : GE G B mv σ H F env ((x, v) :: T) := ⟨Good.push (x := x) (v := v) g.good h, g.we, g.pin⟩
theorem GE.fz (g : GE G B mv σ H F env ((x, v) :: T)) : ∃ F', GE G B mv σ H F' env ((x.fz, v) :: T) ∧ ∀ a, F a → F' a := by
  obtain ⟨F', h, m⟩ := Good.fz (x := x) (v := v) g.good
  exact ⟨F', ⟨h, g.we, g.pin⟩, m⟩
theorem GE.ext (g : GE G B mv σ H F env T) (e : Ext H H') : GE G B mv σ H' F env T := ⟨g.good.ext e, g.we, g.pin⟩
theorem perm_in {A C : List (PV × V)} {r : PV × V} : (T ++ (A ++ r :: C)).Perm (r :: T ++ (A ++ C)) := by
  rw [← List.append_assoc, List.cons_append, ← List.append_assoc]
  exact List.perm_middle
/-- a name's value taken in hand -/
theorem GE.take (g : GE G B mv σ H F env T) (h : env.at i = some x) : ∃ v, σ[i]? = some (some v) ∧ GE G B mv σ H F (env.set i none) ((x, v) :: T) := by
  obtain ⟨e, hi⟩ := at_some h
  obtain ⟨A, C, ⟨k1, k1'⟩, k2, k3, k4, k5, k6⟩ := rE_split g.we hi
  obtain ⟨v, hv⟩ := k5 x e
  refine ⟨v, hv, ⟨?_, k1', g.pin⟩⟩
  rw [k1]
  refine g.good.perm ?_
  rw [k2 x v e hv]
  exact perm_in
/-- .. and back -/
theorem GE.put (g : GE G B mv σ H F (env.set i none) ((x, v) :: T)) (hw : WE env σ) (hi : i < env.length) (hv : σ[i]? = some (some v)) : GE G B mv σ H F (env.set i (some x)) T := by
  obtain ⟨A, C, ⟨k1, k1'⟩, k2, k3, k4, k5, k6⟩ := rE_split hw hi
  obtain ⟨q1, q2⟩ := k3 x v hv
  refine ⟨?_, q2, g.pin⟩
  have h := g.good
  rw [k1] at h
  rw [q1]
  exact h.perm perm_in.symm
theorem GE.kill (g : GE G B mv σ H F env T) (i : Nat) : GE G B mv σ H F (env.set i none) T := by
  by_cases hi : i < env.length
  · obtain ⟨A, C, ⟨k1, k1'⟩, k2, k3, k4, k5, k6⟩ := rE_split g.we hi
    cases e : env[i]? with
    | none => rw [List.getElem?_eq_none_iff] at e; omega
    | some o =>
      cases o with
      | none => exact ⟨by rw [k1, ← k6 e]; exact g.good, k1', g.pin⟩
      | some x =>
        have : env.at i = some x := by unfold Env.at; rw [e]
        obtain ⟨v, _, h⟩ := g.take this
        exact h.drop
  · rw [List.set_eq_of_length_le (by omega)]
    exact g
theorem GE.kil (g : GE G B mv σ H F env T) : ∀ is, GE G B mv σ H F (kil env is) T := by
  intro is
  induction is generalizing env with
  | nil => exact g
  | cons i is ih => exact ih (g.kill i)
/-- a name is stored -/
theorem GE.store (g : GE G B mv σ H F env ((x, v) :: T)) (hi : i < env.length) (hp : ∀ p ∈ mv, p.1 ≠ i) : GE G B mv (σ.set i (some v)) H F (env.set i (some x)) T := by
  have g1 := g.kill i
  obtain ⟨A, C, ⟨k1, k1'⟩, k2, k3, k4, k5, k6⟩ := rE_split g.we hi
  obtain ⟨q1, q2⟩ := k4 x v
  refine ⟨?_, q2, fun p h => ?_⟩
  · have h := g1.good
    rw [k1] at h
    rw [q1]
    exact h.perm perm_in.symm
  · rw [List.getElem?_set_ne (Ne.symm (hp p h))]
    exact g.pin p h
theorem set_set_some (env : Env) (i : Nat) (o : Option PV) (x : PV) : (env.set i o).set i (some x) = env.set i (some x) := by simp
/-- a name read: given up -/
theorem GE.var (g : GE G B mv σ H F env T) (h : env.at i = some x) : ∃ v F', σ[i]? = some (some v) ∧ GE G B mv σ H F' (if x.frz then env else env.set i (some x.fz)) ((x.fz, v) :: T) ∧ ∀ a, F a → F' a := by
  obtain ⟨e, hi⟩ := at_some h
  obtain ⟨v, hv, g1⟩ := g.take h
  obtain ⟨F', g2, m⟩ := g1.fz
  refine ⟨v, F', hv, ?_, m⟩
  have hf : x.fz.frz = true := by
    obtain ⟨fp, hr⟩ := Good.rep g1.good
    have := hr.fz (F' := fun a => F a ∨ a ∈ fp) (fun _ h => .inl h) (fun _ h => .inr h)
    exact frz_of_nil this
  have g3 : GE G B mv σ H F' (env.set i none) ((x.fz, v) :: (x.fz, v) :: T) := ⟨Good.dup (x := x.fz) (v := v) g2.good hf, g2.we, g2.pin⟩
  have g4 := g3.put g.we hi hv
  cases z : x.frz with
  | false => simpa using g4
  | true =>
    rw [frz_fz_of z] at g4 ⊢
    have : env.set i (some x) = env := by
      obtain ⟨h1, h2⟩ := List.getElem?_eq_some_iff.mp e
      rw [← h2]
      exact List.set_getElem_self h1
    rw [this] at g4
    simpa using g4
end
end Z

set_option Elab.async false
set_option linter.all false
set_option maxRecDepth 100000
/-! Z3: which text a term of the small language stands for. -/
namespace Z
open PySem L2

/-- the text's names -/
structure Nms where
  fn : Nat → Option Str
  cls : Nat → Option Str
  att : Nat → Option Str
  glb : Nat → Option Str
  /-- the parameters that the def may change: their places -/
  mm : List Nat
  /-- a def that is called with keywords: how many arguments stand ahead, the keywords' names in the order of its last parameters -/
  pat : Nat → Option (Nat × List Str)

def visB (sc : Scope) (x : Str) : Bool := match sc.names.lookup x with
  | some .local => true
  | some .cell => true
  | some .free => true
  | _ => false
def locB (sc : Scope) (x : Str) : Bool := match sc.names.lookup x with
  | some .local => true
  | some .cell => true
  | _ => false
def glB (sc : Scope) (x : Str) : Bool := (match sc.names.lookup x with
  | some .globalImplicit => true
  | _ => false) && !(x == ("__debug__" : Str)) && !decide (x = ("__name__" : Str))
def isStr (o : Option Str) (x : Str) : Bool := match o with
  | some y => decide (y = x)
  | none => false
def bopOk : BOp → Operator → Bool
  | .add, .Add => true
  | .sub, .Sub => true
  | .mul, .Mult => true
  | .fdiv, .FloorDiv => true
  | .mod, .Mod => true
  | .pow, .Pow => true
  | .shl, .LShift => true
  | .shr, .RShift => true
  | .band, .BitAnd => true
  | .bor, .BitOr => true
  | .bxor, .BitXor => true
  | _, _ => false
def copOk : COp → CmpOp → Bool
  | .lt, .Lt => true
  | .le, .LtE => true
  | .gt, .Gt => true
  | .ge, .GtE => true
  | .eq, .Eq => true
  | .ne, .NotEq => true
  | .isn, .Is => true
  | .notn, .IsNot => true
  | .isin, .In => true
  | .notin, .NotIn => true
  | _, _ => false
def copI : COp → Bool
  | .lt => true
  | .le => true
  | .gt => true
  | .ge => true
  | _ => false
/-- no star, no slice, no set, no super() -/
def plainX : Expr → Bool
  | .Starred _ _ => false
  | .Slice _ _ _ _ => false
  | .Set _ _ _ => false
  | .Call (.Name id _) [] [] _ => !(id == ("super" : Str))
  | _ => true
def bfName : BF → Option Str
  | .len => some "len"
  | .sorted => some "sorted"
  | .sum => some "sum"
  | .max1 => some "max"
  | .min1 => some "min"
  | .max2 => some "max"
  | .min2 => some "min"
  | .abs => some "abs"
  | .int => some "int"
  | .list => some "list"
  | .tuple => some "tuple"
  | .any => some "any"
  | .all => some "all"
  | _ => none
/-- the built-in names that the text may use: none of them is a name of the module -/
def builtinNames : List Str := ["len", "sorted", "sum", "max", "min", "abs", "int", "list", "tuple", "any", "all", "set", "isinstance", "bool", "str", "range", "enumerate", "zip"]

/-- a name's place -/
def slotB (N : List Str) (i : Nat) (x : Str) : Bool := isStr N[i]? x
def chkV (N : List Str) (sc : Scope) (i : Nat) (x : Str) : Bool := slotB N i x && visB sc x && !(x == ("__debug__" : Str)) && !(x == ("__classdict__" : Str))
def chkT (N : List Str) (sc : Scope) : Pat → Expr → Bool
  | .one i, .Name x _ => slotB N i x && locB sc x
  | .many is, .Tuple es _ _ => chkTs is es
  | _, _ => false
where chkTs : List Nat → List Expr → Bool
  | [], [] => true
  | i :: is, .Name x _ :: es => slotB N i x && locB sc x && chkTs is es
  | _, _ => false
def ownOk (N : List Str) (own : List Nat) : List (Str × Nat) := own.filterMap fun i => match N[i]? with
  | some x => some (x, i)
  | none => none
def patL : Pat → List Nat
  | .one i => [i]
  | .many is => is
/-- the class or the classes that isinstance is asked for -/
def isiOk (M : Nms) (sc : Scope) : Nat → Expr → Bool
  | 0, .Name x _ => decide (x = ("list" : Str)) && glB sc x
  | 1, .Name x _ => decide (x = ("tuple" : Str)) && glB sc x
  | 2, .Tuple [.Name x _, .Name y _] _ _ => decide (x = ("list" : Str)) && glB sc x && decide (y = ("tuple" : Str)) && glB sc y
  | 3, .Name x _ => decide (x = ("bool" : Str)) && glB sc x
  | 4, .Name x _ => decide (x = ("int" : Str)) && glB sc x
  | 5, .Name x _ => decide (x = ("str" : Str)) && glB sc x
  | n + 10, .Name x _ => isStr (M.cls n) x && glB sc x
  | _, _ => false
def kwN : List Keyword → List Str
  | [] => []
  | ⟨some n, _, _⟩ :: ks => n :: kwN ks
  | _ :: ks => kwN ks
def Exs.len : Exs → Nat
  | .nil => 0
  | .cons _ es => es.len + 1
def Exs.isNil : Exs → Bool
  | .nil => true
  | _ => false
mutual
def chkE (M : Nms) (N : List Str) : Scope → Ex → Expr → Bool
  | sc, .var i, .Name x _ => chkV N sc i x
  | sc, .mv i, .Name x _ => chkV N sc i x
  | _, .cint n, .Constant (.int m) _ _ => decide (n = m)
  | _, .cbool n, .Constant (.bool m) _ _ => decide (n = m)
  | _, .cnon, .Constant .none _ _ => true
  | _, .cstr n, .Constant (.str m) _ _ => decide (n = m)
  | sc, .glb g, .Name x _ => isStr (M.glb g) x && glB sc x
  | sc, .bin o a b, .BinOp l op r _ => bopOk o op && chkE M N sc a l && chkE M N sc b r
  | sc, .neg a, .UnaryOp .USub e _ => chkE M N sc a e
  | sc, .cmp o a b, .Compare l [op] [r] _ => copOk o op && plainX r && chkE M N sc a l && chkE M N sc b r
  | sc, .chn o p a b c, .Compare l [op, oq] [r, t] _ => copI o && copOk o op && copOk p oq && plainX r && plainX t && chkE M N sc a l && chkE M N sc b r && chkE M N sc c t
  | sc, .one a, .BoolOp _ [e] _ => chkE M N sc a e
  | sc, .and a b, .BoolOp .And (x :: y :: r) p => chkE M N sc a x && chkE M N sc b (.BoolOp .And (y :: r) p)
  | sc, .or a b, .BoolOp .Or (x :: y :: r) p => chkE M N sc a x && chkE M N sc b (.BoolOp .Or (y :: r) p)
  | sc, .not a, .UnaryOp .Not e _ => chkE M N sc a e
  | sc, .ife c a b, .IfExp t x y _ => chkE M N sc c t && chkE M N sc a x && chkE M N sc b y
  | sc, .lst es, .List xs _ => decide (es.len ≤ 1000) && chkEs M N sc es xs
  | sc, .tup es, .Tuple xs _ _ => decide (es.len ≤ 1000) && chkEs M N sc es xs
  | _, .dct0, .Dict [] [] _ => true
  | sc, .idx a i, .Subscript x y _ => plainX y && chkE M N sc a x && chkE M N sc i y
  | sc, .slc a lo hi, .Subscript x (.Slice l h none _) _ => chkE M N sc a x && chkO M N sc lo l && chkO M N sc hi h
  | sc, .rev a, .Subscript x (.Slice none none (some (.UnaryOp .USub (.Constant (.int 1) _ _) _)) _) _ => chkE M N sc a x
  | sc, .fld a f, .Attribute x n _ => plainX x && isStr (M.att f) n && chkE M N sc a x
  | sc, .call f es ks, .Call (.Name x _) xs kws _ => isStr (M.fn f) x && glB sc x && chkAs M N sc es xs && (if kws.isEmpty = true then ks.isNil && decide (M.pat f = none) else decide (M.pat f = some (es.len, kwN kws)) && !xs.isEmpty && chkK M N sc ks kws)
  | sc, .meth m a es ks, .Call (.Attribute o n ap) xs kws cp => (ap.endLine == cp.line) && decide (xs.length < 30) && plainX o && isStr (M.att m) n && chkE M N sc a o && chkAs M N sc es xs && ks.isNil && kws.isEmpty
  | sc, .methm m i es ks, .Call (.Attribute (.Name x _) n ap) xs kws cp => (ap.endLine == cp.line) && decide (xs.length < 30) && isStr (M.att m) n && chkV N sc i x && chkAs M N sc es xs && ks.isNil && kws.isEmpty
  | sc, .make C es ks, .Call (.Name x _) xs kws _ => isStr (M.cls C) x && glB sc x && chkAs M N sc es xs && ks.isNil && kws.isEmpty
  | sc, .bf .lenset (.cons a .nil), .Call (.Name x _) [.Call (.Name y _) [e] [] _] [] _ => decide (x = ("len" : Str)) && decide (y = ("set" : Str)) && glB sc x && glB sc y && plainX e && chkE M N sc a e
  | sc, .bf b es, .Call (.Name x _) (y :: ys) [] _ => isStr (bfName b) x && glB sc x && chkEs M N sc es (y :: ys)
  | sc, .bm .bits a .nil, .Call (.Attribute o n ap) [] [] cp => decide (n = ("bit_length" : Str)) && plainX o && (ap.endLine == cp.line) && chkE M N sc a o
  | sc, .com elt own t it cond, .ListComp x [⟨tg, iter, ifs, 0⟩] scope _ => chkI M N sc it t tg iter && blkC N sc scope (ownOk N own) && decide (own = (ownOk N own).map (·.2)) && own.all (fun i => decide (i ∉ M.mm)) && (patL t).all (fun i => decide (i ∈ own)) &&
      chkT N scope t tg && chkC M N (relS scope sc) cond ifs && chkE M N (relS scope sc) elt x
  | sc, .rd p, e => chkP M N sc p e
  | sc, .lenp p, .Call (.Name x _) [e] [] _ => decide (x = ("len" : Str)) && glB sc x && plainX e && chkP M N sc p e
  | sc, .inp neg e p, .Compare l [op] [r] _ => copOk (if neg then .notin else .isin) op && plainX r && chkE M N sc e l && chkP M N sc p r
  | _, _, _ => false
def chkEs (M : Nms) (N : List Str) : Scope → Exs → List Expr → Bool
  | _, .nil, [] => true
  | sc, .cons e es, x :: xs => plainX x && chkE M N sc e x && chkEs M N sc es xs
  | _, _, _ => false
def chkAs (M : Nms) (N : List Str) : Scope → Exs → List Expr → Bool
  | _, .nil, [] => true
  | sc, .cons (.marg i) es, .Name x _ :: xs => chkV N sc i x && chkAs M N sc es xs
  | sc, .cons e es, x :: xs => plainX x && chkE M N sc e x && chkAs M N sc es xs
  | _, _, _ => false
def chkK (M : Nms) (N : List Str) : Scope → Exs → List Keyword → Bool
  | _, .nil, [] => true
  | sc, .cons e es, ⟨some _, x, _⟩ :: ks => decide (e.mg = none) && chkE M N sc e x && chkK M N sc es ks
  | _, _, _ => false
def chkO (M : Nms) (N : List Str) : Scope → OEx → Option Expr → Bool
  | _, .no, none => true
  | sc, .so e, some x => chkE M N sc e x
  | _, _, _ => false
def chkC (M : Nms) (N : List Str) : Scope → OEx → List Expr → Bool
  | _, .no, [] => true
  | sc, .so e, [x] => chkE M N sc e x
  | _, _, _ => false
def chkP (M : Nms) (N : List Str) : Scope → Pl → Expr → Bool
  | sc, .pv i, .Name x _ => chkV N sc i x
  | sc, .pf p f, .Attribute x n _ => plainX x && isStr (M.att f) n && chkP M N sc p x
  | sc, .pi p e, .Subscript x y _ => plainX y && e.pure && chkP M N sc p x && chkE M N sc e y
  | _, _, _ => false
def chkI (M : Nms) (N : List Str) : Scope → It → Pat → Expr → Expr → Bool
  | sc, .val e, _, _, x => plainX x && chkE M N sc e x
  | sc, .rng1 e, _, _, .Call (.Name f _) [x] [] _ => decide (f = ("range" : Str)) && glB sc f && plainX x && chkE M N sc e x
  | sc, .rng2 a b, _, _, .Call (.Name f _) [x, y] [] _ => decide (f = ("range" : Str)) && glB sc f && plainX x && plainX y && chkE M N sc a x && chkE M N sc b y
  | sc, .enum e, .many _, .Tuple _ _ _, .Call (.Name f _) [x] [] _ => decide (f = ("enumerate" : Str)) && glB sc f && plainX x && chkE M N sc e x
  | sc, .zip a b, .many _, .Tuple _ _ _, .Call (.Name f _) [x, y] [] _ => decide (f = ("zip" : Str)) && glB sc f && plainX x && plainX y && chkE M N sc a x && chkE M N sc b y
  | _, _, _, _, _ => false
end

/-- a comprehension's store that is swapped with the frame's end -/
def swapsB (sc : Scope) (v : Expr) (x : Str) (py : Pos) : Bool := match (match v with
    | .ListComp _ _ s _ => some s
    | .SetComp _ _ s _ => some s
    | .DictComp _ _ _ s _ => some s
    | _ => none) with
  | none => false
  | some scope => (sc.names.lookup x == some .local) && (py.line == v.pos.line) && !(scope.names.any fun (n, k) => n == x && (k == .local || k == .cell))
def isLc : Expr → Bool
  | .ListComp _ [⟨_, _, _, 0⟩] _ _ => true
  | _ => false
def storeB (N : List Str) (sc : Scope) (mm : List Nat) (i : Nat) (x : Str) : Bool := slotB N i x && locB sc x && decide (i ∉ mm)
def storesB (N : List Str) (sc : Scope) (mm : List Nat) : List Nat → List Expr → Bool
  | [], [] => true
  | i :: is, .Name x _ :: es => storeB N sc mm i x && storesB N sc mm is es
  | _, _ => false
/-- all names are plain locals -/
def locals_ (sc : Scope) : List Expr → Bool
  | [] => true
  | .Name x _ :: es => decide (sc.names.lookup x = some .local) && locals_ sc es
  | _ => false
def isTup : Expr → Bool
  | .Tuple _ _ _ => true
  | _ => false
def MM.none0 : MM → Bool
  | .clear => true
  | .reverse => true
  | _ => false
def isCom : Ex → Bool
  | .com _ _ _ _ _ => true
  | _ => false
def mmName : MM → Str
  | .append => "append"
  | .insert => "insert"
  | .clear => "clear"
  | .reverse => "reverse"
  | .pop => "pop"
def kSet (M : Nms) (N : List Str) (sc : Scope) (mm : List Nat) (i : Nat) (e : Ex) (x : Stmt) : Bool := match x with
  | .Assign [.Name y py] v _ => storeB N sc mm i y && chkE M N sc e v && (!swapsB sc v y py || isCom e)
  | _ => false
def kUnp (M : Nms) (N : List Str) (sc : Scope) (mm : List Nat) (is : List Nat) (e : Ex) (x : Stmt) : Bool := match x with
  | .Assign [.Tuple ts _ _] v _ => storesB N sc mm is ts && chkE M N sc e v && (!isTup v || !locals_ sc ts)
  | _ => false
def kPar (M : Nms) (N : List Str) (sc : Scope) (mm : List Nat) (is : List Nat) (es : Exs) (x : Stmt) : Bool := match is, x with
  | [i, j], .Assign [.Tuple [.Name y p, .Name z q] _ _] (.Tuple [a, b] _ _) _ => storeB N sc mm i y && storeB N sc mm j z && decide (i ≠ j) && decide (sc.names.lookup y = some .local) && decide (sc.names.lookup z = some .local) && chkEs M N sc es [a, b] &&
      p.line == q.line && !([a, b].all (foldedForSure 8)) && !([a, b].all (constantsAlone 8))
  | _, _ => false
def noPow (o : BOp) : Bool := decide (o ≠ .pow)
def kAug (M : Nms) (N : List Str) (sc : Scope) (mm : List Nat) (i : Nat) (o : BOp) (e : Ex) (x : Stmt) : Bool := match x with
  | .AugAssign (.Name y _) op v _ => storeB N sc mm i y && bopOk o op && noPow o && chkE M N sc e v
  | _ => false
def kSeti (M : Nms) (N : List Str) (sc : Scope) (q : Pl) (k e : Ex) (x : Stmt) : Bool := match q, x with
  | .pv i, .Assign [.Subscript (.Name y _) z _] v _ => chkV N sc i y && plainX z && chkE M N sc k z && chkE M N sc e v
  | _, _ => false
def kAugi (M : Nms) (N : List Str) (sc : Scope) (q : Pl) (k : Ex) (o : BOp) (e : Ex) (x : Stmt) : Bool := match q, x with
  | .pv i, .AugAssign (.Subscript (.Name y _) z _) op v _ => chkV N sc i y && plainX z && chkE M N sc k z && bopOk o op && noPow o && chkE M N sc e v
  | _, _ => false
def kSetf (M : Nms) (N : List Str) (sc : Scope) (q : Pl) (f : Nat) (e : Ex) (x : Stmt) : Bool := match q, x with
  | .pv i, .Assign [.Attribute (.Name y _) n _] v _ => chkV N sc i y && isStr (M.att f) n && chkE M N sc e v
  | _, _ => false
def kAugf (M : Nms) (N : List Str) (sc : Scope) (q : Pl) (f : Nat) (o : BOp) (e : Ex) (x : Stmt) : Bool := match q, x with
  | .pv i, .AugAssign (.Attribute (.Name y _) n _) op v _ => chkV N sc i y && isStr (M.att f) n && bopOk o op && noPow o && chkE M N sc e v
  | _, _ => false
def mmOk : MM → Bool
  | .pop => false
  | _ => true
def kMth (M : Nms) (N : List Str) (sc : Scope) (b : MM) (q : Pl) (es : Exs) (x : Stmt) : Bool := match q, x with
  | .pv i, .Expr (.Call (.Attribute (.Name y _) n ap) vs [] cp) _ => (ap.endLine == cp.line) && decide (vs.length < 30) && chkV N sc i y && decide (n = mmName b) && (if b.none0 then vs.isEmpty else !vs.isEmpty) && mmOk b && chkEs M N sc es vs
  | _, _ => false
def kExpr (M : Nms) (N : List Str) (sc : Scope) (e : Ex) (x : Stmt) : Bool := match x with
  | .Expr (.Call f as kws cp) _ => chkE M N sc e (.Call f as kws cp)
  | _ => false
def kRet (M : Nms) (N : List Str) (sc : Scope) (e : Ex) (x : Stmt) : Bool := match x with
  | .Return (some v) _ => chkE M N sc e v
  | _ => false
def kRetN (x : Stmt) : Bool := match x with
  | .Return none _ => true
  | _ => false
def kPass (x : Stmt) : Bool := match x with
  | .Pass _ => true
  | .Expr (.Constant (.str _) _ _) _ => true
  | _ => false
def vIf (x : Stmt) : Option (Expr × List Stmt × List Stmt) := match x with
  | .If t y z _ => some (t, y, z)
  | _ => none
def vFor (x : Stmt) : Option (Expr × Expr × List Stmt) := match x with
  | .For tg iter b [] _ => some (tg, iter, b)
  | _ => none
def vWhl (x : Stmt) : Option (Expr × List Stmt) := match x with
  | .While t b [] _ => some (t, b)
  | _ => none
def isBad : St → Bool
  | .bad => true
  | _ => false
def Sts.isNil : Sts → Bool
  | .nil => true
  | _ => false
mutual
def chkS (M : Nms) (N : List Str) (sc : Scope) (mm : List Nat) : St → Stmt → Bool
  | .set i _ e, x => kSet M N sc mm i e x
  | .unp is e, x => kUnp M N sc mm is e x
  | .par is es, x => kPar M N sc mm is es x
  | .unps _ _ _, _ => false
  | .aug i o e, x => kAug M N sc mm i o e x
  | .seti q k e, x => kSeti M N sc q k e x
  | .augi q k o e, x => kAugi M N sc q k o e x
  | .setf q f e, x => kSetf M N sc q f e x
  | .augf q f o e, x => kAugf M N sc q f o e x
  | .mth b q es, x => kMth M N sc b q es x
  | .expr e, x => kExpr M N sc e x
  | .ret e, x => kRet M N sc e x
  | .retN, x => kRetN x
  | .ife c a b, x => match vIf x with
    | some (t, y, z) => chkE M N sc c t && chkSs M N sc mm a y && chkSs M N sc mm b z
    | none => false
  | .for t it _ body, x => match vFor x with
    | some (tg, iter, b) => chkI M N sc it t tg iter && chkT N sc t tg && (patL t).all (fun i => decide (i ∉ mm)) && chkSs M N sc mm body b
    | none => false
  | .whl _ c _ body, x => match vWhl x with
    | some (t, b) => chkE M N sc c t && chkSs M N sc mm body b
    | none => false
  | .pass, x => kPass x
  | .bad, _ => true
def chkSs (M : Nms) (N : List Str) (sc : Scope) (mm : List Nat) : Sts → List Stmt → Bool
  | .nil, xs => xs.isEmpty
  | .cons s ss, xs => (isBad s && ss.isNil) || (match xs with
    | x :: xs => chkS M N sc mm s x && chkSs M N sc mm ss xs
    | [] => false)
end
end Z

set_option Elab.async false
set_option linter.all false
set_option maxRecDepth 100000
/-! Z4: expressions: the evaluator's answer is what runs. -/
namespace Z
open PySem L2

/-! ### values and heap, read -/
section
variable {G : Txt} {F F' : Addr → Prop} {H H' : Hp}
theorem RepL.cons_iff {x : PV} {xs : List PV} {vs : List V} {fp : List Addr} : RepL G F H (x :: xs) vs fp ↔ ∃ v vr f1 f2, vs = v :: vr ∧ fp = f1 ++ f2 ∧ Rep G F H x v f1 ∧ RepL G F H xs vr f2 := by
  constructor
  · intro h; unfold RepL at h; exact h
  · intro h; unfold RepL; exact h
theorem RepL.nil_iff {vs : List V} {fp : List Addr} : RepL G F H [] vs fp ↔ vs = [] ∧ fp = [] := by
  constructor
  · intro h; unfold RepL at h; exact h
  · intro h; unfold RepL; exact h
theorem rep_int {i : Int} {v : V} {fp : List Addr} (h : Rep G F H (.int i) v fp) : v = .int i := by unfold Rep at h; exact h.1
theorem rep_bl {i : Bool} {v : V} {fp : List Addr} (h : Rep G F H (.bl i) v fp) : v = .bl i := by unfold Rep at h; exact h.1
theorem rep_str {i : Str} {v : V} {fp : List Addr} (h : Rep G F H (.str i) v fp) : v = .str i := by unfold Rep at h; exact h.1
theorem rep_non {v : V} {fp : List Addr} (h : Rep G F H .non v fp) : v = .non := by unfold Rep at h; exact h.1
theorem mk_int (i : Int) : Rep G F H (.int i) (.int i) [] := by unfold Rep; exact ⟨rfl, rfl⟩
theorem mk_bl (i : Bool) : Rep G F H (.bl i) (.bl i) [] := by unfold Rep; exact ⟨rfl, rfl⟩
theorem mk_str (i : Str) : Rep G F H (.str i) (.str i) [] := by unfold Rep; exact ⟨rfl, rfl⟩
theorem mk_non : Rep G F H .non .non [] := by unfold Rep; exact ⟨rfl, rfl⟩
theorem rep_lst {o : Bool} {xs : List PV} {v : V} {fp : List Addr} (h : Rep G F H (.lst o xs) v fp) : ∃ a vs fl, v = .ref a ∧ H a = some (.lst vs) ∧ RepL G F H xs vs fl := by
  unfold Rep at h
  obtain ⟨a, vs, fl, e, ha, hl, _⟩ := h
  exact ⟨a, vs, fl, e, ha, hl⟩
theorem rep_tup {xs : List PV} {v : V} {fp : List Addr} (h : Rep G F H (.tup xs) v fp) : ∃ a vs fl, v = .ref a ∧ SqT G.K H a vs ∧ RepL G F H xs vs fl := by
  unfold Rep at h
  obtain ⟨a, vs, e, ha, hl⟩ := h
  refine ⟨a, vs, fp, e, ?_, hl⟩
  rcases ha with ⟨ha, _⟩ | ha
  · exact .inl (.inl ha)
  · exact .inr ha
theorem rep_dic {o : Bool} {ks : List L2.Key} {xs : List PV} {v : V} {fp : List Addr} (h : Rep G F H (.dic o ks xs) v fp) : ∃ a vs fl, v = .ref a ∧ H a = some (.dK (ks.zip vs)) ∧ ks.length = xs.length ∧ RepL G F H xs vs fl := by
  unfold Rep at h
  obtain ⟨a, vs, fl, e, ha, hk, hl, _⟩ := h
  exact ⟨a, vs, fl, e, ha, hk, hl⟩
theorem rep_obj {o : Bool} {C : Nat} {as : List Nat} {xs : List PV} {v : V} {fp : List Addr} (h : Rep G F H (.obj o C as xs) v fp) :
    ∃ a Ca dx ns vs fl, v = .ref a ∧ G.cls C = some Ca ∧ H a = some (.ins Ca dx (ns.zip vs)) ∧ attL G Ca as ns ∧ as.length = xs.length ∧ RepL G F H xs vs fl := by
  unfold Rep at h
  obtain ⟨a, Ca, dx, ns, vs, fl, e, hc, ha, hn, hk, hl, _⟩ := h
  exact ⟨a, Ca, dx, ns, vs, fl, e, hc, ha, hn, hk, hl⟩
theorem repL_ints : ∀ {xs : List PV} {ns : List Int} {vs : List V} {fp : List Addr}, intsOf xs = some ns → RepL G F H xs vs fp → vs = ns.map V.int ∧ xs = ns.map PV.int
  | [], ns, vs, fp, e, h => by
    unfold intsOf at e; cases e
    exact ⟨(RepL.nil_iff.mp h).1, rfl⟩
  | x :: xs, ns, vs, fp, e, h => by
    obtain ⟨v, vr, f1, f2, rfl, rfl, h1, h2⟩ := RepL.cons_iff.mp h
    cases x with
    | int i =>
      unfold intsOf at e
      cases q : intsOf xs with
      | none => rw [q] at e; cases e
      | some ms =>
        rw [q] at e; cases e
        obtain ⟨e1, e2⟩ := repL_ints q h2
        rw [rep_int h1, e1, e2]; exact ⟨rfl, rfl⟩
    | _ => simp [intsOf] at e
theorem repL_strs : ∀ {xs : List PV} {ns : List Str} {vs : List V} {fp : List Addr}, strsOf xs = some ns → RepL G F H xs vs fp → vs = ns.map V.str ∧ xs = ns.map PV.str
  | [], ns, vs, fp, e, h => by
    unfold strsOf at e; cases e
    exact ⟨(RepL.nil_iff.mp h).1, rfl⟩
  | x :: xs, ns, vs, fp, e, h => by
    obtain ⟨v, vr, f1, f2, rfl, rfl, h1, h2⟩ := RepL.cons_iff.mp h
    cases x with
    | str i =>
      unfold strsOf at e
      cases q : strsOf xs with
      | none => rw [q] at e; cases e
      | some ms =>
        rw [q] at e; cases e
        obtain ⟨e1, e2⟩ := repL_strs q h2
        rw [rep_str h1, e1, e2]; exact ⟨rfl, rfl⟩
    | _ => simp [strsOf] at e
theorem repL_bls : ∀ {xs : List PV} {ns : List Bool} {vs : List V} {fp : List Addr}, blsOf xs = some ns → RepL G F H xs vs fp → vs = ns.map V.bl
  | [], ns, vs, fp, e, h => by
    unfold blsOf at e; cases e
    exact (RepL.nil_iff.mp h).1
  | x :: xs, ns, vs, fp, e, h => by
    obtain ⟨v, vr, f1, f2, rfl, rfl, h1, h2⟩ := RepL.cons_iff.mp h
    cases x with
    | bl i =>
      unfold blsOf at e
      cases q : blsOf xs with
      | none => rw [q] at e; cases e
      | some ms =>
        rw [q] at e; cases e
        rw [rep_bl h1, repL_bls q h2]; rfl
    | _ => simp [blsOf] at e
theorem mkL_ints : ∀ ns : List Int, RepL G F H (ns.map PV.int) (ns.map V.int) []
  | [] => RepL.nil_iff.mpr ⟨rfl, rfl⟩
  | n :: ns => RepL.cons_iff.mpr ⟨_, _, [], [], rfl, rfl, mk_int n, mkL_ints ns⟩
theorem mkL_strs : ∀ ns : List Str, RepL G F H (ns.map PV.str) (ns.map V.str) []
  | [] => RepL.nil_iff.mpr ⟨rfl, rfl⟩
  | n :: ns => RepL.cons_iff.mpr ⟨_, _, [], [], rfl, rfl, mk_str n, mkL_strs ns⟩
theorem RepL.app : ∀ {xs ys : List PV} {vs ws : List V} {f1 f2 : List Addr}, RepL G F H xs vs f1 → RepL G F H ys ws f2 → RepL G F H (xs ++ ys) (vs ++ ws) (f1 ++ f2)
  | [], ys, vs, ws, f1, f2, h, k => by
    obtain ⟨rfl, rfl⟩ := RepL.nil_iff.mp h
    exact k
  | x :: xs, ys, vs, ws, f1, f2, h, k => by
    obtain ⟨v, vr, g1, g2, rfl, rfl, h1, h2⟩ := RepL.cons_iff.mp h
    exact RepL.cons_iff.mpr ⟨v, vr ++ ws, g1, g2 ++ f2, rfl, by rw [List.append_assoc], h1, RepL.app h2 k⟩
theorem RepL.take : ∀ {xs : List PV} {vs : List V} (n : Nat), RepL G F H xs vs [] → RepL G F H (xs.take n) (vs.take n) []
  | [], vs, n, h => by
    obtain ⟨rfl, _⟩ := RepL.nil_iff.mp h
    simpa using h
  | x :: xs, vs, 0, h => by simpa using RepL.nil_iff.mpr ⟨rfl, rfl⟩
  | x :: xs, vs, n + 1, h => by
    obtain ⟨v, vr, g1, g2, rfl, e, h1, h2⟩ := RepL.cons_iff.mp h
    obtain ⟨rfl, rfl⟩ := List.append_eq_nil_iff.mp e.symm
    exact RepL.cons_iff.mpr ⟨v, vr.take n, [], [], rfl, rfl, h1, RepL.take n h2⟩
theorem RepL.drop : ∀ {xs : List PV} {vs : List V} (n : Nat), RepL G F H xs vs [] → RepL G F H (xs.drop n) (vs.drop n) []
  | xs, vs, 0, h => h
  | [], vs, n + 1, h => by
    obtain ⟨rfl, _⟩ := RepL.nil_iff.mp h
    simpa using h
  | x :: xs, vs, n + 1, h => by
    obtain ⟨v, vr, g1, g2, rfl, e, h1, h2⟩ := RepL.cons_iff.mp h
    obtain ⟨rfl, rfl⟩ := List.append_eq_nil_iff.mp e.symm
    exact RepL.drop n h2
theorem RepL.reverse {xs : List PV} {vs : List V} (h : RepL G F H xs vs []) : RepL G F H xs.reverse vs.reverse [] := by
  induction xs generalizing vs with
  | nil => obtain ⟨rfl, _⟩ := RepL.nil_iff.mp h; simpa using h
  | cons x xs ih =>
    obtain ⟨v, vr, g1, g2, rfl, e, h1, h2⟩ := RepL.cons_iff.mp h
    obtain ⟨rfl, rfl⟩ := List.append_eq_nil_iff.mp e.symm
    rw [List.reverse_cons, List.reverse_cons]
    exact RepL.app (ih h2) (RepL.cons_iff.mpr ⟨v, [], [], [], rfl, rfl, h1, RepL.nil_iff.mpr ⟨rfl, rfl⟩⟩)
theorem RepL.rep {xs : List PV} {vs : List V} (n : Nat) (h : RepL G F H xs vs []) : RepL G F H (List.replicate n xs).flatten (List.replicate n vs).flatten [] := by
  induction n with
  | zero => exact RepL.nil_iff.mpr ⟨rfl, rfl⟩
  | succ n ih => rw [List.replicate_succ, List.replicate_succ]; exact RepL.app h ih
theorem RepL.get : ∀ {xs : List PV} {vs : List V} {fp : List Addr} {i : Nat} {x : PV}, RepL G F H xs vs fp → xs[i]? = some x → ∃ v f, vs[i]? = some v ∧ Rep G F H x v f ∧ (∀ a ∈ f, a ∈ fp)
  | [], vs, fp, i, x, h, e => by simp at e
  | y :: xs, vs, fp, 0, x, h, e => by
    obtain ⟨v, vr, g1, g2, rfl, rfl, h1, h2⟩ := RepL.cons_iff.mp h
    simp at e; subst e
    exact ⟨v, g1, rfl, h1, fun a ha => List.mem_append_left _ ha⟩
  | y :: xs, vs, fp, i + 1, x, h, e => by
    obtain ⟨v, vr, g1, g2, rfl, rfl, h1, h2⟩ := RepL.cons_iff.mp h
    obtain ⟨u, f, e1, h3, k⟩ := RepL.get (i := i) h2 (by simpa using e)
    exact ⟨u, f, by simpa using e1, h3, fun a ha => List.mem_append_right _ (k a ha)⟩
mutual
theorem rep_dat : ∀ {x : PV} {v : V} {fp : List Addr} {d : PyData}, x.dat = some d → Rep G F H x v fp → Dp G.K H v d
  | .non, v, fp, d, e, h => by unfold PV.dat at e; cases e; rw [rep_non h]; exact .non
  | .bl b, v, fp, d, e, h => by unfold PV.dat at e; cases e; rw [rep_bl h]; exact .bl b
  | .int b, v, fp, d, e, h => by unfold PV.dat at e; cases e; rw [rep_int h]; exact .int b
  | .str b, v, fp, d, e, h => by unfold PV.dat at e; cases e; rw [rep_str h]; exact .str b
  | .lst o xs, v, fp, d, e, h => by
    unfold PV.dat at e
    obtain ⟨a, vs, fl, rfl, ha, hl⟩ := rep_lst h
    cases q : datL xs with
    | none => rw [q] at e; cases e
    | some ds => rw [q] at e; cases e; exact .lst (.of ha) (repL_dat q hl)
  | .tup xs, v, fp, d, e, h => by
    unfold PV.dat at e
    obtain ⟨a, vs, fl, rfl, ha, hl⟩ := rep_tup h
    cases q : datL xs with
    | none => rw [q] at e; cases e
    | some ds => rw [q] at e; cases e; exact .tup ha (repL_dat q hl)
  | .dic _ _ _, v, fp, d, e, h => by unfold PV.dat at e; cases e
  | .obj _ _ _ _, v, fp, d, e, h => by unfold PV.dat at e; cases e
  | .scr _, v, fp, d, e, h => by unfold PV.dat at e; cases e
theorem repL_dat : ∀ {xs : List PV} {vs : List V} {fp : List Addr} {ds : List PyData}, datL xs = some ds → RepL G F H xs vs fp → DpAll G.K H vs ds
  | [], vs, fp, d, e, h => by unfold datL at e; cases e; rw [(RepL.nil_iff.mp h).1]; exact .nil
  | x :: xs, vs, fp, d, e, h => by
    obtain ⟨v, vr, g1, g2, rfl, rfl, h1, h2⟩ := RepL.cons_iff.mp h
    unfold datL at e
    cases q : x.dat with
    | none => rw [q] at e; cases e
    | some d1 =>
      cases q2 : datL xs with
      | none => rw [q, q2] at e; cases e
      | some ds => rw [q, q2] at e; cases e; exact .cons (rep_dat q h1) (repL_dat q2 h2)
end
/-- a value as it was at an earlier state, of which nothing that is looked at has changed -/
def Wk (G : Txt) (F : Addr → Prop) (H : Hp) (x : PV) (v : V) : Prop := ∃ F0 H0 fp, Rep G F0 H0 x v fp ∧ (∀ a, F0 a → F a) ∧ Ext H0 H
theorem Wk.mono {x : PV} {v : V} (w : Wk G F H x v) (m : ∀ a, F a → F' a) (e : Ext H H') : Wk G F' H' x v := by
  obtain ⟨F0, H0, fp, h, m0, e0⟩ := w
  exact ⟨F0, H0, fp, h, fun a z => m a (m0 a z), e0.trans e⟩
theorem Wk.of {x : PV} {v : V} {fp : List Addr} (h : Rep G F H x v fp) : Wk G F H x v := ⟨F, H, fp, h, fun _ z => z, .refl⟩
theorem Rep.up {x : PV} {v : V} (h : Rep G F H x v []) (m : ∀ a, F a → F' a) (e : Ext H H') : Rep G F' H' x v [] := h.stay (fun a o _ q => e a o q) m (fun _ z => nomatch z) (fun _ z => nomatch z)
theorem RepL.up {x : List PV} {v : List V} (h : RepL G F H x v []) (m : ∀ a, F a → F' a) (e : Ext H H') : RepL G F' H' x v [] := h.stay (fun a o _ q => e a o q) m (fun _ z => nomatch z) (fun _ z => nomatch z)
theorem Wk.rep {x : PV} {v : V} (w : Wk G F H x v) (z : x.frz = true) : Rep G F H x v [] := by
  obtain ⟨F0, H0, fp, h, m0, e0⟩ := w
  have e := nil_of_frz z h
  subst e
  exact h.up m0 e0
end

/-! ### the def's context -/
structure Ctx where
  G : Txt
  P : Program
  w : World
  mg : Str → Option Value
  base : Heap
  M : Nms
  tab : Tab
  lev : Nat
  N : List Str
  B : Bas
  mv : List (Nat × V)
structure XS (Γ : Ctx) (sc : Scope) (X : Cx) : Prop where
  prog : X.prog = Γ.P
  w : X.w = Γ.w
  K : X.K = Γ.G.K
  mg : X.mg = Γ.mg
  base : X.base = Γ.base
  N : X.N = Γ.N
  hs : X.env.scope = sc
  room : Room (Γ.lev + 1) X.A
  calm : X.calm = true
  nd : X.N.Nodup
abbrev Ctx.ge (Γ : Ctx) (σ : L2.St) (H : Hp) (F : Addr → Prop) (env : Env) (T : List (PV × V)) : Prop := GE Γ.G Γ.B Γ.mv σ H F env T

/-- an answer of the evaluator, and what is wanted of it -/
def PR {α : Type} (ok : α → Env → Prop) (ex : XV → Env → Prop) : Res α → Prop
  | .ok a env => ok a env
  | .exn x env => ex x env
  | .bad => False
theorem PR.bind {α β : Type} {ok : β → Env → Prop} {ex : XV → Env → Prop} {r : Res α} {k : α → Env → Res β} : PR ok ex (r.bind k) ↔ PR (fun a env => PR ok ex (k a env)) ex r := by cases r <;> exact Iff.rfl
theorem PR.imp {α : Type} {ok ok' : α → Env → Prop} {ex ex' : XV → Env → Prop} {r : Res α} (h : PR ok ex r) (h1 : ∀ a env, ok a env → ok' a env) (h2 : ∀ x env, ex x env → ex' x env) : PR ok' ex' r := by
  cases r with
  | ok a env => exact h1 a env h
  | exn x env => exact h2 x env h
  | bad => exact h
theorem PR.lift {α : Type} {ok : α → Env → Prop} {ex : XV → Env → Prop} {o : Option α} {env : Env} (h : PR ok ex (lift o env)) : ∃ a, o = some a ∧ ok a env := by
  cases o with
  | none => exact h.elim
  | some a => exact ⟨a, rfl, h⟩

section
variable (Γ : Ctx) (W : WX)
def exK (σ : L2.St) (T : List (PV × V)) : XV → Env → Prop := fun x env' => False ∧ Γ.G.K = Γ.G.K ∧ W = W ∧ σ = σ ∧ T = T
def okE (σ : L2.St) (H : Hp) (F : Addr → Prop) (T : List (PV × V)) (pu : Bool) (Q : VK) : PV → Env → Prop := fun x env' => ∀ v H' F', Γ.ge σ H' F' env' ((x, v) :: T) → (∀ a, F a → F' a) → (pu = true → Ext H H') → Q v H'
def tE (e : Ex) : TE := fun σ H Q => ∃ F env T, Γ.ge σ H F env T ∧ PR (okE Γ σ H F T e.pure Q) (exK Γ W σ T) (ev Γ.tab e env)
def okT (σ : L2.St) (H : Hp) (F : Addr → Prop) (T : List (PV × V)) (pu : Bool) (Q : Bool → Hp → Prop) : PV → Env → Prop := fun x env' => ∃ b, x = .bl b ∧ ∀ H' F', Γ.ge σ H' F' env' T → (∀ a, F a → F' a) → (pu = true → Ext H H') → Q b H'
def tT (e : Ex) : TT := fun σ H Q => ∃ F env T, Γ.ge σ H F env T ∧ PR (okT Γ σ H F T e.pure Q) (exK Γ W σ T) (ev Γ.tab e env)
def okEs (σ : L2.St) (H : Hp) (F : Addr → Prop) (T : List (PV × V)) (pu : Bool) (Q : List V → Hp → Prop) : List PV → Env → Prop := fun xs env' => ∀ vs H' F', xs.length = vs.length → Γ.ge σ H' F' env' (xs.zip vs ++ T) → (∀ a, F a → F' a) → (pu = true → Ext H H') → Q vs H'
def tEs (es : Exs) : TA := fun σ H Q => ∃ F env T, Γ.ge σ H F env T ∧ PR (okEs Γ σ H F T es.pure Q) (exK Γ W σ T) (evs Γ.tab es env)
def okP (σ : L2.St) (H : Hp) (F : Addr → Prop) (T : List (PV × V)) (pu : Bool) (Q : VK) : PV → Env → Prop := fun x env' => ∀ v H' F', Γ.ge σ H' F' env' T → Wk Γ.G F' H' x v → (∀ a, F a → F' a) → (pu = true → Ext H H') → Q v H'
def tP (p : Pl) : TE := fun σ H Q => ∃ F env T, Γ.ge σ H F env T ∧ PR (okP Γ σ H F T p.pure Q) (exK Γ W σ T) (evp Γ.tab p env)
end
theorem PEmono {X : Cx} {e : Expr} {t t' : TE} (h : PE X e t) (m : ∀ σ H Q, t' σ H Q → t σ H Q) : PE X e t' := ⟨fun pins s σ H Q I q => h.run pins s σ H Q I (m σ H Q q)⟩
theorem PTmono {X : Cx} {e : Expr} {t t' : TT} (h : PT X e t) (m : ∀ σ H Q, t' σ H Q → t σ H Q) : PT X e t' := ⟨fun pins s σ H Q I q => h.run pins s σ H Q I (m σ H Q q)⟩
theorem PWmono {X : Cx} {e : Expr} {t t' : TT} (h : PW X e t) (m : ∀ σ H Q, t' σ H Q → t σ H Q) : PW X e t' := ⟨fun wh pins s σ H Q I q => h.run wh pins s σ H Q I (m σ H Q q)⟩
theorem PAmono {X : Cx} {e : List Expr} {t t' : TA} (h : PA X e t) (m : ∀ σ H Q, t' σ H Q → t σ H Q) : PA X e t' := ⟨fun pos pins s σ H Q I q => h.run pos pins s σ H Q I (m σ H Q q)⟩

/-! ### names and scopes -/
theorem isStr_iff {o : Option Str} {x : Str} : isStr o x = true ↔ o = some x := by
  unfold isStr
  cases o with
  | none => simp
  | some y => simp
theorem vis_of {sc : Scope} {x : Str} (h : visB sc x = true) : Vis sc x := by
  unfold visB at h
  split at h
  · rename_i e; exact .inl e
  · rename_i e; exact .inr (.inl e)
  · rename_i e; exact .inr (.inr e)
  · cases h
theorem loc_of {sc : Scope} {x : Str} (h : locB sc x = true) : Loc sc x := by
  unfold locB at h
  split at h
  · rename_i e; exact .inl e
  · rename_i e; exact .inr e
  · cases h
section
variable {Γ : Ctx} {sc : Scope} {X : Cx} {W : WX} {x : Str} {i : Nat}
theorem XS.gl (S : XS Γ sc X) (h : glB sc x = true) : Gl X x ∧ (x == ("__debug__" : Str)) = false ∧ x ≠ "__name__" := by
  unfold glB at h
  simp only [Bool.and_eq_true, Bool.not_eq_true', decide_eq_false_iff_not] at h
  obtain ⟨⟨h1, h2⟩, h3⟩ := h
  refine ⟨?_, h2, h3⟩
  split at h1
  · rename_i e
    show X.env.scope.names.lookup x = _
    rw [S.hs]; exact e
  · cases h1
theorem XS.var (S : XS Γ sc X) {p : Pos} (h : chkV Γ.N sc i x = true) : PE X (.Name x p) (tVar i) := by
  unfold chkV at h
  simp only [Bool.and_eq_true, Bool.not_eq_true'] at h
  obtain ⟨⟨⟨h1, h2⟩, h3⟩, h4⟩ := h
  have h5 := isStr_iff.mp h1
  exact pe_var (by rw [S.N]; exact h5) (by rw [S.hs]; exact vis_of h2) h3 h4
end
theorem plain_star {e : Expr} {es : List Expr} {env : PySem.Env} (h : plainX e = true) : starEach (e :: es) env = (false, eval e env) :: starEach es env := by
  cases e <;> first | rfl | (simp [plainX] at h)
theorem plain_marks {e : Expr} {op : CmpOp} (h : plainX e = true) : behindInMarks op e = false := by
  cases e <;> first | rfl | (simp [plainX] at h)
theorem plain_ix {e : Expr} (h : plainX e = true) : PlainIx e := by
  intro o i
  cases e <;> first | rfl | (simp [plainX] at h)
theorem plain_fold {e : Expr} (h : plainX e = true) (env : PySem.Env) : ∀ x, foldedSetIterable e env x = pure x := by
  intro x
  cases e <;> first | rfl | (simp [plainX] at h)
theorem plain_base {e : Expr} {f : Str} {env : PySem.Env} {w : Sem Value} (h : plainX e = true) : attributeBase e f env w = w := by
  cases e with
  | Call f args kws pos =>
    cases f <;> try rfl
    rename_i id p
    cases args <;> try rfl
    cases kws <;> try rfl
    simp only [plainX, Bool.not_eq_true'] at h
    have h' : (id != ("super" : Str)) = true := by rw [bne, h]; rfl
    unfold attributeBase
    simp only [h', Bool.true_or, if_true]
  | _ => first | rfl | (simp [plainX] at h)

/-! ### new objects, values in hand -/
section
variable {Γ : Ctx} {σ : L2.St} {F F' : Addr → Prop} {H H' : Hp} {env : Env} {T U : List (PV × V)} {x y : PV} {v u : V}
theorem ge_rep (g : Γ.ge σ H F env ((x, v) :: T)) : ∃ fp, Rep Γ.G F H x v fp := Good.rep (x := x) (v := v) g.good
theorem ge_rep2 (g : Γ.ge σ H F env ((y, u) :: (x, v) :: T)) : (∃ fp, Rep Γ.G F H y u fp) ∧ ∃ fp, Rep Γ.G F H x v fp := ⟨ge_rep g, ge_rep g.drop⟩
theorem ge_drop2 (g : Γ.ge σ H F env ((y, u) :: (x, v) :: T)) : Γ.ge σ H F env T := g.drop.drop
theorem ge_pushL (g : Γ.ge σ H F env T) : ∀ {xs : List PV} {vs : List V}, RepL Γ.G F H xs vs [] → Γ.ge σ H F env (xs.zip vs ++ T)
  | [], vs, h => g
  | x :: xs, vs, h => by
    obtain ⟨v, vr, g1, g2, rfl, e, h1, h2⟩ := RepL.cons_iff.mp h
    obtain ⟨rfl, rfl⟩ := List.append_eq_nil_iff.mp e.symm
    exact (ge_pushL g h2).push h1
theorem ge_newLst {xs : List PV} {vs : List V} {p : Addr} (hl : xs.length = vs.length) (g : Γ.ge σ H F env (xs.zip vs ++ T)) (hp : H p = none) : ∃ F', Γ.ge σ (upd H p (.lst vs)) F' env ((.lst true xs, .ref p) :: T) ∧ ∀ a, F a → F' a := by
  obtain ⟨F', h, m⟩ := Good.newLst (R := T ++ rE env σ) hl (by rw [← List.append_assoc]; exact g.good) hp
  exact ⟨F', ⟨h, g.we, g.pin⟩, m⟩
theorem ge_newTup {xs : List PV} {vs : List V} {p : Addr} (hl : xs.length = vs.length) (g : Γ.ge σ H F env (xs.zip vs ++ T)) (hp : H p = none) : ∃ F', Γ.ge σ (upd H p (.tup vs)) F' env ((.tup xs, .ref p) :: T) ∧ ∀ a, F a → F' a := by
  obtain ⟨F', h, m⟩ := Good.newTup (R := T ++ rE env σ) hl (by rw [← List.append_assoc]; exact g.good) hp
  exact ⟨F', ⟨h, g.we, g.pin⟩, m⟩
theorem ge_newDic {p : Addr} (g : Γ.ge σ H F env T) (hp : H p = none) : ∃ F', Γ.ge σ (upd H p (.dK [])) F' env ((.dic true [] [], .ref p) :: T) ∧ ∀ a, F a → F' a := by
  obtain ⟨F', h, m⟩ := Good.newDic (R := T ++ rE env σ) g.good hp
  exact ⟨F', ⟨h, g.we, g.pin⟩, m⟩
/-- a new list of values that own nothing -/
theorem ge_mkLst {xs : List PV} {vs : List V} {p : Addr} (g : Γ.ge σ H F env T) (h : RepL Γ.G F H xs vs []) (hp : H p = none) : ∃ F', Γ.ge σ (upd H p (.lst vs)) F' env ((.lst true xs, .ref p) :: T) ∧ ∀ a, F a → F' a := ge_newLst h.length (ge_pushL g h) hp
theorem ge_mkTup {xs : List PV} {vs : List V} {p : Addr} (g : Γ.ge σ H F env T) (h : RepL Γ.G F H xs vs []) (hp : H p = none) : ∃ F', Γ.ge σ (upd H p (.tup vs)) F' env ((.tup xs, .ref p) :: T) ∧ ∀ a, F a → F' a := ge_newTup h.length (ge_pushL g h) hp

/-- what an operation of two values asks is answered by f -/
def Op2 (Γ : Ctx) (f : PV → PV → Option PV) (r : R2) : Prop := ∀ (σ : L2.St) (H : Hp) (F : Addr → Prop) (env : Env) (T : List (PV × V)) (x y : PV) (v u : V) (z : PV) (Q : VK), Γ.ge σ H F env ((y, u) :: (x, v) :: T) → f x y = some z →
  (∀ w H' F', Γ.ge σ H' F' env ((z, w) :: T) → (∀ a, F a → F' a) → Ext H H' → Q w H') → r v u H Q
end

def rBop (K : PySem.W.Frag) : BOp → R2
  | .add => fun x y H Q => rI0 (fun i j => .int (i + j)) x y H Q ∨ (∃ i j, x = .str i ∧ y = .str j ∧ i.length + j.length ≤ sizeLine ∧ Q (.str (i ++ j)) H) ∨ rCat x y H Q ∨ rCatA K x y H Q
  | .sub => rI0 fun i j => .int (i - j)
  | .mul => fun x y H Q => rI CMul (fun i j => .int (i * j)) x y H Q ∨ rRep x y H Q
  | .fdiv => rI CDiv fun i j => .int (i / j)
  | .mod => rI (fun _ j => 0 < j) fun i j => .int (i % j)
  | .pow => rI CPow fun i j => .int (i ^ j.toNat)
  | .shl => rI CPow fun i j => .int (i * 2 ^ j.toNat)
  | .shr => rI (fun _ j => 0 ≤ j) fun i j => .int (i / 2 ^ j.toNat)
  | .band => rI0 fun i j => .int (Builtin.bitAnd i j)
  | .bor => rI0 fun i j => .int (Builtin.bitOr i j)
  | .bxor => rI0 fun i j => .int (Builtin.bitXor i j)
theorem op_bop {X : Cx} : ∀ {o : BOp} {op : Operator}, bopOk o op = true → OpR X (binaryOp op) (rBop X.K o) := by
  intro o op h
  cases o
  case add =>
    cases op <;> first | (exact absurd h Bool.false_ne_true) | exact op_add.or (op_add_str.or (op_cat.or op_catA))
  case sub =>
    cases op <;> first | (exact absurd h Bool.false_ne_true) | exact op_sub
  case mul =>
    cases op <;> first | (exact absurd h Bool.false_ne_true) | exact op_mul.or op_rep
  case fdiv =>
    cases op <;> first | (exact absurd h Bool.false_ne_true) | exact op_fdiv
  case mod =>
    cases op <;> first | (exact absurd h Bool.false_ne_true) | exact op_mod
  case pow =>
    cases op <;> first | (exact absurd h Bool.false_ne_true) | exact op_pow
  case shl =>
    cases op <;> first | (exact absurd h Bool.false_ne_true) | exact op_shl
  case shr =>
    cases op <;> first | (exact absurd h Bool.false_ne_true) | exact op_shr
  case band =>
    cases op <;> first | (exact absurd h Bool.false_ne_true) | exact op_and
  case bor =>
    cases op <;> first | (exact absurd h Bool.false_ne_true) | exact op_or
  case bxor =>
    cases op <;> first | (exact absurd h Bool.false_ne_true) | exact op_xor
theorem lineB_eq : lineB = sizeLine := by rw [sizeLine_eq]; rfl
theorem mulOk_iff {i j : Int} (h : mulOk i j = true) : CMul i j := by
  unfold mulOk at h
  simp only [Bool.or_eq_true, Bool.and_eq_true, decide_eq_true_eq] at h
  exact h
theorem binI_ok {K : PySem.W.Frag} {o : BOp} {i j n : Int} {H : Hp} {Q : VK} (h : binI o i j = some n) (q : Q (.int n) H) : rBop K o (.int i) (.int j) H Q := by
  cases o <;> simp only [binI] at h <;> (try split at h) <;> first
    | cases h
    | skip
  · exact .inl ⟨i, j, rfl, rfl, q⟩
  · exact ⟨i, j, rfl, rfl, q⟩
  · rename_i c; exact .inl ⟨i, j, rfl, rfl, mulOk_iff c, q⟩
  · rename_i c; exact ⟨i, j, rfl, rfl, c, q⟩
  · rename_i c; exact ⟨i, j, rfl, rfl, c, q⟩
  · rename_i c; exact ⟨i, j, rfl, rfl, c, q⟩
  · rename_i c; exact ⟨i, j, rfl, rfl, c, q⟩
  · rename_i c; exact ⟨i, j, rfl, rfl, c, q⟩
  · exact ⟨i, j, rfl, rfl, q⟩
  · exact ⟨i, j, rfl, rfl, q⟩
  · exact ⟨i, j, rfl, rfl, q⟩
theorem op2_bop {Γ : Ctx} {o : BOp} : Op2 Γ (binop o) (rBop Γ.G.K o) := by
  intro σ H F env T x y v u z Q g h q
  obtain ⟨⟨fy, ry⟩, fx, rx⟩ := ge_rep2 g
  have g0 := ge_drop2 g
  have fin : ∀ {n : Int}, z = .int n → Q (.int n) H := fun {n} e => q _ _ _ (by rw [e]; exact g0.push (mk_int n)) (fun _ h => h) .refl
  unfold binop at h
  split at h
  · rw [rep_int rx, rep_int ry]
    rename_i i j
    cases e : binI o i j with
    | none => rw [e] at h; cases h
    | some n =>
      rw [e] at h; cases h
      exact binI_ok e (fin rfl)
  · rw [rep_str rx, rep_str ry]
    split at h
    · rename_i c; cases h
      rw [lineB_eq] at c
      exact .inr (.inl ⟨_, _, rfl, rfl, c, q _ _ _ (g0.push (mk_str _)) (fun _ h => h) .refl⟩)
    · cases h
  · obtain ⟨a, vs, f1, rfl, ha, hl⟩ := rep_lst rx
    obtain ⟨b, ws, f2, rfl, hb, hk⟩ := rep_lst ry
    split at h
    · rename_i c; cases h
      obtain ⟨c1, c2, c3⟩ := c
      rw [lineB_eq] at c1
      have e1 := nilL_of_frz c2 hl
      have e2 := nilL_of_frz c3 hk
      subst e1 e2
      refine .inr (.inr (.inl ⟨a, b, vs, ws, rfl, rfl, ha, hb, by rw [← hl.length, ← hk.length]; exact c1, fun p hp => ?_⟩))
      obtain ⟨F', g', m⟩ := ge_mkLst g0 (hl.app hk) hp
      exact q _ _ _ g' m (.new hp)
    · cases h
  · obtain ⟨a, vs, f1, rfl, ha, hl⟩ := rep_tup rx
    obtain ⟨b, ws, f2, rfl, hb, hk⟩ := rep_tup ry
    split at h
    · rename_i c; cases h
      obtain ⟨c1, c2, c3⟩ := c
      rw [lineB_eq] at c1
      have e1 := nilL_of_frz c2 hl
      have e2 := nilL_of_frz c3 hk
      subst e1 e2
      have sx := rx; have sy := ry
      rw [nil_of_frz (by unfold PV.frz; exact c2) rx] at sx
      rw [nil_of_frz (by unfold PV.frz; exact c3) ry] at sy
      refine .inr (.inr (.inr ⟨a, b, vs, ws, rfl, rfl, ha, hb, by rw [← hl.length, ← hk.length]; exact c1, fun e => ?_, fun _ e => ?_, fun _ _ p hp => ?_⟩))
      · have l := hl.length
        rw [e] at l
        cases List.length_eq_zero_iff.mp l
        exact q _ _ _ (g0.push sy) (fun _ h => h) .refl
      · have l := hk.length
        rw [e] at l
        cases List.length_eq_zero_iff.mp l
        rw [List.append_nil] at *
        exact q _ _ _ (g0.push sx) (fun _ h => h) .refl
      · obtain ⟨F', g', m⟩ := ge_mkTup g0 (hl.app hk) hp
        exact q _ _ _ g' m (.new hp)
    · cases h
  · obtain ⟨a, vs, f1, rfl, ha, hl⟩ := rep_lst rx
    rw [rep_int ry]
    split at h
    · rename_i c; cases h
      obtain ⟨c1, c2, c3, c4⟩ := c
      rw [lineB_eq] at c3
      have e1 := nilL_of_frz c4 hl
      subst e1
      refine .inr ⟨a, _, vs, rfl, rfl, ha, by omega, by omega, by rw [← hl.length]; exact c3, fun p hp => ?_⟩
      obtain ⟨F', g', m⟩ := ge_mkLst g0 (hl.rep _) hp
      exact q _ _ _ g' m (.new hp)
    · cases h
  · cases h
end Z

set_option Elab.async false
set_option linter.all false
set_option maxRecDepth 100000
/-! Z5: the operations of two values, of one value. -/
namespace Z
open PySem L2

/-! ### keys -/
section
variable {G : Txt} {F F' : Addr → Prop} {H H' : Hp}
theorem keyP_rep {x : PV} {v : V} {fp : List Addr} {k : L2.Key} (h : keyP x = some k) (r : Rep G F H x v fp) : v = kV k := by
  cases x <;> simp only [keyP] at h <;> cases h
  · rw [rep_int r]; rfl
  · rw [rep_str r]; rfl
theorem valV_cons {k q : L2.Key} {v : V} {kvs : List (L2.Key × V)} : valV ((k, v) :: kvs) q = if k = q then some v else valV kvs q := by
  unfold valV
  rw [List.find?_cons]
  by_cases e : k = q
  · simp [e]
  · simp [e]
theorem flatP_rep {x : PV} {v : V} {fp : List Addr} (h : flatP x = true) (r : Rep G F H x v fp) : flatV v = true := by
  cases x <;> simp only [flatP] at h <;> (first | cases h; done | skip)
  · rw [rep_non r]; rfl
  · rw [rep_bl r]; rfl
  · rw [rep_int r]; rfl
  · rw [rep_str r]; rfl
theorem valP_rep : ∀ {ks : List L2.Key} {xs : List PV} {vs : List V} {fp : List Addr} {q : L2.Key}, ks.length = xs.length → RepL G F H xs vs fp →
    (valP ks xs q).isSome = (valV (ks.zip vs) q).isSome ∧ ∀ x, valP ks xs q = some x → ∃ v f, valV (ks.zip vs) q = some v ∧ Rep G F H x v f ∧ ∀ a ∈ f, a ∈ fp
  | [], xs, vs, fp, q, hl, h => by
    cases xs with
    | nil => exact ⟨by simp [valP, valV], fun x e => by simp [valP] at e⟩
    | cons => simp at hl
  | k :: ks, xs, vs, fp, q, hl, h => by
    cases xs with
    | nil => simp at hl
    | cons x xs =>
      obtain ⟨v, vr, f1, f2, rfl, rfl, h1, h2⟩ := RepL.cons_iff.mp h
      have ih := valP_rep (q := q) (by simpa using hl) h2
      simp only [valP, List.zip_cons_cons, valV_cons]
      by_cases e : k = q
      · simp only [e, if_true]
        exact ⟨rfl, fun y z => by cases z; exact ⟨v, f1, rfl, h1, fun a m => List.mem_append_left _ m⟩⟩
      · simp only [e, if_false]
        refine ⟨ih.1, fun y z => ?_⟩
        obtain ⟨v', f, a1, a2, a3⟩ := ih.2 y z
        exact ⟨v', f, a1, a2, fun a m => List.mem_append_right _ (a3 a m)⟩
end

/-! ### comparisons -/
def rDIn (neg : Bool) : R2 := fun y x H Q => ∃ a o, x = .ref a ∧ DGet H a y o ∧ Q (.bl (if neg then !o.isSome else o.isSome)) H
theorem op_din {X : Cx} (hu : X.A.units + 1 < cLine) : OpR X (compareOp .In) (rDIn false) := by
  intro pins s σ H x y v u Q I rx ry h
  obtain ⟨a, o, rfl, g, q⟩ := h
  cases ry
  exact d_in hu I g rx fun s' I' => ⟨.bl _, H, I', rfl, q⟩
theorem op_dnotin {X : Cx} (hu : X.A.units + 1 < cLine) : OpR X (compareOp .NotIn) (rDIn true) := by
  intro pins s σ H x y v u Q I rx ry h
  obtain ⟨a, o, rfl, g, q⟩ := h
  cases ry
  exact d_notIn hu I g rx fun s' I' => ⟨.bl _, H, I', rfl, q⟩
def rCop (K : PySem.W.Frag) : COp → R2
  | .lt => rI0 fun i j => .bl (decide (i < j))
  | .le => rI0 fun i j => .bl (decide (i ≤ j))
  | .gt => rI0 fun i j => .bl (decide (j < i))
  | .ge => rI0 fun i j => .bl (decide (j ≤ i))
  | .eq => fun x y H Q => rEq x y H Q ∨ rEqD K x y H Q
  | .ne => fun x y H Q => rNe x y H Q ∨ rNeD K x y H Q
  | .isn => fun x y H Q => y = .non ∧ Q (.bl (decide (x = .non))) H
  | .notn => fun x y H Q => y = .non ∧ Q (.bl (!decide (x = .non))) H
  | .isin => fun x y H Q => rIn K false x y H Q ∨ (∃ i j, x = .str i ∧ y = .str j ∧ Q (.bl (!(Builtin.Str.occurrences j i 0 j.length 1).isEmpty)) H) ∨ rDIn false x y H Q
  | .notin => fun x y H Q => rIn K true x y H Q ∨ (∃ i j, x = .str i ∧ y = .str j ∧ Q (.bl (!(!(Builtin.Str.occurrences j i 0 j.length 1).isEmpty))) H) ∨ rDIn true x y H Q
theorem op_cop {X : Cx} (hu : X.A.units + 64 < cLine) : ∀ {o : COp} {op : CmpOp}, copOk o op = true → OpR X (compareOp op) (rCop X.K o) := by
  intro o op h
  cases o
  case lt =>
    cases op <;> first | (exact absurd h Bool.false_ne_true) | exact op_lt
  case le =>
    cases op <;> first | (exact absurd h Bool.false_ne_true) | exact op_le
  case gt =>
    cases op <;> first | (exact absurd h Bool.false_ne_true) | exact op_gt
  case ge =>
    cases op <;> first | (exact absurd h Bool.false_ne_true) | exact op_ge
  case eq =>
    cases op <;> first | (exact absurd h Bool.false_ne_true) | exact op_eq.or (op_eqD hu)
  case ne =>
    cases op <;> first | (exact absurd h Bool.false_ne_true) | exact op_ne.or (op_neD hu)
  case isn =>
    cases op <;> first | (exact absurd h Bool.false_ne_true) | exact op_isN
  case notn =>
    cases op <;> first | (exact absurd h Bool.false_ne_true) | exact op_notN
  case isin =>
    cases op <;> first | (exact absurd h Bool.false_ne_true) | exact op_in_seq.or (op_in_str.or (op_din (by omega)))
  case notin =>
    cases op <;> first | (exact absurd h Bool.false_ne_true) | exact op_notIn_seq.or (op_notin_str.or (op_dnotin (by omega)))

section
variable {G : Txt} {F F' : Addr → Prop} {H H' : Hp}
theorem scal_rep {x y : PV} {v u : V} {f1 f2 : List Addr} {b : Bool} (h : scal x y = some b) (rx : Rep G F H x v f1) (ry : Rep G F' H' y u f2) : L2.scal v u = true ∧ decide (v = u) = b := by
  unfold scal at h
  split at h <;> cases h <;> (first | rw [rep_non rx] | rw [rep_int rx] | rw [rep_bl rx] | rw [rep_str rx]) <;> (first | rw [rep_non ry] | rw [rep_int ry] | rw [rep_bl ry] | rw [rep_str ry]) <;> refine ⟨rfl, ?_⟩ <;> simp
theorem scal_flat {x y : PV} {v u : V} {f1 f2 : List Addr} {b : Bool} (h : scal x y = some b) (rx : Rep G F H x v f1) (ry : Rep G F' H' y u f2) : flatV v = true ∧ flatV u = true ∧ eqV v u = b := by
  unfold scal at h
  split at h <;> cases h <;> (first | rw [rep_non rx] | rw [rep_int rx] | rw [rep_bl rx] | rw [rep_str rx]) <;> (first | rw [rep_non ry] | rw [rep_int ry] | rw [rep_bl ry] | rw [rep_str ry]) <;> refine ⟨rfl, rfl, ?_⟩ <;> simp [eqV] <;> rw [Bool.eq_iff_iff] <;> simp
theorem inL_rep {x : PV} {v : V} {f1 : List Addr} (rx : Rep G F H x v f1) : ∀ {ys : List PV} {us : List V} {fp : List Addr} {b : Bool}, inP.inL x ys = some b → RepL G F' H' ys us fp → us.all flatV = true ∧ inV v us = b
  | [], us, fp, b, h, r => by
    obtain ⟨rfl, _⟩ := RepL.nil_iff.mp r
    unfold inP.inL at h; cases h
    exact ⟨rfl, rfl⟩
  | y :: ys, us, fp, b, h, r => by
    obtain ⟨w, ur, g1, g2, rfl, rfl, h1, h2⟩ := RepL.cons_iff.mp r
    unfold inP.inL at h
    cases e1 : scal y x with
    | none => rw [e1] at h; cases h
    | some a =>
      cases e2 : inP.inL x ys with
      | none => rw [e1, e2] at h; cases h
      | some b2 =>
        rw [e1, e2] at h; cases h
        obtain ⟨q1, q2, q3⟩ := scal_flat e1 h1 rx
        obtain ⟨p2, p3⟩ := inL_rep rx e2 h2
        refine ⟨by rw [List.all_cons, q1, p2]; rfl, ?_⟩
        show (eqV w v || inV v ur) = (a || b2)
        rw [q3, p3]
/-- what a container holds, as it is looked at: F, H the state at which it was seen -/
theorem inP_rep {K : PySem.W.Frag} {neg : Bool} {x c : PV} {v u : V} {f1 f2 : List Addr} {b : Bool} {Q : VK} (hK : K = G.K) (h : inP x c = some b) (rx : Rep G F H x v f1) (rc : Rep G F' H' c u f2) {H2 : Hp} (e : Ext H' H2) (q : Q (.bl (if neg then !b else b)) H2) :
    rIn K neg v u H2 Q ∨ (∃ i j, v = .str i ∧ u = .str j ∧ Q (.bl (if neg then !(!(Builtin.Str.occurrences j i 0 j.length 1).isEmpty) else !(Builtin.Str.occurrences j i 0 j.length 1).isEmpty)) H2) ∨ rDIn neg v u H2 Q := by
  subst hK
  unfold inP at h
  split at h
  · split at h
    · rename_i c
      obtain ⟨a, vs, fl, rfl, ha, hl⟩ := rep_lst rc
      obtain ⟨p1, p2⟩ := inL_rep rx h hl
      exact .inl ⟨a, vs, rfl, .inl (.of (e _ _ ha)), flatP_rep c rx, p1, by rw [p2]; exact q⟩
    · cases h
  · split at h
    · rename_i c
      obtain ⟨a, vs, fl, rfl, ha, hl⟩ := rep_tup rc
      obtain ⟨p1, p2⟩ := inL_rep rx h hl
      refine .inl ⟨a, vs, rfl, .inr ?_, flatP_rep c rx, p1, by rw [p2]; exact q⟩
      rcases ha with (ha | ha) | ha
      · exact .inl (.inl (e _ _ ha))
      · exact .inl (.inr ⟨_, e _ _ ha.choose_spec⟩)
      · exact .inr ha
    · cases h
  · obtain ⟨a, vs, fl, rfl, ha, hk, hl⟩ := rep_dic rc
    cases k : keyP x with
    | none => rw [k] at h; cases h
    | some kq =>
      rw [k] at h; cases h
      refine .inr (.inr ⟨a, valV (_ : List (L2.Key × V)) kq, rfl, by rw [keyP_rep k rx]; exact .k (e _ _ ha), ?_⟩)
      · rw [← (valP_rep hk hl).1]; exact q
  · rw [rep_str rc]
    split at h
    · rw [rep_str rx]; cases h
      exact .inr (.inl ⟨_, _, rfl, rfl, q⟩)
    · cases h
  · cases h
end

theorem isNon_rep {G : Txt} {F : Addr → Prop} {H : Hp} {x : PV} {v : V} {fp : List Addr} (rx : Rep G F H x v fp) : decide (v = V.non) = isNon x := by
  cases x
  case non => rw [rep_non rx]; rfl
  case bl => rw [rep_bl rx]; rfl
  case int => rw [rep_int rx]; rfl
  case str => rw [rep_str rx]; rfl
  case lst => obtain ⟨a, _, _, rfl, _⟩ := rep_lst rx; rfl
  case tup => obtain ⟨a, _, _, rfl, _⟩ := rep_tup rx; rfl
  case dic => obtain ⟨a, _, _, rfl, _⟩ := rep_dic rx; rfl
  case obj => obtain ⟨a, _, _, _, _, _, rfl, _⟩ := rep_obj rx; rfl
  case scr => unfold Rep at rx; obtain ⟨a, rfl, _⟩ := rx; rfl
section
variable {Γ : Ctx}
theorem op2_cop {o : COp} : Op2 Γ (fun x y => (cmpop o x y).map .bl) (rCop Γ.G.K o) := by
  intro σ H F env T x y v u z Q g h q
  obtain ⟨⟨fy, ry⟩, fx, rx⟩ := ge_rep2 g
  have g0 := ge_drop2 g
  cases hb : cmpop o x y with
  | none => simp only [hb] at h; cases h
  | some b =>
    simp only [hb] at h
    cases h
    have fin : Q (.bl b) H := q _ _ _ (g0.push (mk_bl b)) (fun _ h => h) .refl
    unfold cmpop at hb
    split at hb
    · cases hb; exact ⟨_, _, rep_int rx, rep_int ry, fin⟩
    · cases hb; exact ⟨_, _, rep_int rx, rep_int ry, fin⟩
    · cases hb; exact ⟨_, _, rep_int rx, rep_int ry, fin⟩
    · cases hb; exact ⟨_, _, rep_int rx, rep_int ry, fin⟩
    · unfold eqP at hb
      split at hb
      · rename_i e; cases hb
        obtain ⟨q1, q2⟩ := scal_rep e rx ry
        exact .inl ⟨q1, by rw [q2]; exact fin⟩
      · unfold eqD at hb
        split at hb
        · rename_i e1 e2
          split at hb
          · rename_i c; cases hb
            exact .inr ⟨_, _, rep_dat e1 rx, rep_dat e2 ry, c.1, c.2, fin⟩
          · cases hb
        · cases hb
    · cases hb2 : eqP x y with
      | none => rw [hb2] at hb; cases hb
      | some b2 =>
        rw [hb2] at hb; cases hb
        unfold eqP at hb2
        split at hb2
        · rename_i e; cases hb2
          obtain ⟨q1, q2⟩ := scal_rep e rx ry
          exact .inl ⟨q1, by rw [q2]; exact fin⟩
        · unfold eqD at hb2
          split at hb2
          · rename_i e1 e2
            split at hb2
            · rename_i c; cases hb2
              exact .inr ⟨_, _, rep_dat e1 rx, rep_dat e2 ry, c.1, c.2, fin⟩
            · cases hb2
          · cases hb2
    · cases hb
      refine ⟨rep_non ry, ?_⟩
      rw [isNon_rep rx]; exact fin
    · cases hb
      refine ⟨rep_non ry, ?_⟩
      rw [isNon_rep rx]; exact fin
    · exact inP_rep (neg := false) rfl hb rx ry .refl fin
    · cases hb2 : inP x y with
      | none => rw [hb2] at hb; cases hb
      | some b2 =>
        rw [hb2] at hb; cases hb
        exact inP_rep (neg := true) rfl hb2 rx ry .refl fin
    · cases hb
end

/-! ### items -/
theorem frz_fz_rep {G : Txt} {F : Addr → Prop} {H : Hp} {x : PV} {v : V} {fp : List Addr} (r : Rep G F H x v fp) : x.fz.frz = true := frz_of_nil (r.fz (F' := fun _ => True) (fun _ _ => trivial) fun _ _ => trivial)
def rDG : R2 := fun x y H Q => ∃ a v, x = .ref a ∧ DGet H a y (some v) ∧ Q v H
theorem ix_dct {X : Cx} (hu : X.A.units + 1 < cLine) : IxR X rDG := by
  intro value slice pins s σ H x y v u Q I rx ry h hs
  obtain ⟨a, w, rfl, g, q⟩ := h
  cases rx
  exact PyProof.Rows.tail_any (dict_typeIs I g) PySem.F.slot_dict_getitem.lookup (d_getItem hu I g ry fun w' s3 I3 rw' => ⟨w, H, I3, rw', q⟩) hs
def rItem (K : PySem.W.Frag) : R2 := fun x y H Q => rIx K x y H Q ∨ rDG x y H Q
theorem ix_all {X : Cx} (hu : X.A.units + 1 < cLine) : IxR X (rItem X.K) := ix_seq.or (ix_dct hu)
theorem ixN_eq (n : Nat) (i : Int) : ixN n i = L2.ixN n i := rfl
section
variable {G : Txt} {F F' : Addr → Prop} {H H' : Hp}
theorem getI_rep {xs : List PV} {vs : List V} {fp : List Addr} {i : Int} {x : PV} (h : getI xs i = some x) (r : RepL G F H xs vs fp) : ∃ v f, L2.atI vs i = some v ∧ Rep G F H x v f ∧ ∀ a ∈ f, a ∈ fp := by
  unfold getI at h
  cases e : ixN xs.length i with
  | none => rw [e] at h; cases h
  | some j =>
    rw [e] at h
    obtain ⟨v, f, e1, r1, m⟩ := r.get h
    refine ⟨v, f, ?_, r1, m⟩
    unfold L2.atI
    rw [← r.length, ← ixN_eq, e]
    exact e1
/-- an item, looked at -/
theorem item_rep {K : PySem.W.Frag} {c k z : PV} {v u : V} {f1 f2 : List Addr} (hK : K = G.K) (h : item c k = some z) (rc : Rep G F H c v f1) (rk : Rep G F' H' k u f2) :
    ∃ w f, Rep G F H z w f ∧ (∀ a ∈ f, a ∈ f1) ∧ ∀ {H2 : Hp} {Q : VK}, Ext H H2 → Q w H2 → rItem K v u H2 Q := by
  subst hK
  unfold item at h
  split at h
  · unfold Rep at rc
    obtain ⟨a, vs, fl, rfl, ha, hl, ho⟩ := rc
    obtain ⟨w, f, e1, r1, m⟩ := getI_rep h hl
    refine ⟨w, f, r1, fun b hb => ?_, fun {H2 Q} e q => .inl (.inl ⟨a, vs, _, w, rfl, rep_int rk, .of (e _ _ ha), e1, q⟩)⟩
    rcases ho with ⟨_, _, rfl⟩ | ⟨_, _, e, _⟩
    · exact List.mem_cons_of_mem _ (m b hb)
    · rw [e] at m; exact absurd (m b hb) (by simp)
  · obtain ⟨a, vs, rfl, ha, hl⟩ := (by unfold Rep at rc; exact rc : ∃ a vs, v = .ref a ∧ ((H a = some (.tup vs) ∧ F a) ∨ KTup G.K a vs) ∧ RepL G F H _ vs f1)
    obtain ⟨w, f, e1, r1, m⟩ := getI_rep h hl
    refine ⟨w, f, r1, m, fun {H2 Q} e q => .inl (.inr (.inl ⟨a, vs, _, w, rfl, rep_int rk, ?_, e1, q⟩))⟩
    rcases ha with ⟨ha, _⟩ | ha
    · exact .inl (.inl (e _ _ ha))
    · exact .inr ha
  · unfold Rep at rc
    obtain ⟨a, vs, fl, rfl, ha, hk, hl, ho⟩ := rc
    cases e : keyP k with
    | none => rw [e] at h; cases h
    | some q =>
      rw [e] at h
      obtain ⟨w, f, e1, r1, m⟩ := (valP_rep (q := q) hk hl).2 z h
      refine ⟨w, f, r1, fun b hb => ?_, fun {H2 Q} e2 q => .inr ⟨a, w, rfl, ?_, q⟩⟩
      · rcases ho with ⟨_, _, rfl⟩ | ⟨_, _, e, _⟩
        · exact List.mem_cons_of_mem _ (m b hb)
        · rw [e] at m; exact absurd (m b hb) (by simp)
      · rw [keyP_rep e rk, ← e1]; exact .k (e2 _ _ ha)
  · split at h
    · rename_i s i c
      rw [rep_str rc, rep_int rk]
      cases e : ixN s.cps.toList.length i with
      | none => rw [e] at h; cases h
      | some j =>
        rw [e] at h
        cases e2 : s.cps.toList[j]? with
        | none =>
          have h' : Option.map (fun c => PV.str ⟨#[c]⟩) (s.cps.toList[j]?) = some z := h
          rw [e2] at h'; cases h'
        | some d =>
          have h' : Option.map (fun c => PV.str ⟨#[c]⟩) (s.cps.toList[j]?) = some z := h
          rw [e2] at h'
          cases h'
          refine ⟨.str ⟨#[d]⟩, [], mk_str _, (fun _ h => nomatch h), fun {H2 Q} e3 q => .inl (.inr (.inr ⟨s, i, d, rfl, rfl, by rw [← lineB_eq]; exact c, ?_, q⟩))⟩
          unfold L2.atI
          rw [← ixN_eq, e]; exact e2
    · cases h
  · cases h
end
section
variable {Γ : Ctx}
/-- an item of a value that is given up -/
theorem op2_item : Op2 Γ (fun x y => item x.fz y) (rItem Γ.G.K) := by
  intro σ H F env T x y v u z Q g h q
  have g1 : Γ.ge σ H F env ((x, v) :: (y, u) :: T) := g.perm (.swap ..)
  obtain ⟨F', g2, m⟩ := g1.fz
  obtain ⟨⟨fx, rx⟩, fy, ry⟩ := ge_rep2 g2
  have rx := g2.good.repF (x := x.fz) (v := v) (frz_fz_rep (ge_rep2 g).2.choose_spec)
  obtain ⟨w, f, r1, mf, k⟩ := item_rep rfl h rx ry
  have ef : f = [] := List.eq_nil_iff_forall_not_mem.mpr fun a ha => by have := mf a ha; simp at this
  subst ef
  exact k .refl (q w H F' ((ge_drop2 g2).push r1) m .refl)
end

/-! ### slices -/
def rSlX (K : PySem.W.Frag) : V → Option Int → Option Int → Hp → VK → Prop := fun x lo hi H Q => rSlL K x lo hi H Q ∨ rSlA K x lo hi H Q
theorem sl_all {X : Cx} : SlR X (rSlX X.K) := sl_list.or sl_tupA
section
variable {Γ : Ctx} {σ : L2.St} {H : Hp} {F : Addr → Prop} {env : Env} {T : List (PV × V)}
theorem cut_rep {G : Txt} {xs : List PV} {vs : List V} {lo hi : Option Int} (r : RepL G F H xs vs []) : RepL G F H (cut xs lo hi) (cutV vs lo hi) [] := by
  unfold cut cutV
  rw [r.length]
  exact (r.drop _).take _
theorem slice_ok {x z : PV} {v : V} {lo hi : Option Int} {Q : VK} (g : Γ.ge σ H F env ((x, v) :: T)) (h : slice x lo hi = some z)
    (q : ∀ w H' F', Γ.ge σ H' F' env ((z, w) :: T) → (∀ a, F a → F' a) → Ext H H' → Q w H') : rSlX Γ.G.K v lo hi H Q := by
  obtain ⟨f, r⟩ := ge_rep g
  have g0 := g.drop
  unfold slice at h
  split at h
  · split at h
    · rename_i c; cases h
      obtain ⟨a, vs, fl, rfl, ha, hl⟩ := rep_lst r
      have e := nilL_of_frz c hl
      subst e
      refine .inl ⟨a, vs, rfl, .of ha, fun p hp => ?_⟩
      obtain ⟨F', g', m⟩ := ge_mkLst g0 (cut_rep hl) hp
      exact q _ _ _ g' m (.new hp)
    · cases h
  · split at h
    · rename_i c; cases h
      have r' := g.good.repF (x := .tup _) (v := v) (by unfold PV.frz; exact c)
      have e := nil_of_frz (x := .tup _) (by unfold PV.frz; exact c) r
      subst e
      obtain ⟨a, vs, fl, rfl, ha, hl⟩ := rep_tup r'
      have e := nilL_of_frz c hl
      subst e
      refine .inr ⟨a, vs, rfl, ha, fun w => ?_, fun w p hp => ?_⟩
      · refine q _ _ _ (g0.push (x := .tup (cut _ lo hi)) ?_) (fun _ h => h) .refl
        have e : cut _ lo hi = _ := (by unfold cut; rw [hl.length, w.1, w.2, List.drop_zero, Nat.sub_zero, ← hl.length, List.take_length] : cut _ lo hi = _)
        rw [e]; exact r
      · obtain ⟨F', g', m⟩ := ge_mkTup g0 (cut_rep hl) hp
        exact q _ _ _ g' m (.new hp)
    · cases h
  · cases h
    rename_i ns
    obtain ⟨a, rfl, ha, _⟩ := (by unfold Rep at r; exact r : ∃ a, v = .ref a ∧ ((∃ o, H a = some (.frz o (.lst (ns.map .int))) ∧ F a) ∨ KLst Γ.G.K a (ns.map .int)) ∧ f = [])
    have hs : SqL Γ.G.K H a (ns.map V.int) := by
      rcases ha with ⟨o, ha, _⟩ | ha
      · exact .inl (.inr ⟨o, ha⟩)
      · exact .inr ha
    refine .inl ⟨a, _, rfl, hs, fun p hp => ?_⟩
    obtain ⟨F', g', m⟩ := ge_mkLst g0 (mkL_ints _) hp
    refine q (.ref p) _ F' ?_ m (.new hp)
    have e : cutV (ns.map V.int) lo hi = (((ns.drop (HT.sIx ns.length 0 lo)).take (HT.sIx ns.length ns.length hi - HT.sIx ns.length 0 lo))).map V.int := by
      unfold cutV
      rw [List.length_map, List.map_take, List.map_drop]
    rw [e]; exact g'
  · cases h
end
end Z

set_option Elab.async false
set_option linter.all false
set_option maxRecDepth 100000
/-! Z6: t[::-1] of a tuple. -/
namespace HT
open PySem PyProof.Rows
section
variable {prog : Program} {w : World} {A : Around} {E : Value → Shared → Prop} {s : Shared}
theorem adjust_rev (n : Nat) : Builtin.Slice.sliceAdjust none none (-1) (n : Int) = ((n : Int) - 1, -1) := by
  unfold Builtin.Slice.sliceAdjust
  rfl
theorem places_rev (n : Nat) : Builtin.Slice.slicePlaces ((n : Int) - 1) (-1) (-1) = n := by
  unfold Builtin.Slice.slicePlaces
  rw [if_neg (by decide)]
  split
  · simp only [Int.neg_neg, Int.ediv_one]; omega
  · omega
theorem sliceApplied_rev {sl : Addr} {vl vu vs : Value} {n : Nat} {Q : Int × Int × Nat → Shared → Prop} (hs : s.heap.IsSliceOf sl vl vu vs) (pl : IsPart vl none) (pu : IsPart vu none) (ps : IsPart vs (some (-1)))
    (h : Q ((n : Int) - 1, -1, n) s) : wpAny (model prog w) A (Builtin.Slice.sliceApplied (.ref sl) (pure (n : Int))) Q E s := by
  obtain ⟨os, hos, hcs, hds⟩ := id hs
  unfold Builtin.Slice.sliceApplied Builtin.Slice.sliceFields
  refine wpAny_bind (wpAny_bind (wpAny_field hos hds (x := vl) rfl (wpAny_bind (wpAny_field hos hds (x := vu) rfl (wpAny_bind (wpAny_field hos hds (x := vs) rfl (wpAny_pure ?_)))))))
  refine wpAny_bind (slicePart_ ps ?_)
  show wpAny _ _ (if ((-1 : Int) == 0) = true then _ else _) _ _ s
  rw [if_neg (by decide)]
  refine wpAny_bind (slicePart_ pl (wpAny_bind (slicePart_ pu (wpAny_bind (wpAny_pure ?_)))))
  show wpAny _ _ (match Builtin.Slice.sliceAdjust none none (-1) (n : Int) with | (lo, hi) => pure (lo, (-1 : Int), Builtin.Slice.slicePlaces lo hi (-1))) _ _ s
  rw [adjust_rev n]
  show wpAny _ _ (pure ((n : Int) - 1, (-1 : Int), Builtin.Slice.slicePlaces ((n : Int) - 1) (-1) (-1))) _ _ s
  rw [places_rev]
  exact wpAny_pure h
theorem fm_congr {α β : Type} {f g : α → Option β} : ∀ {xs : List α}, (∀ x ∈ xs, f x = g x) → xs.filterMap f = xs.filterMap g
  | [], _ => rfl
  | x :: xs, h => by rw [List.filterMap_cons, List.filterMap_cons, h x List.mem_cons_self, fm_congr fun y hy => h y (List.mem_cons_of_mem _ hy)]
theorem pick_rev (xs : Array Value) : ((List.range xs.size).filterMap fun (m : Nat) => xs[((xs.size : Int) - 1 + (m : Int) * (-1)).toNat]?).toArray = xs.toList.reverse.toArray := by
  have h := PySem.W.krv_pick xs
  rw [← h]
  unfold slicePick
  rw [PySem.W.krv_bounds]
  show _ = ((sliceRange ((xs.size : Int) - 1) (-1) (-1)).filterMap (xs[·]?)).toArray
  rw [PySem.W.krv_sliceRange, List.filterMap_map]
  congr 1
  refine fm_congr ?_
  intro m hm
  have := List.mem_range.mp hm
  show xs[((xs.size : Int) - 1 + (m : Int) * (-1)).toNat]? = xs[xs.size - 1 - m]?
  congr 1
  omega
theorem getItem_tuple_rev {t sl : Addr} {items : Array Value} {vl vu vs : Value} {Q : Value → Shared → Prop} (ht : IsTup s.heap t items) (hs : s.heap.IsSliceOf sl vl vu vs) (pl : IsPart vl none) (pu : IsPart vu none) (ps : IsPart vs (some (-1)))
    (h : Q (.ref s.heap.objs.size) { s with heap := s.heap.push { cls := .type "tuple", data := .seq items.toList.reverse.toArray } })
    (hsz : items.size ≤ sizeLine) : wpAny (model prog w) A (getItem (.ref t) (.ref sl)) Q E s := by
  have htake : sizeOk (.seq items.toList.reverse.toArray) := by
    show items.toList.reverse.toArray.size ≤ sizeLine
    rw [List.size_toArray, List.length_reverse, Array.length_toList]
    exact hsz
  obtain ⟨os, hos, hcs, hds⟩ := id hs
  have hTs : s.TypeIs (.ref sl) "slice" := ⟨os, hos, hcs⟩
  unfold getItem
  try with_reducible refine wpAny_holding ?_
  first | refine wpAny_bind (wpAny_pure ?_) | skip
  refine wpAny_bind (wpAny_sequenceKey ht.typeIs (by decide) ?_)
  refine wpAny_bind (wpAny_callSpecial?_slot (name := Str.ofString "__getitem__") ht.typeIs PyProof.Rows.slot_tuple_getitem
    (wpAny_call_entry PyProof.Rows.slot_tuple_getitem ht.typeIs entry_tuple_getitem ?_ (args_tuple_getitem _ _)))
  show wpAny _ _ (Builtin.Tuple.tupleItemsOf (.ref t) >>= _) _ _ s
  refine wpAny_bind (tupleItemsOf_ ht ?_)
  refine wpAny_bind (wpAny_typeOf hTs ?_)
  rw [if_pos (by decide)]
  refine wpAny_bind (sliceApplied_rev hs pl pu ps ?_)
  have hno : ¬ ((((items.size : Int) - 1) == 0 && (-1 : Int) == 1 && items.size == items.size) = true) := by
    intro q
    rw [Bool.and_eq_true, Bool.and_eq_true] at q
    exact absurd q.1.2 (by decide)
  show wpAny _ _ (if (((items.size : Int) - 1) == 0 && (-1 : Int) == 1 && items.size == items.size) = true then _ else _) _ _ s
  rw [if_neg hno, pick_rev]
  first
    | exact wpAny_bind (m := Builtin.Tuple.tupleExact _) (wpAny_newObj_type (wpAny_pure ⟨_, rfl, wpAny_pure h⟩) htake)
    | exact wpAny_bind (m := Builtin.Tuple.tupleExact _) (wpAny_newObj_type (wpAny_bind (wpAny_pure (wpAny_pure ⟨_, rfl, wpAny_pure h⟩))) htake)
    | exact wpAny_bind (wpAny_bind (m := Builtin.Tuple.tupleExact _) (wpAny_newObj_type (wpAny_pure (wpAny_pure ⟨_, rfl, wpAny_pure h⟩)) htake))
    | exact wpAny_bind (wpAny_bind (m := Builtin.Tuple.tupleExact _) (wpAny_newObj_type (wpAny_pure ⟨_, rfl, wpAny_pure h⟩) htake))
end
end HT
namespace Z
open PySem L2 PySem.Spec PyProof.Rows
def tRevX (K : PySem.W.Frag) (te : TE) : TE := fun σ H Q => te σ H fun x H1 => (∃ a xs, x = .ref a ∧ SqL K H1 a xs ∧ ∀ p, H1 p = none → Q (.ref p) (upd H1 p (.lst xs.reverse))) ∨ ∃ a xs, x = .ref a ∧ SqT K H1 a xs ∧ ∀ p, H1 p = none → Q (.ref p) (upd H1 p (.tup xs.reverse))
theorem pe_revX {X : Cx} {e : Expr} {te : TE} {k : Nat} {p1 p2 p3 pos : Pos} (he : PE X e te) : PE X (.Subscript e (.Slice none none (some (.UnaryOp .USub (.Constant (.int 1) k p1) p2)) p3) pos) (tRevX X.K te) := by
  refine ⟨fun pins s σ H Q I h => ?_⟩
  refine Subscript_ (thn (he.run pins s σ H _ I h) fun v s1 ⟨x, H1, I1, r1, q1⟩ => ?_)
  have hst : PO X (some (.UnaryOp .USub (.Constant (.int 1) k p1) p2)) (tPart (tUn (rU fun i => .int (-i)) (tC (.int 1)))) := po_some (pe_un un_neg pe_int)
  refine wpAny_Slice (thn (po_none.run pins s1 σ H1 (fun o H2 => o = none ∧ H2 = H1) I1 ⟨rfl, rfl⟩) fun vl s2 ⟨l, H2, I2, pl, el, e2⟩ => ?_)
  subst el e2
  refine thn (po_none.run pins s2 σ H2 (fun o H3 => o = none ∧ H3 = H2) I2 ⟨rfl, rfl⟩) fun vu s3 ⟨u, H3, I3, pu, eu, e3⟩ => ?_
  subst eu e3
  refine thn (hst.run pins s3 σ H3 (fun o H4 => o = some (-1) ∧ H4 = H3) I3 ⟨1, rfl, -1, rfl, rfl, rfl⟩) fun vs s4 ⟨o, H4, I4, ps, eo, e4⟩ => ?_
  subst eo e4
  have I5 : Inv X pins σ H4 { s4 with heap := s4.heap.push { cls := .type "slice", data := .fields #[vl, vu, vs] } } := I4.kept (t' := s4.toks) fun b ob q => Heap.get?_push_of_some _ q
  rcases q1 with ⟨a, xs, ex, hx, q⟩ | ⟨a, xs, ex, hx, q⟩
  · subst ex
    cases r1
    obtain ⟨its, r, ht, hz⟩ := I5.list hx
    have hlen := r.length
    show wpAny (model X.prog X.w) X.A (subscriptTail e (.Slice none none (some (.UnaryOp .USub (.Constant (.int 1) k p1) p2)) p3) (.ref a) (.ref s4.heap.objs.size)) (EP X pins σ Q) X.xe { s4 with heap := s4.heap.push { cls := .type "slice", data := .fields #[vl, vu, vs] } }
    refine tail_any (ops := [.ref a, .ref s4.heap.objs.size]) ht.isList.typeIs (PySem.slot_list_getitem.lookup) ?_ (by with_unfolding_all rfl)
    refine wpAny_getItem_list_slice ht.isList (Heap.IsSliceOf.new _ vl vu vs) pl pu ps (by decide) ?_ (by rw [List.size_toArray]; omega)
    rw [PySem.W.krv_pick]
    refine ⟨.ref _, _, I5.laid (t' := s4.toks) (o := .lst xs.reverse) (fun b ob q => Heap.get?_push_of_some _ q) (Nat.le_refl _) ?_, rfl, q _ (I5.hok.fresh (Nat.le_refl _))⟩
    exact ⟨by rw [List.length_reverse]; exact hz, _, 0, r.reverse, Heap.get?_push_size _ rfl⟩
  · subst ex
    cases r1
    obtain ⟨its, r, ht, hz⟩ := I5.tuple hx
    have hlen := r.length
    show wpAny (model X.prog X.w) X.A (subscriptTail e (.Slice none none (some (.UnaryOp .USub (.Constant (.int 1) k p1) p2)) p3) (.ref a) (.ref s4.heap.objs.size)) (EP X pins σ Q) X.xe { s4 with heap := s4.heap.push { cls := .type "slice", data := .fields #[vl, vu, vs] } }
    refine tail_any (ops := [.ref a, .ref s4.heap.objs.size]) ht.typeIs PyProof.Rows.slot_tuple_getitem.lookup ?_ (by with_unfolding_all rfl)
    refine HT.getItem_tuple_rev ht (Heap.IsSliceOf.new _ vl vu vs) pl pu ps ?_ (by rw [List.size_toArray]; omega)
    refine ⟨.ref _, _, I5.laid (t' := s4.toks) (o := .tup xs.reverse) (fun b ob q => Heap.get?_push_of_some _ q) (Nat.le_refl _) ?_, rfl, q _ (I5.hok.fresh (Nat.le_refl _))⟩
    exact ⟨by rw [List.length_reverse]; exact hz, _, r.reverse, ⟨_, Heap.get?_push_size _ rfl, rfl, _, rfl⟩⟩
section
variable {Γ : Ctx} {σ : L2.St} {H : Hp} {F : Addr → Prop} {env : Env} {T : List (PV × V)}
theorem revP_ok {x z : PV} {v : V} {Q : VK} (g : Γ.ge σ H F env ((x, v) :: T)) (h : revP x = some z)
    (q : ∀ w H' F', Γ.ge σ H' F' env ((z, w) :: T) → (∀ a, F a → F' a) → Ext H H' → Q w H') :
    (∃ a xs, v = .ref a ∧ SqL Γ.G.K H a xs ∧ ∀ p, H p = none → Q (.ref p) (upd H p (.lst xs.reverse))) ∨ ∃ a xs, v = .ref a ∧ SqT Γ.G.K H a xs ∧ ∀ p, H p = none → Q (.ref p) (upd H p (.tup xs.reverse)) := by
  obtain ⟨f, r⟩ := ge_rep g
  have g0 := g.drop
  unfold revP at h
  split at h
  · split at h
    · rename_i c; cases h
      obtain ⟨a, vs, fl, rfl, ha, hl⟩ := rep_lst r
      have e := nilL_of_frz c hl
      subst e
      refine .inl ⟨a, vs, rfl, .of ha, fun p hp => ?_⟩
      obtain ⟨F', g', m⟩ := ge_mkLst g0 hl.reverse hp
      exact q _ _ _ g' m (.new hp)
    · cases h
  · split at h
    · rename_i c; cases h
      obtain ⟨c, _⟩ := c
      obtain ⟨a, vs, fl, rfl, ha, hl⟩ := rep_tup r
      have e := nilL_of_frz c hl
      subst e
      refine .inr ⟨a, vs, rfl, ha, fun p hp => ?_⟩
      obtain ⟨F', g', m⟩ := ge_mkTup g0 hl.reverse hp
      exact q _ _ _ g' m (.new hp)
    · cases h
  · cases h
end
end Z

set_option Elab.async false
set_option linter.all false
set_option maxRecDepth 100000
/-! Z7: the built-in functions. -/
namespace Z
open PySem L2

/-! ### sorting, greatest, least -/
theorem insI_perm (x : Int) : ∀ ys, (insI x ys).Perm (x :: ys)
  | [] => .refl _
  | y :: ys => by
    unfold insI
    split
    · exact .refl _
    · exact ((insI_perm x ys).cons y).trans (.swap ..)
theorem insI_sorted (x : Int) : ∀ ys, ys.Pairwise (· ≤ ·) → (insI x ys).Pairwise (· ≤ ·)
  | [], _ => by simp [insI]
  | y :: ys, h => by
    unfold insI
    split
    · rename_i c
      refine List.pairwise_cons.mpr ⟨fun z hz => ?_, h⟩
      rcases List.mem_cons.mp hz with rfl | hz
      · exact c
      · exact Int.le_trans c ((List.pairwise_cons.mp h).1 z hz)
    · rename_i c
      refine List.pairwise_cons.mpr ⟨fun z hz => ?_, insI_sorted x ys (List.pairwise_cons.mp h).2⟩
      rcases List.mem_cons.mp ((insI_perm x ys).mem_iff.mp hz) with rfl | hz
      · omega
      · exact (List.pairwise_cons.mp h).1 z hz
theorem sortI_perm : ∀ xs, (sortI xs).Perm xs
  | [] => .refl _
  | x :: xs => (insI_perm x _).trans ((sortI_perm xs).cons x)
theorem sortI_sorted : ∀ xs, (sortI xs).Pairwise (· ≤ ·)
  | [] => List.Pairwise.nil
  | x :: xs => insI_sorted x _ (sortI_sorted xs)
theorem sortI_eq {xs ys : List Int} (p : ys.Perm xs) (h : ys.Pairwise (· ≤ ·)) : ys = sortI xs :=
  List.Perm.eq_of_pairwise (fun a b _ _ h1 h2 => Int.le_antisymm h1 h2) h (sortI_sorted xs) (p.trans (sortI_perm xs).symm)
theorem maxI_spec : ∀ (xs : List Int) (x : Int), maxI x xs ∈ x :: xs ∧ ∀ y ∈ x :: xs, y ≤ maxI x xs
  | [], x => ⟨List.mem_cons_self, fun y h => by simp at h; rw [h]; exact Int.le_refl _⟩
  | z :: zs, x => by
    unfold maxI
    obtain ⟨h1, h2⟩ := maxI_spec zs (if z > x then z else x)
    refine ⟨?_, fun y hy => ?_⟩
    · rcases List.mem_cons.mp h1 with e | e
      · rw [e]; split <;> simp
      · exact List.mem_cons_of_mem _ (List.mem_cons_of_mem _ e)
    · have hz := h2 _ List.mem_cons_self
      rcases List.mem_cons.mp hy with rfl | hy
      · split at hz <;> split <;> first | omega | skip
      · rcases List.mem_cons.mp hy with rfl | hy
        · split at hz <;> split <;> first | omega | skip
        · exact h2 y (List.mem_cons_of_mem _ hy)
theorem minI_spec : ∀ (xs : List Int) (x : Int), minI x xs ∈ x :: xs ∧ ∀ y ∈ x :: xs, minI x xs ≤ y
  | [], x => ⟨List.mem_cons_self, fun y h => by simp at h; rw [h]; exact Int.le_refl _⟩
  | z :: zs, x => by
    unfold minI
    obtain ⟨h1, h2⟩ := minI_spec zs (if z < x then z else x)
    refine ⟨?_, fun y hy => ?_⟩
    · rcases List.mem_cons.mp h1 with e | e
      · rw [e]; split <;> simp
      · exact List.mem_cons_of_mem _ (List.mem_cons_of_mem _ e)
    · have hz := h2 _ List.mem_cons_self
      rcases List.mem_cons.mp hy with rfl | hy
      · split at hz <;> split <;> first | omega | skip
      · rcases List.mem_cons.mp hy with rfl | hy
        · split at hz <;> split <;> first | omega | skip
        · exact h2 y (List.mem_cons_of_mem _ hy)

/-! ### the calls -/
def rBf (K : PySem.W.Frag) : BF → List V → Hp → VK → Prop
  | .len => fun xs H Q => (∃ p ys, xs = [.ref p] ∧ (SqL K H p ys ∨ SqT K H p ys) ∧ Q (.int ys.length) H) ∨ (∃ z, xs = [.str z] ∧ z.length ≤ sizeLine ∧ Q (.int z.length) H) ∨ ∃ a kvs, xs = [V.ref a] ∧ H a = some (.dK kvs) ∧ Q (.int kvs.length) H
  | .sorted => rSortedI K
  | .sum => rSum K
  | .max1 => rMax K
  | .min1 => rMin K
  | .max2 => fun xs H Q => ∃ i j, xs = [.int i, .int j] ∧ Q (.int (if j > i then j else i)) H
  | .min2 => fun xs H Q => ∃ i j, xs = [.int i, .int j] ∧ Q (.int (if j < i then j else i)) H
  | .abs => fun xs H Q => ∃ i, xs = [.int i] ∧ Q (.int (if i < 0 then -i else i)) H
  | .int => fun xs H Q => (∃ i, xs = [.int i] ∧ Q (.int i) H) ∨ ∃ k, xs = [.bl k] ∧ Q (.int (if k then 1 else 0)) H
  | .list => fun xs H Q => ∃ p ys, xs = [.ref p] ∧ (SqL K H p ys ∨ SqT K H p ys) ∧ ∀ l, H l = none → Q (.ref l) (upd H l (.lst ys))
  | .tuple => fun xs H Q => ∃ p ys, xs = [.ref p] ∧ ((SqL K H p ys ∧ ∀ l, H l = none → Q (.ref l) (upd H l (.tup ys))) ∨ (SqT K H p ys ∧ Q (.ref p) H))
  | .any => rAny K
  | .all => rAll K
  | _ => fun _ _ _ => False
/-- is it a type, or a function -/
def bfTy : BF → Bool
  | .int => true
  | .list => true
  | .tuple => true
  | _ => false
section
variable {Γ : Ctx} {σ : L2.St} {H : Hp} {F : Addr → Prop} {env : Env} {T : List (PV × V)}
theorem ge_one {x : PV} {vs : List V} (hl : [x].length = vs.length) (g : Γ.ge σ H F env ([x].zip vs ++ T)) : ∃ v, vs = [v] ∧ Γ.ge σ H F env ((x, v) :: T) := by
  match vs, hl with
  | [v], _ => exact ⟨v, rfl, g⟩
theorem ge_two {x y : PV} {vs : List V} (hl : [x, y].length = vs.length) (g : Γ.ge σ H F env ([x, y].zip vs ++ T)) : ∃ v u, vs = [v, u] ∧ Γ.ge σ H F env ((x, v) :: (y, u) :: T) := by
  match vs, hl with
  | [v, u], _ => exact ⟨v, u, rfl, g⟩
theorem bfun_ok {b : BF} {xs : List PV} {vs : List V} {z : PV} {Q : VK} (hl : xs.length = vs.length) (g : Γ.ge σ H F env (xs.zip vs ++ T)) (h : bfun b xs = some z) (n1 : b ≠ .lenset) (n2 : ∀ k, b ≠ .isinst k)
    (q : ∀ w H' F', Γ.ge σ H' F' env ((z, w) :: T) → (∀ a, F a → F' a) → Ext H H' → Q w H') : rBf Γ.G.K b vs H Q := by
  unfold bfun at h
  split at h
  · rename_i x
    obtain ⟨v, rfl, g1⟩ := ge_one hl g
    obtain ⟨f, r⟩ := ge_rep g1
    have g0 := g1.drop
    cases e : lenP x with
    | none => rw [e] at h; cases h
    | some n =>
      rw [e] at h; cases h
      have fin : Q (.int (n : Nat)) H := q _ _ _ (g0.push (mk_int _)) (fun _ h => h) .refl
      unfold lenP at e
      split at e
      · cases e
        obtain ⟨a, vs, fl, rfl, ha, hl⟩ := rep_lst r
        exact .inl ⟨a, vs, rfl, .inl (.of ha), by rw [← hl.length]; exact fin⟩
      · cases e
        obtain ⟨a, vs, fl, rfl, ha, hl⟩ := rep_tup r
        exact .inl ⟨a, vs, rfl, .inr ha, by rw [← hl.length]; exact fin⟩
      · split at e
        · rename_i c; cases e
          rw [lineB_eq] at c
          rw [rep_str r]
          exact .inr (.inl ⟨_, rfl, c, fin⟩)
        · cases e
      · cases e
        obtain ⟨a, vs, fl, rfl, ha, hk, hl⟩ := rep_dic r
        refine .inr (.inr ⟨a, _, rfl, ha, ?_⟩)
        rw [List.length_zip, ← hl.length, ← hk, Nat.min_self]
        exact fin
      · cases e
  · rename_i o xs
    obtain ⟨v, rfl, g1⟩ := ge_one hl g
    obtain ⟨f, r⟩ := ge_rep g1
    have g0 := g1.drop
    obtain ⟨a, vs, fl, rfl, ha, hl⟩ := rep_lst r
    cases e : intsOf xs with
    | none => rw [e] at h; cases h
    | some ns =>
      rw [e] at h; cases h
      obtain ⟨e1, e2⟩ := repL_ints e hl
      rw [e1] at ha
      refine ⟨a, ns, rfl, .of ha, fun ns' p hp hs hn => ?_⟩
      rw [sortI_eq hp hs]
      obtain ⟨F', g', m⟩ := ge_mkLst g0 (mkL_ints _) hn
      exact q _ _ _ g' m (.new hn)
  · rename_i o xs
    obtain ⟨v, rfl, g1⟩ := ge_one hl g
    obtain ⟨f, r⟩ := ge_rep g1
    have g0 := g1.drop
    obtain ⟨a, vs, fl, rfl, ha, hl⟩ := rep_lst r
    cases e : intsOf xs with
    | none => rw [e] at h; cases h
    | some ns =>
      rw [e] at h; cases h
      obtain ⟨e1, e2⟩ := repL_ints e hl
      rw [e1] at ha
      exact ⟨a, ns, rfl, .of ha, q _ _ _ (g0.push (mk_int _)) (fun _ h => h) .refl⟩
  · rename_i o xs
    obtain ⟨v, rfl, g1⟩ := ge_one hl g
    obtain ⟨f, r⟩ := ge_rep g1
    have g0 := g1.drop
    obtain ⟨a, vs, fl, rfl, ha, hl⟩ := rep_lst r
    split at h
    · rename_i n ns e
      cases h
      obtain ⟨e1, e2⟩ := repL_ints e hl
      rw [e1] at ha
      obtain ⟨k1, k2⟩ := maxI_spec ns n
      refine ⟨a, _, rfl, .of ha, by simp, fun m hm hy => ?_⟩
      have em : m = maxI n ns := Int.le_antisymm (k2 m hm) (hy _ k1)
      rw [em]
      exact q _ _ _ (g0.push (mk_int _)) (fun _ h => h) .refl
    · cases h
  · rename_i o xs
    obtain ⟨v, rfl, g1⟩ := ge_one hl g
    obtain ⟨f, r⟩ := ge_rep g1
    have g0 := g1.drop
    obtain ⟨a, vs, fl, rfl, ha, hl⟩ := rep_lst r
    split at h
    · rename_i n ns e
      cases h
      obtain ⟨e1, e2⟩ := repL_ints e hl
      rw [e1] at ha
      obtain ⟨k1, k2⟩ := minI_spec ns n
      refine ⟨a, _, rfl, .of ha, by simp, fun m hm hy => ?_⟩
      have em : m = minI n ns := Int.le_antisymm (hy _ k1) (k2 m hm)
      rw [em]
      exact q _ _ _ (g0.push (mk_int _)) (fun _ h => h) .refl
    · cases h
  · rename_i i j
    cases h
    obtain ⟨v, u, rfl, g1⟩ := ge_two hl g
    obtain ⟨⟨f, r⟩, f2, r2⟩ := ge_rep2 g1
    rw [rep_int r, rep_int r2]
    exact ⟨i, j, rfl, q _ _ _ ((ge_drop2 g1).push (mk_int _)) (fun _ h => h) .refl⟩
  · rename_i i j
    cases h
    obtain ⟨v, u, rfl, g1⟩ := ge_two hl g
    obtain ⟨⟨f, r⟩, f2, r2⟩ := ge_rep2 g1
    rw [rep_int r, rep_int r2]
    exact ⟨i, j, rfl, q _ _ _ ((ge_drop2 g1).push (mk_int _)) (fun _ h => h) .refl⟩
  · rename_i i
    cases h
    obtain ⟨v, rfl, g1⟩ := ge_one hl g
    obtain ⟨f, r⟩ := ge_rep g1
    rw [rep_int r]
    exact ⟨i, rfl, q _ _ _ (g1.drop.push (mk_int _)) (fun _ h => h) .refl⟩
  · rename_i i
    cases h
    obtain ⟨v, rfl, g1⟩ := ge_one hl g
    obtain ⟨f, r⟩ := ge_rep g1
    rw [rep_int r]
    exact .inl ⟨i, rfl, q _ _ _ (g1.drop.push (mk_int _)) (fun _ h => h) .refl⟩
  · rename_i i
    cases h
    obtain ⟨v, rfl, g1⟩ := ge_one hl g
    obtain ⟨f, r⟩ := ge_rep g1
    rw [rep_bl r]
    exact .inr ⟨i, rfl, q _ _ _ (g1.drop.push (mk_int _)) (fun _ h => h) .refl⟩
  · rename_i o xs
    split at h
    · rename_i c; cases h
      obtain ⟨v, rfl, g1⟩ := ge_one hl g
      obtain ⟨f, r⟩ := ge_rep g1
      obtain ⟨a, vs, fl, rfl, ha, hl⟩ := rep_lst r
      have e := nilL_of_frz c hl
      subst e
      refine ⟨a, vs, rfl, .inl (.of ha), fun p hp => ?_⟩
      obtain ⟨F', g', m⟩ := ge_mkLst g1.drop hl hp
      exact q _ _ _ g' m (.new hp)
    · cases h
  · rename_i xs
    split at h
    · rename_i c; cases h
      obtain ⟨v, rfl, g1⟩ := ge_one hl g
      obtain ⟨f, r⟩ := ge_rep g1
      obtain ⟨a, vs, fl, rfl, ha, hl⟩ := rep_tup r
      have e := nilL_of_frz c hl
      subst e
      refine ⟨a, vs, rfl, .inr ha, fun p hp => ?_⟩
      obtain ⟨F', g', m⟩ := ge_mkLst g1.drop hl hp
      exact q _ _ _ g' m (.new hp)
    · cases h
  · rename_i o xs
    split at h
    · rename_i c; cases h
      obtain ⟨v, rfl, g1⟩ := ge_one hl g
      obtain ⟨f, r⟩ := ge_rep g1
      obtain ⟨a, vs, fl, rfl, ha, hl⟩ := rep_lst r
      have e := nilL_of_frz c hl
      subst e
      refine ⟨a, vs, rfl, .inl ⟨.of ha, fun p hp => ?_⟩⟩
      obtain ⟨F', g', m⟩ := ge_mkTup g1.drop hl hp
      exact q _ _ _ g' m (.new hp)
    · cases h
  · rename_i xs
    split at h
    · rename_i c; cases h
      obtain ⟨v, rfl, g1⟩ := ge_one hl g
      obtain ⟨f, r⟩ := ge_rep g1
      obtain ⟨a, vs, fl, rfl, ha, hl⟩ := rep_tup r
      exact ⟨a, vs, rfl, .inr ⟨ha, q _ _ _ g1 (fun _ h => h) .refl⟩⟩
    · cases h
  · rename_i o xs
    obtain ⟨v, rfl, g1⟩ := ge_one hl g
    obtain ⟨f, r⟩ := ge_rep g1
    obtain ⟨a, vs, fl, rfl, ha, hl⟩ := rep_lst r
    cases e : blsOf xs with
    | none => rw [e] at h; cases h
    | some ns =>
      rw [e] at h; cases h
      rw [repL_bls e hl] at ha
      exact ⟨a, ns, rfl, .of ha, q _ _ _ (g1.drop.push (mk_bl _)) (fun _ h => h) .refl⟩
  · rename_i o xs
    obtain ⟨v, rfl, g1⟩ := ge_one hl g
    obtain ⟨f, r⟩ := ge_rep g1
    obtain ⟨a, vs, fl, rfl, ha, hl⟩ := rep_lst r
    cases e : blsOf xs with
    | none => rw [e] at h; cases h
    | some ns =>
      rw [e] at h; cases h
      rw [repL_bls e hl] at ha
      exact ⟨a, ns, rfl, .of ha, q _ _ _ (g1.drop.push (mk_bl _)) (fun _ h => h) .refl⟩
  · exact absurd rfl n1
  · rename_i k x; exact absurd rfl (n2 k)
  · cases h
end
end Z

set_option Elab.async false
set_option linter.all false
set_option maxRecDepth 100000
/-! Z8: expressions without calls. -/
namespace Z
open PySem L2

section
variable {Γ : Ctx} {W : WX} {σ : L2.St} {H H1 : Hp} {F F1 : Addr → Prop} {T U : List (PV × V)} {env : Env} {pu : Bool}
theorem exK_drop {r : PV × V} {x : XV} {env : Env} (h : exK Γ W σ T x env) : exK Γ W σ (r :: T) x env := h.1.elim
theorem exK_dropL {x : XV} {env : Env} (h : exK Γ W σ T x env) : exK Γ W σ (U ++ T) x env := h.1.elim
/-- what is wanted behind, from a later state on -/
theorem okE.at {Q : VK} {z : PV} {env1 : Env} (h : okE Γ σ H F T pu Q z env1) (m : ∀ a, F a → F1 a) (e : pu = true → Ext H H1) : ∀ w H' F', Γ.ge σ H' F' env1 ((z, w) :: T) → (∀ a, F1 a → F' a) → Ext H1 H' → Q w H' :=
  fun w H' F' g m' e' => h w H' F' g (fun a z => m' a (m a z)) fun p => (e p).trans e'
theorem PR.k {α : Type} {ok ok' : α → Env → Prop} {ex ex' : XV → Env → Prop} {r : Res α} (h : PR ok ex r) (h1 : ∀ a env, ok a env → ok' a env) (h2 : ∀ x env, ex x env → ex' x env) : PR ok' ex' r := h.imp h1 h2
theorem pand {a b : Bool} (h : (a && b) = true) : a = true ∧ b = true := Bool.and_eq_true_iff.mp h

/-! ### from a test to a value -/
theorem tT_tE {e : Ex} {Q : Bool → Hp → Prop} (h : tT Γ W e σ H Q) : tE Γ W e σ H fun x H1 => ∃ k, x = .bl k ∧ Q k H1 := by
  obtain ⟨F, env, T, g, hp⟩ := h
  refine ⟨F, env, T, g, hp.imp (fun x env' ⟨b, e, k⟩ => ?_) fun _ _ h => h⟩
  subst e
  intro v H' F' g' m ex
  obtain ⟨f, r⟩ := ge_rep g'
  exact ⟨b, rep_bl r, k H' F' g'.drop m ex⟩
theorem pt_of {X : Cx} {e : Ex} {x : Expr} (h : PE X x (tE Γ W e)) (he : ∀ whole, isTrue x X.env whole = (do let v ← whole; standAt x.pos; holding [v] (truthy v)) := by intro _; rfl) : PT X x (tT Γ W e) :=
  PTmono (pt_val h he) fun σ H Q q => tT_tE q

/-! ### operations of two values -/
theorem red2 {a b : Ex} {f : PV → PV → Option PV} {r : R2} (hr : Op2 Γ f r) {Q : VK} (hpu : pu = true → a.pure = true ∧ b.pure = true) (g : Γ.ge σ H F env T)
    (hp : PR (okE Γ σ H F T pu Q) (exK Γ W σ T) ((ev Γ.tab a env).bind fun x env => (ev Γ.tab b env).bind fun y env => lift (f x y) env)) : tOp r (tE Γ W a) (tE Γ W b) σ H Q := by
  refine ⟨F, env, T, g, (PR.bind.mp hp).imp (fun x env1 h1 => ?_) fun _ _ h => h⟩
  intro v H1 F1 g1 m1 e1
  refine ⟨F1, env1, (x, v) :: T, g1, (PR.bind.mp h1).imp (fun y env2 h2 => ?_) fun _ _ h => exK_drop h⟩
  intro u H2 F2 g2 m2 e2
  obtain ⟨z, ez, k⟩ := h2.lift
  exact hr σ H2 F2 env2 T x y v u z Q g2 ez (k.at (fun a z => m2 a (m1 a z)) fun p => (e1 (hpu p).1).trans (e2 (hpu p).2))
theorem n_bin {X : Cx} {sc : Scope} {o : BOp} {op : Operator} {a b : Ex} {l r : Expr} {pos : Pos} (S : XS Γ sc X) (h : bopOk o op = true) (ia : PE X l (tE Γ W a)) (ib : PE X r (tE Γ W b)) : PE X (.BinOp l op r pos) (tE Γ W (.bin o a b)) :=
  PEmono (pe_op (op_bop h) ia ib) fun σ H Q ⟨F, env, T, g, hp⟩ => by
    rw [S.K]
    unfold Ex.pure at hp; unfold ev at hp
    exact red2 op2_bop pand g hp
theorem n_neg {X : Cx} {a : Ex} {l : Expr} {pos : Pos} (ia : PE X l (tE Γ W a)) : PE X (.UnaryOp .USub l pos) (tE Γ W (.neg a)) :=
  PEmono (pe_un un_neg ia) fun σ H Q ⟨F, env, T, g, hp⟩ => by
    unfold Ex.pure at hp; unfold ev at hp
    refine ⟨F, env, T, g, (PR.bind.mp hp).imp (fun x env1 h1 => ?_) fun _ _ h => h⟩
    intro v H1 F1 g1 m1 e1
    cases x <;> first | exact h1.elim | skip
    obtain ⟨f, r⟩ := ge_rep g1
    exact ⟨_, rep_int r, h1 _ H1 F1 (g1.drop.push (mk_int _)) m1 e1⟩
theorem red_cmp {o : COp} {a b : Ex} {Q : VK} (h : tE Γ W (.cmp o a b) σ H Q) : tOp (rCop Γ.G.K o) (tE Γ W a) (tE Γ W b) σ H Q := by
  obtain ⟨F, env, T, g, hp⟩ := h
  unfold Ex.pure at hp; unfold ev at hp
  exact red2 op2_cop pand g hp
theorem n_cmp {X : Cx} {sc : Scope} {o : COp} {op : CmpOp} {a b : Ex} {l r : Expr} {pos : Pos} (S : XS Γ sc X) (h : copOk o op = true) (hr : plainX r = true) (ia : PE X l (tE Γ W a)) (ib : PE X r (tE Γ W b)) :
    PE X (.Compare l [op] [r] pos) (tE Γ W (.cmp o a b)) ∧ PT X (.Compare l [op] [r] pos) (tT Γ W (.cmp o a b)) := by
  have ho := op_cop (X := X) S.room.units h
  rw [S.K] at ho
  exact ⟨PEmono (pe_cmpR ho ia ib (plain_marks hr)) fun σ H Q q => red_cmp q, PTmono (pt_cmpR ho ia ib (plain_marks hr)) fun σ H Q q => red_cmp (tT_tE q)⟩
theorem cmpI {o : COp} {x y : PV} {b : Bool} (c : copI o = true) (h : cmpop o x y = some b) : ∃ i j, x = .int i ∧ y = .int j := by
  cases o <;> (try (exact absurd c Bool.false_ne_true)) <;> (unfold cmpop at h; split at h <;> first | exact ⟨_, _, rfl, rfl⟩ | contradiction | (rename_i q; cases q; done) | (cases h; done))
theorem red_chn {o p : COp} {a b c : Ex} {Q : VK} (ho : copI o = true) (h : tE Γ W (.chn o p a b c) σ H Q) : tChain (rCop Γ.G.K o) (rCop Γ.G.K p) (tE Γ W a) (tE Γ W b) (tE Γ W c) σ H Q := by
  obtain ⟨F, env, T, g, hp⟩ := h
  unfold Ex.pure at hp; unfold ev at hp
  refine ⟨F, env, T, g, (PR.bind.mp hp).imp (fun x env1 h1 => ?_) fun _ _ h => h⟩
  intro v H1 F1 g1 m1 e1
  refine ⟨F1, env1, (x, v) :: T, g1, (PR.bind.mp h1).imp (fun y env2 h2 => ?_) fun _ _ h => exK_drop h⟩
  intro u H2 F2 g2 m2 e2
  cases e : cmpop o x y with
  | none => rw [e] at h2; exact h2.elim
  | some k =>
    rw [e] at h2
    obtain ⟨i, j, rfl, rfl⟩ := cmpI ho e
    obtain ⟨⟨fy, ry⟩, fx, rx⟩ := ge_rep2 g2
    have g0 := ge_drop2 g2
    have eu := rep_int ry
    subst eu
    have gj : Γ.ge σ H2 F2 env2 ((.int j, .int j) :: T) := g0.push (mk_int j)
    have m3 : ∀ a, F a → F2 a := fun a z => m2 a (m1 a z)
    refine op2_cop (o := o) σ H2 F2 env2 T (.int i) (.int j) v (.int j) (.bl k) _ g2 (by show Option.map PV.bl _ = _; rw [e]; rfl) fun w H3 F3 g3 m4 e3 => ?_
    obtain ⟨fw, rw'⟩ := ge_rep g3
    refine ⟨k, rep_bl rw', ?_⟩
    have g4 : Γ.ge σ H3 F3 env2 ((.int j, .int j) :: T) := g3.drop.push (mk_int j)
    cases k with
    | false =>
      simp only [Bool.false_eq_true, if_false]
      exact h2 _ H3 F3 (g3.drop.push (mk_bl false)) (fun a z => m4 a (m3 a z)) fun q => ((e1 (pand (pand q).1).1).trans (e2 (pand (pand q).1).2)).trans e3
    | true =>
      simp only [if_true]
      refine ⟨F3, env2, _, g4, (PR.bind.mp h2).imp (fun w' env3 h5 => ?_) fun _ _ h => exK_drop h⟩
      intro u' H4 F4 g5 m5 e5
      obtain ⟨z, ez, q⟩ := h5.lift
      exact op2_cop (o := p) σ H4 F4 env3 T (.int j) w' (.int j) u' z Q g5 ez (q.at (fun a z => m5 a (m4 a (m3 a z))) fun q => (((e1 (pand (pand q).1).1).trans (e2 (pand (pand q).1).2)).trans e3).trans (e5 (pand q).2))
theorem n_chn {X : Cx} {sc : Scope} {o o2 : COp} {op oq : CmpOp} {a b c : Ex} {l r t : Expr} {pos : Pos} (S : XS Γ sc X) (hi : copI o = true) (h : copOk o op = true) (h' : copOk o2 oq = true) (hr : plainX r = true) (ht : plainX t = true) (ia : PE X l (tE Γ W a)) (ib : PE X r (tE Γ W b)) (ic : PE X t (tE Γ W c)) :
    PE X (.Compare l [op, oq] [r, t] pos) (tE Γ W (.chn o o2 a b c)) ∧ PT X (.Compare l [op, oq] [r, t] pos) (tT Γ W (.chn o o2 a b c)) := by
  have ho := op_cop (X := X) S.room.units h
  rw [S.K] at ho
  have ho2 := op_cop (X := X) S.room.units h'
  rw [S.K] at ho2
  have hm : lastMarks [op, oq] [r, t] = false := by
    show behindInMarks oq t = false
    exact plain_marks ht
  exact ⟨PEmono (pe_chain ho ho2 ia ib ic hm) fun σ H Q q => red_chn hi q, PTmono (pt_chain ho ho2 ia ib ic hm) fun σ H Q q => red_chn hi (tT_tE q)⟩

/-! ### and, or, not, if else -/
theorem n_one {X : Cx} {a : Ex} {x : Expr} {op : BoolOp} {pos : Pos} (ia : PE X x (tE Γ W a)) (ta : PT X x (tT Γ W a)) :
    PE X (.BoolOp op [x] pos) (tE Γ W (.one a)) ∧ PW X (.BoolOp op [x] pos) (tT Γ W (.one a)) := by
  refine ⟨PEmono (pe_one ia) fun σ H Q ⟨F, env, T, g, hp⟩ => ?_, PWmono (by cases op <;> first | exact pw_and1 ta | exact pw_or1 ta) fun σ H Q ⟨F, env, T, g, hp⟩ => ?_⟩
  · unfold Ex.pure at hp; unfold ev at hp
    exact ⟨F, env, T, g, hp⟩
  · unfold Ex.pure at hp; unfold ev at hp
    exact ⟨F, env, T, g, hp⟩
theorem red_and {a b : Ex} {Q : Bool → Hp → Prop} (h : tT Γ W (.and a b) σ H Q) : tAnd (tT Γ W a) (tT Γ W b) σ H Q := by
  obtain ⟨F, env, T, g, hp⟩ := h
  unfold Ex.pure at hp; unfold ev at hp
  refine ⟨F, env, T, g, (PR.bind.mp hp).imp (fun x env1 h1 => ?_) fun _ _ h => h⟩
  cases x <;> first | exact h1.elim | skip
  rename_i k
  refine ⟨k, rfl, fun H1 F1 g1 m1 e1 => ?_⟩
  cases k with
  | false =>
    simp only [Bool.false_eq_true, if_false]
    obtain ⟨b, eb, q⟩ := h1
    cases eb
    exact q H1 F1 g1 m1 fun q => e1 (pand q).1
  | true =>
    simp only [if_true]
    refine ⟨F1, env1, T, g1, h1.imp (fun y env2 ⟨b, eb, q⟩ => ⟨b, eb, fun H2 F2 g2 m2 e2 => q H2 F2 g2 (fun a z => m2 a (m1 a z)) fun q => (e1 (pand q).1).trans (e2 (pand q).2)⟩) fun _ _ h => h⟩
theorem red_or {a b : Ex} {Q : Bool → Hp → Prop} (h : tT Γ W (.or a b) σ H Q) : tOr (tT Γ W a) (tT Γ W b) σ H Q := by
  obtain ⟨F, env, T, g, hp⟩ := h
  unfold Ex.pure at hp; unfold ev at hp
  refine ⟨F, env, T, g, (PR.bind.mp hp).imp (fun x env1 h1 => ?_) fun _ _ h => h⟩
  cases x <;> first | exact h1.elim | skip
  rename_i k
  refine ⟨k, rfl, fun H1 F1 g1 m1 e1 => ?_⟩
  cases k with
  | true =>
    simp only [if_true]
    obtain ⟨b, eb, q⟩ := h1
    cases eb
    exact q H1 F1 g1 m1 fun q => e1 (pand q).1
  | false =>
    simp only [Bool.false_eq_true, if_false]
    refine ⟨F1, env1, T, g1, h1.imp (fun y env2 ⟨b, eb, q⟩ => ⟨b, eb, fun H2 F2 g2 m2 e2 => q H2 F2 g2 (fun a z => m2 a (m1 a z)) fun q => (e1 (pand q).1).trans (e2 (pand q).2)⟩) fun _ _ h => h⟩
theorem red_andV {a b : Ex} {Q : VK} (h : tE Γ W (.and a b) σ H Q) : tAndV (tE Γ W a) (tE Γ W b) σ H Q := by
  obtain ⟨F, env, T, g, hp⟩ := h
  unfold Ex.pure at hp; unfold ev at hp
  refine ⟨F, env, T, g, (PR.bind.mp hp).imp (fun x env1 h1 => ?_) fun _ _ h => h⟩
  intro v H1 F1 g1 m1 e1
  cases x <;> first | exact h1.elim | skip
  rename_i k
  obtain ⟨f, r⟩ := ge_rep g1
  refine ⟨k, rep_bl r, ?_⟩
  cases k with
  | false =>
    simp only [Bool.false_eq_true, if_false]
    exact h1 _ H1 F1 (g1.drop.push (mk_bl _)) m1 fun q => e1 (pand q).1
  | true =>
    simp only [if_true]
    refine ⟨F1, env1, T, g1.drop, h1.imp (fun y env2 q w H2 F2 g2 m2 e2 => q w H2 F2 g2 (fun a z => m2 a (m1 a z)) fun q => (e1 (pand q).1).trans (e2 (pand q).2)) fun _ _ h => h⟩
theorem red_orV {a b : Ex} {Q : VK} (h : tE Γ W (.or a b) σ H Q) : tOrV (tE Γ W a) (tE Γ W b) σ H Q := by
  obtain ⟨F, env, T, g, hp⟩ := h
  unfold Ex.pure at hp; unfold ev at hp
  refine ⟨F, env, T, g, (PR.bind.mp hp).imp (fun x env1 h1 => ?_) fun _ _ h => h⟩
  intro v H1 F1 g1 m1 e1
  cases x <;> first | exact h1.elim | skip
  rename_i k
  obtain ⟨f, r⟩ := ge_rep g1
  refine ⟨k, rep_bl r, ?_⟩
  cases k with
  | true =>
    simp only [if_true]
    exact h1 _ H1 F1 (g1.drop.push (mk_bl _)) m1 fun q => e1 (pand q).1
  | false =>
    simp only [Bool.false_eq_true, if_false]
    refine ⟨F1, env1, T, g1.drop, h1.imp (fun y env2 q w H2 F2 g2 m2 e2 => q w H2 F2 g2 (fun a z => m2 a (m1 a z)) fun q => (e1 (pand q).1).trans (e2 (pand q).2)) fun _ _ h => h⟩
theorem n_and {X : Cx} {a b : Ex} {x y : Expr} {r : List Expr} {pos : Pos} (ia : PE X x (tE Γ W a)) (ta : PT X x (tT Γ W a)) (ib : PE X (.BoolOp .And (y :: r) pos) (tE Γ W b)) (wb : PW X (.BoolOp .And (y :: r) pos) (tT Γ W b)) :
    PE X (.BoolOp .And (x :: y :: r) pos) (tE Γ W (.and a b)) ∧ PW X (.BoolOp .And (x :: y :: r) pos) (tT Γ W (.and a b)) :=
  ⟨PEmono (pe_and ia ib) fun σ H Q => red_andV, PWmono (pw_and ta wb) fun σ H Q => red_and⟩
theorem n_or {X : Cx} {a b : Ex} {x y : Expr} {r : List Expr} {pos : Pos} (ia : PE X x (tE Γ W a)) (ta : PT X x (tT Γ W a)) (ib : PE X (.BoolOp .Or (y :: r) pos) (tE Γ W b)) (wb : PW X (.BoolOp .Or (y :: r) pos) (tT Γ W b)) :
    PE X (.BoolOp .Or (x :: y :: r) pos) (tE Γ W (.or a b)) ∧ PW X (.BoolOp .Or (x :: y :: r) pos) (tT Γ W (.or a b)) :=
  ⟨PEmono (pe_or ia ib) fun σ H Q => red_orV, PWmono (pw_or ta wb) fun σ H Q => red_or⟩
theorem n_not {X : Cx} {a : Ex} {x : Expr} {pos : Pos} (ia : PE X x (tE Γ W a)) (ta : PT X x (tT Γ W a)) : PE X (.UnaryOp .Not x pos) (tE Γ W (.not a)) ∧ PT X (.UnaryOp .Not x pos) (tT Γ W (.not a)) := by
  refine ⟨PEmono (pe_not ia) fun σ H Q ⟨F, env, T, g, hp⟩ => ?_, PTmono (pt_not ta) fun σ H Q ⟨F, env, T, g, hp⟩ => ?_⟩
  · unfold Ex.pure at hp; unfold ev at hp
    refine ⟨F, env, T, g, (PR.bind.mp hp).imp (fun x env1 h1 => ?_) fun _ _ h => h⟩
    intro v H1 F1 g1 m1 e1
    cases x <;> first | exact h1.elim | skip
    obtain ⟨f, r⟩ := ge_rep g1
    exact ⟨_, rep_bl r, h1 _ H1 F1 (g1.drop.push (mk_bl _)) m1 e1⟩
  · unfold Ex.pure at hp; unfold ev at hp
    refine ⟨F, env, T, g, (PR.bind.mp hp).imp (fun x env1 h1 => ?_) fun _ _ h => h⟩
    cases x <;> first | exact h1.elim | skip
    obtain ⟨b, eb, q⟩ := h1
    cases eb
    exact ⟨_, rfl, fun H1 F1 g1 m1 e1 => q H1 F1 g1 m1 e1⟩
theorem n_ife {X : Cx} {c a b : Ex} {t x y : Expr} {pos : Pos} (tc : PT X t (tT Γ W c)) (ia : PE X x (tE Γ W a)) (ib : PE X y (tE Γ W b)) : PE X (.IfExp t x y pos) (tE Γ W (.ife c a b)) :=
  PEmono (pe_ifExp tc ia ib) fun σ H Q ⟨F, env, T, g, hp⟩ => by
    unfold Ex.pure at hp; unfold ev at hp
    refine ⟨F, env, T, g, (PR.bind.mp hp).imp (fun x env1 h1 => ?_) fun _ _ h => h⟩
    cases x <;> first | exact h1.elim | skip
    rename_i k
    refine ⟨k, rfl, fun H1 F1 g1 m1 e1 => ?_⟩
    cases k with
    | true =>
      simp only [if_true]
      exact ⟨F1, env1, T, g1, h1.imp (fun y env2 q w H2 F2 g2 m2 e2 => q w H2 F2 g2 (fun a z => m2 a (m1 a z)) fun q => (e1 (pand (pand q).1).1).trans (e2 (pand (pand q).1).2)) fun _ _ h => h⟩
    | false =>
      simp only [Bool.false_eq_true, if_false]
      exact ⟨F1, env1, T, g1, h1.imp (fun y env2 q w H2 F2 g2 m2 e2 => q w H2 F2 g2 (fun a z => m2 a (m1 a z)) fun q => (e1 (pand (pand q).1).1).trans (e2 (pand q).2)) fun _ _ h => h⟩

/-! ### names, constants -/
theorem n_var {X : Cx} {sc : Scope} {i : Nat} {x : Str} {p : Pos} (S : XS Γ sc X) (h : chkV Γ.N sc i x = true) : PE X (.Name x p) (tE Γ W (.var i)) :=
  PEmono (S.var h) fun σ H Q ⟨F, env, T, g, hp⟩ => by
    unfold Ex.pure at hp; unfold ev at hp
    cases e : env.at i with
    | none => rw [e] at hp; exact hp.elim
    | some x =>
      rw [e] at hp
      obtain ⟨v, F', hv, g', m⟩ := g.var e
      exact ⟨v, hv, hp v H F' g' m fun _ => .refl⟩
theorem n_mv {X : Cx} {sc : Scope} {i : Nat} {x : Str} {p : Pos} (S : XS Γ sc X) (h : chkV Γ.N sc i x = true) : PE X (.Name x p) (tE Γ W (.mv i)) :=
  PEmono (S.var h) fun σ H Q ⟨F, env, T, g, hp⟩ => by
    unfold Ex.pure at hp; unfold ev at hp
    cases e : env.at i with
    | none => rw [e] at hp; exact hp.elim
    | some x =>
      rw [e] at hp
      obtain ⟨v, hv, g'⟩ := g.take e
      exact ⟨v, hv, hp v H F g' (fun _ h => h) fun _ => .refl⟩
theorem n_const {X : Cx} {e : Ex} {c : Expr} {y : PV} {v : V} (hc : PE X c (tC v)) (he : ∀ env, ev Γ.tab e env = .ok y env) (hr : ∀ F H, Rep Γ.G F H y v []) : PE X c (tE Γ W e) :=
  PEmono hc fun σ H Q ⟨F, env, T, g, hp⟩ => by
    rw [he] at hp
    exact hp v H F (g.push (hr _ _)) (fun _ h => h) fun _ => .refl
theorem n_int {X : Cx} {n : Int} {j pos} : PE X (.Constant (.int n) j pos) (tE Γ W (.cint n)) := n_const pe_int (fun _ => by unfold ev; rfl) fun _ _ => mk_int n
theorem n_bl {X : Cx} {n : Bool} {j pos} : PE X (.Constant (.bool n) j pos) (tE Γ W (.cbool n)) := n_const pe_bl (fun _ => by unfold ev; rfl) fun _ _ => mk_bl n
theorem n_non {X : Cx} {j pos} : PE X (.Constant .none j pos) (tE Γ W .cnon) := n_const pe_non (fun _ => by unfold ev; rfl) fun _ _ => mk_non
theorem n_str {X : Cx} {n : Str} {j pos} : PE X (.Constant (.str n) j pos) (tE Γ W (.cstr n)) := n_const pe_str (fun _ => by unfold ev; rfl) fun _ _ => mk_str n

/-! ### displays -/
def okXs (Γ : Ctx) (W : WX) (X : Cx) (es : Exs) (xs : List Expr) : Prop := PA X xs (tEs Γ W es)
theorem n_nil {X : Cx} : PA X [] (tEs Γ W .nil) := PAmono pa_nil fun σ H Q ⟨F, env, T, g, hp⟩ => by
  unfold Exs.pure at hp; unfold evs at hp
  exact hp [] H F rfl g (fun _ h => h) fun _ => .refl
theorem n_cons {X : Cx} {e : Ex} {es : Exs} {x : Expr} {xs : List Expr} (hx : plainX x = true) (i1 : PE X x (tE Γ W e)) (i2 : PA X xs (tEs Γ W es)) : PA X (x :: xs) (tEs Γ W (.cons e es)) :=
  PAmono (pa_cons i1 i2 (plain_star hx)) fun σ H Q ⟨F, env, T, g, hp⟩ => by
    unfold Exs.pure at hp; unfold evs at hp
    refine ⟨F, env, T, g, (PR.bind.mp hp).imp (fun x env1 h1 => ?_) fun _ _ h => h⟩
    intro v H1 F1 g1 m1 e1
    refine ⟨F1, env1, (x, v) :: T, g1, (PR.bind.mp h1).imp (fun ys env2 h2 => ?_) fun _ _ h => exK_drop h⟩
    intro vs H2 F2 hl g2 m2 e2
    refine h2 (v :: vs) H2 F2 (by simp [hl]) (g2.perm ?_) (fun a z => m2 a (m1 a z)) fun q => (e1 (pand q).1).trans (e2 (pand q).2)
    exact List.perm_middle
theorem Res.bind_ok {α β : Type} {r : Res α} {k : α → Env → Res β} {b : β} {env' : Env} (h : r.bind k = .ok b env') : ∃ a env1, r = .ok a env1 ∧ k a env1 = .ok b env' := by
  cases r with
  | ok a env1 => exact ⟨a, env1, rfl, h⟩
  | exn => cases h
  | bad => cases h
theorem evs_len {T : Tab} : ∀ {es : Exs} {env : Env} {xs : List PV} {env' : Env}, evs T es env = .ok xs env' → xs.length = es.len
  | .nil, env, xs, env', h => by
    unfold evs at h; cases h; rfl
  | .cons e es, env, xs, env', h => by
    unfold evs at h
    obtain ⟨x, env1, h1, h2⟩ := Res.bind_ok h
    obtain ⟨ys, env2, h3, h4⟩ := Res.bind_ok h2
    cases h4
    have := evs_len h3
    simp [Exs.len, this]
theorem PR.len {ok : List PV → Env → Prop} {ex : XV → Env → Prop} {es : Exs} {env : Env} (h : PR ok ex (evs Γ.tab es env)) : PR (fun xs env' => xs.length = es.len ∧ ok xs env') ex (evs Γ.tab es env) := by
  cases e : evs Γ.tab es env with
  | ok xs env' => rw [e] at h; exact ⟨evs_len e, h⟩
  | exn x env' => rw [e] at h; exact h
  | bad => rw [e] at h; exact h
theorem small1000 {n : Nat} (h : n ≤ 1000) : n ≤ sizeLine := by rw [sizeLine_eq]; omega
theorem n_lst {X : Cx} {es : Exs} {xs : List Expr} {pos : Pos} (hn : es.len ≤ 1000) (h : PA X xs (tEs Γ W es)) : PE X (.List xs pos) (tE Γ W (.lst es)) :=
  PEmono (pe_lst h) fun σ H Q ⟨F, env, T, g, hp⟩ => by
    unfold Ex.pure at hp; unfold ev at hp
    refine ⟨F, env, T, g, (PR.bind.mp hp).len.imp (fun xs env1 ⟨hxs, h1⟩ => ?_) fun _ _ h => h⟩
    intro vs H1 F1 hl g1 m1 e1
    refine ⟨small1000 (by omega), fun p hp => ?_⟩
    obtain ⟨F2, g2, m2⟩ := ge_newLst hl g1 hp
    exact h1 _ _ F2 g2 (fun a z => m2 a (m1 a z)) fun q => (e1 q).trans (.new hp)
theorem n_tup {X : Cx} {es : Exs} {xs : List Expr} {b pos} (hn : es.len ≤ 1000) (h : PA X xs (tEs Γ W es)) : PE X (.Tuple xs b pos) (tE Γ W (.tup es)) :=
  PEmono (pe_tup h) fun σ H Q ⟨F, env, T, g, hp⟩ => by
    unfold Ex.pure at hp; unfold ev at hp
    refine ⟨F, env, T, g, (PR.bind.mp hp).len.imp (fun xs env1 ⟨hxs, h1⟩ => ?_) fun _ _ h => h⟩
    intro vs H1 F1 hl g1 m1 e1
    refine ⟨small1000 (by omega), fun p hp => ?_⟩
    obtain ⟨F2, g2, m2⟩ := ge_newTup hl g1 hp
    exact h1 _ _ F2 g2 (fun a z => m2 a (m1 a z)) fun q => (e1 q).trans (.new hp)
theorem n_dct0 {X : Cx} {pos} : PE X (.Dict [] [] pos) (tE Γ W .dct0) :=
  PEmono pe_dnewK fun σ H Q ⟨F, env, T, g, hp⟩ => by
    unfold Ex.pure at hp; unfold ev at hp
    intro p hp2
    obtain ⟨F2, g2, m2⟩ := ge_newDic g hp2
    exact hp _ _ F2 g2 m2 fun _ => .new hp2

/-! ### subscripts, slices -/
theorem n_idx {X : Cx} {sc : Scope} {a b : Ex} {x y : Expr} {pos : Pos} (S : XS Γ sc X) (hy : plainX y = true) (ia : PE X x (tE Γ W a)) (ib : PE X y (tE Γ W b)) : PE X (.Subscript x y pos) (tE Γ W (.idx a b)) :=
  PEmono (pe_ix (ix_all (by have := S.room.units; omega)) ia ib (plain_ix hy)) fun σ H Q ⟨F, env, T, g, hp⟩ => by
    rw [S.K]
    unfold Ex.pure at hp; unfold ev at hp
    exact red2 op2_item pand g hp
abbrev okO (Γ : Ctx) (σ : L2.St) (H : Hp) (F : Addr → Prop) (T : List (PV × V)) (pu : Bool) (Q : Option Int → Hp → Prop) : Option Int → Env → Prop := fun o env' => ∀ H' F', Γ.ge σ H' F' env' T → (∀ a, F a → F' a) → (pu = true → Ext H H') → Q o H'
def tO (Γ : Ctx) (W : WX) (o : OEx) : TO := fun σ H Q => ∃ F env T, Γ.ge σ H F env T ∧ PR (okO Γ σ H F T o.pure Q) (exK Γ W σ T) (evo Γ.tab o env)
theorem n_ono {X : Cx} : PO X none (tO Γ W .no) := ⟨fun pins s σ H Q I ⟨F, env, T, g, hp⟩ => po_none.run pins s σ H Q I (by
  unfold OEx.pure at hp; unfold evo at hp
  exact hp H F g (fun _ h => h) fun _ => .refl)⟩
theorem n_oso {X : Cx} {e : Ex} {x : Expr} (i : PE X x (tE Γ W e)) : PO X (some x) (tO Γ W (.so e)) := ⟨fun pins s σ H Q I ⟨F, env, T, g, hp⟩ => (po_some i).run pins s σ H Q I (by
  unfold OEx.pure at hp; unfold evo at hp
  refine ⟨F, env, T, g, (PR.bind.mp hp).imp (fun x env1 h1 => ?_) fun _ _ h => h⟩
  intro v H1 F1 g1 m1 e1
  cases x <;> first | exact h1.elim | skip
  obtain ⟨f, r⟩ := ge_rep g1
  exact ⟨_, rep_int r, h1 H1 F1 g1.drop m1 e1⟩)⟩
theorem n_slc {X : Cx} {sc : Scope} {a : Ex} {lo hi : OEx} {x : Expr} {l h : Option Expr} {p2 pos : Pos} (S : XS Γ sc X) (ia : PE X x (tE Γ W a)) (il : PO X l (tO Γ W lo)) (ih : PO X h (tO Γ W hi)) : PE X (.Subscript x (.Slice l h none p2) pos) (tE Γ W (.slc a lo hi)) :=
  PEmono (pe_slice sl_all ia il ih) fun σ H Q ⟨F, env, T, g, hp⟩ => by
    rw [S.K]
    unfold Ex.pure at hp; unfold ev at hp
    refine ⟨F, env, T, g, (PR.bind.mp hp).imp (fun x env1 h1 => ?_) fun _ _ h => h⟩
    intro v H1 F1 g1 m1 e1
    refine ⟨F1, env1, (x, v) :: T, g1, (PR.bind.mp h1).imp (fun o env2 h2 => ?_) fun _ _ h => exK_drop h⟩
    intro H2 F2 g2 m2 e2
    refine ⟨F2, env2, (x, v) :: T, g2, (PR.bind.mp h2).imp (fun o2 env3 h3 => ?_) fun _ _ h => exK_drop h⟩
    intro H3 F3 g3 m3 e3
    obtain ⟨z, ez, k⟩ := h3.lift
    exact slice_ok g3 ez (k.at (fun a z => m3 a (m2 a (m1 a z))) fun q => ((e1 (pand (pand q).1).1).trans (e2 (pand (pand q).1).2)).trans (e3 (pand q).2))
theorem n_rev {X : Cx} {sc : Scope} {a : Ex} {x : Expr} {k : Nat} {p1 p2 p3 pos : Pos} (S : XS Γ sc X) (ia : PE X x (tE Γ W a)) : PE X (.Subscript x (.Slice none none (some (.UnaryOp .USub (.Constant (.int 1) k p1) p2)) p3) pos) (tE Γ W (.rev a)) :=
  PEmono (pe_revX ia) fun σ H Q ⟨F, env, T, g, hp⟩ => by
    rw [S.K]
    unfold Ex.pure at hp; unfold ev at hp
    refine ⟨F, env, T, g, (PR.bind.mp hp).imp (fun x env1 h1 => ?_) fun _ _ h => h⟩
    intro v H1 F1 g1 m1 e1
    obtain ⟨z, ez, k⟩ := h1.lift
    exact revP_ok g1 ez (k.at m1 e1)
end
end Z

set_option Elab.async false
set_option linter.all false
set_option maxRecDepth 100000
/-! Z9: globals, built-in functions, fields, places. -/
namespace Z
open PySem L2

/-- what is known of the text's module -/
structure Kn0 (Γ : Ctx) : Prop where
  blt : ∀ x ∈ builtinNames, Γ.mg x = none
  cls : ∀ C Ca, Γ.G.cls C = some Ca → Cls Γ.G.K Ca
  att : Γ.G.att = Γ.M.att
  inj : ∀ a b n, Γ.M.att a = some n → Γ.M.att b = some n → a = b
  glb : ∀ g x y, Γ.M.glb g = some x → Γ.tab.glb g = some y → ∃ u v, Γ.mg x = some u ∧ RelV v u ∧ ∀ F H, Rep Γ.G F H y v []

section
variable {Γ : Ctx} {W : WX} {σ : L2.St} {H H1 : Hp} {F F1 : Addr → Prop} {T U : List (PV × V)} {env : Env} {pu : Bool} {X : Cx} {sc : Scope}
theorem n_glb {g : Nat} {x : Str} {p : Pos} (S : XS Γ sc X) (K : Kn0 Γ) (h1 : isStr (Γ.M.glb g) x = true) (h2 : glB sc x = true) : PE X (.Name x p) (tE Γ W (.glb g)) := by
  obtain ⟨hg, hd, _⟩ := S.gl h2
  cases e : Γ.tab.glb g with
  | none =>
    refine ⟨fun pins s σ H Q I ⟨F, env, T, g', hp⟩ => ?_⟩
    unfold Ex.pure at hp; unfold ev at hp
    rw [e] at hp
    exact hp.elim
  | some y =>
    obtain ⟨u, v, hm, r, rp⟩ := K.glb g x y (isStr_iff.mp h1) e
    exact n_const (pe_glob hg (by rw [S.mg]; exact hm) r hd) (fun env => by unfold ev; rw [e]; rfl) fun F H => rp F H
theorem bt (S : XS Γ sc X) (K : Kn0 Γ) {x : Str} (hx : x ∈ builtinNames) : X.mg x = none := by rw [S.mg]; exact K.blt x hx

/-! ### argument lists -/
theorem plain_pl {pos : Pos} {env : PySem.Env} : ∀ {es : List Expr}, (∀ e ∈ es, plainX e = true) → (backTo pos (starEach es env)).any (·.1) = false
  | [], _ => rfl
  | e :: es, h => by
    rw [plain_star (h e List.mem_cons_self)]
    show (false || (backTo pos (starEach es env)).any (·.1)) = false
    rw [plain_pl fun x hx => h x (List.mem_cons_of_mem _ hx)]
    rfl
theorem chkEs_plain {M : Nms} {N : List Str} : ∀ {es : Exs} {xs : List Expr}, chkEs M N sc es xs = true → ∀ x ∈ xs, plainX x = true
  | .nil, [], _ => fun _ h => nomatch h
  | .nil, _ :: _, h => by unfold chkEs at h; cases h
  | .cons e es, [], h => by unfold chkEs at h; cases h
  | .cons e es, x :: xs, h => fun y hy => by
    unfold chkEs at h
    obtain ⟨h1, h2⟩ := Bool.and_eq_true_iff.mp h
    obtain ⟨h0, h1⟩ := Bool.and_eq_true_iff.mp h1
    rcases List.mem_cons.mp hy with rfl | hy
    · exact h0
    · exact chkEs_plain h2 y hy

/-! ### built-in functions -/
theorem red_bf {b : BF} {es : Exs} {Q : VK} (n1 : b ≠ .lenset) (n2 : ∀ k, b ≠ .isinst k) (h : tE Γ W (.bf b es) σ H Q) : tCB (rBf Γ.G.K b) (tEs Γ W es) σ H Q := by
  obtain ⟨F, env, T, g, hp⟩ := h
  unfold Ex.pure at hp; unfold ev at hp
  refine ⟨F, env, T, g, (PR.bind.mp hp).imp (fun xs env1 h1 => ?_) fun _ _ h => h⟩
  intro vs H1 F1 hl g1 m1 e1
  obtain ⟨z, ez, k⟩ := h1.lift
  exact bfun_ok hl g1 ez n1 n2 (k.at m1 e1)
theorem n_bf {b : BF} {es : Exs} {x : Str} {e : Expr} {xs : List Expr} {p pos : Pos} (S : XS Γ sc X) (K : Kn0 Γ) (hb : isStr (bfName b) x = true) (hg : glB sc x = true) (hxs : ∀ y ∈ e :: xs, plainX y = true) (ia : PA X (e :: xs) (tEs Γ W es)) :
    PE X (.Call (.Name x p) (e :: xs) [] pos) (tE Γ W (.bf b es)) := by
  have hb := isStr_iff.mp hb
  obtain ⟨hg, hd, hn⟩ := S.gl hg
  · have he := plain_star (env := X.env) (es := xs) (hxs e List.mem_cons_self)
    have hpl := plain_pl (pos := pos) (env := X.env) (es := xs) fun y hy => hxs y (List.mem_cons_of_mem _ hy)
    cases b <;> simp only [bfName, Option.some.injEq] at hb <;> (first | cases hb; done | skip) <;> subst hb
    case len =>
      refine PEmono (pe_callB (id := "len") (r := rBf X.K .len) (call_len_seq.or (call_len_str.or call_lenD)) hg (bt S K (by decide)) boot_len ia hn hd he hpl) fun σ H Q q => ?_
      rw [S.K]; exact red_bf (by decide) (fun k => nofun) q
    case sorted =>
      refine PEmono (pe_callB (id := "sorted") (r := rBf X.K .sorted) cr_sortedI hg (bt S K (by decide)) PyProof.Rows.boot_sorted ia hn hd he hpl) fun σ H Q q => ?_
      rw [S.K]; exact red_bf (by decide) (fun k => nofun) q
    case sum =>
      refine PEmono (pe_callB (id := "sum") (r := rBf X.K .sum) (cr_sum S.calm) hg (bt S K (by decide)) PyProof.Rows.boot_sum ia hn hd he hpl) fun σ H Q q => ?_
      rw [S.K]; exact red_bf (by decide) (fun k => nofun) q
    case max1 =>
      refine PEmono (pe_callB (id := "max") (r := rBf X.K .max1) (cr_max S.calm) hg (bt S K (by decide)) PyProof.Rows.boot_max ia hn hd he hpl) fun σ H Q q => ?_
      rw [S.K]; exact red_bf (by decide) (fun k => nofun) q
    case min1 =>
      refine PEmono (pe_callB (id := "min") (r := rBf X.K .min1) (cr_min S.calm) hg (bt S K (by decide)) PyProof.Rows.boot_min ia hn hd he hpl) fun σ H Q q => ?_
      rw [S.K]; exact red_bf (by decide) (fun k => nofun) q
    case max2 =>
      refine PEmono (pe_callB (id := "max") (r := rBf X.K .max2) (call_max2 S.calm) hg (bt S K (by decide)) PyProof.Rows.boot_max ia hn hd he hpl) fun σ H Q q => ?_
      rw [S.K]; exact red_bf (by decide) (fun k => nofun) q
    case min2 =>
      refine PEmono (pe_callB (id := "min") (r := rBf X.K .min2) (call_min2 S.calm) hg (bt S K (by decide)) PyProof.Rows.boot_min ia hn hd he hpl) fun σ H Q q => ?_
      rw [S.K]; exact red_bf (by decide) (fun k => nofun) q
    case abs =>
      refine PEmono (pe_callB (id := "abs") (r := rBf X.K .abs) call_abs hg (bt S K (by decide)) PyProof.Rows.boot_abs ia hn hd he hpl) fun σ H Q q => ?_
      rw [S.K]; exact red_bf (by decide) (fun k => nofun) q
    case any =>
      refine PEmono (pe_callB (id := "any") (r := rBf X.K .any) (cr_any S.calm) hg (bt S K (by decide)) PyProof.Rows.boot_any ia hn hd he hpl) fun σ H Q q => ?_
      rw [S.K]; exact red_bf (by decide) (fun k => nofun) q
    case all =>
      refine PEmono (pe_callB (id := "all") (r := rBf X.K .all) (cr_all S.calm) hg (bt S K (by decide)) PyProof.Rows.boot_all ia hn hd he hpl) fun σ H Q q => ?_
      rw [S.K]; exact red_bf (by decide) (fun k => nofun) q
    case int =>
      refine PEmono (pe_callTy (T := "int") (r := rBf X.K .int) call_int1 hg (bt S K (by decide)) PyProof.Rows.boot_int ia hn hd he hpl) fun σ H Q q => ?_
      rw [S.K]; exact red_bf (by decide) (fun k => nofun) q
    case list =>
      refine PEmono (pe_callTy (T := "list") (r := rBf X.K .list) call_list_of hg (bt S K (by decide)) PyProof.Rows.boot_list ia hn hd he hpl) fun σ H Q q => ?_
      rw [S.K]; exact red_bf (by decide) (fun k => nofun) q
    case tuple =>
      refine PEmono (pe_callTy (T := "tuple") (r := rBf X.K .tuple) call_tuple_of hg (bt S K (by decide)) PyProof.Rows.boot_tuple ia hn hd he hpl) fun σ H Q q => ?_
      rw [S.K]; exact red_bf (by decide) (fun k => nofun) q
theorem bfun_lenset {x z : PV} (h : bfun .lenset [x] = some z) : ∃ o xs ns, x = .lst o xs ∧ intsOf xs = some ns ∧ ns.length ≤ 4000 ∧ ns.Nodup ∧ z = .int ns.length := by
  cases x <;> simp only [bfun] at h <;> (try (cases h; done))
  rename_i o xs
  cases e : intsOf xs with
  | none => simp [e] at h
  | some ns =>
    simp only [e] at h
    split at h
    · rename_i c; cases h; exact ⟨o, xs, ns, rfl, e, c.1, c.2, rfl⟩
    · cases h
theorem n_lenset {a : Ex} {e : Expr} {p p2 q pos : Pos} (S : XS Γ sc X) (K : Kn0 Γ) (h1 : glB sc "len" = true) (h2 : glB sc "set" = true) (hx : plainX e = true) (ia : PE X e (tE Γ W a)) :
    PE X (.Call (.Name "len" p) [.Call (.Name "set" p2) [e] [] q] [] pos) (tE Γ W (.bf .lenset (.cons a .nil))) := by
  refine PEmono (RZ.pe_lenSetI (S.gl h1).1 (bt S K (by decide)) (S.gl h2).1 (bt S K (by decide)) ia S.calm (plain_star hx)) fun σ H Q ⟨F, env, T, g, hp⟩ => ?_
  rw [S.K]
  unfold Ex.pure Exs.pure Exs.pure at hp; unfold ev evs evs at hp
  refine ⟨F, env, T, g, (PR.bind.mp (PR.bind.mp hp)).imp (fun x env1 h1 => ?_) fun _ _ h => h⟩
  intro v H1 F1 g1 m1 e1
  have h1 : PR (okE Γ σ H F T (a.pure && true) Q) (exK Γ W σ T) (lift (bfun .lenset [x]) env1) := h1
  obtain ⟨z, ez, k⟩ := h1.lift
  obtain ⟨f, r⟩ := ge_rep g1
  obtain ⟨o, xs, ns, rfl, e, c1, c2, rfl⟩ := bfun_lenset ez
  obtain ⟨l, vs, fl, rfl, ha, hl⟩ := rep_lst r
  rw [(repL_ints e hl).1] at ha
  exact ⟨l, ns, rfl, .of ha, c2, c1, k _ H1 F1 (g1.drop.push (mk_int _)) m1 fun q => e1 (pand q).1⟩
theorem n_bits {a : Ex} {o : Expr} {ap cp : Pos} (hx : plainX o = true) (hl : (ap.endLine == cp.line) = true) (ia : PE X o (tE Γ W a)) : PE X (.Call (.Attribute o "bit_length" ap) [] [] cp) (tE Γ W (.bm .bits a .nil)) := by
  refine PEmono (pe_bits ia (plain_base hx) hl) fun σ H Q ⟨F, env, T, g, hp⟩ => ?_
  unfold Ex.pure Exs.pure at hp; unfold ev evs at hp
  refine ⟨F, env, T, g, (PR.bind.mp hp).imp (fun x env1 h1 => ?_) fun _ _ h => h⟩
  intro v H1 F1 g1 m1 e1
  have h1 : PR (okE Γ σ H F T (a.pure && true) Q) (exK Γ W σ T) (lift (bmeth .bits x []) env1) := h1
  obtain ⟨z, ez, k⟩ := h1.lift
  obtain ⟨f, r⟩ := ge_rep g1
  cases x <;> simp only [bmeth] at ez <;> cases ez
  exact ⟨_, rep_int r, k _ H1 F1 (g1.drop.push (mk_int _)) m1 fun q => e1 (pand q).1⟩

/-! ### fields -/
theorem lookF_rep {G : Txt} {C : Addr} {f : Nat} {n : Str} (hf : G.att f = some n) (hi : ∀ a b n, G.att a = some n → G.att b = some n → a = b) : ∀ {as : List Nat} {ns : List Str} {xs : List PV} {vs : List V} {fp : List Addr} {z : PV}, attL G C as ns → RepL G F H xs vs fp → lookF as xs f = some z →
    NoAttr G.K C n ∧ ∃ v fz, (ns.zip vs).lookup n = some v ∧ Rep G F H z v fz ∧ ∀ a ∈ fz, a ∈ fp
  | [], ns, xs, vs, fp, z, ha, r, h => by unfold lookF at h; cases h
  | a :: as, [], xs, vs, fp, z, ha, r, h => by unfold attL at ha; exact ha.elim
  | a :: as, n' :: ns, [], vs, fp, z, ha, r, h => by unfold lookF at h; cases h
  | a :: as, n' :: ns, x :: xs, vs, fp, z, ha, r, h => by
    unfold attL at ha
    obtain ⟨v, vr, f1, f2, rfl, rfl, h1, h2⟩ := RepL.cons_iff.mp r
    unfold lookF at h
    split at h
    · rename_i e; cases h
      subst e
      have en : n' = n := Option.some.inj (ha.1.symm.trans hf)
      subst en
      refine ⟨ha.2.1, v, f1, ?_, h1, fun a m => List.mem_append_left _ m⟩
      rw [List.zip_cons_cons, List.lookup_cons_self]
    · rename_i e
      obtain ⟨q1, v', fz, q2, q3, q4⟩ := lookF_rep hf hi ha.2.2 h2 h
      refine ⟨q1, v', fz, ?_, q3, fun a m => List.mem_append_right _ (q4 a m)⟩
      have ne : n' ≠ n := fun q => e (hi a f n (by rw [ha.1, q]) hf)
      rw [List.zip_cons_cons, List.lookup_cons]
      have : (n == n') = false := by simp; exact fun q => ne q.symm
      rw [this]; exact q2
theorem n_fld {a : Ex} {f : Nat} {x : Expr} {n : Str} {pos : Pos} (S : XS Γ sc X) (K : Kn0 Γ) (hx : plainX x = true) (hf : isStr (Γ.M.att f) n = true) (ia : PE X x (tE Γ W a)) : PE X (.Attribute x n pos) (tE Γ W (.fld a f)) := by
  have hf := isStr_iff.mp hf
  rw [← K.att] at hf
  refine PEmono (pe_fld ia (plain_base hx)) fun σ H Q ⟨F, env, T, g, hp⟩ => ?_
  rw [S.K]
  unfold Ex.pure at hp; unfold ev at hp
  refine ⟨F, env, T, g, (PR.bind.mp hp).imp (fun x env1 h1 => ?_) fun _ _ h => h⟩
  intro v H1 F1 g1 m1 e1
  obtain ⟨F2, g2, m2⟩ := g1.fz
  obtain ⟨f0, r0⟩ := ge_rep g1
  have rz := g2.good.repF (x := x.fz) (v := v) (frz_fz_rep r0)
  split at h1
  · rename_i o C as xs ex
    obtain ⟨z, ez, k⟩ := h1.lift
    rw [ex] at rz
    unfold Rep at rz
    obtain ⟨p, Ca, dx, ns, vs, fl, rfl, hc, hp, hn, hk, hl, ho⟩ := rz
    have efl : fl = [] := by
      rcases ho with ⟨_, _, q⟩ | ⟨_, _, q, _⟩
      · cases q
      · exact q
    subst efl
    obtain ⟨q1, w, fz, q2, q3, q4⟩ := lookF_rep hf (by rw [K.att]; exact K.inj) hn hl ez
    have efz : fz = [] := List.eq_nil_iff_forall_not_mem.mpr fun a ha => by have := q4 a ha; simp at this
    subst efz
    exact ⟨p, Ca, dx, _, w, rfl, hp, K.cls C Ca hc, q1, q2, k w H1 F2 (g2.drop.push q3) (fun a z => m2 a (m1 a z)) e1⟩
  · exact h1.elim

/-! ### places -/
theorem n_pv {i : Nat} {x : Str} {p : Pos} (S : XS Γ sc X) (h : chkV Γ.N sc i x = true) : PE X (.Name x p) (tP Γ W (.pv i)) :=
  PEmono (S.var h) fun σ H Q ⟨F, env, T, g, hp⟩ => by
    unfold Pl.pure at hp; unfold evp at hp
    obtain ⟨z, ez, k⟩ := hp.lift
    obtain ⟨v, hv, g'⟩ := g.take ez
    obtain ⟨f, r⟩ := ge_rep g'
    exact ⟨v, hv, k v H F g (.of r) (fun _ h => h) fun _ => .refl⟩
theorem n_pf {q : Pl} {f : Nat} {x : Expr} {n : Str} {pos : Pos} (S : XS Γ sc X) (K : Kn0 Γ) (hx : plainX x = true) (hf : isStr (Γ.M.att f) n = true) (ia : PE X x (tP Γ W q)) : PE X (.Attribute x n pos) (tP Γ W (.pf q f)) := by
  have hf := isStr_iff.mp hf
  rw [← K.att] at hf
  refine PEmono (pe_fld ia (plain_base hx)) fun σ H Q ⟨F, env, T, g, hp⟩ => ?_
  rw [S.K]
  unfold Pl.pure at hp; unfold evp at hp
  refine ⟨F, env, T, g, (PR.bind.mp hp).imp (fun x env1 h1 => ?_) fun _ _ h => h⟩
  intro v H1 F1 g1 w1 m1 e1
  split at h1
  · rename_i o C as xs
    obtain ⟨z, ez, k⟩ := h1.lift
    obtain ⟨F0, H0, fp, r, mf, eh⟩ := w1
    obtain ⟨p, Ca, dx, ns, vs, fl, rfl, hc, hp, hn, hk, hl⟩ := rep_obj r
    obtain ⟨q1, w, fz, q2, q3, q4⟩ := lookF_rep hf (by rw [K.att]; exact K.inj) hn hl ez
    exact ⟨p, Ca, dx, _, w, rfl, eh _ _ hp, K.cls C Ca hc, q1, q2, k w H1 F1 g1 ⟨F0, H0, fz, q3, mf, eh⟩ m1 e1⟩
  · exact h1.elim
theorem n_pi {q : Pl} {b : Ex} {x y : Expr} {pos : Pos} (S : XS Γ sc X) (hy : plainX y = true) (hb : b.pure = true) (ia : PE X x (tP Γ W q)) (ib : PE X y (tE Γ W b)) : PE X (.Subscript x y pos) (tP Γ W (.pi q b)) :=
  PEmono (pe_ix (ix_all (by have := S.room.units; omega)) ia ib (plain_ix hy)) fun σ H Q ⟨F, env, T, g, hp⟩ => by
    rw [S.K]
    unfold Pl.pure at hp; unfold evp at hp
    refine ⟨F, env, T, g, (PR.bind.mp hp).imp (fun x env1 h1 => ?_) fun _ _ h => h⟩
    intro v H1 F1 g1 w1 m1 e1
    refine ⟨F1, env1, T, g1, (PR.bind.mp h1).imp (fun y env2 h2 => ?_) fun _ _ h => h⟩
    intro u H2 F2 g2 m2 e2
    obtain ⟨z, ez, k⟩ := h2.lift
    obtain ⟨F0, H0, fp, r, mf, eh⟩ := w1.mono m2 (e2 hb)
    obtain ⟨f, rk⟩ := ge_rep g2
    obtain ⟨w, fz, q3, q4, q5⟩ := item_rep rfl ez r rk
    exact q5 eh (k w H2 F2 g2.drop ⟨F0, H0, fz, q3, mf, eh⟩ (fun a z => m2 a (m1 a z)) fun q => (e1 (pand q).1).trans (e2 (pand q).2))
theorem n_rd {q : Pl} {x : Expr} (ia : PE X x (tP Γ W q)) : PE X x (tE Γ W (.rd q)) :=
  PEmono ia fun σ H Q ⟨F, env, T, g, hp⟩ => by
    unfold Ex.pure at hp; unfold ev at hp
    refine ⟨F, env, T, g, (PR.bind.mp hp).imp (fun x env1 h1 => ?_) fun _ _ h => h⟩
    intro v H1 F1 g1 w1 m1 e1
    split at h1
    · rename_i c
      exact h1 v H1 F1 (g1.push (w1.rep c)) m1 e1
    · exact h1.elim
theorem n_lenp {q : Pl} {e : Expr} {p pos : Pos} (S : XS Γ sc X) (K : Kn0 Γ) (hg : glB sc "len" = true) (hx : plainX e = true) (ia : PE X e (tP Γ W q)) : PE X (.Call (.Name "len" p) [e] [] pos) (tE Γ W (.lenp q)) := by
  obtain ⟨hg, hd, hn⟩ := S.gl hg
  refine PEmono (pe_callB (id := "len") (r := rBf X.K .len) (call_len_seq.or (call_len_str.or call_lenD)) hg (bt S K (by decide)) boot_len (pa_cons ia pa_nil (plain_star hx)) hn hd (plain_star hx) rfl) fun σ H Q ⟨F, env, T, g, hp⟩ => ?_
  rw [S.K]
  unfold Ex.pure at hp; unfold ev at hp
  refine ⟨F, env, T, g, (PR.bind.mp hp).imp (fun x env1 h1 => ?_) fun _ _ h => h⟩
  intro v H1 F1 g1 w1 m1 e1
  obtain ⟨z, ez, k⟩ := h1.lift
  obtain ⟨F0, H0, fp, r, mf, eh⟩ := w1
  cases e : lenP x with
  | none => rw [e] at ez; cases ez
  | some n =>
    rw [e] at ez; cases ez
    have fin : Q (.int (n : Nat)) H1 := k _ _ _ (g1.push (mk_int _)) m1 e1
    unfold lenP at e
    split at e
    · cases e
      obtain ⟨a, vs, fl, rfl, ha, hl⟩ := rep_lst r
      exact .inl ⟨a, vs, rfl, .inl (.of (eh _ _ ha)), by rw [← hl.length]; exact fin⟩
    · cases e
      obtain ⟨a, vs, fl, rfl, ha, hl⟩ := rep_tup r
      refine .inl ⟨a, vs, rfl, .inr ?_, by rw [← hl.length]; exact fin⟩
      rcases ha with (ha | ha) | ha
      · exact .inl (.inl (eh _ _ ha))
      · exact .inl (.inr ⟨_, eh _ _ ha.choose_spec⟩)
      · exact .inr ha
    · split at e
      · rename_i c; cases e
        rw [lineB_eq] at c
        rw [rep_str r]
        exact .inr (.inl ⟨_, rfl, c, fin⟩)
      · cases e
    · cases e
      obtain ⟨a, vs, fl, rfl, ha, hk, hl⟩ := rep_dic r
      refine .inr (.inr ⟨a, _, rfl, eh _ _ ha, ?_⟩)
      rw [List.length_zip, ← hl.length, ← hk, Nat.min_self]
      exact fin
    · cases e
theorem red_inp {neg : Bool} {a : Ex} {q : Pl} {Q : VK} (h : tE Γ W (.inp neg a q) σ H Q) : tOp (rCop Γ.G.K (if neg then .notin else .isin)) (tE Γ W a) (tP Γ W q) σ H Q := by
  obtain ⟨F, env, T, g, hp⟩ := h
  unfold Ex.pure at hp; unfold ev at hp
  refine ⟨F, env, T, g, (PR.bind.mp hp).imp (fun x env1 h1 => ?_) fun _ _ h => h⟩
  intro v H1 F1 g1 m1 e1
  refine ⟨F1, env1, (x, v) :: T, g1, (PR.bind.mp h1).imp (fun c env2 h2 => ?_) fun _ _ h => exK_drop h⟩
  intro u H2 F2 g2 w2 m2 e2
  obtain ⟨z, ez, k⟩ := h2.lift
  cases e : inP x c with
  | none => rw [e] at ez; cases ez
  | some b =>
    rw [e] at ez; cases ez
    obtain ⟨f, r⟩ := ge_rep g2
    obtain ⟨F0, H0, fp, rc, mf, eh⟩ := w2
    have fin : Q (.bl (if neg then !b else b)) H2 := k _ _ _ (g2.drop.push (mk_bl _)) (fun a z => m2 a (m1 a z)) fun q => (e1 (pand q).1).trans (e2 (pand q).2)
    have := inP_rep (K := Γ.G.K) (neg := neg) rfl e r rc eh fin
    cases neg
    · exact this
    · exact this
theorem n_inp {neg : Bool} {a : Ex} {q : Pl} {op : CmpOp} {l r : Expr} {pos : Pos} (S : XS Γ sc X) (h : copOk (if neg then .notin else .isin) op = true) (hr : plainX r = true) (ia : PE X l (tE Γ W a)) (ib : PE X r (tP Γ W q)) :
    PE X (.Compare l [op] [r] pos) (tE Γ W (.inp neg a q)) ∧ PT X (.Compare l [op] [r] pos) (tT Γ W (.inp neg a q)) := by
  have ho := op_cop (X := X) S.room.units h
  rw [S.K] at ho
  exact ⟨PEmono (pe_cmpR ho ia ib (plain_marks hr)) fun σ H Q q => red_inp q, PTmono (pt_cmpR ho ia ib (plain_marks hr)) fun σ H Q q => red_inp (tT_tE q)⟩
end
end Z

set_option Elab.async false
set_option linter.all false
set_option maxRecDepth 100000
/-! Z10: calls. -/
namespace Z
open PySem L2

/-- the roots among the arguments; the values of those that are handed to be changed -/
def aR : List (Option Nat) → List PV → List V → List (PV × V)
  | some _ :: ks, _ :: xs, _ :: vs => aR ks xs vs
  | none :: ks, x :: xs, v :: vs => (x, v) :: aR ks xs vs
  | _, _, _ => []
def aM (σ : L2.St) : List (Option Nat) → List V → Prop
  | [], [] => True
  | some i :: ks, v :: vs => σ[i]? = some (some v) ∧ aM σ ks vs
  | none :: ks, _ :: vs => aM σ ks vs
  | _, _ => False
def mvB : List Bool → List V → List V
  | true :: bs, v :: vs => v :: mvB bs vs
  | false :: bs, _ :: vs => mvB bs vs
  | _, _ => []
/-- a def's promise, by what it computes -/
def spF (G : Txt) (mode : List Bool) (sem : List PV → RC) : Sp := fun vs H Q _ => ∃ F fA xs, xs.length = vs.length ∧ okA mode xs = true ∧ Good G ⟨F, H, fA⟩ H F [] (xs.zip vs) ∧
  match sem xs with
  | .ret y ms => ∀ v H' F', Good G ⟨F, H, fA⟩ H' F' [] ((y, v) :: ms.zip (mvB mode vs)) → Q v H'
  | _ => False

section
variable {Γ : Ctx} {W : WX} {σ : L2.St} {H : Hp} {F : Addr → Prop} {T : List (PV × V)} {env : Env}
theorem fill_ok : ∀ {ks : List (Option Nat)} {xs : List PV} {vs : List V} {ys : List PV} {F : Addr → Prop} {env : Env} {T : List (PV × V)}, xs.length = vs.length → aM σ ks vs → Γ.ge σ H F env (aR ks xs vs ++ T) → fillM ks xs env = some ys →
    ∃ F', Γ.ge σ H F' (outK ks env) (ys.zip vs ++ T) ∧ (∀ a, F a → F' a) ∧ ys.length = vs.length ∧ okA (modesOf ks) ys = true
  | [], [], vs, ys, F, env, T, hl, hm, g, h => by
    unfold fillM at h; cases h
    cases vs with
    | nil => exact ⟨F, g, fun _ h => h, rfl, rfl⟩
    | cons => simp at hl
  | [], x :: xs, vs, ys, F, env, T, hl, hm, g, h => by unfold fillM at h; cases h
  | some i :: ks, [], vs, ys, F, env, T, hl, hm, g, h => by unfold fillM at h; cases h
  | none :: ks, [], vs, ys, F, env, T, hl, hm, g, h => by unfold fillM at h; cases h
  | some i :: ks, x :: xs, [], ys, F, env, T, hl, hm, g, h => by simp at hl
  | none :: ks, x :: xs, [], ys, F, env, T, hl, hm, g, h => by simp at hl
  | some i :: ks, x :: xs, v :: vs, ys, F, env, T, hl, hm, g, h => by
    unfold fillM at h
    cases e : env.at i with
    | none => rw [e] at h; cases h
    | some x0 =>
      cases e2 : fillM ks xs (env.set i none) with
      | none => rw [e, e2] at h; cases h
      | some zs =>
        rw [e, e2] at h; cases h
        obtain ⟨hv, hm⟩ := (by unfold aM at hm; exact hm : σ[i]? = some (some v) ∧ aM σ ks vs)
        have g : Γ.ge σ H F env (aR ks xs vs ++ T) := g
        obtain ⟨v', hv', g1⟩ := g.take e
        rw [hv] at hv'
        cases hv'
        have g2 : Γ.ge σ H F (env.set i none) (aR ks xs vs ++ (x0, v) :: T) := g1.perm List.perm_middle.symm
        obtain ⟨F', g3, m, hl2, ho⟩ := fill_ok (by simpa using hl) hm g2 e2
        exact ⟨F', g3.perm List.perm_middle, m, by simp [hl2], by unfold modesOf okA; exact ho⟩
  | none :: ks, x :: xs, v :: vs, ys, F, env, T, hl, hm, g, h => by
    unfold fillM at h
    cases e2 : fillM ks xs env with
    | none => rw [e2] at h; cases h
    | some zs =>
      rw [e2] at h; cases h
      have hm : aM σ ks vs := by unfold aM at hm; exact hm
      have g : Γ.ge σ H F env ((x, v) :: (aR ks xs vs ++ T)) := g
      obtain ⟨f0, r0⟩ := ge_rep g
      obtain ⟨F1, g1, m1⟩ := g.fz
      have g2 : Γ.ge σ H F1 env (aR ks xs vs ++ (x.fz, v) :: T) := g1.perm List.perm_middle.symm
      obtain ⟨F', g3, m, hl2, ho⟩ := fill_ok (by simpa using hl) hm g2 e2
      exact ⟨F', g3.perm List.perm_middle, fun a z => m a (m1 a z), by simp [hl2], by
        unfold modesOf okA
        show (x.fz.frz && okA (modesOf ks) zs) = true
        rw [frz_fz_rep r0, ho]; rfl⟩
theorem back_ok : ∀ {ks : List (Option Nat)} {vs : List V} {ms : List PV} {env env' : Env} {T : List (PV × V)}, aM σ ks vs → Γ.ge σ H F env (ms.zip (mvB (modesOf ks) vs) ++ T) → backM ks ms env = some env' → Γ.ge σ H F env' T
  | [], [], ms, env, env', T, hm, g, h => by
    cases ms with
    | nil => unfold backM at h; cases h; exact g
    | cons => unfold backM at h; cases h
  | [], v :: vs, ms, env, env', T, hm, g, h => by unfold aM at hm; exact hm.elim
  | some i :: ks, [], ms, env, env', T, hm, g, h => by unfold aM at hm; exact hm.elim
  | none :: ks, [], ms, env, env', T, hm, g, h => by unfold aM at hm; exact hm.elim
  | none :: ks, v :: vs, ms, env, env', T, hm, g, h => by
    unfold backM at h
    have hm : aM σ ks vs := by unfold aM at hm; exact hm
    exact back_ok hm g h
  | some i :: ks, v :: vs, [], env, env', T, hm, g, h => by unfold backM at h; cases h
  | some i :: ks, v :: vs, m :: ms, env, env', T, hm, g, h => by
    unfold backM at h
    obtain ⟨hv, hm⟩ := (by unfold aM at hm; exact hm : σ[i]? = some (some v) ∧ aM σ ks vs)
    have g1 : Γ.ge σ H F env ((m, v) :: (ms.zip (mvB (modesOf ks) vs) ++ T)) := g
    have hi : i < env.length := by
      rw [g.we.length]
      exact (List.getElem?_eq_some_iff.mp hv).1
    have g2 : Γ.ge σ H F (env.set i (some m)) (ms.zip (mvB (modesOf ks) vs) ++ T) := (g1.kill i).put g.we hi hv
    exact back_ok hm g2 h
/-- a call -/
theorem call_ok {f : Nat} {ks : List (Option Nat)} {xs : List PV} {vs : List V} {Q : VK} {E : XK} (hl : xs.length = vs.length) (hm : aM σ ks vs) (g : Γ.ge σ H F env (aR ks xs vs ++ T))
    (h : PR (fun x env' => ∀ v H' F', Γ.ge σ H' F' env' ((x, v) :: T) → (∀ a, F a → F' a) → Q v H') (exK Γ W σ T) (callX Γ.tab f ks xs env)) : spF Γ.G (Γ.tab.mode f) (Γ.tab.fn f) vs H Q E := by
  unfold callX at h
  split at h
  · rename_i hmode
    split at h
    · rename_i ys hf
      obtain ⟨F1, g1, m1, hl1, ho⟩ := fill_ok hl hm g hf
      obtain ⟨fA, gA, back⟩ := Good.call (A := ys.zip vs) (R := T ++ rE (outK ks env) σ) (by rw [← List.append_assoc]; exact g1.good)
      refine ⟨F1, fA, ys, hl1, by rw [hmode]; exact ho, gA, ?_⟩
      cases e : Γ.tab.fn f ys with
      | bad => rw [e] at h; exact h.elim
      | exn x ms =>
        rw [e] at h
        unfold RC.res at h
        cases e2 : backM ks ms (outK ks env) with
        | none => simp only [e2] at h; exact h.elim
        | some env' => simp only [e2] at h; exact h.1
      | ret y ms =>
        rw [e] at h
        unfold RC.res at h
        cases e2 : backM ks ms (outK ks env) with
        | none => simp only [e2] at h; exact h.elim
        | some env' =>
          simp only [e2] at h
          intro v H' F' go
          obtain ⟨_, _, _, st⟩ := go.ex
          have g2 : Γ.ge σ H' F' (outK ks env) ((y, v) :: ms.zip (mvB (Γ.tab.mode f) vs) ++ T) := ⟨by rw [List.append_assoc]; exact back H' F' _ go, g1.we, g1.pin⟩
          rw [hmode] at g2
          have g3 : Γ.ge σ H' F' (outK ks env) (ms.zip (mvB (modesOf ks) vs) ++ (y, v) :: T) := g2.perm List.perm_middle.symm
          exact h v H' F' (back_ok hm g3 e2) fun a z => st.fm a (m1 a z)
    · exact h.elim
  · exact h.elim
/-- a new object and its __init__ -/
theorem make_ok {C : Nat} {ks : List (Option Nat)} {xs : List PV} {vs : List V} {Q : VK} {E : XK} {f : Nat} {Ca : Addr} (hi : Γ.tab.init C = some f) (hC : Γ.G.cls C = some Ca) (hl : xs.length = vs.length) (hm : aM σ ks vs) (g : Γ.ge σ H F env (aR ks xs vs ++ T))
    (h : PR (fun x env' => ∀ v H' F', Γ.ge σ H' F' env' ((x, v) :: T) → (∀ a, F a → F' a) → Q v H') (exK Γ W σ T) (makeX Γ.tab C ks xs env)) {x dx : Addr} (hx : H x = none) (hdx : H dx = none) (hne : dx ≠ x) :
    spF Γ.G (Γ.tab.mode f) (Γ.tab.fn f) (.ref x :: vs) (upd (upd H dx (.own x)) x (.ins Ca dx [])) (fun v H2 => v = .non ∧ Q (.ref x) H2) E := by
  unfold makeX at h
  rw [hi] at h
  simp only at h
  split at h
  · rename_i hmode
    split at h
    · rename_i ys hf
      obtain ⟨F1, g1, m1, hl1, ho⟩ := fill_ok hl hm g hf
      have g2 : Γ.ge σ (upd H dx (.own x)) F1 (outK ks env) (ys.zip vs ++ T) := g1.ext (.new hdx)
      have hx2 : upd H dx (.own x) x = none := by rw [upd_ne (Ne.symm hne)]; exact hx
      obtain ⟨F2, g3, m2⟩ := Good.alloc (B := Γ.B) (X := []) (R := ys.zip vs ++ T ++ rE (outK ks env) σ) (xs := []) (vs := []) (p := x) (o := .ins Ca dx []) (y := .obj true C [] []) true rfl (by simpa using g2.good) hx2 (fun F' fl n1 _ hfl => by
        obtain ⟨_, rfl⟩ := RepL.nil_iff.mp hfl
        simp only [if_true]
        unfold Rep
        exact ⟨x, Ca, dx, [], [], [], rfl, hC, upd_same, trivial, rfl, RepL.nil_iff.mpr ⟨rfl, rfl⟩, .inl ⟨rfl, n1 rfl, rfl⟩⟩)
      obtain ⟨fA, gA, back⟩ := Good.call (A := (.obj true C [] [], .ref x) :: ys.zip vs) (R := T ++ rE (outK ks env) σ) (by simpa using g3)
      refine ⟨F2, fA, .obj true C [] [] :: ys, by simp [hl1], by rw [hmode]; unfold okA; exact ho, gA, ?_⟩
      split at h
      · rename_i o ms e
        rw [e]
        unfold RC.res at h
        cases e2 : backM ks ms (outK ks env) with
        | none => simp only [e2] at h; exact h.elim
        | some env' =>
          simp only [e2] at h
          intro v H' F' go
          obtain ⟨_, _, _, st⟩ := go.ex
          rw [hmode] at go
          have g4 : Γ.ge σ H' F' (outK ks env) ((.non, v) :: (o, .ref x) :: ms.zip (mvB (modesOf ks) vs) ++ T) := ⟨by rw [List.append_assoc]; exact back H' F' _ go, g1.we, g1.pin⟩
          obtain ⟨f0, r0⟩ := ge_rep g4
          refine ⟨rep_non r0, ?_⟩
          have g5 : Γ.ge σ H' F' (outK ks env) (ms.zip (mvB (modesOf ks) vs) ++ (o, .ref x) :: T) := g4.drop.perm List.perm_middle.symm
          exact h (.ref x) H' F' (back_ok hm g5 e2) fun a z => st.fm a (m2 a (m1 a z))
      · rename_i x0 o ms e
        unfold RC.res at h
        cases e2 : backM ks ms (outK ks env) with
        | none => simp only [e2] at h; exact h.elim
        | some env' => simp only [e2] at h; exact h.1.elim
      · exact h.elim
    · exact h.elim
  · exact h.elim
end

/-- the arguments by place, the keywords' behind them -/
def gk {α : Type} (np nk : Nat) (us ws : List α) : List α := if us.length = np ∧ ws.length = nk then us ++ ws else []
/-- what is known of the module's defs -/
structure FnK (Γ : Ctx) (f : Nat) (a : Addr) : Prop where
  ex : ∃ (fd : FuncData) (ps : List Str), FnOk Γ.P Γ.w Γ.G.K Γ.mg Γ.base C8.CX0 Γ.lev a fd ps (spF Γ.G (Γ.tab.mode f) (Γ.tab.fn f)) ∧ (Γ.M.pat f = none → Binds Γ.G.K fd ps []) ∧ ∀ np ks, Γ.M.pat f = some (np, ks) → KBinds Γ.G.K fd ps ks (gk np ks.length) (gk np ks.length)
structure Kn (Γ : Ctx) : Prop extends Kn0 Γ where
  fn : ∀ f x, Γ.M.fn f = some x → ∃ a, Γ.mg x = some (.ref a) ∧ PySem.W.keepIn Γ.G.K (.ref a) = true ∧ FnK Γ f a
  meth : ∀ C Ca m n f, Γ.G.cls C = some Ca → Γ.M.att m = some n → Γ.tab.meth C m = some f → ∃ a, Meth Γ.G.K Ca n a ∧ FnK Γ f a ∧ Γ.M.pat f = none
  init : ∀ C x f, Γ.M.cls C = some x → Γ.tab.init C = some f → ∃ Ca a, Γ.G.cls C = some Ca ∧ Γ.mg x = some (.ref Ca) ∧ Mk Γ.G.K Ca a ∧ FnK Γ f a ∧ Γ.M.pat f = none

section
variable {Γ : Ctx} {W : WX} {σ : L2.St} {H : Hp} {F : Addr → Prop} {T : List (PV × V)} {env : Env} {X : Cx} {sc : Scope}
def okAs (Γ : Ctx) (ks : List (Option Nat)) (σ : L2.St) (H : Hp) (F : Addr → Prop) (T : List (PV × V)) (Q : List V → Hp → Prop) : List PV → Env → Prop := fun xs env' => ∀ vs H' F', xs.length = vs.length → aM σ ks vs → Γ.ge σ H' F' env' (aR ks xs vs ++ T) → (∀ a, F a → F' a) → Q vs H'
def tAs (Γ : Ctx) (W : WX) (es : Exs) : TA := fun σ H Q => ∃ F env T, Γ.ge σ H F env T ∧ PR (okAs Γ (kinds es) σ H F T Q) (exK Γ W σ T) (evs Γ.tab es env)
theorem a_nil : PA X [] (tAs Γ W .nil) := PAmono pa_nil fun σ H Q ⟨F, env, T, g, hp⟩ => by
  unfold evs at hp
  exact hp [] H F rfl True.intro g fun _ h => h
theorem a_cons {e : Ex} {es : Exs} {x : Expr} {xs : List Expr} (hm : e.mg = none) (hx : plainX x = true) (i1 : PE X x (tE Γ W e)) (i2 : PA X xs (tAs Γ W es)) : PA X (x :: xs) (tAs Γ W (.cons e es)) :=
  PAmono (pa_cons i1 i2 (plain_star hx)) fun σ H Q ⟨F, env, T, g, hp⟩ => by
    unfold evs at hp
    refine ⟨F, env, T, g, (PR.bind.mp hp).imp (fun x env1 h1 => ?_) fun _ _ h => h⟩
    intro v H1 F1 g1 m1 e1
    refine ⟨F1, env1, (x, v) :: T, g1, (PR.bind.mp h1).imp (fun ys env2 h2 => ?_) fun _ _ h => exK_drop h⟩
    intro vs H2 F2 hl ha g2 m2
    refine h2 (v :: vs) H2 F2 (by simp [hl]) ?_ ?_ (fun a z => m2 a (m1 a z))
    · unfold kinds; rw [hm]; exact ha
    · unfold kinds; rw [hm]; exact g2.perm List.perm_middle
theorem a_marg {i : Nat} {es : Exs} {x : Str} {p : Pos} {xs : List Expr} (S : XS Γ sc X) (h : chkV Γ.N sc i x = true) (i2 : PA X xs (tAs Γ W es)) : PA X (.Name x p :: xs) (tAs Γ W (.cons (.marg i) es)) :=
  PAmono (pa_cons (S.var h) i2 (plain_star rfl)) fun σ H Q ⟨F, env, T, g, hp⟩ => by
    unfold evs ev at hp
    cases e : env.at i with
    | none => rw [e] at hp; exact hp.elim
    | some x0 =>
      rw [e] at hp
      obtain ⟨v, hv, _⟩ := g.take e
      have hp : PR (okAs Γ (some i :: kinds es) σ H F T Q) (exK Γ W σ T) ((evs Γ.tab es env).bind fun xs env => .ok (.non :: xs) env) := hp
      refine ⟨v, hv, F, env, T, g, (PR.bind.mp hp).imp (fun ys env2 h2 => ?_) fun _ _ h => h⟩
      intro vs H2 F2 hl ha g2 m2
      exact h2 (v :: vs) H2 F2 (by simp [hl]) ⟨hv, ha⟩ g2 m2
theorem PR_nil {α : Type} {ok : α → Env → Prop} {ex : XV → Env → Prop} {k : List PV → Env → Res α} {env : Env} (h : PR ok ex ((evs Γ.tab .nil env).bind k)) : PR ok ex (k [] env) := by
  unfold evs at h
  exact h
theorem okE_np {z : PV} {env' : Env} {Q : VK} (h : okE Γ σ H F T false Q z env') : ∀ v H' F', Γ.ge σ H' F' env' ((z, v) :: T) → (∀ a, F a → F' a) → Q v H' := fun v H' F' g m => h v H' F' g m fun q => nomatch q
theorem n_call {f : Nat} {es : Exs} {x : Str} {xs : List Expr} {p pos : Pos} (S : XS Γ sc X) (K : Kn Γ) (h1 : isStr (Γ.M.fn f) x = true) (hpat : Γ.M.pat f = none) (h2 : glB sc x = true) (hxs : ∀ e ∈ xs, plainX e = true) (hn : xs = [] → es = .nil) (ia : PA X xs (tAs Γ W es)) :
    PE X (.Call (.Name x p) xs [] pos) (tE Γ W (.call f es .nil)) := by
  obtain ⟨hg, hd, _⟩ := S.gl h2
  obtain ⟨a, hm, hk, fd, ps, FO, hb⟩ := (by
    obtain ⟨a, hm, hk, ⟨q⟩⟩ := K.fn f x (isStr_iff.mp h1)
    obtain ⟨fd, ps, q1, q2, _⟩ := q
    exact ⟨a, hm, hk, fd, ps, q1, q2 hpat⟩ : ∃ a, Γ.mg x = some (.ref a) ∧ PySem.W.keepIn Γ.G.K (.ref a) = true ∧ ∃ (fd : FuncData) (ps : List Str), FnOk Γ.P Γ.w Γ.G.K Γ.mg Γ.base C8.CX0 Γ.lev a fd ps (spF Γ.G (Γ.tab.mode f) (Γ.tab.fn f)) ∧ Binds Γ.G.K fd ps [])
  rw [← S.prog, ← S.w, ← S.K, ← S.mg, ← S.base] at FO
  rw [← S.K] at hk hb
  rw [← S.mg] at hm
  have red : ∀ σ H Q, tE Γ W (.call f es .nil) σ H Q → tCall (spF Γ.G (Γ.tab.mode f) (Γ.tab.fn f)) [] C8.E0 (tAs Γ W es) σ H Q := fun σ H Q ⟨F, env, T, g, hp⟩ => by
    unfold Ex.pure ev at hp
    refine ⟨F, env, T, g, (PR.bind.mp hp).imp (fun ys env1 h1 => ?_) fun _ _ h => h⟩
    intro vs H1 F1 hl ha g1 m1
    have h3 := PR_nil h1
    rw [show kinds .nil = [] from rfl, List.append_nil, List.append_nil] at h3
    rw [List.append_nil]
    exact call_ok (W := W) hl ha g1 (h3.imp (fun z env2 q v H' F' g' m' => okE_np q v H' F' g' fun a z => m' a (m1 a z)) fun _ _ h => h)
  cases xs with
  | nil =>
    cases hn rfl
    refine PEmono (pe_call0 (E := C8.E0) (dvs := []) FO (S.room.mono (by omega)) hg hm hk hb .nil C8.pass0 hd) fun σ H Q q => ?_
    obtain ⟨F, env, T, g, hp⟩ := red σ H Q q
    unfold evs at hp
    exact hp [] H F rfl True.intro g fun _ h => h
  | cons e xs =>
    exact PEmono (pe_call (E := C8.E0) (dvs := []) FO (S.room.mono (by omega)) hg hm hk hb .nil C8.pass0 ia hd (plain_star (hxs e List.mem_cons_self)) (plain_pl fun y hy => hxs y (List.mem_cons_of_mem _ hy))) red
theorem n_make {C : Nat} {es : Exs} {x : Str} {xs : List Expr} {p pos : Pos} (S : XS Γ sc X) (K : Kn Γ) (h1 : isStr (Γ.M.cls C) x = true) (h2 : glB sc x = true) (hxs : ∀ e ∈ xs, plainX e = true) (hn : xs = [] → es = .nil) (ia : PA X xs (tAs Γ W es)) :
    PE X (.Call (.Name x p) xs [] pos) (tE Γ W (.make C es .nil)) := by
  obtain ⟨hg, hd, _⟩ := S.gl h2
  cases hi : Γ.tab.init C with
  | none =>
    refine ⟨fun pins s σ H Q I ⟨F, env, T, g, hp⟩ => ?_⟩
    unfold Ex.pure ev at hp
    refine False.elim (?_ : False)
    have h := PR.bind.mp hp
    cases e : evs Γ.tab es env with
    | bad => rw [e] at h; exact h
    | exn => rw [e] at h; exact h.1
    | ok ys env1 =>
      rw [e] at h
      have h3 := PR_nil h
      unfold makeX at h3
      rw [hi] at h3
      exact h3
  | some f =>
    obtain ⟨Ca, a, hC, hm, M, fd, ps, FO, hb⟩ := (by
      obtain ⟨Ca, a, hC, hm, M, ⟨q⟩, hpat⟩ := K.init C x f (isStr_iff.mp h1) hi
      obtain ⟨fd, ps, q1, q2, _⟩ := q
      exact ⟨Ca, a, hC, hm, M, fd, ps, q1, q2 hpat⟩ : ∃ Ca a, Γ.G.cls C = some Ca ∧ Γ.mg x = some (.ref Ca) ∧ Mk Γ.G.K Ca a ∧ ∃ (fd : FuncData) (ps : List Str), FnOk Γ.P Γ.w Γ.G.K Γ.mg Γ.base C8.CX0 Γ.lev a fd ps (spF Γ.G (Γ.tab.mode f) (Γ.tab.fn f)) ∧ Binds Γ.G.K fd ps [])
    rw [← S.prog, ← S.w, ← S.K, ← S.mg, ← S.base] at FO
    rw [← S.K] at hb M
    rw [← S.mg] at hm
    have red : ∀ σ H Q, tE Γ W (.make C es .nil) σ H Q → tMake Ca (spF Γ.G (Γ.tab.mode f) (Γ.tab.fn f)) [] C8.E0 (tAs Γ W es) σ H Q := fun σ H Q ⟨F, env, T, g, hp⟩ => by
      unfold Ex.pure ev at hp
      refine ⟨F, env, T, g, (PR.bind.mp hp).imp (fun ys env1 h1 => ?_) fun _ _ h => h⟩
      intro vs H1 F1 hl ha g1 m1 x dx hx hdx hne
      have h3 := PR_nil h1
      rw [show kinds .nil = [] from rfl, List.append_nil, List.append_nil] at h3
      rw [List.append_nil]
      exact make_ok (W := W) hi hC hl ha g1 (h3.imp (fun z env2 q v H' F' g' m' => okE_np q v H' F' g' fun a z => m' a (m1 a z)) fun _ _ h => h) hx hdx hne
    cases xs with
    | nil =>
      cases hn rfl
      refine PEmono (pe_make0 (E := C8.E0) (dvs := []) M FO S.room hg hm hb .nil C8.pass0 hd) fun σ H Q q => ?_
      obtain ⟨F, env, T, g, hp⟩ := red σ H Q q
      unfold evs at hp
      exact hp [] H F rfl True.intro g fun _ h => h
    | cons e xs =>
      exact PEmono (pe_make (E := C8.E0) (dvs := []) M FO S.room hg hm hb .nil C8.pass0 ia hd (plain_star (hxs e List.mem_cons_self)) (plain_pl fun y hy => hxs y (List.mem_cons_of_mem _ hy))) red

/-! ### methods -/
/-- o.m(..): which def it is, the receiver's class tells -/
def tMethX (K : PySem.W.Frag) (P : Program) (w : World) (mg : Str → Option Value) (base : Heap) (k : Nat) (m : Str) (ta : TE) (t : TA) : TE := fun σ H Q => ta σ H fun x H1 => ∃ C a dx fs f fd ps sp, x = .ref a ∧ H1 a = some (.ins C dx fs) ∧ fs.lookup m = none ∧ Cls K C ∧ Meth K C m f ∧
  FnOk P w K mg base C8.CX0 k f fd ps sp ∧ Binds K fd ps [] ∧ t σ H1 fun vs H2 => sp (x :: vs) H2 Q C8.E0
theorem pe_methX {o : Expr} {e : Expr} {es : List Expr} {ta : TE} {t : TA} {m : Str} {k : Nat} {apos pos : Pos} {pl : Sem Bool} (he : PE X o ta) (hr : Room k X.A) (ha : PA X (e :: es) t)
    (hst : starEach (e :: es) X.env = (false, eval e X.env) :: starEach es X.env) (hpl : (backTo pos (starEach es X.env)).any (·.1) = false)
    (ht : eval (.Call (.Attribute o m apos) (e :: es) [] pos) X.env = (do
      let ov ← eval o X.env
      standAt apos.atName
      let (f, first) ← holding [ov] (getMethod ov m pl)
      callWith pos f first (backTo pos (starEach (e :: es) X.env)) (backToKw pos (keywordEach [] X.env)))) :
    PE X (.Call (.Attribute o m apos) (e :: es) [] pos) (tMethX X.K X.prog X.w X.mg X.base k m ta t) := by
  refine ⟨fun pins s σ H Q I h => ?_⟩
  refine PySem.W.methodCall_KW (pl := pl) (thn (he.run pins s σ H _ I h) fun u s1 ⟨x, H1, I1, rx, C, a, dx, fs, f, fd, ps, sp, ex, ea, l, c, hm, F, hb, q⟩ => ?_) ht
  subst ex
  obtain rfl : u = Value.ref a := rx
  refine getmeth_ok I1 ea c hm l ?_
  refine PySem.W.callWith_K (first := [.ref a]) (h₀ := X.base) I.ok.mod.kin hm.kp (thn (ha.run pos pins s1 σ H1 _ I1 q) fun us s2 ⟨vs, H2, I2, r, q2⟩ => ⟨I2.kIn, ?_⟩) hst hpl
  exact run_fn (us := .ref a :: us) (vs := .ref a :: vs) (dvs := []) (ds := []) (E := C8.E0) F hr hb .nil C8.pass0 I2 (.cons rfl r) (by rw [List.append_nil]; exact q2)
theorem pe_methX0 {o : Expr} {ta : TE} {m : Str} {k : Nat} {apos pos : Pos} {pl : Sem Bool} (he : PE X o ta) (hr : Room k X.A)
    (ht : eval (.Call (.Attribute o m apos) [] [] pos) X.env = (do
      let ov ← eval o X.env
      standAt apos.atName
      let (f, first) ← holding [ov] (getMethod ov m pl)
      callWith pos f first (backTo pos (starEach [] X.env)) (backToKw pos (keywordEach [] X.env)))) :
    PE X (.Call (.Attribute o m apos) [] [] pos) (tMethX X.K X.prog X.w X.mg X.base k m ta tNil) := by
  refine ⟨fun pins s σ H Q I h => ?_⟩
  refine PySem.W.methodCall_KW (pl := pl) (thn (he.run pins s σ H _ I h) fun u s1 ⟨x, H1, I1, rx, C, a, dx, fs, f, fd, ps, sp, ex, ea, l, c, hm, F, hb, q⟩ => ?_) ht
  subst ex
  obtain rfl : u = Value.ref a := rx
  refine getmeth_ok I1 ea c hm l ?_
  exact PySem.W.callWith_K0 (first := [.ref a]) I1.kIn hm.kp (run_fn (us := [.ref a]) (vs := [.ref a]) (dvs := []) (ds := []) (E := C8.E0) F hr hb .nil C8.pass0 I1 (.cons rfl .nil) (by rw [List.append_nil]; exact q))
theorem attL_none {G : Txt} {C : Addr} {n : Str} {f : Addr} (hm : Meth G.K C n f) : ∀ {as : List Nat} {ns : List Str} {vs : List V}, attL G C as ns → (ns.zip vs).lookup n = none
  | [], [], vs, h => rfl
  | [], _ :: _, vs, h => by unfold attL at h; exact h.elim
  | _ :: _, [], vs, h => by unfold attL at h; exact h.elim
  | a :: as, n' :: ns, [], h => rfl
  | a :: as, n' :: ns, v :: vs, h => by
    unfold attL at h
    have ne : n ≠ n' := fun q => by
      subst q
      have h1 : PySem.W.findIn G.K (.ref C) n = some none := h.2.1
      rw [hm.at_] at h1
      cases h1
    rw [List.zip_cons_cons, List.lookup_cons, show (n == n') = false by simpa using ne]
    exact attL_none hm h.2.2
/-- the receiver and the arguments of a method's call -/
theorem red_meth {m : Nat} {a : Ex} {es : Exs} {n : Str} {Q : VK} (S : XS Γ sc X) (K : Kn Γ) (h1 : Γ.M.att m = some n) (h : tE Γ W (.meth m a es .nil) σ H Q) : tMethX X.K X.prog X.w X.mg X.base Γ.lev n (tE Γ W a) (tAs Γ W es) σ H Q := by
  obtain ⟨F, env, T, g, hp⟩ := h
  unfold Ex.pure ev at hp
  refine ⟨F, env, T, g, (PR.bind.mp hp).imp (fun o env1 h2 => ?_) fun _ _ h => h⟩
  intro v H1 F1 g1 m1 e1
  obtain ⟨f0, r0⟩ := ge_rep g1
  obtain ⟨F2, g2, m2⟩ := g1.fz
  split at h2
  · rename_i C as ys eo
    cases hme : Γ.tab.meth C m with
    | none => simp only [hme] at h2; exact h2.elim
    | some f =>
      simp only [hme] at h2
      obtain ⟨f2, r2⟩ := ge_rep g2
      rw [eo] at r2
      obtain ⟨p, Ca, dx, ns, vs, fl, rfl, hc, hp, hn, hk, hl⟩ := rep_obj r2
      obtain ⟨fa, hmt, ⟨fd, ps, FO, hb', _⟩, hpat⟩ := K.meth C Ca m n f hc h1 hme
      have hb := hb' hpat
      have FO' := FO
      rw [← S.prog, ← S.w, ← S.K, ← S.mg, ← S.base] at FO
      have hns := attL_none (vs := vs) hmt hn
      rw [← S.K] at hb hmt
      refine ⟨Ca, p, dx, _, fa, fd, ps, _, rfl, hp, hns, by rw [S.K]; exact K.cls C Ca hc, hmt, FO, hb, ?_⟩
      rw [eo] at g2
      refine ⟨F2, env1, (.obj false C as ys, .ref p) :: T, g2, (PR.bind.mp h2).imp (fun xs env2 h3 => ?_) fun _ _ h => exK_drop h⟩
      intro vs2 H2 F3 hl2 ha g3 m3
      have h4 := PR_nil h3
      rw [show kinds .nil = [] from rfl, List.append_nil, List.append_nil] at h4
      have g4 : Γ.ge σ H2 F3 env2 (aR (none :: kinds es) (.obj false C as ys :: xs) (.ref p :: vs2) ++ T) := g3.perm List.perm_middle
      exact call_ok (W := W) (ks := none :: kinds es) (xs := .obj false C as ys :: xs) (vs := .ref p :: vs2) (by simp [hl2]) ha g4 (h4.imp (fun z env2 q v H' F' g' m' => okE_np q v H' F' g' fun a z => m' a (m3 a (m2 a (m1 a z)))) fun _ _ h => h)
  · exact h2.elim
theorem red_methm {m i : Nat} {es : Exs} {n : Str} {Q : VK} (S : XS Γ sc X) (K : Kn Γ) (h1 : Γ.M.att m = some n) (h : tE Γ W (.methm m i es .nil) σ H Q) : tMethX X.K X.prog X.w X.mg X.base Γ.lev n (tVar i) (tAs Γ W es) σ H Q := by
  obtain ⟨F, env, T, g, hp⟩ := h
  unfold Ex.pure ev at hp
  cases e : env.at i with
  | none => simp only [e] at hp; exact hp.elim
  | some x0 =>
    obtain ⟨v, hv, g'⟩ := g.take e
    obtain ⟨f0, r0⟩ := ge_rep g'
    simp only [e] at hp
    split at hp
    · rename_i o C as ys eo
      cases eo
      cases hme : Γ.tab.meth C m with
      | none => simp only [hme] at hp; exact hp.elim
      | some f =>
        simp only [hme] at hp
        obtain ⟨p, Ca, dx, ns, vs, fl, rfl, hc, hpp, hn, hk, hl⟩ := rep_obj r0
        obtain ⟨fa, hmt, ⟨fd, ps, FO, hb', _⟩, hpat⟩ := K.meth C Ca m n f hc h1 hme
        have hb := hb' hpat
        rw [← S.prog, ← S.w, ← S.K, ← S.mg, ← S.base] at FO
        have hns := attL_none (vs := vs) hmt hn
        rw [← S.K] at hb hmt
        refine ⟨.ref p, hv, Ca, p, dx, _, fa, fd, ps, _, rfl, hpp, hns, by rw [S.K]; exact K.cls C Ca hc, hmt, FO, hb, ?_⟩
        refine ⟨F, env, T, g, (PR.bind.mp hp).imp (fun xs env2 h3 => ?_) fun _ _ h => h⟩
        intro vs2 H2 F3 hl2 ha g3 m3
        have h4 := PR_nil h3
        rw [show kinds .nil = [] from rfl, List.append_nil, List.append_nil] at h4
        have ha2 : aM σ (some i :: kinds es) (.ref p :: vs2) := ⟨hv, ha⟩
        exact call_ok (W := W) (ks := some i :: kinds es) (xs := .non :: xs) (vs := .ref p :: vs2) (by simp [hl2]) ha2 g3 (h4.imp (fun z env2 q v H' F' g' m' => okE_np q v H' F' g' fun a z => m' a (m3 a z)) fun _ _ h => h)
    · exact hp.elim
theorem tMethX_nil {K : PySem.W.Frag} {P : Program} {w : World} {mg : Str → Option Value} {base : Heap} {k : Nat} {m : Str} {ta : TE} {Q : VK} (hta : ∀ σ H (Q Q' : VK), ta σ H Q → (∀ v H, Q v H → Q' v H) → ta σ H Q') (h : tMethX K P w mg base k m ta (tAs Γ W .nil) σ H Q) : tMethX K P w mg base k m ta tNil σ H Q :=
  hta σ H _ _ h fun x H1 ⟨C, a, dx, fs, f, fd, ps, sp, q1, q2, q3, q4, q5, q6, q7, F, env, T, g, hp⟩ => ⟨C, a, dx, fs, f, fd, ps, sp, q1, q2, q3, q4, q5, q6, q7, by
    unfold evs at hp
    exact hp [] H1 F rfl True.intro g fun _ h => h⟩
theorem tE_mono {e : Ex} {Q Q' : VK} (h : tE Γ W e σ H Q) (m : ∀ v H, Q v H → Q' v H) : tE Γ W e σ H Q' := by
  obtain ⟨F, env, T, g, hp⟩ := h
  exact ⟨F, env, T, g, hp.imp (fun x env' q v H' F' g' m' e' => m _ _ (q v H' F' g' m' e')) fun _ _ h => h⟩
theorem notStar_all {pos : Pos} {env : PySem.Env} : ∀ {es : List Expr}, (∀ e ∈ es, plainX e = true) → (backTo pos (starEach es env)).all (!·.1) = true
  | [], _ => rfl
  | e :: es, h => by
    rw [plain_star (h e List.mem_cons_self)]
    show (!false && (backTo pos (starEach es env)).all (!·.1)) = true
    rw [notStar_all fun x hx => h x (List.mem_cons_of_mem _ hx)]
    rfl
theorem meth_tree {o : Expr} {m : Str} {xs : List Expr} {ap pos : Pos} {env : PySem.Env} (ho : plainX o = true) (hxs : ∀ e ∈ xs, plainX e = true) (hl : (ap.endLine == pos.line) = true) (h30 : xs.length < 30) :
    eval (.Call (.Attribute o m ap) xs [] pos) env = (do
      let ov ← eval o env
      standAt ap.atName
      let (f, first) ← holding [ov] (getMethod ov m (do return (← importBound o env).getD true))
      callWith pos f first (backTo pos (starEach xs env)) (backToKw pos (keywordEach [] env))) := by
  refine mcall_of (plain_base ho) fun ov => ?_
  have hf : methodCallForm (xs.length + 0) (backTo pos (starEach xs env)) (backToKw pos (keywordEach [] env)) = true := by
    unfold methodCallForm
    rw [notStar_all hxs]
    show (true && true && decide (xs.length + 0 + 0 < 30)) = true
    simpa using h30
  unfold methodCall
  rw [show xs.length + ([] : List Keyword).length = xs.length + 0 from rfl, hf]
  unfold calleeOf methodCallPos
  rw [if_pos rfl, hl]
  rfl
theorem n_meth {m : Nat} {a : Ex} {es : Exs} {o : Expr} {n : Str} {xs : List Expr} {ap pos : Pos} (S : XS Γ sc X) (K : Kn Γ) (ho : plainX o = true) (h1 : isStr (Γ.M.att m) n = true) (hxs : ∀ e ∈ xs, plainX e = true) (hl : (ap.endLine == pos.line) = true) (h30 : xs.length < 30) (hn : xs = [] → es = .nil) (ib : PE X o (tE Γ W a)) (ia : PA X xs (tAs Γ W es)) :
    PE X (.Call (.Attribute o n ap) xs [] pos) (tE Γ W (.meth m a es .nil)) := by
  have hr : Room Γ.lev X.A := S.room.mono (by omega)
  have ht := meth_tree (env := X.env) (m := n) ho hxs hl h30
  cases xs with
  | nil =>
    cases hn rfl
    exact PEmono (pe_methX0 ib hr ht) fun σ H Q q => tMethX_nil (fun σ H Q Q' h m => tE_mono h m) (red_meth S K (isStr_iff.mp h1) q)
  | cons e xs => exact PEmono (pe_methX ib hr ia (plain_star (hxs e List.mem_cons_self)) (plain_pl fun y hy => hxs y (List.mem_cons_of_mem _ hy)) ht) fun σ H Q q => red_meth S K (isStr_iff.mp h1) q
theorem n_methm {m i : Nat} {es : Exs} {x n : Str} {p : Pos} {xs : List Expr} {ap pos : Pos} (S : XS Γ sc X) (K : Kn Γ) (hv : chkV Γ.N sc i x = true) (h1 : isStr (Γ.M.att m) n = true) (hxs : ∀ e ∈ xs, plainX e = true) (hl : (ap.endLine == pos.line) = true) (h30 : xs.length < 30) (hn : xs = [] → es = .nil) (ia : PA X xs (tAs Γ W es)) :
    PE X (.Call (.Attribute (.Name x p) n ap) xs [] pos) (tE Γ W (.methm m i es .nil)) := by
  have hr : Room Γ.lev X.A := S.room.mono (by omega)
  have ht := meth_tree (env := X.env) (m := n) (o := .Name x p) rfl hxs hl h30
  have ib : PE X (.Name x p) (tVar i) := S.var hv
  cases xs with
  | nil =>
    cases hn rfl
    exact PEmono (pe_methX0 ib hr ht) fun σ H Q q => tMethX_nil (fun σ H Q Q' ⟨v, hv, h⟩ m => ⟨v, hv, m _ _ h⟩) (red_methm S K (isStr_iff.mp h1) q)
  | cons e xs => exact PEmono (pe_methX ib hr ia (plain_star (hxs e List.mem_cons_self)) (plain_pl fun y hy => hxs y (List.mem_cons_of_mem _ hy)) ht) fun σ H Q q => red_methm S K (isStr_iff.mp h1) q

/-! ### keywords -/
theorem k_nil : PK X [] (tAs Γ W .nil) := ⟨fun pos pins s σ H Q I ⟨F, env, T, g, hp⟩ => pk_nil.run pos pins s σ H Q I (by
  unfold evs at hp
  exact hp [] H F rfl True.intro g fun _ h => h)⟩
theorem k_cons {e : Ex} {es : Exs} {x : Expr} {n : Option Str} {kp : Pos} {ks : List Keyword} (hm : e.mg = none) (i1 : PE X x (tE Γ W e)) (i2 : PK X ks (tAs Γ W es)) : PK X (⟨n, x, kp⟩ :: ks) (tAs Γ W (.cons e es)) :=
  ⟨fun pos pins s σ H Q I ⟨F, env, T, g, hp⟩ => (pk_cons i1 i2).run pos pins s σ H Q I (by
    unfold evs at hp
    refine ⟨F, env, T, g, (PR.bind.mp hp).imp (fun x env1 h1 => ?_) fun _ _ h => h⟩
    intro v H1 F1 g1 m1 e1
    refine ⟨F1, env1, (x, v) :: T, g1, (PR.bind.mp h1).imp (fun ys env2 h2 => ?_) fun _ _ h => exK_drop h⟩
    intro vs H2 F2 hl ha g2 m2
    refine h2 (v :: vs) H2 F2 (by simp [hl]) ?_ ?_ (fun a z => m2 a (m1 a z))
    · unfold kinds; rw [hm]; exact ha
    · unfold kinds; rw [hm]; exact g2.perm List.perm_middle)⟩
theorem aM_app : ∀ {k1 k2 : List (Option Nat)} {vs ws : List V}, aM σ k1 vs → aM σ k2 ws → aM σ (k1 ++ k2) (vs ++ ws)
  | [], k2, [], ws, _, h => h
  | [], k2, _ :: _, ws, h, _ => by unfold aM at h; exact h.elim
  | some i :: k1, k2, [], ws, h, _ => by unfold aM at h; exact h.elim
  | none :: k1, k2, [], ws, h, _ => by unfold aM at h; exact h.elim
  | some i :: k1, k2, v :: vs, ws, h, h2 => by
    unfold aM at h
    show σ[i]? = some (some v) ∧ aM σ (k1 ++ k2) (vs ++ ws)
    exact ⟨h.1, aM_app h.2 h2⟩
  | none :: k1, k2, v :: vs, ws, h, h2 => by
    unfold aM at h
    show aM σ (k1 ++ k2) (vs ++ ws)
    exact aM_app h h2
theorem aR_app : ∀ {k1 k2 : List (Option Nat)} {xs ys : List PV} {vs ws : List V}, aM σ k1 vs → xs.length = vs.length → aR (k1 ++ k2) (xs ++ ys) (vs ++ ws) = aR k1 xs vs ++ aR k2 ys ws
  | [], k2, [], ys, [], ws, _, _ => rfl
  | [], k2, _ :: _, ys, [], ws, _, h => by simp at h
  | [], k2, xs, ys, _ :: _, ws, h, _ => by unfold aM at h; exact h.elim
  | some i :: k1, k2, xs, ys, [], ws, h, _ => by unfold aM at h; exact h.elim
  | none :: k1, k2, xs, ys, [], ws, h, _ => by unfold aM at h; exact h.elim
  | some i :: k1, k2, [], ys, v :: vs, ws, h, hl => by simp at hl
  | none :: k1, k2, [], ys, v :: vs, ws, h, hl => by simp at hl
  | some i :: k1, k2, x :: xs, ys, v :: vs, ws, h, hl => by
    unfold aM at h
    show aR (k1 ++ k2) (xs ++ ys) (vs ++ ws) = aR k1 xs vs ++ aR k2 ys ws
    exact aR_app h.2 (by simpa using hl)
  | none :: k1, k2, x :: xs, ys, v :: vs, ws, h, hl => by
    unfold aM at h
    show (x, v) :: aR (k1 ++ k2) (xs ++ ys) (vs ++ ws) = (x, v) :: (aR k1 xs vs ++ aR k2 ys ws)
    rw [aR_app h (by simpa using hl)]
def kwSome : List Keyword → Bool
  | [] => true
  | ⟨some _, _, _⟩ :: ks => kwSome ks
  | _ :: _ => false
theorem kw_facts {pos : Pos} {env : PySem.Env} : ∀ {ks : List Keyword}, kwSome ks = true → (backToKw pos (keywordEach ks env)).all (·.1.isSome) = true ∧ (backToKw pos (keywordEach ks env)).filterMap (·.1) = kwN ks ∧ (backToKw pos (keywordEach ks env)).any (·.1.isNone) = false
  | [], _ => ⟨rfl, rfl, rfl⟩
  | ⟨none, _, _⟩ :: ks, h => by simp [kwSome] at h
  | ⟨some n, x, kp⟩ :: ks, h => by
    obtain ⟨h1, h2, h3⟩ := kw_facts (pos := pos) (env := env) (ks := ks) (by simpa [kwSome] using h)
    refine ⟨?_, ?_, ?_⟩
    · show (true && (backToKw pos (keywordEach ks env)).all (·.1.isSome)) = true
      rw [h1]; rfl
    · show n :: (backToKw pos (keywordEach ks env)).filterMap (·.1) = n :: kwN ks
      rw [h2]
    · show (false || (backToKw pos (keywordEach ks env)).any (·.1.isNone)) = false
      rw [h3]; rfl
theorem n_callK {f : Nat} {es ks : Exs} {x : Str} {e : Expr} {xs : List Expr} {kws : List Keyword} {p pos : Pos} (S : XS Γ sc X) (K : Kn Γ) (h1 : isStr (Γ.M.fn f) x = true) (hpat : Γ.M.pat f = some (es.len, kwN kws)) (h2 : glB sc x = true) (hxs : ∀ y ∈ e :: xs, plainX y = true) (hkw : kwSome kws = true) (hkl : ks.len = (kwN kws).length) (ia : PA X (e :: xs) (tAs Γ W es)) (ik : PK X kws (tAs Γ W ks)) :
    PE X (.Call (.Name x p) (e :: xs) kws pos) (tE Γ W (.call f es ks)) := by
  obtain ⟨hg, hd, _⟩ := S.gl h2
  obtain ⟨a, hm, hk, ⟨q⟩⟩ := K.fn f x (isStr_iff.mp h1)
  obtain ⟨fd, ps, FO, _, hb'⟩ := q
  have hb := hb' _ _ hpat
  rw [← S.prog, ← S.w, ← S.K, ← S.mg, ← S.base] at FO
  rw [← S.K] at hk hb
  rw [← S.mg] at hm
  obtain ⟨k1, k2, k3⟩ := kw_facts (pos := pos) (env := X.env) hkw
  have hpl := plain_pl (pos := pos) (env := X.env) (es := e :: xs) hxs
  refine PEmono (pe_callK (E := C8.E0) FO (S.room.mono (by omega)) hg hm hk hb C8.pass0 ia ik k1 k2 hd (plain_star (hxs e List.mem_cons_self)) (by rw [hpl, k3]; rfl)) fun σ H Q ⟨F, env, T, g, hp⟩ => ?_
  unfold Ex.pure ev at hp
  refine ⟨F, env, T, g, (PR.bind.mp hp).len.imp (fun ys env1 ⟨l1, h1⟩ => ?_) fun _ _ h => h⟩
  intro vs H1 F1 hl ha g1 m1
  refine ⟨F1, env1, aR (kinds es) ys vs ++ T, g1, (PR.bind.mp h1).len.imp (fun zs env2 ⟨l2, h2⟩ => ?_) fun _ _ h => h.1.elim⟩
  intro ws H2 F2 hl2 ha2 g2 m2
  have g3 : Γ.ge σ H2 F2 env2 (aR (kinds es ++ kinds ks) (ys ++ zs) (vs ++ ws) ++ T) := by
    rw [aR_app ha hl]
    refine g2.perm ?_
    rw [← List.append_assoc]
    exact List.Perm.append_right _ List.perm_append_comm
  have eg : gk es.len (kwN kws).length vs ws = vs ++ ws := by
    unfold gk
    rw [if_pos ⟨by omega, by omega⟩]
  rw [eg]
  exact call_ok (W := W) (by simp [hl, hl2]) (aM_app ha ha2) g3 (h2.imp (fun z env2 q v H' F' g' m' => okE_np q v H' F' g' fun a z => m' a (m2 a (m1 a z))) fun _ _ h => h)
end
end Z

set_option Elab.async false
set_option linter.all false
set_option maxRecDepth 100000
/-! Z11: enumerate over a tuple. -/
namespace PySem
open Sem (wp)
open AutoSeq1 (wpAny_loadPart')
theorem meets_enumerate_newT (l : Addr) (items : Array Value) (n : Nat) (dct : Option Addr) (sl : Array (Option Value)) :
    Meets (Builtin.«enumerate.__new__» ⟨[.type "enumerate", .ref l], []⟩) (fun _ R s => s.heap.get? l = some { cls := .type "tuple", dict := dct, data := .seq items n, slots := sl } ∧
      R (.ok (.ret (.ref (s.heap.push { cls := .type "tuple_iterator", data := .fields #[.ref l, .int 0 0] }).objs.size)))
        { s with heap := (s.heap.push { cls := .type "tuple_iterator", data := .fields #[.ref l, .int 0 0] }).push { cls := .type "enumerate", data := .fields #[.none, .bool false, .ref s.heap.objs.size, rawInt 0, .none, .none] } }) :=
  .of_wp fun prog w A R s h => by
    obtain ⟨hp, g, d, tk, os⟩ := s; obtain ⟨hl, h⟩ := h
    have hsub := sub_enumerate
    have hL : Heap.IsTuple (Shared.heap ⟨hp, g, d, tk, os⟩) l items := ⟨_, hl, rfl, n, rfl⟩
    wp_walk using wpAny_loadPart' hl
    refine wpAny_stack_any fun st => wpAny_pure ?_
    split
    · rename_i c _ _ _ _ _
      cases (c == Value.type "enumerate")
      · wp_walk using wpAny_loadPart' hl, wpAny_pyIter_tuple hL
        exact ⟨_, rfl, h⟩
      · wp_walk using wpAny_loadPart' hl, wpAny_pyIter_tuple hL
        exact ⟨_, rfl, h⟩
    · wp_walk using wpAny_loadPart' hl, wpAny_pyIter_tuple hL
      exact ⟨_, rfl, h⟩
theorem call_enumerate_tuple {prog : Program} {w : World} {A : Around} {E : Value → Shared → Prop} {s : Shared} {l : Addr} {items : Array Value} {Q : Value → Shared → Prop} (hL : s.heap.IsTuple l items)
    (h : ∀ h', IsEnum h' (s.heap.objs.size + 1) s.heap.objs.size 0 .none → h'.IsTupleIter s.heap.objs.size l 0 → h'.objs.size = s.heap.objs.size + 2 →
      (∀ b o, s.heap.get? b = some o → h'.get? b = some o) → Q (.ref (s.heap.objs.size + 1)) { s with heap := h' }) :
    wpAny (model prog w) A (call (.type "enumerate") [.ref l]) Q E s := by
  obtain ⟨⟨c, dct, dt, sl⟩, hl, hc, n, hd⟩ := hL
  replace hc : c = .type "tuple" := hc
  replace hd : dt = .seq items n := hd
  subst hc hd
  refine callType_new F.called_enumerate (by decide) (F.typeCall_enumerate_1 _) (F.newCall_enumerate_1 _) (fun obj => F.args_object_init_2 obj _) F.entry_enumerate_new
    (meets_enumerate_newT l items n dct sl) ⟨hl, ?_⟩
  have hz : (s.heap.push { cls := .type "tuple_iterator", data := .fields #[.ref l, .int 0 0] }).objs.size = s.heap.objs.size + 1 := Heap.size_push ..
  show _ ∧ _
  rw [hz]
  have he : IsEnum ((s.heap.push { cls := .type "tuple_iterator", data := .fields #[.ref l, .int 0 0] }).push
      { cls := .type "enumerate", data := .fields #[.none, .bool false, .ref s.heap.objs.size, rawInt 0, .none, .none] }) (s.heap.objs.size + 1) s.heap.objs.size 0 .none := by
    have := Heap.get?_push_size (s.heap.push { cls := .type "tuple_iterator", data := .fields #[.ref l, .int 0 0] })
      (o := { cls := .type "enumerate", data := .fields #[.none, .bool false, .ref s.heap.objs.size, rawInt 0, .none, .none] }) rfl
    rw [hz] at this; exact this
  refine ⟨⟨_, he, rfl⟩, h _ he ⟨_, Heap.get?_push_of_some _ (Heap.get?_push_size _ rfl), rfl, rfl⟩ (by rw [Heap.size_push, hz]) fun b o x => Heap.get?_push_of_some _ (Heap.get?_push_of_some _ x)⟩
end PySem
namespace L2
open PySem PySem.Spec PyProof.Rows
def IteT (K : PySem.W.Frag) (a : Addr) : It :=
  ⟨fun i H => ∃ (xs : List V) (x : V), SqT K H a xs ∧ xs[i]? = some x, fun i H v H' => ∃ T x, v = .ref T ∧ H T = none ∧ H' = upd H T (.tup [.int (i : Nat), x]) ∧ ∀ xs, SqT K H a xs → xs[i]? = some x, fun i H => ∃ xs : List V, SqT K H a xs ∧ xs.length ≤ i⟩
theorem turn_enumT {P : Program} {w : World} {K : PySem.W.Frag} {elts : List Expr} {kk : Nat} {tpos : Pos} (a e it : Addr) (hai : a ≠ it) (hae : a ≠ e) :
    Turn P w K (.Tuple elts kk tpos) (IteT K a) [e, it] e (fun i h => (∃ old, IsEnum h e it ((i : Nat) : Int) old) ∧ h.IsTupleIter it a i ∧ e ≠ it) where
  mem := by simp
  obj := fun i h st b hb => by
    obtain ⟨⟨old, he⟩, ⟨o, ho, hc, hd⟩, _⟩ := st
    have e' : b = e ∨ b = it := by simpa using hb
    rcases e' with z | z
    · rw [z]; exact ⟨_, he, fun v q => nomatch q⟩
    · rw [z]; exact ⟨o, ho, fun v q => by rw [hd] at q; cases q⟩
  keep := fun i h h' st k => let ⟨⟨old, he⟩, hi, hne⟩ := st; ⟨⟨old, k e (by simp) _ he⟩, hi.at fun o q => k it (by simp) o q, hne⟩
  item := by
    intro X hP hw hK hc i pins s σ H E I hf st hg
    subst hP hw hK
    obtain ⟨⟨old, he⟩, hit, hne⟩ := st
    obtain ⟨xs, x, hq, hx⟩ := hg
    obtain ⟨its, rv, p, hz⟩ := I.tuple hq
    have hxi : i < its.toArray.size := by
      rw [List.size_toArray, ← rv.length]
      exact (List.getElem?_eq_some_iff.mp hx).1
    obtain ⟨u0, hu, ru⟩ := rv.get hx
    have hel : e < s.heap.objs.size := Heap.lt_size he
    have hil : it < s.heap.objs.size := by obtain ⟨_, q, _⟩ := hit; exact Heap.lt_size q
    have Dr : Draws X.prog X.w X.A.in1 it [it, a] its.toArray.size (fun i v => its.toArray[i]? = some v) (fun i h => h.IsTupleIter it a i ∧ h.IsTuple a its.toArray) := Draws.tuple (show X.A.in1.handled = none from I.ok.hd hc) it a hai its.toArray
    refine wpAny_pyNext_enum_itemD Dr he (i := i) ⟨hit, p⟩ hxi hne (by simp; exact ⟨hne, fun q => hae q.symm⟩) fun u h' tk hPx ho hit' hT hsz hk => ?_
    have eu : u = u0 := by
      have : its.toArray[i]? = some u0 := by simpa using hu
      rw [hPx] at this
      exact Option.some.inj this
    subst eu
    refine ⟨_, rfl, wpAny_letOwnedTupleGo_enum (s := { s with heap := h', toks := tk + 1 }) ho fun h'' he' sb => ?_⟩
    have hT2 : h''.get? s.heap.objs.size = some { cls := .type "tuple", data := .seq #[.int i tk, u] } := (sb.2 _ (Nat.ne_of_gt hel)).trans hT
    have new : ObjOk X.prog X.w (upd H s.heap.objs.size (.tup [.int (i : Nat), x])) h'' s.heap.objs.size (.tup [.int (i : Nat), x]) :=
      ⟨by show 2 ≤ sizeLine; decide, [.int i tk, u], .cons ⟨_, rfl⟩ (.cons ru .nil), ⟨_, hT2, rfl, _, rfl⟩⟩
    have I1 : Inv X pins σ (upd H s.heap.objs.size (.tup [.int (i : Nat), x])) { s with heap := h'', toks := tk + 1 } :=
      I.turnedNew (ch := [e, it]) (fun b ob hb q => (sb.2 b (fun z => hb (by simp [z]))).trans (hk b ob (fun z => hb (by simp [z])) (fun z => hb (by simp [z])) q)) hf (Nat.le_refl _) new
    refine ⟨.ref s.heap.objs.size, _, I1, rfl, ⟨_, x, rfl, I.hok.fresh (Nat.le_refl _), rfl, fun ys hy => by rw [I.tuple_inj hy hq]; exact hx⟩, ⟨⟨u, ?_⟩, hit'.1.at fun o q => (sb.2 it (Ne.symm hne)).trans q, hne⟩, fun b hb => ?_⟩
    · have e1 : ((i + 1 : Nat) : Int) = (i : Int) + 1 := by omega
      rw [e1]; exact he'
    · have hb' : b < s.heap.objs.size := by
        have e' : b = e ∨ b = it := by simpa using hb
        rcases e' with z | z
        · rw [z]; exact hel
        · rw [z]; exact hil
      rw [upd_ne (Nat.ne_of_lt hb')]
      exact (hf b hb).1
  done := by
    intro X hP hw hK hc i pins s σ H E I hf st hg
    subst hP hw hK
    obtain ⟨⟨old, he⟩, hit, hne⟩ := st
    obtain ⟨xs, hq, hx⟩ := hg
    obtain ⟨its, rv, p, hz⟩ := I.tuple hq
    obtain ⟨f0, f1, f2, f3, f4, f5⟩ := hf it (by simp)
    have hl := rv.length
    have hT : s.TypeIs (.ref e) "enumerate" := ⟨_, he, rfl⟩
    unfold pyNext
    refine wpAny_bind (wpAny_attempt (wpAny_callSpecial?_slot (name := Str.ofString "__next__") hT F.slot_enumerate_next
      (wpAny_call_entry F.slot_enumerate_next hT F.entry_enumerate_next ?_ (F.args_enumerate_next_1 _))))
    show wpAny _ _ (field (.ref e) 2 >>= _) _ _ _
    refine wpAny_bind (wpAny_field he rfl (x := .ref it) rfl ?_)
    refine wpAny_bind (wpAny_nextOf_tuple_end (I.ok.hd hc) hit p (by simp; omega) fun h' x eb hx' => ?_)
    obtain ⟨o, ho, hc⟩ := hx'
    refine wpAny_bind (wpAny_isInstance (T := "StopIteration") (b := true) ⟨o, ho, hc⟩ isSubtype_stop ?_)
    exact wpAny_pure ⟨rfl, I.turned (t' := s.toks) (fun b o hb q => eb b o hb q) f0 f1 f3 f4 f5⟩
  self := fun A i s Q E st h => let ⟨⟨_, he⟩, _⟩ := st; wpAny_pyIter_enum he h
/-- enumerate of a list or a tuple -/
def iEnumA (K : PySem.W.Frag) (ta : TA) : TI := fun σ H R => ta σ H fun vs H1 => ∃ a xs, vs = [.ref a] ∧ ((SqL K H1 a xs ∧ R (Ite K a) H1) ∨ (SqT K H1 a xs ∧ R (IteT K a) H1))
theorem pi_enumA {X : Cx} {e : Expr} {ta : TA} {p pos tpos : Pos} {elts : List Expr} {kk : Nat} (hg : Gl X "enumerate") (hm : X.mg "enumerate" = none) (ha : PA X [e] ta) (hs : starEach [e] X.env = [(false, eval e X.env)] := by rfl) :
    PI X (.Tuple elts kk tpos) (.Call (.Name "enumerate" p) [e] [] pos) (iEnumA X.K ta) := by
  refine ⟨fun pins s σ H R I h => ?_⟩
  refine Call_ (ld_blt I hg hm boot_enumerate (PyProof.Rows.callWith_type1 (thn (ha.run pos pins s σ H _ I h) fun us s1 ⟨vs, H1, I1, r1, q1⟩ => ?_) hs rfl))
  obtain ⟨a, xs, ex, q1⟩ := q1
  subst ex
  cases r1 with
  | cons r rr =>
    cases rr
    cases r
    have fresh : ∀ b ∈ [s1.heap.objs.size + 1, s1.heap.objs.size], FpOk X pins H1 b := fun b hb => by
      have e' : b = s1.heap.objs.size + 1 ∨ b = s1.heap.objs.size := by simpa using hb
      have hle : s1.heap.objs.size ≤ b := by
        rcases e' with z | z
        · rw [z]; exact Nat.le_add_right _ _
        · rw [z]; exact Nat.le_refl _
      exact I1.fpOk hle (I1.hok.fresh hle)
    rcases q1 with ⟨hq, q⟩ | ⟨hq, q⟩
    · obtain ⟨its, rv, p', hz⟩ := I1.list hq
      refine call_enumerate_list p'.isList fun h' he hit hsz hk => wpAny_pyIter_enum he ?_
      have I2 : Inv X pins σ H1 { s1 with heap := h' } := I1.kept (t' := s1.toks) hk
      exact ⟨s1.heap.objs.size + 1, [s1.heap.objs.size + 1, s1.heap.objs.size], _, _, H1, rfl, I2, turn_enum a (s1.heap.objs.size + 1) s1.heap.objs.size, ⟨⟨.none, he⟩, hit, Nat.succ_ne_self _⟩, fresh, q⟩
    · obtain ⟨its, rv, p', hz⟩ := I1.tuple hq
      have hla : a < s1.heap.objs.size := by
        obtain ⟨o, ho, _⟩ := p'
        exact Heap.lt_size ho
      refine call_enumerate_tuple (show s1.heap.IsTuple a its.toArray from p') fun h' he hit hsz hk => wpAny_pyIter_enum he ?_
      have I2 : Inv X pins σ H1 { s1 with heap := h' } := I1.kept (t' := s1.toks) hk
      exact ⟨s1.heap.objs.size + 1, [s1.heap.objs.size + 1, s1.heap.objs.size], _, _, H1, rfl, I2, turn_enumT a (s1.heap.objs.size + 1) s1.heap.objs.size (Nat.ne_of_lt hla) (Nat.ne_of_lt (Nat.lt_succ_of_lt hla)), ⟨⟨.none, he⟩, hit, Nat.succ_ne_self _⟩, fresh, q⟩
/-- a list or a tuple, walked -/
def iSeq (K : PySem.W.Frag) (tl : TE) : TI := fun σ H R => tl σ H fun x H1 => (∃ a, x = .ref a ∧ (∃ xs, SqL K H1 a xs) ∧ R (Itl K a) H1) ∨ ∃ a, x = .ref a ∧ (∃ xs, SqT K H1 a xs) ∧ R (Itt K a) H1
theorem pi_seq {X : Cx} {tg : Expr} {l : Expr} {tl : TE} (hl : PE X l tl) : PI X tg l (iSeq X.K tl) := by
  refine ⟨fun pins s σ H R I h => ?_⟩
  refine thn (hl.run pins s σ H _ I h) fun v s1 ⟨x, H1, I1, r1, q1⟩ => ?_
  rcases q1 with ⟨a, e, ⟨xs, hq⟩, q⟩ | ⟨a, e, ⟨xs, hq⟩, q⟩
  · subst e
    cases r1
    obtain ⟨its, rv, p, hz⟩ := I1.list hq
    refine wpAny_pyIter_list p.isList ?_
    refine ⟨s1.heap.objs.size, [s1.heap.objs.size], _, _, H1, rfl, I1.kept (t' := s1.toks) fun b o e => Heap.get?_push_of_some _ e, turn_list a _, ⟨_, Heap.get?_push_size _ rfl, rfl, rfl⟩, fun b hb => ?_, q⟩
    have e : b = s1.heap.objs.size := by simpa using hb
    subst e
    exact I1.fpOk (Nat.le_refl _) (I1.hok.fresh (Nat.le_refl _))
  · subst e
    cases r1
    obtain ⟨its, rv, p, hz⟩ := I1.tuple hq
    refine wpAny_pyIter_tuple (show s1.heap.IsTuple a its.toArray from p) ?_
    refine ⟨s1.heap.objs.size, [s1.heap.objs.size], _, _, H1, rfl, I1.kept (t' := s1.toks) fun b o e => Heap.get?_push_of_some _ e, turn_tuple a _, ⟨_, Heap.get?_push_size _ rfl, rfl, rfl⟩, fun b hb => ?_, q⟩
    have e : b = s1.heap.objs.size := by simpa using hb
    subst e
    exact I1.fpOk (Nat.le_refl _) (I1.hok.fresh (Nat.le_refl _))
end L2

set_option Elab.async false
set_option linter.all false
set_option maxRecDepth 100000
/-! Z12: targets, walks, comprehensions. -/
namespace Z
open PySem L2

section
variable {Γ : Ctx} {W : WX} {σ σ' : L2.St} {H : Hp} {F : Addr → Prop} {T : List (PV × V)} {env : Env} {X : Cx} {sc : Scope}

/-! ### stores -/
theorem set_out {α : Type} {l : List α} {i : Nat} {a : α} (h : ¬ i < l.length) : l.set i a = l := by
  rw [List.set_eq_of_length_le (by omega)]
theorem store' {i : Nat} {x : PV} {v : V} (g : Γ.ge σ H F env ((x, v) :: T)) (hp : ∀ p ∈ Γ.mv, p.1 ≠ i) : Γ.ge (σ.set i (some v)) H F (env.set i (some x)) T := by
  by_cases hi : i < env.length
  · exact g.store hi hp
  · rw [set_out hi, set_out (by rw [← g.we.length]; exact hi)]
    exact g.drop
def setS : List Nat → List V → L2.St → L2.St
  | i :: is, v :: vs, σ => setS is vs (σ.set i (some v))
  | _, _, σ => σ
theorem storeAll : ∀ {is : List Nat} {xs : List PV} {vs : List V} {env e1 : Env} {σ : L2.St}, xs.length = vs.length → Γ.ge σ H F env (xs.zip vs ++ T) → (∀ p ∈ Γ.mv, p.1 ∉ is) → setAll is xs env = some e1 → Γ.ge (setS is vs σ) H F e1 T ∧ is.length = vs.length
  | [], [], vs, env, e1, σ, hl, g, hp, h => by
    unfold setAll at h; cases h
    cases vs with
    | nil => exact ⟨g, rfl⟩
    | cons => simp at hl
  | [], _ :: _, vs, env, e1, σ, hl, g, hp, h => by unfold setAll at h; cases h
  | _ :: _, [], vs, env, e1, σ, hl, g, hp, h => by unfold setAll at h; cases h
  | i :: is, x :: xs, [], env, e1, σ, hl, g, hp, h => by simp at hl
  | i :: is, x :: xs, v :: vs, env, e1, σ, hl, g, hp, h => by
    unfold setAll at h
    have g1 : Γ.ge σ H F env ((x, v) :: (xs.zip vs ++ T)) := g
    obtain ⟨q1, q2⟩ := storeAll (by simpa using hl) (store' g1 fun p m e => hp p m (by rw [e]; exact List.mem_cons_self)) (fun p m e => hp p m (List.mem_cons_of_mem _ e)) h
    exact ⟨q1, by simp [q2]⟩

/-! ### targets -/
def gAll (is : List Nat) : TGs := fun vs σ H Q => is.length = vs.length ∧ Q (setS is vs σ) H
def tgB (N : List Str) (sc : Scope) (fn : Str → Bool) : List Nat → List Expr → Prop
  | [], [] => True
  | i :: is, .Name x _ :: es => N[i]? = some x ∧ Loc sc x ∧ (fn x = true ∨ sc.names.lookup x = some .local) ∧ tgB N sc fn is es
  | _, _ => False
theorem tgB_len {N : List Str} {fn : Str → Bool} : ∀ {is : List Nat} {es : List Expr}, tgB N sc fn is es → is.length = es.length
  | [], [], _ => rfl
  | [], _ :: _, h => by simp [tgB] at h
  | _ :: _, [], h => by simp [tgB] at h
  | i :: is, e :: es, h => by
    cases e <;> simp only [tgB] at h
    simp [tgB_len h.2.2.2]
theorem tgB_each {N : List Str} {fn : Str → Bool} {env : PySem.Env} : ∀ {is : List Nat} {es : List Expr}, tgB N sc fn is es → (assignEach es env).length = es.length ∧ (assignEach es env).findIdx? (·.1) = none
  | [], [], _ => ⟨rfl, rfl⟩
  | [], _ :: _, h => by simp [tgB] at h
  | _ :: _, [], h => by simp [tgB] at h
  | i :: is, e :: es, h => by
    cases e <;> simp only [tgB] at h
    rename_i x p
    obtain ⟨q1, q2⟩ := tgB_each (env := env) h.2.2.2
    have e1 : assignEach (.Name x p :: es) env = (false, assign (.Name x p) env) :: assignEach es env := rfl
    rw [e1]
    refine ⟨by simp [q1], ?_⟩
    rw [List.findIdx?_cons]
    simp [q2]
theorem pgs_all (hN : X.N.Nodup) (hs : X.env.scope = sc) : ∀ {is : List Nat} {es : List Expr}, tgB X.N sc X.fn is es → PGs X es (gAll is)
  | [], [], _ => ⟨fun pins s σ H vs us Q I r h => pgs_nil.run pins s σ H vs us Q I r ⟨by have := h.1; cases vs with | nil => rfl | cons => simp at this, h.2⟩⟩
  | [], _ :: _, h => by simp [tgB] at h
  | _ :: _, [], h => by simp [tgB] at h
  | i :: is, e :: es, h => by
    cases e <;> simp only [tgB] at h
    rename_i x p
    have g1 : PG X (.Name x p) (gName i) := pg_name hN h.1 (by rw [hs]; exact h.2.1) (by rw [hs]; exact h.2.2.1)
    have g2 := pgs_all hN hs h.2.2.2
    refine ⟨fun pins s σ H vs us Q I r hq => (pgs_cons g1 g2 rfl).run pins s σ H vs us Q I r ?_⟩
    obtain ⟨hl, q⟩ := hq
    cases vs with
    | nil => simp at hl
    | cons v vs => exact ⟨v, vs, rfl, by simpa using hl, q⟩
theorem wipe_at (τ : L2.St) : ∀ (ws : List Nat) (j : Nat), (wipe τ ws)[j]? = if j ∈ ws then τ[j]?.map fun _ => none else τ[j]?
  | [], j => by simp [wipe]
  | w' :: ws', j => by
    have ih' := wipe_at τ ws' j
    unfold wipe
    by_cases hj' : w' = j
    · subst hj'
      rw [List.getElem?_set]
      simp only [if_true, List.mem_cons, true_or]
      by_cases hl : w' < τ.length
      · rw [if_pos (by rw [wipe_length]; exact hl), List.getElem?_eq_getElem hl]; rfl
      · rw [if_neg (by rw [wipe_length]; exact hl), List.getElem?_eq_none (by omega)]; rfl
    · rw [List.getElem?_set_ne hj', ih']
      have : (j ∈ w' :: ws') ↔ j ∈ ws' := by simp [Ne.symm hj']
      simp only [this]
theorem wipe_wipe {σ : L2.St} {vs : List Nat} : wipe (wipe σ vs) vs = wipe σ vs := by
  apply List.ext_getElem?
  intro j
  rw [wipe_at, wipe_at]
  split
  · cases σ[j]? <;> rfl
  · rfl
theorem wipe_set {vs : List Nat} {i : Nat} {o : Option V} (hi : i ∈ vs) {σ : L2.St} : wipe (σ.set i o) vs = wipe σ vs := by
  apply List.ext_getElem?
  intro j
  rw [wipe_at, wipe_at]
  by_cases hj : j ∈ vs
  · simp only [hj, if_true]
    by_cases e : i = j
    · subst e
      rw [List.getElem?_set]
      simp only [if_true]
      split
      · rename_i hl; rw [List.getElem?_eq_getElem hl]; rfl
      · rename_i hl; rw [List.getElem?_eq_none (by omega)]
    · rw [List.getElem?_set_ne e]
  · simp only [hj, if_false]
    rw [List.getElem?_set_ne]
    intro e; subst e; exact hj hi
theorem wipe_setS {vs : List Nat} : ∀ {is : List Nat} {ws : List V} {σ : L2.St}, (∀ i ∈ is, i ∈ vs) → wipe (setS is ws σ) vs = wipe σ vs
  | [], ws, σ, _ => rfl
  | i :: is, [], σ, _ => rfl
  | i :: is, w :: ws, σ, h => by
    unfold setS
    rw [wipe_setS fun j m => h j (List.mem_cons_of_mem _ m), wipe_set (h i List.mem_cons_self)]
/-- a target takes a value -/
def gPat (Γ : Ctx) (t : Pat) : TG := fun v σ H Q => ∃ F env T x e1, Γ.ge σ H F env ((x, v) :: T) ∧ bindP t x env = some e1 ∧ ∀ σ', Γ.ge σ' H F e1 T → (∀ vs, (∀ i ∈ patL t, i ∈ vs) → wipe σ' vs = wipe σ vs) → Q σ' H
theorem chkTs_tgB {N : List Str} {sc0 sc : Scope} {fn : Str → Bool} (hk : ∀ x, Loc sc0 x → Loc sc x ∧ (fn x = true ∨ sc.names.lookup x = some .local)) : ∀ {is : List Nat} {es : List Expr}, chkT.chkTs N sc0 is es = true → tgB N sc fn is es
  | [], [], _ => trivial
  | [], _ :: _, h => by simp [chkT.chkTs] at h
  | _ :: _, [], h => by simp [chkT.chkTs] at h
  | i :: is, e :: es, h => by
    cases e <;> simp only [chkT.chkTs, Bool.and_eq_true] at h <;> (try (cases h; done))
    obtain ⟨q1, q2⟩ := hk _ (loc_of h.1.2)
    exact ⟨isStr_iff.mp h.1.1, q1, q2, chkTs_tgB hk h.2⟩
theorem pg_pat {t : Pat} {tg : Expr} {sc0 : Scope} (S : XS Γ sc X) (hk : ∀ x, Loc sc0 x → Loc sc x ∧ (X.fn x = true ∨ sc.names.lookup x = some .local)) (hm : ∀ p ∈ Γ.mv, p.1 ∉ patL t) (h : chkT Γ.N sc0 t tg = true) : PG X tg (gPat Γ t) := by
  cases t with
  | one i =>
    cases tg <;> simp only [chkT, Bool.and_eq_true] at h <;> (try (cases h; done))
    rename_i x p
    obtain ⟨q1, q2⟩ := hk x (loc_of h.2)
    have g1 : PG X (.Name x p) (gName i) := pg_name S.nd (by rw [S.N]; exact isStr_iff.mp h.1) (by rw [S.hs]; exact q1) (by rw [S.hs]; exact q2)
    refine ⟨fun pins s σ H v u Q I r ⟨F, env, T, x, e1, g, hb, q⟩ => g1.run pins s σ H v u Q I r ?_⟩
    unfold bindP at hb; cases hb
    exact q _ (store' g fun p m e => hm p m (by rw [e]; simp [patL])) fun vs hv => wipe_set (hv i (by simp [patL]))
  | many is =>
    cases tg <;> simp only [chkT] at h <;> (try (cases h; done))
    rename_i es k p
    have hb := chkTs_tgB (sc := sc) (fn := X.fn) hk h
    rw [← S.N] at hb
    obtain ⟨l1, l2⟩ := tgB_each (env := X.env) hb
    have g1 : PG X (.Tuple es k p) (gTup X.K es.length (gAll is)) := pg_tup S.calm (pgs_all S.nd S.hs hb) l1 l2
    refine ⟨fun pins s σ H v u Q I r ⟨F, env, T, x, e1, g, hbp, q⟩ => g1.run pins s σ H v u Q I r ?_⟩
    cases x <;> simp only [bindP] at hbp <;> (try (cases hbp; done))
    rename_i xs
    obtain ⟨a, vs, rfl, hs, hl, gg⟩ := Good.openT (xs := xs) (R := T ++ rE env σ) (by simpa using g.good)
    have g2 : Γ.ge σ H F env (xs.zip vs ++ T) := ⟨by rw [List.append_assoc]; exact gg, g.we, g.pin⟩
    obtain ⟨g3, hl2⟩ := storeAll hl g2 (fun p m e => hm p m e) hbp
    rw [S.K]
    exact ⟨a, vs, rfl, hs, by rw [← hl2]; exact (tgB_len hb).symm ▸ rfl, hl2, q _ g3 fun vs hv => wipe_setS hv⟩

/-! ### walks -/
/-- J gives xs; U: the roots that it leans on -/
structure Feeds (Γ : Ctx) (U : List (PV × V)) (xs : List PV) (J : L2.It) : Prop where
  goes : ∀ i H F σ env T, Γ.ge σ H F env (U ++ T) → i < xs.length → J.go i H
  stops : ∀ H F σ env T, Γ.ge σ H F env (U ++ T) → J.stop xs.length H
  yields : ∀ i H F σ env T v H', Γ.ge σ H F env (U ++ T) → i < xs.length → J.yld i H v H' → ∃ x F', xs[i]? = some x ∧ Γ.ge σ H' F' env ((x, v) :: (U ++ T)) ∧ ∀ a, F a → F' a
def okI (Γ : Ctx) (σ : L2.St) (H : Hp) (F : Addr → Prop) (T : List (PV × V)) (R : L2.It → Hp → Prop) : List PV → Env → Prop := fun xs env' => ∀ J U H' F', Γ.ge σ H' F' env' (U ++ T) → (∀ a, F a → F' a) → Feeds Γ U xs J → R J H'
def tI (Γ : Ctx) (W : WX) (it : Z.It) : TI := fun σ H R => ∃ F env T, Γ.ge σ H F env T ∧ PR (okI Γ σ H F T R) (exK Γ W σ T) (evI Γ.tab it env)
theorem PImono {tg iter : Expr} {t t' : TI} (h : PI X tg iter t) (m : ∀ σ H R, t' σ H R → t σ H R) : PI X tg iter t' := ⟨fun pins s σ H R I q => h.run pins s σ H R I (m σ H R q)⟩
theorem rep_root {c : PV} {v : V} (g : Γ.ge σ H F env ((c, v) :: T)) (z : c.frz = true) : Rep Γ.G F H c v [] := g.good.repF (x := c) (v := v) z
theorem feeds_list {c : PV} {xs : List PV} {o : Bool} {a : Addr} (hc : c = .lst o xs) (z : c.frz = true) : Feeds Γ [(c, .ref a)] xs (Itl Γ.G.K a) := by
  subst hc
  have get : ∀ {H F σ env T}, Γ.ge σ H F env ([(PV.lst o xs, V.ref a)] ++ T) → ∃ vs, H a = some (.lst vs) ∧ RepL Γ.G F H xs vs [] := fun {H F σ env T} g => by
    have r := rep_root g z
    unfold Rep at r
    obtain ⟨b, vs, fl, e, ha, hl, ho⟩ := r
    cases e
    rcases ho with ⟨_, _, q⟩ | ⟨_, _, q, _⟩
    · cases q
    · rw [q] at hl; exact ⟨vs, ha, hl⟩
  refine ⟨fun i H F σ env T g hi => ?_, fun H F σ env T g => ?_, fun i H F σ env T v H' g hi y => ?_⟩
  · obtain ⟨vs, ha, hl⟩ := get g
    have hi' : i < vs.length := by rw [← hl.length]; exact hi
    exact ⟨vs, vs[i], .of ha, by simp [hi']⟩
  · obtain ⟨vs, ha, hl⟩ := get g
    exact ⟨vs, .of ha, by rw [hl.length]; exact Nat.le_refl _⟩
  · obtain ⟨vs, ha, hl⟩ := get g
    obtain ⟨w, f, e1, r1, m⟩ := hl.get (i := i) (x := xs[i]) (by simp [hi])
    obtain ⟨rfl, hy⟩ := y
    have e2 := hy vs (.of ha)
    rw [e1] at e2
    cases e2
    have ef : f = [] := List.eq_nil_iff_forall_not_mem.mpr fun a ha => by have := m a ha; simp at this
    subst ef
    exact ⟨xs[i], F, by simp [hi], g.push r1, fun _ h => h⟩
theorem feeds_tup {c : PV} {xs : List PV} {a : Addr} (hc : c = .tup xs) (z : c.frz = true) : Feeds Γ [(c, .ref a)] xs (Itt Γ.G.K a) := by
  subst hc
  have get : ∀ {H F σ env T}, Γ.ge σ H F env ([(PV.tup xs, V.ref a)] ++ T) → ∃ vs, SqT Γ.G.K H a vs ∧ RepL Γ.G F H xs vs [] := fun {H F σ env T} g => by
    have r := rep_root g z
    have hz : frzL xs = true := by unfold PV.frz at z; exact z
    obtain ⟨b, vs, fl, e, ha, hl⟩ := rep_tup r
    cases e
    have := nilL_of_frz hz hl
    subst this
    exact ⟨vs, ha, hl⟩
  refine ⟨fun i H F σ env T g hi => ?_, fun H F σ env T g => ?_, fun i H F σ env T v H' g hi y => ?_⟩
  · obtain ⟨vs, ha, hl⟩ := get g
    have hi' : i < vs.length := by rw [← hl.length]; exact hi
    exact ⟨vs, vs[i], ha, by simp [hi']⟩
  · obtain ⟨vs, ha, hl⟩ := get g
    exact ⟨vs, ha, by rw [hl.length]; exact Nat.le_refl _⟩
  · obtain ⟨vs, ha, hl⟩ := get g
    obtain ⟨w, f, e1, r1, m⟩ := hl.get (i := i) (x := xs[i]) (by simp [hi])
    obtain ⟨rfl, hy⟩ := y
    have e2 := hy vs ha
    rw [e1] at e2
    cases e2
    have ef : f = [] := List.eq_nil_iff_forall_not_mem.mpr fun a ha => by have := m a ha; simp at this
    subst ef
    exact ⟨xs[i], F, by simp [hi], g.push r1, fun _ h => h⟩
theorem feeds_rng {lo : Int} {n : Nat} : Feeds Γ [] (rngs lo n) (Itr lo n) := by
  have hl : (rngs lo n).length = n := by simp [rngs]
  refine ⟨fun i H F σ env T g hi => by rw [hl] at hi; exact hi, fun H F σ env T g => by rw [hl]; exact Nat.le_refl _, fun i H F σ env T v H' g hi y => ?_⟩
  obtain ⟨rfl, rfl⟩ := y
  rw [hl] at hi
  exact ⟨.int (lo + (i : Nat)), F, by simp [rngs, hi], g.push (mk_int _), fun _ h => h⟩
/-- a pair just laid -/
theorem pair_laid {x y : PV} {v u : V} {H' : Hp} {p : Addr} (g : Γ.ge σ H F env T) (rx : Rep Γ.G F H x v []) (ry : Rep Γ.G F H y u []) (hp : H p = none) : ∃ F', Γ.ge σ (upd H p (.tup [v, u])) F' env ((.tup [x, y], .ref p) :: T) ∧ ∀ a, F a → F' a :=
  ge_mkTup g (RepL.cons_iff.mpr ⟨v, [u], [], [], rfl, rfl, rx, RepL.cons_iff.mpr ⟨u, [], [], [], rfl, rfl, ry, RepL.nil_iff.mpr ⟨rfl, rfl⟩⟩⟩) hp
theorem zipIdx_get {xs : List PV} {i : Nat} (hi : i < xs.length) : (xs.zipIdx.map fun p => PV.tup [.int (p.2 : Nat), p.1])[i]? = some (.tup [.int (i : Nat), xs[i]]) := by
  simp [List.getElem?_map, List.getElem?_zipIdx, hi]
theorem feeds_enumL {c : PV} {xs : List PV} {o : Bool} {a : Addr} (hc : c = .lst o xs) (z : c.frz = true) : Feeds Γ [(c, .ref a)] (xs.zipIdx.map fun p => .tup [.int (p.2 : Nat), p.1]) (Ite Γ.G.K a) := by
  subst hc
  have get : ∀ {H F σ env T}, Γ.ge σ H F env ([(PV.lst o xs, V.ref a)] ++ T) → ∃ vs, H a = some (.lst vs) ∧ RepL Γ.G F H xs vs [] := fun {H F σ env T} g => by
    have r := rep_root g z
    unfold Rep at r
    obtain ⟨b, vs, fl, e, ha, hl, ho⟩ := r
    cases e
    rcases ho with ⟨_, _, q⟩ | ⟨_, _, q, _⟩
    · cases q
    · rw [q] at hl; exact ⟨vs, ha, hl⟩
  have hlen : (xs.zipIdx.map fun p => PV.tup [.int (p.2 : Nat), p.1]).length = xs.length := by simp
  refine ⟨fun i H F σ env T g hi => ?_, fun H F σ env T g => ?_, fun i H F σ env T v H' g hi y => ?_⟩
  · rw [hlen] at hi
    obtain ⟨vs, ha, hl⟩ := get g
    have hi' : i < vs.length := by rw [← hl.length]; exact hi
    exact ⟨vs, vs[i], .of ha, by simp [hi']⟩
  · rw [hlen]
    obtain ⟨vs, ha, hl⟩ := get g
    exact ⟨vs, .of ha, by rw [hl.length]; exact Nat.le_refl _⟩
  · rw [hlen] at hi
    obtain ⟨vs, ha, hl⟩ := get g
    obtain ⟨w, f, e1, r1, m⟩ := hl.get (i := i) (x := xs[i]) (by simp [hi])
    obtain ⟨p, x, rfl, hn, rfl, hy⟩ := y
    have e2 := hy vs (.of ha)
    rw [e1] at e2
    cases e2
    have ef : f = [] := List.eq_nil_iff_forall_not_mem.mpr fun a ha => by have := m a ha; simp at this
    subst ef
    obtain ⟨F', g', m'⟩ := pair_laid (H' := H) g (mk_int (i : Nat)) r1 hn
    exact ⟨_, F', zipIdx_get hi, g', m'⟩
theorem feeds_enumT {c : PV} {xs : List PV} {a : Addr} (hc : c = .tup xs) (z : c.frz = true) : Feeds Γ [(c, .ref a)] (xs.zipIdx.map fun p => .tup [.int (p.2 : Nat), p.1]) (IteT Γ.G.K a) := by
  subst hc
  have get : ∀ {H F σ env T}, Γ.ge σ H F env ([(PV.tup xs, V.ref a)] ++ T) → ∃ vs, SqT Γ.G.K H a vs ∧ RepL Γ.G F H xs vs [] := fun {H F σ env T} g => by
    have r := rep_root g z
    have hz : frzL xs = true := by unfold PV.frz at z; exact z
    obtain ⟨b, vs, fl, e, ha, hl⟩ := rep_tup r
    cases e
    have := nilL_of_frz hz hl
    subst this
    exact ⟨vs, ha, hl⟩
  have hlen : (xs.zipIdx.map fun p => PV.tup [.int (p.2 : Nat), p.1]).length = xs.length := by simp
  refine ⟨fun i H F σ env T g hi => ?_, fun H F σ env T g => ?_, fun i H F σ env T v H' g hi y => ?_⟩
  · rw [hlen] at hi
    obtain ⟨vs, ha, hl⟩ := get g
    have hi' : i < vs.length := by rw [← hl.length]; exact hi
    exact ⟨vs, vs[i], ha, by simp [hi']⟩
  · rw [hlen]
    obtain ⟨vs, ha, hl⟩ := get g
    exact ⟨vs, ha, by rw [hl.length]; exact Nat.le_refl _⟩
  · rw [hlen] at hi
    obtain ⟨vs, ha, hl⟩ := get g
    obtain ⟨w, f, e1, r1, m⟩ := hl.get (i := i) (x := xs[i]) (by simp [hi])
    obtain ⟨p, x, rfl, hn, rfl, hy⟩ := y
    have e2 := hy vs ha
    rw [e1] at e2
    cases e2
    have ef : f = [] := List.eq_nil_iff_forall_not_mem.mpr fun a ha => by have := m a ha; simp at this
    subst ef
    obtain ⟨F', g', m'⟩ := pair_laid (H' := H) g (mk_int (i : Nat)) r1 hn
    exact ⟨_, F', zipIdx_get hi, g', m'⟩

/-! ### the iterables -/
theorem n_ival {e : Ex} {x tg : Expr} (S : XS Γ sc X) (i1 : PE X x (tE Γ W e)) : PI X tg x (tI Γ W (.val e)) :=
  PImono (pi_seq i1) fun σ H R ⟨F, env, T, g, hp⟩ => by
    rw [S.K]
    unfold evI at hp
    refine ⟨F, env, T, g, (PR.bind.mp hp).imp (fun c env1 h1 => ?_) fun _ _ h => h⟩
    intro v H1 F1 g1 m1 e1
    obtain ⟨f0, r0⟩ := ge_rep g1
    have z := frz_fz_rep r0
    obtain ⟨F2, g2, m2⟩ := g1.fz
    obtain ⟨xs, ex, k⟩ := h1.lift
    have rz := rep_root g2 z
    generalize hc : c.fz = d at *
    cases d <;> simp only [itemsOf] at ex <;> cases ex
    · rename_i o
      obtain ⟨a, vs, fl, rfl, ha, hl⟩ := rep_lst rz
      exact .inl ⟨a, rfl, ⟨vs, .of ha⟩, k _ [(_, .ref a)] H1 F2 g2 (fun a z => m2 a (m1 a z)) (feeds_list rfl z)⟩
    · obtain ⟨a, vs, fl, rfl, ha, hl⟩ := rep_tup rz
      exact .inr ⟨a, rfl, ⟨vs, ha⟩, k _ [(_, .ref a)] H1 F2 g2 (fun a z => m2 a (m1 a z)) (feeds_tup rfl z)⟩
theorem okR_iff {j : Int} (h : okR j = true) : -(2 ^ 62) ≤ j ∧ j < 2 ^ 62 := by
  unfold okR at h
  simp only [Bool.and_eq_true, decide_eq_true_eq] at h
  exact h
theorem n_irng1 {e : Ex} {x tg : Expr} {p pos : Pos} (S : XS Γ sc X) (K : Kn0 Γ) (hg : glB sc "range" = true) (hx : plainX x = true) (i1 : PE X x (tE Γ W e)) : PI X tg (.Call (.Name "range" p) [x] [] pos) (tI Γ W (.rng1 e)) :=
  PImono (pi_range1 (S.gl hg).1 (bt S K (by decide)) (pa_cons i1 pa_nil (plain_star hx)) (plain_star hx)) fun σ H R ⟨F, env, T, g, hp⟩ => by
    unfold evI at hp
    refine ⟨F, env, T, g, (PR.bind.mp hp).imp (fun c env1 h1 => ?_) fun _ _ h => h⟩
    intro v H1 F1 g1 m1 e1
    obtain ⟨f0, r0⟩ := ge_rep g1
    cases c <;> first | exact h1.elim | skip
    rename_i j
    by_cases hj : okR j = true
    · simp only [hj, if_true] at h1
      have h1 : okI Γ σ H F T R (rngs 0 j.toNat) env1 := h1
      refine ⟨j, by rw [rep_int r0], (okR_iff hj).1, (okR_iff hj).2, h1 _ [] H1 F1 g1.drop m1 ?_⟩
      exact feeds_rng
    · simp only [hj] at h1; exact h1.elim
theorem n_irng2 {a b : Ex} {x y tg : Expr} {p pos : Pos} (S : XS Γ sc X) (K : Kn0 Γ) (hg : glB sc "range" = true) (hx : plainX x = true) (hy : plainX y = true) (i1 : PE X x (tE Γ W a)) (i2 : PE X y (tE Γ W b)) : PI X tg (.Call (.Name "range" p) [x, y] [] pos) (tI Γ W (.rng2 a b)) :=
  PImono (pi_range2 (S.gl hg).1 (bt S K (by decide)) (pa_cons i1 (pa_cons i2 pa_nil (plain_star hy)) (plain_star hx)) (by rw [plain_star hx, plain_star hy]; rfl) (plain_star hy)) fun σ H R ⟨F, env, T, g, hp⟩ => by
    unfold evI at hp
    refine ⟨F, env, T, g, (PR.bind.mp hp).imp (fun c env1 h1 => ?_) fun _ _ h => h⟩
    intro v H1 F1 g1 m1 e1
    refine ⟨F1, env1, (c, v) :: T, g1, (PR.bind.mp h1).imp (fun d env2 h2 => ?_) fun _ _ h => exK_drop h⟩
    intro u H2 F2 g2 m2 e2
    obtain ⟨⟨fd, rd⟩, fc, rc⟩ := ge_rep2 g2
    cases c <;> (try (exact h2.elim)) <;> cases d <;> (try (exact h2.elim))
    rename_i i j
    by_cases hj : (okR i && okR j) = true
    · simp only [hj, if_true] at h2
      have h2 : okI Γ σ H F T R (rngs i (j - i).toNat) env2 := h2
      obtain ⟨hi, hj⟩ := pand hj
      refine ⟨i, j, by rw [rep_int rc, rep_int rd], ⟨(okR_iff hi).1, (okR_iff hi).2, (okR_iff hj).1, (okR_iff hj).2⟩, h2 _ [] H2 F2 (ge_drop2 g2) (fun a z => m2 a (m1 a z)) ?_⟩
      exact feeds_rng
    · simp only [hj] at h2; exact h2.elim
theorem n_ienum {e : Ex} {x : Expr} {es : List Expr} {k : Nat} {tp p pos : Pos} (S : XS Γ sc X) (K : Kn0 Γ) (hg : glB sc "enumerate" = true) (hx : plainX x = true) (i1 : PE X x (tE Γ W e)) : PI X (.Tuple es k tp) (.Call (.Name "enumerate" p) [x] [] pos) (tI Γ W (.enum e)) :=
  PImono (pi_enumA (S.gl hg).1 (bt S K (by decide)) (pa_cons i1 pa_nil (plain_star hx)) (plain_star hx)) fun σ H R ⟨F, env, T, g, hp⟩ => by
    rw [S.K]
    unfold evI at hp
    refine ⟨F, env, T, g, (PR.bind.mp hp).imp (fun c env1 h1 => ?_) fun _ _ h => h⟩
    intro v H1 F1 g1 m1 e1
    obtain ⟨f0, r0⟩ := ge_rep g1
    have z := frz_fz_rep r0
    obtain ⟨F2, g2, m2⟩ := g1.fz
    obtain ⟨xs, ex, k⟩ := h1.lift
    have rz := rep_root g2 z
    generalize hc : c.fz = d at *
    cases d <;> simp only [itemsOf] at ex <;> cases ex
    · rename_i o
      obtain ⟨a, vs, fl, rfl, ha, hl⟩ := rep_lst rz
      exact ⟨a, vs, rfl, .inl ⟨.of ha, k _ [(_, .ref a)] H1 F2 g2 (fun a z => m2 a (m1 a z)) (feeds_enumL rfl z)⟩⟩
    · obtain ⟨a, vs, fl, rfl, ha, hl⟩ := rep_tup rz
      exact ⟨a, vs, rfl, .inr ⟨ha, k _ [(_, .ref a)] H1 F2 g2 (fun a z => m2 a (m1 a z)) (feeds_enumT rfl z)⟩⟩
end
end Z

set_option Elab.async false
set_option linter.all false
set_option maxRecDepth 100000
/-! Z13: zip; comprehensions. -/
namespace Z
open PySem L2

section
variable {Γ : Ctx} {W : WX} {σ σ' : L2.St} {H : Hp} {F : Addr → Prop} {T : List (PV × V)} {env : Env} {X : Cx} {sc : Scope}
theorem get_list {o : Bool} {xs : List PV} {a : Addr} (z : (PV.lst o xs).frz = true) (g : Γ.ge σ H F env ((.lst o xs, .ref a) :: T)) : ∃ vs, H a = some (.lst vs) ∧ RepL Γ.G F H xs vs [] := by
  have r := rep_root g z
  unfold Rep at r
  obtain ⟨b, vs, fl, e, ha, hl, ho⟩ := r
  cases e
  rcases ho with ⟨_, _, q⟩ | ⟨_, _, q, _⟩
  · cases q
  · rw [q] at hl; exact ⟨vs, ha, hl⟩
theorem get_tup {xs : List PV} {a : Addr} (z : (PV.tup xs).frz = true) (g : Γ.ge σ H F env ((.tup xs, .ref a) :: T)) : ∃ vs, SqT Γ.G.K H a vs ∧ RepL Γ.G F H xs vs [] := by
  have r := rep_root g z
  have hz : frzL xs = true := by unfold PV.frz at z; exact z
  obtain ⟨b, vs, fl, e, ha, hl⟩ := rep_tup r
  cases e
  have := nilL_of_frz hz hl
  subst this
  exact ⟨vs, ha, hl⟩
theorem zip_get {xs ys : List PV} {i : Nat} (h1 : i < xs.length) (h2 : i < ys.length) : ((xs.zip ys).map fun p => PV.tup [p.1, p.2])[i]? = some (.tup [xs[i], ys[i]]) := by
  have h : (xs.zip ys)[i]? = some (xs[i], ys[i]) := List.getElem?_zip_eq_some.mpr ⟨List.getElem?_eq_getElem h1, List.getElem?_eq_getElem h2⟩
  rw [List.getElem?_map, h]
  rfl
theorem get_nil {xs : List PV} {vs : List V} {i : Nat} (hl : RepL Γ.G F H xs vs []) (hi : i < xs.length) : ∃ w, vs[i]? = some w ∧ Rep Γ.G F H xs[i] w [] := by
  obtain ⟨w, f, e1, r1, m⟩ := hl.get (i := i) (x := xs[i]) (by simp [hi])
  have ef : f = [] := List.eq_nil_iff_forall_not_mem.mpr fun a ha => by have := m a ha; simp at this
  subst ef
  exact ⟨w, e1, r1⟩
theorem feeds_zipL {o o2 : Bool} {xs ys : List PV} {a b : Addr} (z1 : (PV.lst o xs).frz = true) (z2 : (PV.lst o2 ys).frz = true) : Feeds Γ [(.lst o xs, .ref a), (.lst o2 ys, .ref b)] ((xs.zip ys).map fun p => .tup [p.1, p.2]) (Itz Γ.G.K a b) := by
  have hlen : ((xs.zip ys).map fun p => PV.tup [p.1, p.2]).length = min xs.length ys.length := by simp
  refine ⟨fun i H F σ env T g hi => ?_, fun H F σ env T g => ?_, fun i H F σ env T v H' g hi y => ?_⟩
  · rw [hlen] at hi
    obtain ⟨vs, ha, hl⟩ := get_list z1 g
    obtain ⟨us, hb, hk⟩ := get_list z2 g.drop
    have h1 : i < vs.length := by rw [← hl.length]; omega
    have h2 : i < us.length := by rw [← hk.length]; omega
    exact ⟨vs, us, vs[i], us[i], .of ha, .of hb, by simp [h1], by simp [h2]⟩
  · rw [hlen]
    obtain ⟨vs, ha, hl⟩ := get_list z1 g
    obtain ⟨us, hb, hk⟩ := get_list z2 g.drop
    have h1 := hl.length
    have h2 := hk.length
    exact ⟨vs, us, .of ha, .of hb, by omega⟩
  · rw [hlen] at hi
    obtain ⟨vs, ha, hl⟩ := get_list z1 g
    obtain ⟨us, hb, hk⟩ := get_list z2 g.drop
    obtain ⟨w1, q1, r1⟩ := get_nil hl (i := i) (by omega)
    obtain ⟨w2, q2, r2⟩ := get_nil hk (i := i) (by omega)
    obtain ⟨p, x, y, rfl, hn, rfl, hx, hy⟩ := y
    have e1 := hx vs (.of ha)
    have e2 := hy us (.of hb)
    rw [q1] at e1; rw [q2] at e2
    cases e1; cases e2
    obtain ⟨F', g', m'⟩ := pair_laid (H' := H) g r1 r2 hn
    exact ⟨_, F', zip_get (by omega) (by omega), g', m'⟩
theorem feeds_zipT {xs ys : List PV} {a b : Addr} (z1 : (PV.tup xs).frz = true) (z2 : (PV.tup ys).frz = true) : Feeds Γ [(.tup xs, .ref a), (.tup ys, .ref b)] ((xs.zip ys).map fun p => .tup [p.1, p.2]) (RZ.ItzT Γ.G.K a b) := by
  have hlen : ((xs.zip ys).map fun p => PV.tup [p.1, p.2]).length = min xs.length ys.length := by simp
  refine ⟨fun i H F σ env T g hi => ?_, fun H F σ env T g => ?_, fun i H F σ env T v H' g hi y => ?_⟩
  · rw [hlen] at hi
    obtain ⟨vs, ha, hl⟩ := get_tup z1 g
    obtain ⟨us, hb, hk⟩ := get_tup z2 g.drop
    have h1 : i < vs.length := by rw [← hl.length]; omega
    have h2 : i < us.length := by rw [← hk.length]; omega
    exact ⟨vs, us, vs[i], us[i], ha, hb, by simp [h1], by simp [h2]⟩
  · rw [hlen]
    obtain ⟨vs, ha, hl⟩ := get_tup z1 g
    obtain ⟨us, hb, hk⟩ := get_tup z2 g.drop
    have h1 := hl.length
    have h2 := hk.length
    exact ⟨vs, us, ha, hb, by omega⟩
  · rw [hlen] at hi
    obtain ⟨vs, ha, hl⟩ := get_tup z1 g
    obtain ⟨us, hb, hk⟩ := get_tup z2 g.drop
    obtain ⟨w1, q1, r1⟩ := get_nil hl (i := i) (by omega)
    obtain ⟨w2, q2, r2⟩ := get_nil hk (i := i) (by omega)
    obtain ⟨p, x, y, rfl, hn, rfl, hx, hy⟩ := y
    have e1 := hx vs ha
    have e2 := hy us hb
    rw [q1] at e1; rw [q2] at e2
    cases e1; cases e2
    obtain ⟨F', g', m'⟩ := pair_laid (H' := H) g r1 r2 hn
    exact ⟨_, F', zip_get (by omega) (by omega), g', m'⟩
theorem n_izip {a b : Ex} {x y : Expr} {es : List Expr} {k : Nat} {tp p pos : Pos} (S : XS Γ sc X) (K : Kn0 Γ) (hg : glB sc "zip" = true) (hx : plainX x = true) (hy : plainX y = true) (i1 : PE X x (tE Γ W a)) (i2 : PE X y (tE Γ W b)) : PI X (.Tuple es k tp) (.Call (.Name "zip" p) [x, y] [] pos) (tI Γ W (.zip a b)) :=
  PImono (RZ.pi_zipA (S.gl hg).1 (bt S K (by decide)) (pa_cons i1 (pa_cons i2 pa_nil (plain_star hy)) (plain_star hx)) (plain_star hx) (by rw [plain_star hy]; rfl)) fun σ H R ⟨F, env, T, g, hp⟩ => by
    rw [S.K]
    unfold evI at hp
    refine ⟨F, env, T, g, (PR.bind.mp hp).imp (fun c env1 h1 => ?_) fun _ _ h => h⟩
    intro v H1 F1 g1 m1 e1
    refine ⟨F1, env1, (c, v) :: T, g1, (PR.bind.mp h1).imp (fun d env2 h2 => ?_) fun _ _ h => exK_drop h⟩
    intro u H2 F2 g2 m2 e2
    obtain ⟨fd, rd⟩ := ge_rep g2
    have zd := frz_fz_rep rd
    obtain ⟨F3, g3, m3⟩ := g2.fz
    have g4 : Γ.ge σ H2 F3 env2 ((c, v) :: (d.fz, u) :: T) := g3.perm (.swap ..)
    obtain ⟨fc, rc⟩ := ge_rep g4
    have zc := frz_fz_rep rc
    obtain ⟨F4, g5, m4⟩ := g4.fz
    have rzc := rep_root g5 zc
    have rzd := rep_root g5.drop zd
    have mm : ∀ z, F z → F4 z := fun z q => m4 z (m3 z (m2 z (m1 z q)))
    generalize hc : c.fz = c' at *
    generalize hd : d.fz = d' at *
    cases c' <;> (try (exact h2.elim)) <;> cases d' <;> (try (exact h2.elim))
    · rename_i o xs o2 ys
      obtain ⟨p1, vs, fl, rfl, ha, hl⟩ := rep_lst rzc
      obtain ⟨p2, us, fl2, rfl, hb, hk⟩ := rep_lst rzd
      exact ⟨p1, p2, vs, us, rfl, .inl ⟨.of ha, .of hb, h2 _ [(.lst o xs, .ref p1), (.lst o2 ys, .ref p2)] H2 F4 g5 mm (feeds_zipL zc zd)⟩⟩
    · rename_i xs ys
      obtain ⟨p1, vs, fl, rfl, ha, hl⟩ := rep_tup rzc
      obtain ⟨p2, us, fl2, rfl, hb, hk⟩ := rep_tup rzd
      exact ⟨p1, p2, vs, us, rfl, .inr ⟨ha, hb, h2 _ [(.tup xs, .ref p1), (.tup ys, .ref p2)] H2 F4 g5 mm (feeds_zipT zc zd)⟩⟩

/-! ### the slots of a block -/
theorem rE_eq : ∀ {env : Env} {σ σ' : L2.St}, σ.length = σ'.length → (∀ (i : Nat) (x : PV), env[i]? = some (some x) → σ[i]? = σ'[i]?) → rE env σ = rE env σ' ∧ (WE env σ → WE env σ')
  | [], [], [], _, _ => ⟨rfl, fun h => h⟩
  | [], [], _ :: _, h, _ => by simp at h
  | [], _ :: _, [], h, _ => by simp at h
  | [], _ :: _, _ :: _, _, _ => ⟨rfl, fun h => by simp [WE] at h⟩
  | _ :: _, [], [], _, _ => ⟨rfl, fun h => h⟩
  | _ :: _, [], _ :: _, h, _ => by simp at h
  | _ :: _, _ :: _, [], h, _ => by simp at h
  | none :: env, s :: σ, s' :: σ', hl, h => by
    obtain ⟨q1, q2⟩ := rE_eq (env := env) (σ := σ) (σ' := σ') (by simpa using hl) fun i x e => by simpa using h (i + 1) x (by simpa using e)
    refine ⟨by simp only [rE, q1], fun w => ?_⟩
    simp only [WE] at w ⊢
    exact q2 w
  | some x :: env, s :: σ, s' :: σ', hl, h => by
    have e0 : s = s' := by simpa using h 0 x rfl
    subst e0
    obtain ⟨q1, q2⟩ := rE_eq (env := env) (σ := σ) (σ' := σ') (by simpa using hl) fun i x e => by simpa using h (i + 1) x (by simpa using e)
    cases s with
    | none => exact ⟨by simp only [rE, q1], fun w => by simp [WE] at w⟩
    | some v =>
      refine ⟨by simp only [rE, q1], fun w => ?_⟩
      simp only [WE] at w ⊢
      exact q2 w
theorem ge_sub (g : Γ.ge σ H F env T) (hl : σ.length = σ'.length) (h : ∀ (i : Nat) (x : PV), env[i]? = some (some x) → σ[i]? = σ'[i]?) (hp : ∀ p ∈ Γ.mv, σ'[p.1]? = σ[p.1]?) : Γ.ge σ' H F env T := by
  obtain ⟨q1, q2⟩ := rE_eq hl h
  exact ⟨by rw [← q1]; exact g.good, q2 g.we, fun p m => by rw [hp p m]; exact g.pin p m⟩
theorem wipe_get {σ : L2.St} {i : Nat} : ∀ {vs : List Nat}, i ∉ vs → (wipe σ vs)[i]? = σ[i]?
  | [], _ => rfl
  | v :: vs, h => by
    unfold wipe
    rw [List.getElem?_set_ne fun e => h (by rw [e]; exact List.mem_cons_self)]
    exact wipe_get fun m => h (List.mem_cons_of_mem _ m)
theorem kil_none : ∀ {is : List Nat} {env : Env} {i : Nat} {x : PV}, (kil env is)[i]? = some (some x) → i ∉ is
  | [], env, i, x, _ => by simp
  | j :: is, env, i, x, h => by
    unfold kil at h
    intro m
    rcases List.mem_cons.mp m with e | m
    · subst e
      have : ∀ (is : List Nat) (env : Env), env[i]? = some none ∨ env[i]? = none → (kil env is)[i]? = some none ∨ (kil env is)[i]? = none := by
        intro is
        induction is with
        | nil => intro env h; exact h
        | cons k is ih =>
          intro env h
          unfold kil
          refine ih _ ?_
          by_cases hk : k = i
          · subst hk
            rw [List.getElem?_set]
            simp only [if_true]
            split
            · exact .inl rfl
            · exact .inr rfl
          · rw [List.getElem?_set_ne hk]; exact h
      have q := this is (env.set i none) (by
        rw [List.getElem?_set]
        simp only [if_true]
        split
        · exact .inl rfl
        · exact .inr rfl)
      rw [h] at q
      rcases q with q | q <;> cases q
    · exact kil_none h m
/-- into a block -/
theorem ge_in {vs : List Nat} (g : Γ.ge σ H F (kil env vs) T) (hm : ∀ p ∈ Γ.mv, p.1 ∉ vs) : Γ.ge (wipe σ vs) H F (kil env vs) T :=
  ge_sub g (wipe_length ..).symm (fun i x e => (wipe_get (kil_none e)).symm) fun p m => wipe_get (hm p m)
/-- .. and out again -/
theorem ge_out {vs : List Nat} (g : Γ.ge (wipe σ vs) H F env T) (hm : ∀ p ∈ Γ.mv, p.1 ∉ vs) : Γ.ge σ H F env T := by
  refine ge_sub g (wipe_length ..) (fun i x e => ?_) fun p m => (wipe_get (hm p m)).symm
  -- where the state has a value, the slot was not wiped
  have hw : ∃ v, (wipe σ vs)[i]? = some (some v) := by
    have hi : i < env.length := (List.getElem?_eq_some_iff.mp e).1
    obtain ⟨_, _, _, _, _, _, h5, _⟩ := rE_split g.we hi
    exact h5 x e
  obtain ⟨v, hv⟩ := hw
  rw [hv, (wipe_some hv).1]

/-! ### comprehensions -/
theorem blk_loc {scope : Scope} {sc : Scope} {x : Str} (h : Loc scope x) : Loc (relS scope sc) x ∧ ((scope.names.lookup x == some .cell) = true ∨ (relS scope sc).names.lookup x = some .local) := by
  rcases h with h | h
  · have q : (relS scope sc).names.lookup x = some .local := lookup_relS_keep (by decide) h
    exact ⟨.inl q, .inr q⟩
  · have q : (relS scope sc).names.lookup x = some .cell := lookup_relS_keep (by decide) h
    exact ⟨.inr q, .inl (by rw [h]; rfl)⟩
theorem XS.blk {scope : Scope} {s : Shared} {H : Hp} {C : Addr} {cl : List (Str × Addr)} {fp : List Addr} (S : XS Γ sc X) : XS Γ (relS scope sc) (X.blk s H scope (compEnvC scope cl C X.env) fp) :=
  ⟨S.prog, S.w, S.K, S.mg, S.base, S.N, by show relS scope X.env.scope = _; rw [S.hs], S.room, S.calm, S.nd⟩
/-- what a test list says -/
def tCc (Γ : Ctx) (W : WX) (c : OEx) : TT := fun σ H Q => ∃ F env T, Γ.ge σ H F env T ∧ PR (okT Γ σ H F T c.pure Q) (exK Γ W σ T) (evc Γ.tab c env)
theorem c_nil : PTs X [] (tCc Γ W .no) := ⟨fun pins s σ H Q I ⟨F, env, T, g, hp⟩ => pts_nil.run pins s σ H Q I (by
  unfold OEx.pure evc at hp
  obtain ⟨b, e, q⟩ := hp
  cases e
  exact q H F g (fun _ h => h) fun _ => .refl)⟩
theorem c_one {e : Ex} {x : Expr} (h : PT X x (tT Γ W e)) : PTs X [x] (tCc Γ W (.so e)) := ⟨fun pins s σ H Q I ⟨F, env, T, g, hp⟩ => (pts_one h).run pins s σ H Q I (by
  unfold OEx.pure evc at hp
  exact ⟨F, env, T, g, hp⟩)⟩
/-- an owned list takes one more -/
theorem ge_append {xs : List PV} {y : PV} {v : V} {D : Addr} (g : Γ.ge σ H F env ((y, v) :: (.lst true xs, .ref D) :: T)) : ∃ vs, H D = some (.lst vs) ∧ vs.length = xs.length ∧ Γ.ge σ (upd H D (.lst (vs ++ [v]))) F env ((.lst true (xs ++ [y]), .ref D) :: T) := by
  have g1 : Γ.ge σ H F env ((.lst true xs, .ref D) :: (y, v) :: T) := g.perm (.swap ..)
  obtain ⟨a, vs, e, ha, hl, go⟩ := Good.openL (xs := xs) (R := (y, v) :: T ++ rE env σ) (by simpa using g1.good)
  cases e
  refine ⟨vs, ha, hl.symm, ?_⟩
  have go2 : Good Γ.G Γ.B H F [D] ((xs ++ [y]).zip (vs ++ [v]) ++ (T ++ rE env σ)) := by
    rw [List.zip_append hl]
    simpa using go
  have gc := Good.closeL (a := D) (by simp [hl]) go2
  exact ⟨by simpa using gc, g.we, g.pin⟩
theorem loopC_ok {own : List Nat} {t : Pat} {c : OEx} {e : Ex} {Q : VK} {F0 : Addr → Prop} {J : L2.It} {U : List (PV × V)} {xs0 : List PV} {D : Addr} {vs : List Nat} (hvs : vs = own) (hown : ∀ i ∈ patL t, i ∈ own) (hm : ∀ p ∈ Γ.mv, p.1 ∉ own) (fd : Feeds Γ U xs0 J) {env0 : Env}
    {H1 : Hp} (h0 : ∃ F, Γ.ge (wipe σ own) (upd H1 D (.lst [])) F (kil env0 own) ((.lst true [], .ref D) :: (U ++ T)) ∧ ∀ a, F0 a → F a)
    (hp : PR (fun ys env' => ∀ H' F', Γ.ge σ H' F' env' ((.lst true ys, .ref D) :: T) → (∀ a, F0 a → F' a) → Q (.ref D) H') (exK Γ W σ T) (loopC own t (evc Γ.tab c) (ev Γ.tab e) xs0 [] (kil env0 own))) :
    ∃ W' : Nat → Nat → Hp → Prop, (∃ m, W' 0 m (upd H1 D (.lst []))) ∧ ∀ i m H, W' i m H →
      (J.stop i H ∧ Q (.ref D) H) ∨ (J.go i H ∧ ∃ Nx : Hp → Prop, (∀ H', Nx H' → ∃ m', m' < m ∧ W' (i + 1) m' H') ∧ ∀ x H', J.yld i H x H' → gPat Γ t x (wipe σ vs) H' fun σ2 H2 => wipe σ2 vs = wipe σ vs ∧ tCc Γ W c σ2 H2 fun b H3 =>
        if b = true then tE Γ W e σ2 H3 fun y H4 => ∃ acc, H4 D = some (.lst acc) ∧ acc.length < sizeLine ∧ Nx (upd H4 D (.lst (acc ++ [y]))) else Nx H3) := by
  subst hvs
  refine lc_it (G := fun H => ∃ σ F env T, Γ.ge σ H F env (U ++ T)) (Y := J.yld) (n := xs0.length) ⟨fun i H hi ⟨σ, F, env, T, g⟩ => fd.goes i H F σ env T g hi, fun H ⟨σ, F, env, T, g⟩ => fd.stops H F σ env T g, fun i H x H' _ _ y => y⟩
    (fun i H => ∃ F env acc, Γ.ge (wipe σ vs) H F (kil env vs) ((.lst true acc, .ref D) :: (U ++ T)) ∧ (∀ a, F0 a → F a) ∧
      PR (fun ys env' => ∀ H' F', Γ.ge σ H' F' env' ((.lst true ys, .ref D) :: T) → (∀ a, F0 a → F' a) → Q (.ref D) H') (exK Γ W σ T) (loopC vs t (evc Γ.tab c) (ev Γ.tab e) (xs0.drop i) acc (kil env vs)))
    ?_ ?_ ?_ ?_
  · obtain ⟨F, g, m⟩ := h0
    exact ⟨F, env0, [], g, m, hp⟩
  · rintro i H hi ⟨F, env, acc, g, m, h⟩
    exact ⟨_, F, _, (.lst true acc, .ref D) :: T, g.perm (List.perm_middle.symm)⟩
  · rintro i x H H' hi ⟨F, env, acc, g, m, h⟩ y
    have g1 : Γ.ge (wipe σ vs) H F (kil env vs) (U ++ (.lst true acc, .ref D) :: T) := g.perm List.perm_middle.symm
    obtain ⟨z, F1, hz, g2, m1⟩ := fd.yields i H F _ _ _ x H' g1 hi y
    have hd : xs0.drop i = z :: xs0.drop (i + 1) := by
      obtain ⟨hi', e⟩ := List.getElem?_eq_some_iff.mp hz
      rw [← e, List.drop_eq_getElem_cons hi']
    rw [hd] at h
    unfold loopC at h
    cases hb : bindP t z (kil env vs) with
    | none => rw [hb] at h; exact h.elim
    | some e1 =>
      rw [hb] at h
      have h : PR _ _ ((evc Γ.tab c e1).bind _) := h
      refine ⟨F1, _, _, z, e1, g2, hb, fun σ2 g3 hw => ⟨(hw vs fun i m => hown i m).trans wipe_wipe, F1, e1, _, g3, (PR.bind.mp h).imp (fun b env2 h2 => ?_) fun _ _ h => h.1.elim⟩⟩
      have hw : wipe σ2 vs = wipe σ vs := (hw vs fun i m => hown i m).trans wipe_wipe
      -- behind the turn
      have back : ∀ {H3 : Hp} {F3 : Addr → Prop} {env3 : Env} {acc' : List PV}, Γ.ge σ2 H3 F3 env3 ((.lst true acc', .ref D) :: (U ++ T)) → Γ.ge (wipe σ vs) H3 F3 (kil env3 vs) ((.lst true acc', .ref D) :: (U ++ T)) := fun {H3 F3 env3 acc'} g => by
        have q := ge_in (g.kil vs) hm
        rw [hw] at q
        exact q
      cases b <;> first | exact h2.elim | skip
      rename_i b
      refine ⟨b, rfl, fun H3 F3 g4 m3 _ => ?_⟩
      cases b with
      | false =>
        simp only [Bool.false_eq_true, if_false]
        exact ⟨F3, env2, acc, back (g4.perm List.perm_middle), fun a z => m3 a (m1 a (m a z)), h2⟩
      | true =>
        simp only [if_true]
        refine ⟨F3, env2, _, g4, (PR.bind.mp h2).imp (fun yv env3 h3 => ?_) fun _ _ h => h.1.elim⟩
        intro w H4 F4 g5 m4 _
        have g6 : Γ.ge σ2 H4 F4 env3 ((yv, w) :: (.lst true acc, .ref D) :: (U ++ T)) := g5.perm (List.Perm.cons _ List.perm_middle)
        obtain ⟨us, hD, hlu, g7⟩ := ge_append g6
        by_cases hlt : acc.length < lineB
        · rw [if_pos hlt] at h3
          refine ⟨us, hD, by rw [hlu, ← lineB_eq]; exact hlt, F4, env3, acc ++ [yv], back g7, fun a z => m4 a (m3 a (m1 a (m a z))), h3⟩
        · rw [if_neg hlt] at h3; exact h3.elim
  · rintro H ⟨F, env, acc, g, m, h⟩
    rw [List.drop_length] at h
    unfold loopC at h
    have g1 : Γ.ge (wipe σ vs) H F (kil env vs) (U ++ (.lst true acc, .ref D) :: T) := g.perm List.perm_middle.symm
    exact h H F (ge_out g1.dropL hm) m
theorem n_com {elt : Ex} {own : List Nat} {t : Pat} {it : Z.It} {cond : OEx} {x tg iter : Expr} {ifs : List Expr} {scope : Scope} {pos : Pos} {ownL : List (Str × Nat)} (S : XS Γ sc X) (ow : own = ownL.map (·.2)) (hown : ∀ i ∈ patL t, i ∈ own) (hm : ∀ p ∈ Γ.mv, p.1 ∉ own) (hblk : blkC Γ.N sc scope ownL = true)
    (hi : PI X tg iter (tI Γ W it)) (hs : ∀ x, foldedSetIterable iter X.env x = pure x) (ht : chkT Γ.N scope t tg = true)
    (hc : ∀ (s : Shared) (H : Hp) (C : Addr) (cl : List (Str × Addr)) (fp : List Addr), PTs (X.blk s H scope (compEnvC scope cl C X.env) fp) ifs (tCc Γ W cond))
    (he : ∀ (s : Shared) (H : Hp) (C : Addr) (cl : List (Str × Addr)) (fp : List Addr), PE (X.blk s H scope (compEnvC scope cl C X.env) fp) x (tE Γ W elt)) :
    PE X (.ListComp x [⟨tg, iter, ifs, 0⟩] scope pos) (tE Γ W (.com elt own t it cond)) := by
  refine PEmono (pe_lc (own := ownL) S.calm S.nd hi (by rw [S.N, S.hs]; exact blkOk_by hblk) (fun s H C cl fp => pg_pat (S.blk) (fun x hx => blk_loc hx) (fun p m e => hm p m (hown _ e)) ht) hc he hs) fun σ H Q ⟨F, env, T, g, hp⟩ => ?_
  unfold Ex.pure ev at hp
  refine ⟨F, env, T, g, (PR.bind.mp hp).imp (fun xs env1 h1 => ?_) fun _ _ h => h⟩
  intro J U H1 F1 g1 m1 fd D hD
  rw [← ow]
  obtain ⟨F2, g2, m2⟩ := ge_newLst (xs := []) (vs := []) rfl (by simpa using g1) hD
  refine loopC_ok (σ := σ) (F0 := F) (env0 := env1) rfl hown hm fd ⟨F2, ge_in (g2.kil own) hm, fun a z => m2 a (m1 a z)⟩ ((PR.bind.mp h1).imp (fun ys env2 h2 => ?_) fun _ _ h => h)
  intro H' F' g' m'
  exact h2 (.ref D) H' F' (g'.kil own) m' fun q => nomatch q
end
end Z

set_option Elab.async false
set_option linter.all false
set_option maxRecDepth 100000
/-! Z14: what stands behind a look that says yes (printed by inv.py). -/
namespace Z
open PySem L2

theorem inv_var {M : Nms} {N : List Str} {sc : Scope} {i : Nat} {x : Expr} (h : chkE M N sc (.var i) x = true) : ∃ y p, x = .Name y p ∧ chkV N sc i y = true := by
  cases x <;> (first | (simp only [chkE, Bool.false_eq_true] at h; done) | skip)
  simp only [chkE, Bool.and_eq_true, decide_eq_true_eq] at h
  exact ⟨_, _, rfl, h⟩
theorem inv_mv {M : Nms} {N : List Str} {sc : Scope} {i : Nat} {x : Expr} (h : chkE M N sc (.mv i) x = true) : ∃ y p, x = .Name y p ∧ chkV N sc i y = true := by
  cases x <;> (first | (simp only [chkE, Bool.false_eq_true] at h; done) | skip)
  simp only [chkE, Bool.and_eq_true, decide_eq_true_eq] at h
  exact ⟨_, _, rfl, h⟩
theorem inv_cint {M : Nms} {N : List Str} {sc : Scope} {n : Int} {x : Expr} (h : chkE M N sc (.cint n) x = true) : ∃ j p, x = .Constant (.int n) j p := by
  cases x <;> (first | (simp only [chkE, Bool.false_eq_true] at h; done) | skip)
  rename_i v _ _; cases v <;> (first | (simp only [chkE, Bool.false_eq_true] at h; done) | skip)
  simp only [chkE, Bool.and_eq_true, decide_eq_true_eq] at h
  subst h; exact ⟨_, _, rfl⟩
theorem inv_cbool {M : Nms} {N : List Str} {sc : Scope} {n : Bool} {x : Expr} (h : chkE M N sc (.cbool n) x = true) : ∃ j p, x = .Constant (.bool n) j p := by
  cases x <;> (first | (simp only [chkE, Bool.false_eq_true] at h; done) | skip)
  rename_i v _ _; cases v <;> (first | (simp only [chkE, Bool.false_eq_true] at h; done) | skip)
  simp only [chkE, Bool.and_eq_true, decide_eq_true_eq] at h
  subst h; exact ⟨_, _, rfl⟩
theorem inv_cnon {M : Nms} {N : List Str} {sc : Scope} {x : Expr} (h : chkE M N sc .cnon x = true) : ∃ j p, x = .Constant .none j p := by
  cases x <;> (first | (simp only [chkE, Bool.false_eq_true] at h; done) | skip)
  rename_i v _ _; cases v <;> (first | (simp only [chkE, Bool.false_eq_true] at h; done) | skip)
  simp only [chkE, Bool.and_eq_true, decide_eq_true_eq] at h
  exact ⟨_, _, rfl⟩
theorem inv_cstr {M : Nms} {N : List Str} {sc : Scope} {n : Str} {x : Expr} (h : chkE M N sc (.cstr n) x = true) : ∃ j p, x = .Constant (.str n) j p := by
  cases x <;> (first | (simp only [chkE, Bool.false_eq_true] at h; done) | skip)
  rename_i v _ _; cases v <;> (first | (simp only [chkE, Bool.false_eq_true] at h; done) | skip)
  simp only [chkE, Bool.and_eq_true, decide_eq_true_eq] at h
  subst h; exact ⟨_, _, rfl⟩
theorem inv_glb {M : Nms} {N : List Str} {sc : Scope} {g : Nat} {x : Expr} (h : chkE M N sc (.glb g) x = true) : ∃ y p, x = .Name y p ∧ isStr (M.glb g) y = true ∧ glB sc y = true := by
  cases x <;> (first | (simp only [chkE, Bool.false_eq_true] at h; done) | skip)
  simp only [chkE, Bool.and_eq_true, decide_eq_true_eq] at h
  exact ⟨_, _, rfl, h.1, h.2⟩
theorem inv_bin {M : Nms} {N : List Str} {sc : Scope} {o : BOp} {a b : Ex} {x : Expr} (h : chkE M N sc (.bin o a b) x = true) : ∃ l op r p, x = .BinOp l op r p ∧ bopOk o op = true ∧ chkE M N sc a l = true ∧ chkE M N sc b r = true := by
  cases x <;> (first | (simp only [chkE, Bool.false_eq_true] at h; done) | skip)
  simp only [chkE, Bool.and_eq_true, decide_eq_true_eq] at h
  exact ⟨_, _, _, _, rfl, h.1.1, h.1.2, h.2⟩
theorem inv_neg {M : Nms} {N : List Str} {sc : Scope} {a : Ex} {x : Expr} (h : chkE M N sc (.neg a) x = true) : ∃ l p, x = .UnaryOp .USub l p ∧ chkE M N sc a l = true := by
  cases x <;> (first | (simp only [chkE, Bool.false_eq_true] at h; done) | skip)
  rename_i op _ _; cases op <;> (first | (simp only [chkE, Bool.false_eq_true] at h; done) | skip)
  simp only [chkE, Bool.and_eq_true, decide_eq_true_eq] at h
  exact ⟨_, _, rfl, h⟩
theorem inv_cmp {M : Nms} {N : List Str} {sc : Scope} {o : COp} {a b : Ex} {x : Expr} (h : chkE M N sc (.cmp o a b) x = true) : ∃ l op r p, x = .Compare l [op] [r] p ∧ copOk o op = true ∧ plainX r = true ∧ chkE M N sc a l = true ∧ chkE M N sc b r = true := by
  cases x <;> (first | (simp only [chkE, Bool.false_eq_true] at h; done) | skip)
  rename_i _ ops rs _; cases ops <;> (first | (simp only [chkE, Bool.false_eq_true] at h; done) | skip)
  rename_i ops; cases ops <;> (first | (simp only [chkE, Bool.false_eq_true] at h; done) | skip)
  cases rs <;> (first | (simp only [chkE, Bool.false_eq_true] at h; done) | skip)
  rename_i rs; cases rs <;> (first | (simp only [chkE, Bool.false_eq_true] at h; done) | skip)
  simp only [chkE, Bool.and_eq_true, decide_eq_true_eq] at h
  exact ⟨_, _, _, _, rfl, h.1.1.1, h.1.1.2, h.1.2, h.2⟩
theorem inv_chn {M : Nms} {N : List Str} {sc : Scope} {o q : COp} {a b c : Ex} {x : Expr} (h : chkE M N sc (.chn o q a b c) x = true) : ∃ l op oq r t p, x = .Compare l [op, oq] [r, t] p ∧ copI o = true ∧ copOk o op = true ∧ copOk q oq = true ∧ plainX r = true ∧ plainX t = true ∧ chkE M N sc a l = true ∧ chkE M N sc b r = true ∧ chkE M N sc c t = true := by
  cases x <;> (first | (simp only [chkE, Bool.false_eq_true] at h; done) | skip)
  rename_i _ ops rs _; cases ops <;> (first | (simp only [chkE, Bool.false_eq_true] at h; done) | skip)
  rename_i ops; cases ops <;> (first | (simp only [chkE, Bool.false_eq_true] at h; done) | skip)
  rename_i ops; cases ops <;> (first | (simp only [chkE, Bool.false_eq_true] at h; done) | skip)
  cases rs <;> (first | (simp only [chkE, Bool.false_eq_true] at h; done) | skip)
  rename_i rs; cases rs <;> (first | (simp only [chkE, Bool.false_eq_true] at h; done) | skip)
  rename_i rs; cases rs <;> (first | (simp only [chkE, Bool.false_eq_true] at h; done) | skip)
  simp only [chkE, Bool.and_eq_true, decide_eq_true_eq] at h
  exact ⟨_, _, _, _, _, _, rfl, h.1.1.1.1.1.1.1, h.1.1.1.1.1.1.2, h.1.1.1.1.1.2, h.1.1.1.1.2, h.1.1.1.2, h.1.1.2, h.1.2, h.2⟩
theorem inv_one {M : Nms} {N : List Str} {sc : Scope} {a : Ex} {x : Expr} (h : chkE M N sc (.one a) x = true) : ∃ op e p, x = .BoolOp op [e] p ∧ chkE M N sc a e = true := by
  cases x <;> (first | (simp only [chkE, Bool.false_eq_true] at h; done) | skip)
  rename_i _ vs _; cases vs <;> (first | (simp only [chkE, Bool.false_eq_true] at h; done) | skip)
  rename_i vs; cases vs <;> (first | (simp only [chkE, Bool.false_eq_true] at h; done) | skip)
  simp only [chkE, Bool.and_eq_true, decide_eq_true_eq] at h
  exact ⟨_, _, _, rfl, h⟩
theorem inv_and {M : Nms} {N : List Str} {sc : Scope} {a b : Ex} {x : Expr} (h : chkE M N sc (.and a b) x = true) : ∃ y z r p, x = .BoolOp .And (y :: z :: r) p ∧ chkE M N sc a y = true ∧ chkE M N sc b (.BoolOp .And (z :: r) p) = true := by
  cases x <;> (first | (simp only [chkE, Bool.false_eq_true] at h; done) | skip)
  rename_i op _ _; cases op <;> (first | (simp only [chkE, Bool.false_eq_true] at h; done) | skip)
  rename_i vs _; cases vs <;> (first | (simp only [chkE, Bool.false_eq_true] at h; done) | skip)
  rename_i vs; cases vs <;> (first | (simp only [chkE, Bool.false_eq_true] at h; done) | skip)
  simp only [chkE, Bool.and_eq_true, decide_eq_true_eq] at h
  exact ⟨_, _, _, _, rfl, h.1, h.2⟩
theorem inv_or {M : Nms} {N : List Str} {sc : Scope} {a b : Ex} {x : Expr} (h : chkE M N sc (.or a b) x = true) : ∃ y z r p, x = .BoolOp .Or (y :: z :: r) p ∧ chkE M N sc a y = true ∧ chkE M N sc b (.BoolOp .Or (z :: r) p) = true := by
  cases x <;> (first | (simp only [chkE, Bool.false_eq_true] at h; done) | skip)
  rename_i op _ _; cases op <;> (first | (simp only [chkE, Bool.false_eq_true] at h; done) | skip)
  rename_i vs _; cases vs <;> (first | (simp only [chkE, Bool.false_eq_true] at h; done) | skip)
  rename_i vs; cases vs <;> (first | (simp only [chkE, Bool.false_eq_true] at h; done) | skip)
  simp only [chkE, Bool.and_eq_true, decide_eq_true_eq] at h
  exact ⟨_, _, _, _, rfl, h.1, h.2⟩
theorem inv_not {M : Nms} {N : List Str} {sc : Scope} {a : Ex} {x : Expr} (h : chkE M N sc (.not a) x = true) : ∃ l p, x = .UnaryOp .Not l p ∧ chkE M N sc a l = true := by
  cases x <;> (first | (simp only [chkE, Bool.false_eq_true] at h; done) | skip)
  rename_i op _ _; cases op <;> (first | (simp only [chkE, Bool.false_eq_true] at h; done) | skip)
  simp only [chkE, Bool.and_eq_true, decide_eq_true_eq] at h
  exact ⟨_, _, rfl, h⟩
theorem inv_ife {M : Nms} {N : List Str} {sc : Scope} {c a b : Ex} {x : Expr} (h : chkE M N sc (.ife c a b) x = true) : ∃ t y z p, x = .IfExp t y z p ∧ chkE M N sc c t = true ∧ chkE M N sc a y = true ∧ chkE M N sc b z = true := by
  cases x <;> (first | (simp only [chkE, Bool.false_eq_true] at h; done) | skip)
  simp only [chkE, Bool.and_eq_true, decide_eq_true_eq] at h
  exact ⟨_, _, _, _, rfl, h.1.1, h.1.2, h.2⟩
theorem inv_lst {M : Nms} {N : List Str} {sc : Scope} {es : Exs} {x : Expr} (h : chkE M N sc (.lst es) x = true) : ∃ xs p, x = .List xs p ∧ es.len ≤ 1000 ∧ chkEs M N sc es xs = true := by
  cases x <;> (first | (simp only [chkE, Bool.false_eq_true] at h; done) | skip)
  simp only [chkE, Bool.and_eq_true, decide_eq_true_eq] at h
  exact ⟨_, _, rfl, h.1, h.2⟩
theorem inv_tup {M : Nms} {N : List Str} {sc : Scope} {es : Exs} {x : Expr} (h : chkE M N sc (.tup es) x = true) : ∃ xs k p, x = .Tuple xs k p ∧ es.len ≤ 1000 ∧ chkEs M N sc es xs = true := by
  cases x <;> (first | (simp only [chkE, Bool.false_eq_true] at h; done) | skip)
  simp only [chkE, Bool.and_eq_true, decide_eq_true_eq] at h
  exact ⟨_, _, _, rfl, h.1, h.2⟩
theorem inv_dct0 {M : Nms} {N : List Str} {sc : Scope} {x : Expr} (h : chkE M N sc .dct0 x = true) : ∃ p, x = .Dict [] [] p := by
  cases x <;> (first | (simp only [chkE, Bool.false_eq_true] at h; done) | skip)
  rename_i ks vs _; cases ks <;> (first | (simp only [chkE, Bool.false_eq_true] at h; done) | skip)
  cases vs <;> (first | (simp only [chkE, Bool.false_eq_true] at h; done) | skip)
  simp only [chkE, Bool.and_eq_true, decide_eq_true_eq] at h
  exact ⟨_, rfl⟩
theorem inv_idx {M : Nms} {N : List Str} {sc : Scope} {a i : Ex} {x : Expr} (h : chkE M N sc (.idx a i) x = true) : ∃ y z p, x = .Subscript y z p ∧ plainX z = true ∧ chkE M N sc a y = true ∧ chkE M N sc i z = true := by
  cases x <;> (first | (simp only [chkE, Bool.false_eq_true] at h; done) | skip)
  simp only [chkE, Bool.and_eq_true, decide_eq_true_eq] at h
  exact ⟨_, _, _, rfl, h.1.1, h.1.2, h.2⟩
theorem inv_slc {M : Nms} {N : List Str} {sc : Scope} {a : Ex} {lo hi : OEx} {x : Expr} (h : chkE M N sc (.slc a lo hi) x = true) : ∃ y l u p2 p, x = .Subscript y (.Slice l u none p2) p ∧ chkE M N sc a y = true ∧ chkO M N sc lo l = true ∧ chkO M N sc hi u = true := by
  cases x <;> (first | (simp only [chkE, Bool.false_eq_true] at h; done) | skip)
  rename_i _ sl _; cases sl <;> (first | (simp only [chkE, Bool.false_eq_true] at h; done) | skip)
  rename_i st _; cases st <;> (first | (simp only [chkE, Bool.false_eq_true] at h; done) | skip)
  simp only [chkE, Bool.and_eq_true, decide_eq_true_eq] at h
  exact ⟨_, _, _, _, _, rfl, h.1.1, h.1.2, h.2⟩
theorem inv_rev {M : Nms} {N : List Str} {sc : Scope} {a : Ex} {x : Expr} (h : chkE M N sc (.rev a) x = true) : ∃ y k p1 p2 p3 p, x = .Subscript y (.Slice none none (some (.UnaryOp .USub (.Constant (.int 1) k p1) p2)) p3) p ∧ chkE M N sc a y = true := by
  cases x <;> (first | (simp only [chkE, Bool.false_eq_true] at h; done) | skip)
  rename_i _ sl _; cases sl <;> (first | (simp only [chkE, Bool.false_eq_true] at h; done) | skip)
  rename_i l u st _; cases l <;> (first | (simp only [chkE, Bool.false_eq_true] at h; done) | skip)
  cases u <;> (first | (simp only [chkE, Bool.false_eq_true] at h; done) | skip)
  cases st <;> (first | (simp only [chkE, Bool.false_eq_true] at h; done) | skip)
  rename_i e; cases e <;> (first | (simp only [chkE, Bool.false_eq_true] at h; done) | skip)
  rename_i op e _; cases op <;> (first | (simp only [chkE, Bool.false_eq_true] at h; done) | skip)
  cases e <;> (first | (simp only [chkE, Bool.false_eq_true] at h; done) | skip)
  rename_i v _ _; cases v <;> (first | (simp only [chkE, Bool.false_eq_true] at h; done) | skip)
  rename_i v; by_cases hv : v = 1
  · subst hv; simp only [chkE] at h; exact ⟨_, _, _, _, _, _, rfl, h⟩
  · simp [chkE, hv] at h
theorem inv_fld {M : Nms} {N : List Str} {sc : Scope} {a : Ex} {f : Nat} {x : Expr} (h : chkE M N sc (.fld a f) x = true) : ∃ y n p, x = .Attribute y n p ∧ plainX y = true ∧ isStr (M.att f) n = true ∧ chkE M N sc a y = true := by
  cases x <;> (first | (simp only [chkE, Bool.false_eq_true] at h; done) | skip)
  simp only [chkE, Bool.and_eq_true, decide_eq_true_eq] at h
  exact ⟨_, _, _, rfl, h.1.1, h.1.2, h.2⟩
theorem inv_call {M : Nms} {N : List Str} {sc : Scope} {f : Nat} {es ks : Exs} {x : Expr} (h : chkE M N sc (.call f es ks) x = true) : ∃ y q xs kws p, x = .Call (.Name y q) xs kws p ∧ isStr (M.fn f) y = true ∧ glB sc y = true ∧ chkAs M N sc es xs = true ∧ (if kws.isEmpty = true then ks.isNil && decide (M.pat f = none) else decide (M.pat f = some (es.len, kwN kws)) && !xs.isEmpty && chkK M N sc ks kws) = true := by
  cases x <;> (first | (simp only [chkE, Bool.false_eq_true] at h; done) | skip)
  rename_i fu _ _ _; cases fu <;> (first | (simp only [chkE, Bool.false_eq_true] at h; done) | skip)
  simp only [chkE, Bool.and_eq_true] at h
  exact ⟨_, _, _, _, _, rfl, h.1.1.1, h.1.1.2, h.1.2, h.2⟩
theorem inv_meth {M : Nms} {N : List Str} {sc : Scope} {m : Nat} {a : Ex} {es ks : Exs} {x : Expr} (h : chkE M N sc (.meth m a es ks) x = true) : ∃ o n ap xs kws p, x = .Call (.Attribute o n ap) xs kws p ∧ (ap.endLine == p.line) = true ∧ xs.length < 30 ∧ plainX o = true ∧ isStr (M.att m) n = true ∧ chkE M N sc a o = true ∧ chkAs M N sc es xs = true ∧ ks.isNil = true ∧ kws.isEmpty = true := by
  cases x <;> (first | (simp only [chkE, Bool.false_eq_true] at h; done) | skip)
  rename_i fu _ _ _; cases fu <;> (first | (simp only [chkE, Bool.false_eq_true] at h; done) | skip)
  simp only [chkE, Bool.and_eq_true, decide_eq_true_eq] at h
  exact ⟨_, _, _, _, _, _, rfl, h.1.1.1.1.1.1.1, h.1.1.1.1.1.1.2, h.1.1.1.1.1.2, h.1.1.1.1.2, h.1.1.1.2, h.1.1.2, h.1.2, h.2⟩
theorem inv_methm {M : Nms} {N : List Str} {sc : Scope} {m i : Nat} {es ks : Exs} {x : Expr} (h : chkE M N sc (.methm m i es ks) x = true) : ∃ y q n ap xs kws p, x = .Call (.Attribute (.Name y q) n ap) xs kws p ∧ (ap.endLine == p.line) = true ∧ xs.length < 30 ∧ isStr (M.att m) n = true ∧ chkV N sc i y = true ∧ chkAs M N sc es xs = true ∧ ks.isNil = true ∧ kws.isEmpty = true := by
  cases x <;> (first | (simp only [chkE, Bool.false_eq_true] at h; done) | skip)
  rename_i fu _ _ _; cases fu <;> (first | (simp only [chkE, Bool.false_eq_true] at h; done) | skip)
  rename_i o _ _; cases o <;> (first | (simp only [chkE, Bool.false_eq_true] at h; done) | skip)
  simp only [chkE, Bool.and_eq_true, decide_eq_true_eq] at h
  exact ⟨_, _, _, _, _, _, _, rfl, h.1.1.1.1.1.1, h.1.1.1.1.1.2, h.1.1.1.1.2, h.1.1.1.2, h.1.1.2, h.1.2, h.2⟩
theorem inv_make {M : Nms} {N : List Str} {sc : Scope} {C : Nat} {es ks : Exs} {x : Expr} (h : chkE M N sc (.make C es ks) x = true) : ∃ y q xs kws p, x = .Call (.Name y q) xs kws p ∧ isStr (M.cls C) y = true ∧ glB sc y = true ∧ chkAs M N sc es xs = true ∧ ks.isNil = true ∧ kws.isEmpty = true := by
  cases x <;> (first | (simp only [chkE, Bool.false_eq_true] at h; done) | skip)
  rename_i fu _ _ _; cases fu <;> (first | (simp only [chkE, Bool.false_eq_true] at h; done) | skip)
  simp only [chkE, Bool.and_eq_true, decide_eq_true_eq] at h
  exact ⟨_, _, _, _, _, rfl, h.1.1.1.1, h.1.1.1.2, h.1.1.2, h.1.2, h.2⟩
theorem inv_bits {M : Nms} {N : List Str} {sc : Scope} {b : BM} {a : Ex} {es : Exs} {x : Expr} (h : chkE M N sc (.bm b a es) x = true) : ∃ o ap p, b = .bits ∧ es = .nil ∧ x = .Call (.Attribute o "bit_length" ap) [] [] p ∧ plainX o = true ∧ (ap.endLine == p.line) = true ∧ chkE M N sc a o = true := by
  cases x <;> (first | (simp only [chkE, Bool.false_eq_true] at h; done) | skip)
  rename_i fu xs kws _; cases fu <;> (first | (simp only [chkE, Bool.false_eq_true] at h; done) | skip)
  cases xs <;> (first | (simp only [chkE, Bool.false_eq_true] at h; done) | skip)
  cases kws <;> (first | (simp only [chkE, Bool.false_eq_true] at h; done) | skip)
  cases b <;> (first | (simp only [chkE, Bool.false_eq_true] at h; done) | skip)
  cases es <;> (first | (simp only [chkE, Bool.false_eq_true] at h; done) | skip)
  simp only [chkE, Bool.and_eq_true, decide_eq_true_eq] at h
  obtain ⟨⟨⟨h1, h2⟩, h3⟩, h4⟩ := h; subst h1; exact ⟨_, _, _, rfl, rfl, rfl, h2, h3, h4⟩
theorem inv_com {M : Nms} {N : List Str} {sc : Scope} {elt : Ex} {own : List Nat} {t : Pat} {it : Z.It} {cond : OEx} {x : Expr} (h : chkE M N sc (.com elt own t it cond) x = true) : ∃ y tg iter ifs scope p, x = .ListComp y [⟨tg, iter, ifs, 0⟩] scope p ∧ chkI M N sc it t tg iter = true ∧ blkC N sc scope (ownOk N own) = true ∧ own = (ownOk N own).map (·.2) ∧ (own.all fun i => decide (i ∉ M.mm)) = true ∧ ((patL t).all fun i => decide (i ∈ own)) = true ∧ chkT N scope t tg = true ∧ chkC M N (relS scope sc) cond ifs = true ∧ chkE M N (relS scope sc) elt y = true := by
  cases x <;> (first | (simp only [chkE, Bool.false_eq_true] at h; done) | skip)
  rename_i _ gs _ _; cases gs <;> (first | (simp only [chkE, Bool.false_eq_true] at h; done) | skip)
  rename_i g gs; cases gs <;> (first | (simp only [chkE, Bool.false_eq_true] at h; done) | skip)
  obtain ⟨tg, iter, ifs, asy⟩ := g; by_cases ha : asy = 0
  · subst ha; simp only [chkE, Bool.and_eq_true] at h; exact ⟨_, _, _, _, _, _, rfl, h.1.1.1.1.1.1.1, h.1.1.1.1.1.1.2, of_decide_eq_true h.1.1.1.1.1.2, h.1.1.1.1.2, h.1.1.1.2, h.1.1.2, h.1.2, h.2⟩
  · simp [chkE, ha] at h
theorem inv_rd {M : Nms} {N : List Str} {sc : Scope} {q : Pl} {x : Expr} (h : chkE M N sc (.rd q) x = true) : chkP M N sc q x = true := by
  simp only [chkE, Bool.and_eq_true] at h
  exact h
theorem inv_lenp {M : Nms} {N : List Str} {sc : Scope} {q : Pl} {x : Expr} (h : chkE M N sc (.lenp q) x = true) : ∃ y e p, x = .Call (.Name "len" y) [e] [] p ∧ glB sc "len" = true ∧ plainX e = true ∧ chkP M N sc q e = true := by
  cases x <;> (first | (simp only [chkE, Bool.false_eq_true] at h; done) | skip)
  rename_i fu xs kws _; cases fu <;> (first | (simp only [chkE, Bool.false_eq_true] at h; done) | skip)
  cases xs <;> (first | (simp only [chkE, Bool.false_eq_true] at h; done) | skip)
  rename_i xs; cases xs <;> (first | (simp only [chkE, Bool.false_eq_true] at h; done) | skip)
  cases kws <;> (first | (simp only [chkE, Bool.false_eq_true] at h; done) | skip)
  simp only [chkE, Bool.and_eq_true, decide_eq_true_eq] at h
  obtain ⟨⟨⟨h1, h2⟩, h3⟩, h4⟩ := h; subst h1; exact ⟨_, _, _, rfl, h2, h3, h4⟩
theorem inv_inp {M : Nms} {N : List Str} {sc : Scope} {ng : Bool} {a : Ex} {q : Pl} {x : Expr} (h : chkE M N sc (.inp ng a q) x = true) : ∃ l op r p, x = .Compare l [op] [r] p ∧ copOk (if ng then .notin else .isin) op = true ∧ plainX r = true ∧ chkE M N sc a l = true ∧ chkP M N sc q r = true := by
  cases x <;> (first | (simp only [chkE, Bool.false_eq_true] at h; done) | skip)
  rename_i _ ops rs _; cases ops <;> (first | (simp only [chkE, Bool.false_eq_true] at h; done) | skip)
  rename_i ops; cases ops <;> (first | (simp only [chkE, Bool.false_eq_true] at h; done) | skip)
  cases rs <;> (first | (simp only [chkE, Bool.false_eq_true] at h; done) | skip)
  rename_i rs; cases rs <;> (first | (simp only [chkE, Bool.false_eq_true] at h; done) | skip)
  simp only [chkE, Bool.and_eq_true, decide_eq_true_eq] at h
  exact ⟨_, _, _, _, rfl, h.1.1.1, h.1.1.2, h.1.2, h.2⟩
end Z

set_option Elab.async false
set_option linter.all false
set_option maxRecDepth 100000
set_option maxHeartbeats 4000000
/-! Z15: every expression that is looked at runs as the evaluator says. -/
namespace Z
open PySem L2

theorem inv_lenset {M : Nms} {N : List Str} {sc : Scope} {es : Exs} {x : Expr} (h : chkE M N sc (.bf .lenset es) x = true) :
    ∃ a e p p2 q pos, es = .cons a .nil ∧ x = .Call (.Name "len" p) [.Call (.Name "set" p2) [e] [] q] [] pos ∧ glB sc "len" = true ∧ glB sc "set" = true ∧ plainX e = true ∧ chkE M N sc a e = true := by
  cases x <;> (first | (simp only [chkE, bfName, isStr, Bool.false_and, Bool.false_eq_true] at h; done) | skip)
  rename_i fu xs kws pos
  cases fu <;> (first | (simp only [chkE, bfName, isStr, Bool.false_and, Bool.false_eq_true] at h; done) | skip)
  cases xs <;> (first | (simp only [chkE, bfName, isStr, Bool.false_and, Bool.false_eq_true] at h; done) | skip)
  cases kws <;> (first | (simp only [chkE, bfName, isStr, Bool.false_and, Bool.false_eq_true] at h; done) | skip)
  cases es <;> (first | (simp only [chkE, bfName, isStr, Bool.false_and, Bool.false_eq_true] at h; done) | skip)
  rename_i p1 y ys a es
  cases es <;> (first | (simp only [chkE, bfName, isStr, Bool.false_and, Bool.false_eq_true] at h; done) | skip)
  cases ys <;> (first | (simp only [chkE, bfName, isStr, Bool.false_and, Bool.false_eq_true] at h; done) | skip)
  cases y <;> (first | (simp only [chkE, bfName, isStr, Bool.false_and, Bool.false_eq_true] at h; done) | skip)
  rename_i fu2 xs2 kws2 pos2
  cases fu2 <;> (first | (simp only [chkE, bfName, isStr, Bool.false_and, Bool.false_eq_true] at h; done) | skip)
  cases xs2 <;> (first | (simp only [chkE, bfName, isStr, Bool.false_and, Bool.false_eq_true] at h; done) | skip)
  rename_i e xs3
  cases xs3 <;> (first | (simp only [chkE, bfName, isStr, Bool.false_and, Bool.false_eq_true] at h; done) | skip)
  cases kws2 <;> (first | (simp only [chkE, bfName, isStr, Bool.false_and, Bool.false_eq_true] at h; done) | skip)
  simp only [chkE, Bool.and_eq_true, decide_eq_true_eq] at h
  obtain ⟨⟨⟨⟨⟨h1, h2⟩, h3⟩, h4⟩, h5⟩, h6⟩ := h
  subst h1 h2
  exact ⟨_, _, _, _, _, _, rfl, rfl, h3, h4, h5, h6⟩
theorem inv_bf {M : Nms} {N : List Str} {sc : Scope} {b : BF} {es : Exs} {x : Expr} (hb : b ≠ .lenset) (h : chkE M N sc (.bf b es) x = true) :
    ∃ y q e xs p, x = .Call (.Name y q) (e :: xs) [] p ∧ isStr (bfName b) y = true ∧ glB sc y = true ∧ chkEs M N sc es (e :: xs) = true := by
  cases x <;> (first | (simp only [chkE, bfName, isStr, Bool.false_and, Bool.false_eq_true] at h; done) | skip)
  rename_i fu xs kws pos
  cases fu <;> (first | (simp only [chkE, bfName, isStr, Bool.false_and, Bool.false_eq_true] at h; done) | skip)
  cases xs <;> (first | (simp only [chkE, bfName, isStr, Bool.false_and, Bool.false_eq_true] at h; done) | skip)
  cases kws <;> (first | (simp only [chkE, bfName, isStr, Bool.false_and, Bool.false_eq_true] at h; done) | skip)
  cases b <;> (first | exact absurd rfl hb | skip) <;> simp only [chkE, Bool.and_eq_true] at h <;> exact ⟨_, _, _, _, _, rfl, h.1.1, h.1.2, h.2⟩

theorem t_ife {Γ : Ctx} {W : WX} {X : Cx} {c a b : Ex} {t x y : Expr} {pos : Pos} (tc : PT X t (tT Γ W c)) (ia : PT X x (tT Γ W a)) (ib : PT X y (tT Γ W b)) : PT X (.IfExp t x y pos) (tT Γ W (.ife c a b)) :=
  ⟨fun pins s σ H Q I ⟨F, env, T, g, hp⟩ => by
    unfold Ex.pure at hp; unfold ev at hp
    refine PyProof.Rows.isTrue_IfExp (thn (tc.run pins s σ H (fun k H1 => if k = true then tT Γ W a σ H1 Q else tT Γ W b σ H1 Q) I ?_) fun d s1 ⟨H1, I1, q1⟩ => ?_)
    · refine ⟨F, env, T, g, (PR.bind.mp hp).imp (fun x env1 h1 => ?_) fun _ _ h => h⟩
      cases x <;> first | exact h1.elim | skip
      rename_i k
      refine ⟨k, rfl, fun H1 F1 g1 m1 e1 => ?_⟩
      cases k with
      | true =>
        simp only [if_true]
        exact ⟨F1, env1, T, g1, h1.imp (fun y env2 ⟨b, eb, q⟩ => ⟨b, eb, fun H2 F2 g2 m2 e2 => q H2 F2 g2 (fun a z => m2 a (m1 a z)) fun q => (e1 (pand (pand q).1).1).trans (e2 (pand (pand q).1).2)⟩) fun _ _ h => h⟩
      | false =>
        simp only [Bool.false_eq_true, if_false]
        exact ⟨F1, env1, T, g1, h1.imp (fun y env2 ⟨b, eb, q⟩ => ⟨b, eb, fun H2 F2 g2 m2 e2 => q H2 F2 g2 (fun a z => m2 a (m1 a z)) fun q => (e1 (pand (pand q).1).1).trans (e2 (pand q).2)⟩) fun _ _ h => h⟩
    · cases d with
      | true => exact ia.run pins s1 σ H1 Q I1 q1
      | false => exact ib.run pins s1 σ H1 Q I1 q1⟩
def isBool : Expr → Bool
  | .BoolOp _ _ _ => true
  | _ => false
structure Good3 (Γ : Ctx) (W : WX) (X : Cx) (e : Ex) (x : Expr) : Prop where
  pe : PE X x (tE Γ W e)
  pt : PT X x (tT Γ W e)
  pw : isBool x = true → PW X x (tT Γ W e)
section
variable {Γ : Ctx} {W : WX} {X : Cx} {sc : Scope}
theorem g3 {e : Ex} {x : Expr} (h : PE X x (tE Γ W e)) (hb : isBool x = false) (he : ∀ whole, isTrue x X.env whole = (do let v ← whole; standAt x.pos; holding [v] (truthy v)) := by intro _; rfl) : Good3 Γ W X e x := ⟨h, pt_of h he, fun q => by rw [hb] at q; cases q⟩
theorem g3w {e : Ex} {x : Expr} (h : PE X x (tE Γ W e)) (w : PW X x (tT Γ W e)) : Good3 Γ W X e x := ⟨h, w.pt, fun _ => w⟩
theorem g3t {e : Ex} {x : Expr} (h : PE X x (tE Γ W e) ∧ PT X x (tT Γ W e)) (hb : isBool x = false) : Good3 Γ W X e x := ⟨h.1, h.2, fun q => by rw [hb] at q; cases q⟩
/-- a place as a value: any expression whose test is the truth of its value -/
theorem chkAs_plain {M : Nms} {N : List Str} : ∀ {es : Exs} {xs : List Expr}, chkAs M N sc es xs = true → (∀ x ∈ xs, plainX x = true) ∧ (xs = [] → es = .nil)
  | .nil, [], _ => ⟨(fun _ h => nomatch h), fun _ => rfl⟩
  | .nil, _ :: _, h => by simp [chkAs] at h
  | .cons e es, [], h => by cases e <;> simp [chkAs] at h
  | .cons e es, x :: xs, h => by
    refine ⟨fun y hy => ?_, fun q => by cases q⟩
    by_cases hm : ∃ i, e = .marg i
    · obtain ⟨i, rfl⟩ := hm
      by_cases hn : ∃ n p, x = .Name n p
      · obtain ⟨n, p, rfl⟩ := hn
        simp only [chkAs, Bool.and_eq_true] at h
        rcases List.mem_cons.mp hy with rfl | hy
        · rfl
        · exact (chkAs_plain h.2).1 y hy
      · cases x <;> first | (exact absurd ⟨_, _, rfl⟩ hn) | skip
        all_goals (simp only [chkAs, chkE, Bool.false_eq_true, Bool.and_false, Bool.false_and] at h)
    · cases e <;> first | (exact absurd ⟨_, rfl⟩ hm) | skip
      all_goals
        simp only [chkAs, Bool.and_eq_true] at h
        rcases List.mem_cons.mp hy with rfl | hy
        · exact h.1.1
        · exact (chkAs_plain h.2).1 y hy
theorem PW_pt {x : Expr} {t : TT} (h : PW X x t) : PT X x t := h.pt
/-- isTrue of a place -/
theorem isTrue_place {x : Expr} (h : (∃ y p, x = .Name y p) ∨ (∃ y n p, x = .Attribute y n p) ∨ ∃ y z p, x = .Subscript y z p) (env : PySem.Env) : ∀ whole, isTrue x env whole = (do let v ← whole; standAt x.pos; holding [v] (truthy v)) := by
  rcases h with ⟨_, _, rfl⟩ | ⟨_, _, _, rfl⟩ | ⟨_, _, _, rfl⟩ <;> intro _ <;> rfl
theorem inv_pv {M : Nms} {N : List Str} {i : Nat} {x : Expr} (h : chkP M N sc (.pv i) x = true) : ∃ y p, x = .Name y p ∧ chkV N sc i y = true := by
  cases x <;> (first | (simp only [chkP, Bool.false_eq_true] at h; done) | skip)
  simp only [chkP] at h; exact ⟨_, _, rfl, h⟩
theorem inv_pf {M : Nms} {N : List Str} {q : Pl} {f : Nat} {x : Expr} (h : chkP M N sc (.pf q f) x = true) : ∃ y n p, x = .Attribute y n p ∧ plainX y = true ∧ isStr (M.att f) n = true ∧ chkP M N sc q y = true := by
  cases x <;> (first | (simp only [chkP, Bool.false_eq_true] at h; done) | skip)
  simp only [chkP, Bool.and_eq_true] at h; exact ⟨_, _, _, rfl, h.1.1, h.1.2, h.2⟩
theorem inv_pi {M : Nms} {N : List Str} {q : Pl} {e : Ex} {x : Expr} (h : chkP M N sc (.pi q e) x = true) : ∃ y z p, x = .Subscript y z p ∧ plainX z = true ∧ e.pure = true ∧ chkP M N sc q y = true ∧ chkE M N sc e z = true := by
  cases x <;> (first | (simp only [chkP, Bool.false_eq_true] at h; done) | skip)
  simp only [chkP, Bool.and_eq_true] at h; exact ⟨_, _, _, rfl, h.1.1.1, h.1.1.2, h.1.2, h.2⟩
theorem inv_iv {M : Nms} {N : List Str} {e : Ex} {t : Pat} {tg x : Expr} (h : chkI M N sc (.val e) t tg x = true) : plainX x = true ∧ chkE M N sc e x = true := by
  simp only [chkI, Bool.and_eq_true] at h; exact h
theorem inv_r1 {M : Nms} {N : List Str} {e : Ex} {t : Pat} {tg x : Expr} (h : chkI M N sc (.rng1 e) t tg x = true) : ∃ q y p, x = .Call (.Name "range" q) [y] [] p ∧ glB sc "range" = true ∧ plainX y = true ∧ chkE M N sc e y = true := by
  cases x <;> (first | (simp only [chkI, Bool.false_eq_true] at h; done) | skip)
  rename_i fu xs kws pos
  cases fu <;> (first | (simp only [chkI, Bool.false_eq_true] at h; done) | skip)
  cases xs <;> (first | (simp only [chkI, Bool.false_eq_true] at h; done) | skip)
  rename_i y ys
  cases ys <;> (first | (simp only [chkI, Bool.false_eq_true] at h; done) | skip)
  cases kws <;> (first | (simp only [chkI, Bool.false_eq_true] at h; done) | skip)
  simp only [chkI, Bool.and_eq_true, decide_eq_true_eq] at h
  obtain ⟨⟨⟨h1, h2⟩, h3⟩, h4⟩ := h
  subst h1
  exact ⟨_, _, _, rfl, h2, h3, h4⟩
theorem inv_r2 {M : Nms} {N : List Str} {a b : Ex} {t : Pat} {tg x : Expr} (h : chkI M N sc (.rng2 a b) t tg x = true) : ∃ q y z p, x = .Call (.Name "range" q) [y, z] [] p ∧ glB sc "range" = true ∧ plainX y = true ∧ plainX z = true ∧ chkE M N sc a y = true ∧ chkE M N sc b z = true := by
  cases x <;> (first | (simp only [chkI, Bool.false_eq_true] at h; done) | skip)
  rename_i fu xs kws pos
  cases fu <;> (first | (simp only [chkI, Bool.false_eq_true] at h; done) | skip)
  cases xs <;> (first | (simp only [chkI, Bool.false_eq_true] at h; done) | skip)
  rename_i y ys
  cases ys <;> (first | (simp only [chkI, Bool.false_eq_true] at h; done) | skip)
  rename_i z ys
  cases ys <;> (first | (simp only [chkI, Bool.false_eq_true] at h; done) | skip)
  cases kws <;> (first | (simp only [chkI, Bool.false_eq_true] at h; done) | skip)
  simp only [chkI, Bool.and_eq_true, decide_eq_true_eq] at h
  obtain ⟨⟨⟨⟨⟨h1, h2⟩, h3⟩, h4⟩, h5⟩, h6⟩ := h
  subst h1
  exact ⟨_, _, _, _, rfl, h2, h3, h4, h5, h6⟩
theorem inv_en {M : Nms} {N : List Str} {e : Ex} {t : Pat} {tg x : Expr} (h : chkI M N sc (.enum e) t tg x = true) : ∃ es k tp q y p, tg = .Tuple es k tp ∧ x = .Call (.Name "enumerate" q) [y] [] p ∧ glB sc "enumerate" = true ∧ plainX y = true ∧ chkE M N sc e y = true := by
  cases t <;> (first | (simp only [chkI, Bool.false_eq_true] at h; done) | skip)
  cases tg <;> (first | (simp only [chkI, Bool.false_eq_true] at h; done) | skip)
  cases x <;> (first | (simp only [chkI, Bool.false_eq_true] at h; done) | skip)
  rename_i fu xs kws pos
  cases fu <;> (first | (simp only [chkI, Bool.false_eq_true] at h; done) | skip)
  cases xs <;> (first | (simp only [chkI, Bool.false_eq_true] at h; done) | skip)
  rename_i y ys
  cases ys <;> (first | (simp only [chkI, Bool.false_eq_true] at h; done) | skip)
  cases kws <;> (first | (simp only [chkI, Bool.false_eq_true] at h; done) | skip)
  simp only [chkI, Bool.and_eq_true, decide_eq_true_eq] at h
  obtain ⟨⟨⟨h1, h2⟩, h3⟩, h4⟩ := h
  subst h1
  exact ⟨_, _, _, _, _, _, rfl, rfl, h2, h3, h4⟩
theorem inv_zi {M : Nms} {N : List Str} {a b : Ex} {t : Pat} {tg x : Expr} (h : chkI M N sc (.zip a b) t tg x = true) : ∃ es k tp q y z p, tg = .Tuple es k tp ∧ x = .Call (.Name "zip" q) [y, z] [] p ∧ glB sc "zip" = true ∧ plainX y = true ∧ plainX z = true ∧ chkE M N sc a y = true ∧ chkE M N sc b z = true := by
  cases t <;> (first | (simp only [chkI, Bool.false_eq_true] at h; done) | skip)
  cases tg <;> (first | (simp only [chkI, Bool.false_eq_true] at h; done) | skip)
  cases x <;> (first | (simp only [chkI, Bool.false_eq_true] at h; done) | skip)
  rename_i fu xs kws pos
  cases fu <;> (first | (simp only [chkI, Bool.false_eq_true] at h; done) | skip)
  cases xs <;> (first | (simp only [chkI, Bool.false_eq_true] at h; done) | skip)
  rename_i y ys
  cases ys <;> (first | (simp only [chkI, Bool.false_eq_true] at h; done) | skip)
  rename_i z ys
  cases ys <;> (first | (simp only [chkI, Bool.false_eq_true] at h; done) | skip)
  cases kws <;> (first | (simp only [chkI, Bool.false_eq_true] at h; done) | skip)
  simp only [chkI, Bool.and_eq_true, decide_eq_true_eq] at h
  obtain ⟨⟨⟨⟨⟨h1, h2⟩, h3⟩, h4⟩, h5⟩, h6⟩ := h
  subst h1
  exact ⟨_, _, _, _, _, _, _, rfl, rfl, h2, h3, h4, h5, h6⟩
theorem isNil_iff : ∀ {es : Exs}, es.isNil = true → es = .nil
  | .nil, _ => rfl
  | .cons _ _, h => by simp [Exs.isNil] at h
end
theorem chkK_some {M : Nms} {N : List Str} {sc : Scope} : ∀ {es : Exs} {ks : List Keyword}, chkK M N sc es ks = true → kwSome ks = true ∧ es.len = (kwN ks).length
  | .nil, [], _ => ⟨rfl, rfl⟩
  | .nil, _ :: _, h => by simp [chkK] at h
  | .cons e es, [], h => by simp [chkK] at h
  | .cons e es, ⟨none, x, kp⟩ :: ks, h => by simp [chkK] at h
  | .cons e es, ⟨some n, x, kp⟩ :: ks, h => by
    simp only [chkK, Bool.and_eq_true] at h
    obtain ⟨q1, q2⟩ := chkK_some h.2
    refine ⟨q1, ?_⟩
    show es.len + 1 = (n :: kwN ks).length
    rw [List.length_cons, q2]
def FoldOk (x : Expr) (X : Cx) : Prop := ∀ y, foldedSetIterable x X.env y = pure y
section
variable {Γ : Ctx} {W : WX}
mutual
theorem ex_ok (K : Kn Γ) (hmm : ∀ p ∈ Γ.mv, p.1 ∈ Γ.M.mm) : ∀ (e : Ex) {sc : Scope} {X : Cx} {x : Expr}, XS Γ sc X → chkE Γ.M Γ.N sc e x = true → Good3 Γ W X e x
  | .var i, sc, X, x, S, h => by obtain ⟨y, p, rfl, h⟩ := inv_var h; exact g3 (n_var S h) rfl
  | .mv i, sc, X, x, S, h => by obtain ⟨y, p, rfl, h⟩ := inv_mv h; exact g3 (n_mv S h) rfl
  | .cint n, sc, X, x, S, h => by obtain ⟨j, p, rfl⟩ := inv_cint h; exact g3 n_int rfl
  | .cbool n, sc, X, x, S, h => by obtain ⟨j, p, rfl⟩ := inv_cbool h; exact g3 n_bl rfl
  | .cnon, sc, X, x, S, h => by obtain ⟨j, p, rfl⟩ := inv_cnon h; exact g3 n_non rfl
  | .cstr n, sc, X, x, S, h => by obtain ⟨j, p, rfl⟩ := inv_cstr h; exact g3 n_str rfl
  | .glb g, sc, X, x, S, h => by obtain ⟨y, p, rfl, h1, h2⟩ := inv_glb h; exact g3 (n_glb S K.toKn0 h1 h2) rfl
  | .bin o a b, sc, X, x, S, h => by obtain ⟨l, op, r, p, rfl, h1, h2, h3⟩ := inv_bin h; exact g3 (n_bin S h1 (ex_ok K hmm a S h2).pe (ex_ok K hmm b S h3).pe) rfl
  | .neg a, sc, X, x, S, h => by obtain ⟨l, p, rfl, h1⟩ := inv_neg h; exact g3 (n_neg (ex_ok K hmm a S h1).pe) rfl
  | .cmp o a b, sc, X, x, S, h => by obtain ⟨l, op, r, p, rfl, h1, h2, h3, h4⟩ := inv_cmp h; exact g3t (n_cmp S h1 h2 (ex_ok K hmm a S h3).pe (ex_ok K hmm b S h4).pe) rfl
  | .chn o q a b c, sc, X, x, S, h => by
    obtain ⟨l, op, oq, r, t, p, rfl, h0, h1, h2, h3, h4, h5, h6, h7⟩ := inv_chn h
    exact g3t (n_chn S h0 h1 h2 h3 h4 (ex_ok K hmm a S h5).pe (ex_ok K hmm b S h6).pe (ex_ok K hmm c S h7).pe) rfl
  | .one a, sc, X, x, S, h => by obtain ⟨op, e, p, rfl, h1⟩ := inv_one h; have i := ex_ok K hmm a S h1; exact g3w (n_one i.pe i.pt).1 (n_one i.pe i.pt).2
  | .and a b, sc, X, x, S, h => by
    obtain ⟨y, z, r, p, rfl, h1, h2⟩ := inv_and h
    have i := ex_ok K hmm a S h1
    have j := ex_ok K hmm b S h2
    exact g3w (n_and i.pe i.pt j.pe (j.pw rfl)).1 (n_and i.pe i.pt j.pe (j.pw rfl)).2
  | .or a b, sc, X, x, S, h => by
    obtain ⟨y, z, r, p, rfl, h1, h2⟩ := inv_or h
    have i := ex_ok K hmm a S h1
    have j := ex_ok K hmm b S h2
    exact g3w (n_or i.pe i.pt j.pe (j.pw rfl)).1 (n_or i.pe i.pt j.pe (j.pw rfl)).2
  | .not a, sc, X, x, S, h => by obtain ⟨l, p, rfl, h1⟩ := inv_not h; have i := ex_ok K hmm a S h1; exact g3t (n_not i.pe i.pt) rfl
  | .ife c a b, sc, X, x, S, h => by obtain ⟨t, y, z, p, rfl, h1, h2, h3⟩ := inv_ife h; exact g3t ⟨n_ife (ex_ok K hmm c S h1).pt (ex_ok K hmm a S h2).pe (ex_ok K hmm b S h3).pe, t_ife (ex_ok K hmm c S h1).pt (ex_ok K hmm a S h2).pt (ex_ok K hmm b S h3).pt⟩ rfl
  | .lst es, sc, X, x, S, h => by obtain ⟨xs, p, rfl, h1, h2⟩ := inv_lst h; exact g3 (n_lst h1 (exs_ok K hmm es S h2)) rfl
  | .tup es, sc, X, x, S, h => by obtain ⟨xs, k, p, rfl, h1, h2⟩ := inv_tup h; exact g3 (n_tup h1 (exs_ok K hmm es S h2)) rfl
  | .dct0, sc, X, x, S, h => by obtain ⟨p, rfl⟩ := inv_dct0 h; exact g3 n_dct0 rfl
  | .idx a i, sc, X, x, S, h => by obtain ⟨y, z, p, rfl, h1, h2, h3⟩ := inv_idx h; exact g3 (n_idx S h1 (ex_ok K hmm a S h2).pe (ex_ok K hmm i S h3).pe) rfl
  | .slc a lo hi, sc, X, x, S, h => by obtain ⟨y, l, u, p2, p, rfl, h1, h2, h3⟩ := inv_slc h; exact g3 (n_slc S (ex_ok K hmm a S h1).pe (o_ok K hmm lo S h2) (o_ok K hmm hi S h3)) rfl
  | .rev a, sc, X, x, S, h => by obtain ⟨y, k, p1, p2, p3, p, rfl, h1⟩ := inv_rev h; exact g3 (n_rev S (ex_ok K hmm a S h1).pe) rfl
  | .fld a f, sc, X, x, S, h => by obtain ⟨y, n, p, rfl, h1, h2, h3⟩ := inv_fld h; exact g3 (n_fld S K.toKn0 h1 h2 (ex_ok K hmm a S h3).pe) rfl
  | .call f es ks, sc, X, x, S, h => by
    obtain ⟨y, q, xs, kws, p, rfl, h1, h2, h3, h4⟩ := inv_call h
    by_cases hk : kws.isEmpty = true
    · rw [if_pos hk] at h4
      simp only [Bool.and_eq_true, decide_eq_true_eq] at h4
      cases isNil_iff h4.1
      cases List.isEmpty_iff.mp hk
      exact g3 (n_call S K h1 h4.2 h2 (chkAs_plain h3).1 (chkAs_plain h3).2 (as_ok K hmm es S h3)) rfl
    · rw [if_neg hk] at h4
      simp only [Bool.and_eq_true, decide_eq_true_eq, Bool.not_eq_true'] at h4
      cases xs with
      | nil => exact absurd h4.1.2 (by simp)
      | cons e xs => exact g3 (n_callK S K h1 h4.1.1 h2 (chkAs_plain h3).1 (chkK_some h4.2).1 (chkK_some h4.2).2 (as_ok K hmm es S h3) (ks_ok K hmm ks S h4.2)) rfl
  | .meth m a es ks, sc, X, x, S, h => by
    obtain ⟨o, n, ap, xs, kws, p, rfl, h1, h2, h3, h4, h5, h6, h7, h8⟩ := inv_meth h
    cases isNil_iff h7
    cases List.isEmpty_iff.mp h8
    exact g3 (n_meth S K h3 h4 (chkAs_plain h6).1 h1 h2 (chkAs_plain h6).2 (ex_ok K hmm a S h5).pe (as_ok K hmm es S h6)) rfl
  | .methm m i es ks, sc, X, x, S, h => by
    obtain ⟨y, q, n, ap, xs, kws, p, rfl, h1, h2, h4, h5, h6, h7, h8⟩ := inv_methm h
    cases isNil_iff h7
    cases List.isEmpty_iff.mp h8
    exact g3 (n_methm S K h5 h4 (chkAs_plain h6).1 h1 h2 (chkAs_plain h6).2 (as_ok K hmm es S h6)) rfl
  | .make C es ks, sc, X, x, S, h => by
    obtain ⟨y, q, xs, kws, p, rfl, h1, h2, h3, h4, h5⟩ := inv_make h
    cases isNil_iff h4
    cases List.isEmpty_iff.mp h5
    exact g3 (n_make S K h1 h2 (chkAs_plain h3).1 (chkAs_plain h3).2 (as_ok K hmm es S h3)) rfl
  | .bf b es, sc, X, x, S, h => by
    by_cases hb : b = .lenset
    · subst hb
      obtain ⟨a, e, p, p2, q, pos, rfl, rfl, h1, h2, h3, h4⟩ := inv_lenset h
      exact g3 (n_lenset S K.toKn0 h1 h2 h3 (ex_ok K hmm a S h4).pe) rfl
    · obtain ⟨y, q, e, xs, p, rfl, h1, h2, h3⟩ := inv_bf hb h
      exact g3 (n_bf S K.toKn0 h1 h2 (chkEs_plain h3) (exs_ok K hmm es S h3)) rfl
  | .bm b a es, sc, X, x, S, h => by
    obtain ⟨o, ap, p, rfl, rfl, rfl, h1, h2, h3⟩ := inv_bits h
    exact g3 (n_bits h1 h2 (ex_ok K hmm a S h3).pe) rfl
  | .com elt own t it cond, sc, X, x, S, h => by
    obtain ⟨y, tg, iter, ifs, scope, p, rfl, h1, h2, h3, h4, h5, h6, h7, h8⟩ := inv_com h
    have hm : ∀ p ∈ Γ.mv, p.1 ∉ own := fun p m e => by
      have := List.all_eq_true.mp h4 _ e
      exact absurd (hmm p m) (by simpa using this)
    have jc : ∀ (s : Shared) (H : Hp) (C : Addr) (cl : List (Str × Addr)) (fp : List Addr), PTs (X.blk s H scope (compEnvC scope cl C X.env) fp) ifs (tCc Γ W cond) := fun s H C cl fp => by
      have sb : XS Γ (relS scope sc) (X.blk s H scope (compEnvC scope cl C X.env) fp) := XS.blk (scope := scope) (s := s) (H := H) (C := C) (cl := cl) (fp := fp) S
      exact c_ok K hmm cond sb h7
    have je : ∀ (s : Shared) (H : Hp) (C : Addr) (cl : List (Str × Addr)) (fp : List Addr), PE (X.blk s H scope (compEnvC scope cl C X.env) fp) y (tE Γ W elt) := fun s H C cl fp => by
      have sb : XS Γ (relS scope sc) (X.blk s H scope (compEnvC scope cl C X.env) fp) := XS.blk (scope := scope) (s := s) (H := H) (C := C) (cl := cl) (fp := fp) S
      exact (ex_ok K hmm elt sb h8).pe
    have ho : ∀ i ∈ patL t, i ∈ own := fun i hi => by simpa using List.all_eq_true.mp h5 i hi
    have ii : PI X tg iter (tI Γ W it) ∧ FoldOk iter X := i_ok K hmm it S h1
    have r := n_com (ownL := ownOk Γ.N own) (own := own) (pos := p) S h3 ho hm h2 ii.1 ii.2 h6 jc je
    exact g3 r rfl
  | .marg i, sc, X, x, S, h => by cases x <;> simp [chkE] at h
  | .rd q, sc, X, x, S, h => by
    have h := inv_rd h
    have hx : (∃ y p, x = .Name y p) ∨ (∃ y n p, x = .Attribute y n p) ∨ ∃ y z p, x = .Subscript y z p := by
      cases q with
      | pv i => obtain ⟨y, p, rfl, _⟩ := inv_pv h; exact .inl ⟨_, _, rfl⟩
      | pf q f => obtain ⟨y, n, p, rfl, _⟩ := inv_pf h; exact .inr (.inl ⟨_, _, _, rfl⟩)
      | pi q e => obtain ⟨y, z, p, rfl, _⟩ := inv_pi h; exact .inr (.inr ⟨_, _, _, rfl⟩)
    refine g3 (n_rd (p_ok K hmm q S h)) ?_ (isTrue_place hx X.env)
    rcases hx with ⟨_, _, rfl⟩ | ⟨_, _, _, rfl⟩ | ⟨_, _, _, rfl⟩ <;> rfl
  | .lenp q, sc, X, x, S, h => by obtain ⟨y, e, p, rfl, h1, h2, h3⟩ := inv_lenp h; exact g3 (n_lenp S K.toKn0 h1 h2 (p_ok K hmm q S h3)) rfl
  | .inp ng a q, sc, X, x, S, h => by obtain ⟨l, op, r, p, rfl, h1, h2, h3, h4⟩ := inv_inp h; exact g3t (n_inp S h1 h2 (ex_ok K hmm a S h3).pe (p_ok K hmm q S h4)) rfl
theorem exs_ok (K : Kn Γ) (hmm : ∀ p ∈ Γ.mv, p.1 ∈ Γ.M.mm) : ∀ (es : Exs) {sc : Scope} {X : Cx} {xs : List Expr}, XS Γ sc X → chkEs Γ.M Γ.N sc es xs = true → PA X xs (tEs Γ W es)
  | .nil, sc, X, xs, S, h => by
    cases xs with
    | nil => exact n_nil
    | cons => simp [chkEs] at h
  | .cons e es, sc, X, xs, S, h => by
    cases xs with
    | nil => simp [chkEs] at h
    | cons x xs =>
      simp only [chkEs, Bool.and_eq_true] at h
      exact n_cons h.1.1 (ex_ok K hmm e S h.1.2).pe (exs_ok K hmm es S h.2)
theorem as_ok (K : Kn Γ) (hmm : ∀ p ∈ Γ.mv, p.1 ∈ Γ.M.mm) : ∀ (es : Exs) {sc : Scope} {X : Cx} {xs : List Expr}, XS Γ sc X → chkAs Γ.M Γ.N sc es xs = true → PA X xs (tAs Γ W es)
  | .nil, sc, X, xs, S, h => by
    cases xs with
    | nil => exact a_nil
    | cons => simp [chkAs] at h
  | .cons e es, sc, X, xs, S, h => by
    cases xs with
    | nil => cases e <;> simp [chkAs] at h
    | cons x xs =>
      by_cases hm : ∃ i, e = .marg i
      · obtain ⟨i, he⟩ := hm
        subst he
        by_cases hn : ∃ n p, x = .Name n p
        · obtain ⟨n, p, rfl⟩ := hn
          simp only [chkAs, Bool.and_eq_true] at h
          exact a_marg S h.1 (as_ok K hmm es S h.2)
        · cases x <;> first | (exact absurd ⟨_, _, rfl⟩ hn) | skip
          all_goals (simp only [chkAs, chkE, Bool.false_eq_true, Bool.and_false, Bool.false_and] at h)
      · have h2 : plainX x = true ∧ chkE Γ.M Γ.N sc e x = true ∧ chkAs Γ.M Γ.N sc es xs = true ∧ e.mg = none := by
          cases e <;> first | (exact absurd ⟨_, rfl⟩ hm) | skip
          all_goals
            simp only [chkAs, Bool.and_eq_true] at h
            exact ⟨h.1.1, h.1.2, h.2, rfl⟩
        exact a_cons h2.2.2.2 h2.1 (ex_ok K hmm e S h2.2.1).pe (as_ok K hmm es S h2.2.2.1)
theorem ks_ok (K : Kn Γ) (hmm : ∀ p ∈ Γ.mv, p.1 ∈ Γ.M.mm) : ∀ (es : Exs) {sc : Scope} {X : Cx} {ks : List Keyword}, XS Γ sc X → chkK Γ.M Γ.N sc es ks = true → PK X ks (tAs Γ W es)
  | .nil, sc, X, ks, S, h => by
    cases ks with
    | nil => exact k_nil
    | cons => simp [chkK] at h
  | .cons e es, sc, X, ks, S, h => by
    cases ks with
    | nil => simp [chkK] at h
    | cons k ks =>
      obtain ⟨n, x, kp⟩ := k
      cases n with
      | none => simp [chkK] at h
      | some n =>
        simp only [chkK, Bool.and_eq_true, decide_eq_true_eq] at h
        exact k_cons h.1.1 (ex_ok K hmm e S h.1.2).pe (ks_ok K hmm es S h.2)
theorem o_ok (K : Kn Γ) (hmm : ∀ p ∈ Γ.mv, p.1 ∈ Γ.M.mm) : ∀ (o : OEx) {sc : Scope} {X : Cx} {x : Option Expr}, XS Γ sc X → chkO Γ.M Γ.N sc o x = true → PO X x (tO Γ W o)
  | .no, sc, X, x, S, h => by
    cases x with
    | none => exact n_ono
    | some => simp [chkO] at h
  | .so e, sc, X, x, S, h => by
    cases x with
    | none => simp [chkO] at h
    | some x =>
      simp only [chkO] at h
      exact n_oso (ex_ok K hmm e S h).pe
theorem c_ok (K : Kn Γ) (hmm : ∀ p ∈ Γ.mv, p.1 ∈ Γ.M.mm) : ∀ (o : OEx) {sc : Scope} {X : Cx} {xs : List Expr}, XS Γ sc X → chkC Γ.M Γ.N sc o xs = true → PTs X xs (tCc Γ W o)
  | .no, sc, X, xs, S, h => by
    cases xs with
    | nil => exact c_nil
    | cons => simp [chkC] at h
  | .so e, sc, X, xs, S, h => by
    cases xs with
    | nil => simp [chkC] at h
    | cons x xs =>
      cases xs with
      | nil =>
        simp only [chkC] at h
        exact c_one (ex_ok K hmm e S h).pt
      | cons => simp [chkC] at h
theorem p_ok (K : Kn Γ) (hmm : ∀ p ∈ Γ.mv, p.1 ∈ Γ.M.mm) : ∀ (q : Pl) {sc : Scope} {X : Cx} {x : Expr}, XS Γ sc X → chkP Γ.M Γ.N sc q x = true → PE X x (tP Γ W q)
  | .pv i, sc, X, x, S, h => by obtain ⟨y, p, rfl, h1⟩ := inv_pv h; exact n_pv S h1
  | .pf q f, sc, X, x, S, h => by obtain ⟨y, n, p, rfl, h1, h2, h3⟩ := inv_pf h; exact n_pf S K.toKn0 h1 h2 (p_ok K hmm q S h3)
  | .pi q e, sc, X, x, S, h => by obtain ⟨y, z, p, rfl, h1, h2, h3, h4⟩ := inv_pi h; exact n_pi S h1 h2 (p_ok K hmm q S h3) (ex_ok K hmm e S h4).pe
theorem i_ok (K : Kn Γ) (hmm : ∀ p ∈ Γ.mv, p.1 ∈ Γ.M.mm) : ∀ (it : Z.It) {sc : Scope} {X : Cx} {t : Pat} {tg x : Expr}, XS Γ sc X → chkI Γ.M Γ.N sc it t tg x = true → PI X tg x (tI Γ W it) ∧ FoldOk x X
  | .val e, sc, X, t, tg, x, S, h => by obtain ⟨h1, h2⟩ := inv_iv h; exact ⟨n_ival S (ex_ok K hmm e S h2).pe, plain_fold h1 X.env⟩
  | .rng1 e, sc, X, t, tg, x, S, h => by obtain ⟨q, y, p, rfl, h1, h2, h3⟩ := inv_r1 h; exact ⟨n_irng1 S K.toKn0 h1 h2 (ex_ok K hmm e S h3).pe, fun _ => rfl⟩
  | .rng2 a b, sc, X, t, tg, x, S, h => by obtain ⟨q, y, z, p, rfl, h1, h2, h3, h4, h5⟩ := inv_r2 h; exact ⟨n_irng2 S K.toKn0 h1 h2 h3 (ex_ok K hmm a S h4).pe (ex_ok K hmm b S h5).pe, fun _ => rfl⟩
  | .enum e, sc, X, t, tg, x, S, h => by obtain ⟨es, k, tp, q, y, p, rfl, rfl, h1, h2, h3⟩ := inv_en h; exact ⟨n_ienum S K.toKn0 h1 h2 (ex_ok K hmm e S h3).pe, fun _ => rfl⟩
  | .zip a b, sc, X, t, tg, x, S, h => by obtain ⟨es, k, tp, q, y, z, p, rfl, rfl, h1, h2, h3, h4, h5⟩ := inv_zi h; exact ⟨n_izip S K.toKn0 h1 h2 h3 (ex_ok K hmm a S h4).pe (ex_ok K hmm b S h5).pe, fun _ => rfl⟩
end
end
end Z

set_option Elab.async false
set_option linter.all false
set_option maxRecDepth 100000
/-! Z16: changes in place. -/
namespace Z
open PySem L2

section
variable {G : Txt} {B : Bas} {F : Addr → Prop} {H : Hp} {X : List Addr}
theorem good_set : ∀ {L R : List (PV × V)} {r : PV × V} {j : Nat}, j < L.length → Good G B H F X (L ++ r :: R) → Good G B H F X (L.set j r ++ R) := by
  intro L R r j hj g
  have e : L = L.take j ++ L[j] :: L.drop (j + 1) := by simp
  have e2 : L.set j r = L.take j ++ r :: L.drop (j + 1) := by rw [List.set_eq_take_append_cons_drop, if_pos hj]
  have g1 : Good G B H F X (L[j] :: (L.set j r ++ R)) := by
    refine g.perm ?_
    rw [e2]
    conv => lhs; rw [e]
    simp only [List.append_assoc, List.cons_append]
    refine (List.perm_middle).trans ?_
    refine List.Perm.cons _ ?_
    refine List.Perm.append_left _ ?_
    exact List.perm_middle
  exact g1.drop
theorem zip_set {xs : List PV} {vs : List V} {j : Nat} {y : PV} {w : V} : (xs.set j y).zip (vs.set j w) = (xs.zip vs).set j (y, w) := by
  induction xs generalizing vs j with
  | nil => simp
  | cons x xs ih =>
    cases vs with
    | nil => simp
    | cons v vs =>
      cases j with
      | zero => simp
      | succ j => simp [ih]
theorem putFl_ok {C : Addr} {f : Nat} {n : Str} (hf : G.att f = some n) (hn : NoAttr G.K C n) (hi : ∀ a b n, G.att a = some n → G.att b = some n → a = b) {y : PV} {w : V} : ∀ {as : List Nat} {ns : List Str} {xs : List PV} {vs : List V}, attL G C as ns → as.length = xs.length → xs.length = vs.length →
    ∃ ns' vs', putF n w (ns.zip vs) = ns'.zip vs' ∧ attL G C (putFl as xs f y).1 ns' ∧ (putFl as xs f y).1.length = (putFl as xs f y).2.length ∧ (putFl as xs f y).2.length = vs'.length ∧
      ∀ {R : List (PV × V)}, Good G B H F X (xs.zip vs ++ (y, w) :: R) → Good G B H F X ((putFl as xs f y).2.zip vs' ++ R)
  | [], ns, [], vs, ha, hk, hl => by
    cases ns with
    | nil =>
      cases vs with
      | nil => exact ⟨[n], [w], rfl, ⟨hf, hn, trivial⟩, rfl, rfl, fun g => g⟩
      | cons => simp at hl
    | cons => simp [attL] at ha
  | [], ns, _ :: _, vs, ha, hk, hl => by simp at hk
  | _ :: _, ns, [], vs, ha, hk, hl => by simp at hk
  | a :: as, [], x :: xs, vs, ha, hk, hl => by simp [attL] at ha
  | a :: as, n' :: ns, x :: xs, [], ha, hk, hl => by simp at hl
  | a :: as, n' :: ns, x :: xs, v :: vs, ha, hk, hl => by
    unfold attL at ha
    by_cases e : a = f
    · subst e
      have en : n' = n := Option.some.inj (ha.1.symm.trans hf)
      subst en
      refine ⟨n' :: ns, w :: vs, ?_, ?_, ?_, ?_, ?_⟩
      · simp [putF]
      · simp only [putFl, if_true]; exact ha
      · simp only [putFl, if_true]; simpa using hk
      · simp only [putFl, if_true]; simpa using hl
      · intro R g
        simp only [putFl, if_true]
        exact good_set (L := (x, v) :: xs.zip vs) (j := 0) (by simp) g
    · have ne : n' ≠ n := fun q => e (hi a f n (by rw [ha.1, q]) hf)
      obtain ⟨ns', vs', h1, h2, h3, h4, h5⟩ := putFl_ok (y := y) (w := w) hf hn hi (as := as) (ns := ns) (xs := xs) (vs := vs) ha.2.2 (by simpa using hk) (by simpa using hl)
      refine ⟨n' :: ns', v :: vs', ?_, ?_, ?_, ?_, ?_⟩
      · simp [putF, ne, h1]
      · simp only [putFl, e, if_false]; exact ⟨ha.1, ha.2.1, h2⟩
      · simp only [putFl, e, if_false]; simp [h3]
      · simp only [putFl, e, if_false]; simp [h4]
      · intro R g
        simp only [putFl, e, if_false]
        have g1 : Good G B H F X (xs.zip vs ++ (y, w) :: ((x, v) :: R)) := g.perm (by
          simp only [List.zip_cons_cons, List.cons_append]
          refine (List.perm_middle (l₁ := []) ).symm.trans ?_
          simp only [List.nil_append]
          exact ((List.perm_middle (a := (x, v)) (l₁ := xs.zip vs) (l₂ := (y, w) :: R)).symm.trans (List.Perm.append_left _ (.swap ..))))
        exact (h5 g1).perm List.perm_middle
end
section
variable {Γ : Ctx} {σ : L2.St} {H : Hp} {F : Addr → Prop} {T : List (PV × V)} {env : Env}
/-- a slot's value goes into hand, changes, goes back -/
theorem ge_back {i : Nat} {x x' : PV} {v : V} {H' : Hp} (g : Γ.ge σ H F env T) (e : env.at i = some x) (hv : σ[i]? = some (some v)) (gg : Good Γ.G Γ.B H' F [] ((x', v) :: (T ++ rE (env.set i none) σ))) : Γ.ge σ H' F (env.set i (some x')) T := by
  obtain ⟨v', hv', g1⟩ := g.take e
  have g2 : Γ.ge σ H' F (env.set i none) ((x', v) :: T) := ⟨gg, g1.we, g1.pin⟩
  exact g2.put g.we (at_some e).2 hv
theorem putK_eq {ks : List L2.Key} {vs : List V} {q : L2.Key} {w : V} (hl : ks.length = vs.length) : putK (ks.zip vs) q w = (putKs ks q).zip (putXs ks vs q w) := by
  have hm : ∀ {ks : List L2.Key} {vs : List V}, ks.length = vs.length → ((ks.zip vs).any fun kv => decide (kv.1 = q)) = hasK ks q := by
    intro ks
    induction ks with
    | nil => intro vs _; rfl
    | cons k ks ih =>
      intro vs h
      cases vs with
      | nil => simp at h
      | cons v vs =>
        rw [List.zip_cons_cons, List.any_cons, ih (by simpa using h)]
        rfl
  unfold putK putKs putXs
  rw [hm hl]
  by_cases h : hasK ks q = true
  · simp only [h, if_true]
    have : ∀ {ks : List L2.Key} {vs : List V}, ks.length = vs.length → (ks.zip vs).map (fun kv => if kv.1 = q then (kv.1, w) else kv) = ks.zip (List.zipWith (fun k x => if k = q then w else x) ks vs) := by
      intro ks
      induction ks with
      | nil => intro vs _; simp
      | cons k ks ih =>
        intro vs h
        cases vs with
        | nil => simp at h
        | cons v vs =>
          simp only [List.zip_cons_cons, List.map_cons, List.zipWith_cons_cons]
          rw [ih (by simpa using h)]
          by_cases e : k = q
          · simp [e]
          · simp [e]
    exact this hl
  · simp only [h, if_false, Bool.false_eq_true]
    rw [List.zip_append hl]
    rfl
theorem putXs_len {α : Type} {ks : List L2.Key} {xs : List α} {q : L2.Key} {y : α} (hl : ks.length = xs.length) : (putKs ks q).length = (putXs ks xs q y).length := by
  unfold putKs putXs
  split
  · simp [hl]
  · simp [hl]
theorem good_map {G : Txt} {B : Bas} {F : Addr → Prop} {H : Hp} {X : List Addr} {q : L2.Key} {y : PV} {w : V} (z : y.frz = true) : ∀ {ks : List L2.Key} {xs : List PV} {vs : List V} {R : List (PV × V)}, ks.length = xs.length → xs.length = vs.length → Good G B H F X (xs.zip vs ++ (y, w) :: R) →
    Good G B H F X ((List.zipWith (fun k x => if k = q then y else x) ks xs).zip (List.zipWith (fun k x => if k = q then w else x) ks vs) ++ (y, w) :: R)
  | [], [], [], R, _, _, g => g
  | [], _ :: _, _, R, h, _, g => by simp at h
  | _ :: _, [], _, R, h, _, g => by simp at h
  | _, [], _ :: _, R, _, h, g => by simp at h
  | _, _ :: _, [], R, _, h, g => by simp at h
  | k :: ks, x :: xs, v :: vs, R, h1, h2, g => by
    have g1 : Good G B H F X (xs.zip vs ++ (y, w) :: ((x, v) :: R)) := g.perm (by
      simp only [List.zip_cons_cons, List.cons_append]
      exact ((List.perm_middle (a := (x, v)) (l₁ := xs.zip vs) (l₂ := (y, w) :: R)).symm.trans (List.Perm.append_left _ (.swap ..))))
    have g2 := good_map (q := q) z (by simpa using h1) (by simpa using h2) g1
    simp only [List.zipWith_cons_cons, List.zip_cons_cons, List.cons_append]
    by_cases e : k = q
    · simp only [e, if_true]
      have g3 : Good G B H F X ((x, v) :: (y, w) :: ((List.zipWith (fun k x => if k = q then y else x) ks xs).zip (List.zipWith (fun k x => if k = q then w else x) ks vs) ++ R)) := g2.perm ((List.perm_middle).trans ((List.Perm.cons _ List.perm_middle).trans (.swap ..)))
      exact (g3.drop.dup z).perm (List.Perm.cons _ List.perm_middle.symm)
    · simp only [e, if_false]
      exact g2.perm ((List.perm_middle).trans ((List.Perm.cons _ List.perm_middle).trans ((List.Perm.swap ..).trans (List.Perm.cons _ List.perm_middle.symm))))
theorem seti_ok {i : Nat} {x x' q y : PV} {vq vy : V} {Q : Hp → Prop} (g : Γ.ge σ H F env ((q, vq) :: (y, vy) :: T)) (e : env.at i = some x) (h : seti x q y = some x') :
    ∃ vo, σ[i]? = some (some vo) ∧ ((∀ H' F', Γ.ge σ H' F' (env.set i (some x')) T → Q H') → rSetL vo vq vy H Q ∨ rSetD vo vq vy H Q) := by
  unfold seti at h
  split at h
  · rename_i xs k
    obtain ⟨vo, hv, g1⟩ := g.take e
    refine ⟨vo, hv, fun hQ => .inl ?_⟩
    obtain ⟨fq, rq⟩ := ge_rep g
    have ek := rep_int rq
    subst ek
    cases ej : ixN xs.length k with
    | none => rw [ej] at h; cases h
    | some j =>
      rw [ej] at h; cases h
      have g2 : Γ.ge σ H F (env.set i none) ((.lst true xs, vo) :: (y, vy) :: T) := (g1.perm (.swap ..)).drop
      obtain ⟨a, vs, rfl, ha, hl, go⟩ := Good.openL (xs := xs) (R := (y, vy) :: T ++ rE (env.set i none) σ) (by simpa using g2.good)
      have hj : j < xs.length := by
        have := ej
        unfold ixN at this
        split at this
        · split at this
          · cases this; omega
          · cases this
        · split at this
          · cases this; omega
          · cases this
      refine ⟨a, vs, k, j, rfl, rfl, ha, by rw [← hl]; exact ej, ?_⟩
      have go2 := good_set (L := xs.zip vs) (r := (y, vy)) (R := T ++ rE (env.set i none) σ) (j := j) (by simp [← hl, hj]) (by simpa using go)
      rw [← zip_set] at go2
      exact hQ _ F (ge_back g.drop.drop e hv (Good.closeL (by simp [hl]) go2))
  · rename_i ks xs
    cases ek : keyP q with
    | none => simp only [ek] at h; cases h
    | some kq =>
      simp only [ek] at h
      split at h
      · rename_i c
        cases h
        obtain ⟨vo, hv, g1⟩ := g.take e
        refine ⟨vo, hv, fun hQ => .inr ?_⟩
        obtain ⟨fq, rq⟩ := ge_rep g
        have evq := keyP_rep ek rq
        subst evq
        have g2 : Γ.ge σ H F (env.set i none) ((y, vy) :: (.dic true ks xs, vo) :: T) := ((g1.perm (.swap ..)).drop).perm (.swap ..)
        obtain ⟨fy, ry⟩ := ge_rep g2
        have zy := frz_fz_rep ry
        obtain ⟨F2, g3, m2⟩ := g2.fz
        have g4 : Γ.ge σ H F2 (env.set i none) ((.dic true ks xs, vo) :: (y.fz, vy) :: T) := g3.perm (.swap ..)
        obtain ⟨a, vs, rfl, ha, hk, hl, go⟩ := Good.openD (ks := ks) (xs := xs) (R := (y.fz, vy) :: T ++ rE (env.set i none) σ) (by simpa using g4.good)
        have hkv : ks.length = vs.length := by omega
        refine ⟨a, _, rfl, DPut.k ha (by rw [List.length_zip, ← hkv, Nat.min_self, ← lineB_eq]; exact c), ?_⟩
        rw [putK_eq hkv]
        have go2 : Good Γ.G Γ.B H F2 [a] ((putXs ks xs kq y.fz).zip (putXs ks vs kq vy) ++ (T ++ rE (env.set i none) σ)) := by
          unfold putXs
          split
          · have gm := good_map (q := kq) (y := y.fz) (w := vy) (R := T ++ rE (env.set i none) σ) zy hk hl (by simpa using go)
            exact (gm.perm List.perm_middle).drop
          · rw [List.zip_append hl]
            simpa using go
        have g5 : Γ.ge σ H F2 (env.set i none) T := g4.drop.drop
        have hw : WE env σ := g.we
        have gc := Good.closeD (a := a) (putXs_len hk) (by rw [← putXs_len hk, putXs_len hkv]) go2
        have g6 : Γ.ge σ _ F2 (env.set i none) ((.dic true (putKs ks kq) (putXs ks xs kq y.fz), .ref a) :: T) := ⟨gc, g5.we, g5.pin⟩
        exact hQ _ F2 (g6.put hw (at_some e).2 hv)
      · cases h
  · cases h
theorem setf_ok {i f : Nat} {x x' y : PV} {vy : V} {n : Str} {ok : Nat → Nat → Bool} {Q : Hp → Prop} (hf : Γ.G.att f = some n) (hi : ∀ a b n, Γ.G.att a = some n → Γ.G.att b = some n → a = b) (hcls : ∀ C Ca, Γ.G.cls C = some Ca → Cls Γ.G.K Ca) (hok : ∀ C Ca, ok C f = true → Γ.G.cls C = some Ca → NoAttr Γ.G.K Ca n)
    (g : Γ.ge σ H F env ((y, vy) :: T)) (e : env.at i = some x) (h : setf ok x f y = some x') :
    ∃ a Ca dx fs, σ[i]? = some (some (.ref a)) ∧ H a = some (.ins Ca dx fs) ∧ Cls Γ.G.K Ca ∧ NoAttr Γ.G.K Ca n ∧ fs.length < 1000 ∧ Γ.ge σ (upd H a (.ins Ca dx (putF n vy fs))) F (env.set i (some x')) T ∧ ∃ C, clsP x = some C ∧ Γ.G.cls C = some Ca := by
  unfold setf at h
  split at h
  · rename_i C as xs
    split at h
    · rename_i c
      cases h
      obtain ⟨vo, hv, g1⟩ := g.take e
      obtain ⟨a, Ca, dx, ns, vs, rfl, hc, ha, hn, hk, hl, go⟩ := Good.openO (C := C) (as := as) (xs := xs) (R := (y, vy) :: T ++ rE (env.set i none) σ) (by simpa using g1.good)
      have hna := hok C Ca c.2 hc
      obtain ⟨ns', vs', h1, h2, h3, h4, h5⟩ := putFl_ok (B := Γ.B) (H := H) (F := F) (X := [a]) (y := y) (w := vy) hf hna hi hn hk hl
      refine ⟨a, Ca, dx, _, hv, ha, hcls C Ca hc, hna, ?_, ?_⟩
      · rw [List.length_zip]
        have := c.1
        omega
      · rw [h1]
        exact ⟨ge_back g.drop e hv (Good.closeO hc h2 h3 h4 (h5 (by simpa using go))), C, rfl, hc⟩
    · cases h
  · cases h
end
end Z

set_option Elab.async false
set_option linter.all false
set_option maxRecDepth 100000
/-! Z17: statements. -/
namespace Z
open PySem L2

/-- what is wanted of a statement's answer -/
def FP (nx : Env → Prop) (rt : PV → Env → Prop) : Fl → Prop
  | .nx env => nx env
  | .rt y env => rt y env
  | _ => False
theorem FP.fl {α : Type} {nx : Env → Prop} {rt : PV → Env → Prop} {r : Res α} {k : α → Env → Fl} (h : FP nx rt (r.fl k)) : PR (fun a env => FP nx rt (k a env)) (fun _ _ => False) r := by
  cases r <;> exact h
theorem FP.lift {α : Type} {nx : Env → Prop} {rt : PV → Env → Prop} {o : Option α} {k : α → Fl} (h : FP nx rt (liftF o k)) : ∃ a, o = some a ∧ FP nx rt (k a) := by
  cases o with
  | none => exact h.elim
  | some a => exact ⟨a, rfl, h⟩
section
variable (Γ : Ctx)
def okN (D : Ends) (T : List (PV × V)) : Env → Prop := fun env' => ∀ σ' H' F', Γ.ge σ' H' F' env' T → D.nx σ' H'
def okRt (D : Ends) (T : List (PV × V)) : PV → Env → Prop := fun y env' => ∀ v σ' H' F', Γ.ge σ' H' F' env' ((y, v) :: T) → D.rt v H'
def tS (s : Z.St) : TS := fun D σ H => ∃ F env T, Γ.ge σ H F env T ∧ FP (okN Γ D T) (okRt Γ D T) (evS Γ.tab s env)
def tSs (ss : Sts) : TS := fun D σ H => ∃ F env T, Γ.ge σ H F env T ∧ FP (okN Γ D T) (okRt Γ D T) (evSs Γ.tab ss env)
end
theorem PSmono {X : Cx} {st : Stmt} {t t' : TS} (h : PS X st t) (m : ∀ D σ H, t' D σ H → t D σ H) : PS X st t' := ⟨fun pins s σ H D I q => h.run pins s σ H D I (m D σ H q)⟩
theorem PSsmono {X : Cx} {st : List Stmt} {t t' : TS} (h : PSs X st t) (m : ∀ D σ H, t' D σ H → t D σ H) : PSs X st t' := ⟨fun pins s σ H D I q => h.run pins s σ H D I (m D σ H q)⟩
/-- the context of a def's body -/
structure SS (Γ : Ctx) (sc : Scope) (X : Cx) : Prop extends XS Γ sc X where
  fnT : ∀ x, X.fn x = true
  own : PassesOwn (model X.prog X.w) X.A X.env X.xe
  kd : X.env.blockKind = .function
abbrev W0 : WX := fun _ _ _ _ => False
section
variable {Γ : Ctx} {X : Cx} {sc : Scope} {D : Ends} {σ : L2.St} {H : Hp} {F : Addr → Prop} {T : List (PV × V)} {env : Env}
theorem ex0 {σ : L2.St} {T : List (PV × V)} {x : XV} {env : Env} (h : False) : exK Γ W0 σ T x env := h.elim
/-- an expression ahead of a statement's end -/
theorem preE {e : Ex} {k : PV → Env → Fl} {Q : VK} (g : Γ.ge σ H F env T) (hp : FP (okN Γ D T) (okRt Γ D T) ((ev Γ.tab e env).fl k))
    (h : ∀ x env1 v H1 F1, Γ.ge σ H1 F1 env1 ((x, v) :: T) → FP (okN Γ D T) (okRt Γ D T) (k x env1) → Q v H1) : tE Γ W0 e σ H Q :=
  ⟨F, env, T, g, hp.fl.imp (fun x env1 h1 v H1 F1 g1 _ _ => h x env1 v H1 F1 g1 h1) fun _ _ z => ex0 z⟩
theorem preT {e : Ex} {k : PV → Env → Fl} {Q : Bool → Hp → Prop} (g : Γ.ge σ H F env T) (hp : FP (okN Γ D T) (okRt Γ D T) ((ev Γ.tab e env).fl k)) (hk : ∀ x env1, FP (okN Γ D T) (okRt Γ D T) (k x env1) → ∃ b, x = .bl b)
    (h : ∀ b env1 H1 F1, Γ.ge σ H1 F1 env1 T → FP (okN Γ D T) (okRt Γ D T) (k (.bl b) env1) → Q b H1) : tT Γ W0 e σ H Q :=
  ⟨F, env, T, g, hp.fl.imp (fun x env1 h1 => by
    obtain ⟨b, rfl⟩ := hk x env1 h1
    exact ⟨b, rfl, fun H1 F1 g1 _ _ => h b env1 H1 F1 g1 h1⟩) fun _ _ z => ex0 z⟩
theorem preEs {es : Exs} {k : List PV → Env → Fl} {Q : List V → Hp → Prop} (g : Γ.ge σ H F env T) (hp : FP (okN Γ D T) (okRt Γ D T) ((evs Γ.tab es env).fl k))
    (h : ∀ xs env1 vs H1 F1, xs.length = vs.length → Γ.ge σ H1 F1 env1 (xs.zip vs ++ T) → FP (okN Γ D T) (okRt Γ D T) (k xs env1) → Q vs H1) : tEs Γ W0 es σ H Q :=
  ⟨F, env, T, g, hp.fl.imp (fun x env1 h1 v H1 F1 hl g1 _ _ => h x env1 v H1 F1 hl g1 h1) fun _ _ z => ex0 z⟩

/-! ### small ones -/
theorem s_nil : PSs X [] (tSs Γ .nil) := PSsmono pss_nil fun D σ H ⟨F, env, T, g, hp⟩ => by
  unfold evSs at hp
  exact hp σ H F g
theorem s_cons {s : Z.St} {ss : Sts} {x : Stmt} {xs : List Stmt} (h1 : PS X x (tS Γ s)) (h2 : PSs X xs (tSs Γ ss)) : PSs X (x :: xs) (tSs Γ (.cons s ss)) :=
  PSsmono (pss_cons h1 h2) fun D σ H ⟨F, env, T, g, hp⟩ => by
    unfold evSs at hp
    refine ⟨F, env, T, g, ?_⟩
    cases e : evS Γ.tab s env with
    | nx env1 =>
      rw [e] at hp
      exact fun σ1 H1 F1 g1 => ⟨F1, env1, T, g1, hp⟩
    | rt y env1 => rw [e] at hp; exact hp
    | exn => rw [e] at hp; exact hp.elim
    | bad => rw [e] at hp; exact hp.elim
theorem s_pass {p : Pos} : PS X (.Pass p) (tS Γ .pass) := PSmono ps_pass fun D σ H ⟨F, env, T, g, hp⟩ => by
  unfold evS at hp
  exact hp σ H F g
theorem s_doc {z : Str} {j : Nat} {p q : Pos} : PS X (.Expr (.Constant (.str z) j p) q) (tS Γ .pass) := PSmono (ps_expr pe_str rfl) fun D σ H ⟨F, env, T, g, hp⟩ => by
  unfold evS at hp
  exact hp σ H F g
theorem s_bad {x : Stmt} : PS X x (tS Γ .bad) := ⟨fun pins s σ H D I ⟨F, env, T, g, hp⟩ => by unfold evS at hp; exact hp.elim⟩
theorem ss_bad {xs : List Stmt} : PSs X xs (tSs Γ (.cons .bad .nil)) := ⟨fun pins s σ H D I ⟨F, env, T, g, hp⟩ => by unfold evSs evS at hp; exact hp.elim⟩
theorem s_ret {e : Ex} {x : Expr} {p : Pos} (h : PE X x (tE Γ W0 e)) : PS X (.Return (some x) p) (tS Γ (.ret e)) := PSmono (ps_ret h) fun D σ H ⟨F, env, T, g, hp⟩ => by
  unfold evS at hp
  exact preE g hp fun x env1 v H1 F1 g1 h1 => h1 v σ H1 F1 g1
theorem s_retN {p : Pos} : PS X (.Return none p) (tS Γ .retN) := PSmono ps_retN fun D σ H ⟨F, env, T, g, hp⟩ => by
  unfold evS at hp
  exact hp .non σ H F (g.push mk_non)
theorem s_expr {e : Ex} {x : Expr} {p : Pos} (h : PE X x (tE Γ W0 e)) (hs : swapsWith x none p.line X.env = pure false) : PS X (.Expr x p) (tS Γ (.expr e)) := PSmono (ps_expr h hs) fun D σ H ⟨F, env, T, g, hp⟩ => by
  unfold evS at hp
  exact preE g hp fun x env1 v H1 F1 g1 h1 => h1 σ H1 F1 g1.drop
theorem s_ife {c : Ex} {a b : Sts} {t : Expr} {x y : List Stmt} {p : Pos} (hc : PT X t (tT Γ W0 c)) (ha : PSs X x (tSs Γ a)) (hb : PSs X y (tSs Γ b)) : PS X (.If t x y p) (tS Γ (.ife c a b)) := PSmono (ps_if hc ha hb) fun D σ H ⟨F, env, T, g, hp⟩ => by
  unfold evS at hp
  refine preT g hp (fun x env1 h => ?_) fun k env1 H1 F1 g1 h1 => ?_
  · cases x <;> first | exact h.elim | exact ⟨_, rfl⟩
  · cases k with
    | true => simp only [if_true]; exact ⟨F1, env1, T, g1, h1⟩
    | false => simp only [Bool.false_eq_true, if_false]; exact ⟨F1, env1, T, g1, h1⟩

/-! ### stores -/
theorem swaps_eq (S : SS Γ sc X) {v : Expr} {x : Str} {py : Pos} {l : Nat} : swapsWith v (some (.Name x py)) l X.env = pure (swapsB sc v x py) := by
  have hk : X.env.kindOf x = sc.names.lookup x := by show X.env.scope.names.lookup x = _; rw [S.hs]
  unfold swapsWith swapsB
  cases v <;> first | rfl | skip
  all_goals
    show (pure _ : Sem Bool) = pure _
    rw [S.kd, hk]
    rfl
theorem store_gName {i : Nat} {x : PV} {v : V} {H1 : Hp} {F1 : Addr → Prop} {env1 : Env} {fr : Bool} (hm : ∀ p ∈ Γ.mv, p.1 ≠ i) (g1 : Γ.ge σ H1 F1 env1 ((x, v) :: T)) (h : okN Γ D T (env1.set i (some (if fr then x.fz else x)))) : gName i v σ H1 D.nx := by
  cases fr with
  | false => exact h _ H1 F1 (store' g1 hm)
  | true =>
    obtain ⟨F2, g2, m2⟩ := g1.fz
    exact h _ H1 F2 (store' g2 hm)
theorem s_set {i : Nat} {fr : Bool} {e : Ex} {x : Str} {py p : Pos} {v : Expr} (S : SS Γ sc X) (hi : Γ.N[i]? = some x) (hx : Loc sc x) (hm : ∀ p ∈ Γ.mv, p.1 ≠ i) (hs : swapsB sc v x py = false) (h : PE X v (tE Γ W0 e)) : PS X (.Assign [.Name x py] v p) (tS Γ (.set i fr e)) :=
  PSmono (ps_set S.nd (by rw [S.N]; exact hi) (by rw [S.hs]; exact hx) h (by rw [swaps_eq S, hs]) (.inl (S.fnT x))) fun D σ H ⟨F, env, T, g, hp⟩ => by
    unfold evS at hp
    exact preE g hp fun x env1 v H1 F1 g1 h1 => store_gName hm g1 h1
/-- a comprehension whose store is swapped -/
theorem red_com {elt : Ex} {own : List Nat} {t : Pat} {it : Z.It} {cond : OEx} {Q : VK} (hown : ∀ i ∈ patL t, i ∈ own) (hm : ∀ p ∈ Γ.mv, p.1 ∉ own) (h : tE Γ W0 (.com elt own t it cond) σ H Q) : tLc (tI Γ W0 it) (gPat Γ t) (tCc Γ W0 cond) (tE Γ W0 elt) own σ H Q := by
  obtain ⟨F, env, T, g, hp⟩ := h
  unfold Ex.pure ev at hp
  refine ⟨F, env, T, g, (PR.bind.mp hp).imp (fun xs env1 h1 => ?_) fun _ _ h => h⟩
  intro J U H1 F1 g1 m1 fd D hD
  obtain ⟨F2, g2, m2⟩ := ge_newLst (xs := []) (vs := []) rfl (by simpa using g1) hD
  refine loopC_ok (σ := σ) (F0 := F) (env0 := env1) rfl hown hm fd ⟨F2, ge_in (g2.kil own) hm, fun a z => m2 a (m1 a z)⟩ ((PR.bind.mp h1).imp (fun ys env2 h2 => ?_) fun _ _ h => h)
  intro H' F' g' m'
  exact h2 (.ref D) H' F' (g'.kil own) m' fun q => nomatch q
theorem s_setLc {i : Nat} {fr : Bool} {elt : Ex} {own : List Nat} {t : Pat} {it : Z.It} {cond : OEx} {y : Expr} {tg iter : Expr} {ifs : List Expr} {scope : Scope} {x : Str} {py pos p : Pos} {ownL : List (Str × Nat)} (S : SS Γ sc X) (hi : Γ.N[i]? = some x) (hm : ∀ p ∈ Γ.mv, p.1 ≠ i)
    (hs : swapsB sc (.ListComp y [⟨tg, iter, ifs, 0⟩] scope pos) x py = true) (ow : own = ownL.map (·.2)) (hown : ∀ i ∈ patL t, i ∈ own) (hmo : ∀ p ∈ Γ.mv, p.1 ∉ own) (hblk : blkC Γ.N sc scope ownL = true)
    (hit : PI X tg iter (tI Γ W0 it)) (hf : ∀ x, foldedSetIterable iter X.env x = pure x) (ht : chkT Γ.N scope t tg = true)
    (hc : ∀ (s : Shared) (H : Hp) (C : Addr) (cl : List (Str × Addr)) (fp : List Addr), PTs (X.blk s H scope (compEnvC scope cl C X.env) fp) ifs (tCc Γ W0 cond))
    (he : ∀ (s : Shared) (H : Hp) (C : Addr) (cl : List (Str × Addr)) (fp : List Addr), PE (X.blk s H scope (compEnvC scope cl C X.env) fp) y (tE Γ W0 elt)) :
    PS X (.Assign [.Name x py] (.ListComp y [⟨tg, iter, ifs, 0⟩] scope pos) p) (tS Γ (.set i fr (.com elt own t it cond))) := by
  have hl : sc.names.lookup x = some .local := by
    unfold swapsB at hs
    simp only [Bool.and_eq_true, beq_iff_eq] at hs
    exact hs.1.1
  refine PSmono (ps_setLc (own := ownL) S.calm S.nd (by rw [S.N]; exact hi) (by rw [S.hs]; exact hl) (by rw [swaps_eq S, hs]) hit (by rw [S.N, S.hs]; exact blkOk_by hblk) (fun s H C cl fp => pg_pat (S.toXS.blk) (fun x hx => blk_loc hx) (fun p m e => hmo p m (hown _ e)) ht) hc he hf) fun D σ H ⟨F, env, T, g, hp⟩ => ?_
  unfold evS at hp
  rw [← ow]
  exact red_com hown hmo (preE g hp fun x env1 v H1 F1 g1 h1 => store_gName hm g1 h1)
theorem stores_tgB {N : List Str} {mm : List Nat} {fn : Str → Bool} (hf : ∀ x, fn x = true) : ∀ {is : List Nat} {ts : List Expr}, storesB N sc mm is ts = true → tgB N sc fn is ts ∧ ∀ i ∈ is, i ∉ mm
  | [], [], _ => ⟨trivial, fun _ h => nomatch h⟩
  | [], _ :: _, h => by simp [storesB] at h
  | _ :: _, [], h => by simp [storesB] at h
  | i :: is, e :: es, h => by
    cases e <;> simp only [storesB, storeB, Bool.and_eq_true, decide_eq_true_eq] at h <;> (try (cases h; done))
    obtain ⟨q1, q2⟩ := stores_tgB hf h.2
    refine ⟨⟨isStr_iff.mp h.1.1.1, loc_of h.1.1.2, .inl (hf _), q1⟩, fun j hj => ?_⟩
    rcases List.mem_cons.mp hj with rfl | hj
    · exact h.1.2
    · exact q2 j hj
theorem pg_or {tg : Expr} {t u : TG} (h : PG X tg t) (k : PG X tg u) : PG X tg (fun v σ H Q => t v σ H Q ∨ u v σ H Q) := ⟨fun pins s σ H v w Q I r q => q.elim (h.run pins s σ H v w Q I r) (k.run pins s σ H v w Q I r)⟩
theorem fm_short {α β : Type} {f : α → Option β} : ∀ {ts : List α}, (∃ t ∈ ts, f t = none) → (ts.filterMap f).length ≠ ts.length
  | [], h => by obtain ⟨_, h, _⟩ := h; cases h
  | t :: ts, h => by
    have hle : (ts.filterMap f).length ≤ ts.length := List.length_filterMap_le ..
    rw [List.filterMap_cons]
    cases e : f t with
    | none => simp only [List.length_cons]; omega
    | some b =>
      have : ∃ t ∈ ts, f t = none := by
        obtain ⟨u, hu, hn⟩ := h
        rcases List.mem_cons.mp hu with rfl | hu
        · rw [e] at hn; cases hn
        · exact ⟨u, hu, hn⟩
      have := fm_short this
      simp only [List.length_cons]; omega
theorem locals_no {sc : Scope} : ∀ {ts : List Expr}, locals_ sc ts = false → ∃ t ∈ ts, ∀ x p, t = .Name x p → sc.names.lookup x ≠ some .local
  | [], h => by simp [locals_] at h
  | t :: ts, h => by
    cases t with
    | Name x p =>
      simp only [locals_, Bool.and_eq_false_iff, decide_eq_false_iff_not] at h
      rcases h with h | h
      · exact ⟨_, List.mem_cons_self, fun y q e => by cases e; exact h⟩
      · obtain ⟨u, hu, hn⟩ := locals_no h
        exact ⟨u, List.mem_cons_of_mem _ hu, hn⟩
    | _ => exact ⟨_, List.mem_cons_self, fun y q e => by cases e⟩
theorem unp_none {X : Cx} {sc : Scope} {ts : List Expr} {k : Nat} {tp : Pos} {v : Expr} (hs : X.env.scope = sc) (h : (!isTup v || !locals_ sc ts) = true) : swappedStores [.Tuple ts k tp] v X.env = pure none := by
  cases v with
  | Tuple vs k2 p2 =>
    have h : locals_ sc ts = false := by simpa [isTup] using h
    obtain ⟨t, ht, hn⟩ := locals_no h
    unfold swappedStores
    simp only
    split
    · rfl
    · split
      · rfl
      · rw [if_pos]
        have := fm_short (f := fun (e : Expr) => match e with
          | .Name id pos => if (X.env.kindOf id == some .local && pos.line == (ts.head?.map (·.pos.line)).getD 0) = true then some id else none
          | _ => none) ⟨t, ht, by
            cases t with
            | Name x p =>
              have := hn x p rfl
              have hk : X.env.kindOf x = sc.names.lookup x := by show X.env.scope.names.lookup x = _; rw [hs]
              simp only [hk]
              rw [if_neg]
              simp [this]
            | _ => rfl⟩
        rw [Bool.or_eq_true]
        refine .inl ?_
        rw [bne_iff_ne]
        exact this
  | _ => rfl
theorem s_unp {is : List Nat} {e : Ex} {ts : List Expr} {k : Nat} {tp p : Pos} {v : Expr} (S : SS Γ sc X) (hts : storesB Γ.N sc Γ.M.mm is ts = true) (hmm : ∀ p ∈ Γ.mv, p.1 ∈ Γ.M.mm) (hv : (!isTup v || !locals_ sc ts) = true) (h : PE X v (tE Γ W0 e)) : PS X (.Assign [.Tuple ts k tp] v p) (tS Γ (.unp is e)) := by
  have hw := unp_none (k := k) (tp := tp) S.hs hv
  obtain ⟨hb, hmi⟩ := stores_tgB (fn := X.fn) S.fnT hts
  rw [← S.N] at hb
  obtain ⟨l1, l2⟩ := tgB_each (env := X.env) hb
  have gs := pgs_all S.nd S.hs hb
  have g1 : PG X (.Tuple ts k tp) (fun v σ H Q => gTup X.K ts.length (gAll is) v σ H Q ∨ gLst X.K ts.length (gAll is) v σ H Q) := pg_or (pg_tup S.calm gs l1 l2) (pg_lst S.calm gs l1 l2)
  have hm : ∀ p ∈ Γ.mv, p.1 ∉ is := fun p m e => hmi _ e (hmm p m)
  refine PSmono (ps_asg h g1 (by cases v <;> rfl) hw rfl) fun D σ H ⟨F, env, T, g, hp⟩ => ?_
  rw [S.K]
  unfold evS at hp
  refine preE g hp fun x env1 v H1 F1 g2 h1 => ?_
  obtain ⟨e1, ee, h2⟩ := h1.lift
  have h2 : okN Γ D T e1 := h2
  split at ee
  · rename_i xs
    obtain ⟨a, vs, rfl, hs, hl, gg⟩ := Good.openT (xs := xs) (R := T ++ rE env1 σ) (by simpa using g2.good)
    have g3 : Γ.ge σ H1 F1 env1 (xs.zip vs ++ T) := ⟨by rw [List.append_assoc]; exact gg, g2.we, g2.pin⟩
    obtain ⟨g4, hl2⟩ := storeAll hl g3 hm ee
    exact .inl ⟨a, vs, rfl, hs, by rw [← hl2]; exact (tgB_len hb), hl2, h2 _ H1 F1 g4⟩
  · rename_i o xs
    obtain ⟨a, vs, rfl, ha, hl, gg⟩ := Good.itemsL (o := o) (xs := xs) (R := T ++ rE env1 σ) (by simpa using g2.good)
    have g3 : Γ.ge σ H1 F1 env1 (xs.zip vs ++ T) := ⟨by rw [List.append_assoc]; exact gg, g2.we, g2.pin⟩
    obtain ⟨g4, hl2⟩ := storeAll hl g3 hm ee
    exact .inr ⟨a, vs, rfl, .of ha, by rw [← hl2]; exact (tgB_len hb), hl2, h2 _ H1 F1 g4⟩
  · cases ee
theorem plain_noStar : ∀ {vs : List Expr}, (∀ v ∈ vs, plainX v = true) → (vs.any fun | .Starred .. => true | _ => false) = false
  | [], _ => rfl
  | v :: vs, h => by
    have h0 := h v List.mem_cons_self
    rw [List.any_cons, plain_noStar fun x hx => h x (List.mem_cons_of_mem _ hx)]
    cases v <;> first | rfl | (simp [plainX] at h0)
theorem s_par2 {i j : Nat} {es : Exs} {x y : Str} {px py tp p : Pos} {k k2 : Nat} {p2 : Pos} {a b : Expr} (S : SS Γ sc X) (hi : Γ.N[i]? = some x) (hj : Γ.N[j]? = some y) (hij : i ≠ j) (hx : sc.names.lookup x = some .local) (hy : sc.names.lookup y = some .local) (hmi : ∀ p ∈ Γ.mv, p.1 ≠ i) (hmj : ∀ p ∈ Γ.mv, p.1 ≠ j)
    (hl : (px.line == py.line) = true) (h1 : [a, b].all (foldedForSure 8) = false) (h2 : [a, b].all (constantsAlone 8) = false) (hp : ∀ v ∈ [a, b], plainX v = true) (ia : PA X [a, b] (tEs Γ W0 es)) :
    PS X (.Assign [.Tuple [.Name x px, .Name y py] k tp] (.Tuple [a, b] k2 p2) p) (tS Γ (.par [i, j] es)) := by
  have hxy : x ≠ y := fun e => by
    subst e
    have nd := S.nd
    rw [S.N] at nd
    exact hij ((List.getElem?_inj (List.getElem?_eq_some_iff.mp hi).1 nd).mp (hi.trans hj.symm))
  have kx : X.env.kindOf x = some .local := by show X.env.scope.names.lookup x = _; rw [S.hs]; exact hx
  have ky : X.env.kindOf y = some .local := by show X.env.scope.names.lookup y = _; rw [S.hs]; exact hy
  have hw : swappedStores [.Tuple [.Name x px, .Name y py] k tp] (.Tuple [a, b] k2 p2) X.env = pure (some [x, y]) := by
    have ha := hp a (by simp)
    have hb := hp b (by simp)
    have he : [x, y].eraseDups.length = 2 := by simp [List.eraseDups_cons, hxy, Ne.symm hxy]
    have hl' : (py.line == px.line) = true := by rw [beq_iff_eq] at hl ⊢; exact hl.symm
    unfold swappedStores
    simp only [S.kd, List.length_cons, List.length_nil, List.head?_cons, Option.map_some, Option.getD_some, List.filterMap_cons, List.filterMap_nil, kx, ky, Expr.pos, beq_self_eq_true, hl', Bool.and_self, if_true, he, h1, h2]
    rw [if_neg (by decide), if_neg, if_neg (by decide), if_neg (by decide), if_neg (by decide)]
    intro h
    simp only [List.any_cons, List.any_nil, Bool.or_false, Bool.or_eq_true] at h
    rcases h with h | h
    · cases a <;> first | (cases h; done) | (simp [plainX] at ha)
    · cases b <;> first | (cases h; done) | (simp [plainX] at hb)
  refine PSmono (ps_par S.calm S.nd (by rw [S.N]; exact hi) (by rw [S.N]; exact hj) hij (by rw [S.hs]; exact hx) (by rw [S.hs]; exact hy) ia hw) fun D σ H ⟨F, env, T, g, hp⟩ => ?_
  unfold evS at hp
  refine preEs g hp fun xs env1 vs H1 F1 hl g1 h3 => ?_
  obtain ⟨e1, ee, h4⟩ := h3.lift
  have h4 : okN Γ D T e1 := h4
  obtain ⟨g2, hl2⟩ := storeAll hl g1 (fun p m e => by
    rcases List.mem_cons.mp e with e | e
    · exact hmi p m e
    · exact hmj p m (by simpa using e)) ee
  match vs, hl2 with
  | [v, w], _ => exact ⟨v, w, rfl, h4 _ H1 F1 g2⟩
def rIop : BOp → R2
  | .add => rI0 fun i j => .int (i + j)
  | .sub => rI0 fun i j => .int (i - j)
  | .mul => rI CMul fun i j => .int (i * j)
  | .fdiv => rI CDiv fun i j => .int (i / j)
  | .mod => rI (fun _ j => 0 < j) fun i j => .int (i % j)
  | .shl => rI CPow fun i j => .int (i * 2 ^ j.toNat)
  | .shr => rI (fun _ j => 0 ≤ j) fun i j => .int (i / 2 ^ j.toNat)
  | .band => rI0 fun i j => .int (Builtin.bitAnd i j)
  | .bor => rI0 fun i j => .int (Builtin.bitOr i j)
  | .bxor => rI0 fun i j => .int (Builtin.bitXor i j)
  | .pow => fun _ _ _ _ => False
theorem iop_ok {X : Cx} : ∀ {o : BOp} {op : Operator}, bopOk o op = true → o ≠ .pow → OpR X (inplaceOp op) (rIop o) := by
  intro o op h hp
  cases o
  case pow => exact absurd rfl hp
  case add =>
    cases op <;> first | (exact absurd h Bool.false_ne_true) | exact iop_add
  case sub =>
    cases op <;> first | (exact absurd h Bool.false_ne_true) | exact iop_sub
  case mul =>
    cases op <;> first | (exact absurd h Bool.false_ne_true) | exact iop_mul
  case fdiv =>
    cases op <;> first | (exact absurd h Bool.false_ne_true) | exact iop_fdiv
  case mod =>
    cases op <;> first | (exact absurd h Bool.false_ne_true) | exact iop_mod
  case shl =>
    cases op <;> first | (exact absurd h Bool.false_ne_true) | exact iop_shl
  case shr =>
    cases op <;> first | (exact absurd h Bool.false_ne_true) | exact iop_shr
  case band =>
    cases op <;> first | (exact absurd h Bool.false_ne_true) | exact iop_and
  case bor =>
    cases op <;> first | (exact absurd h Bool.false_ne_true) | exact iop_or
  case bxor =>
    cases op <;> first | (exact absurd h Bool.false_ne_true) | exact iop_xor
theorem rIop_ok {o : BOp} {i j n : Int} {H : Hp} {Q : VK} (hp : o ≠ .pow) (h : binI o i j = some n) (q : Q (.int n) H) : rIop o (.int i) (.int j) H Q := by
  cases o <;> simp only [binI] at h <;> (try split at h) <;> first
    | cases h
    | skip
  · exact ⟨i, j, rfl, rfl, q⟩
  · exact ⟨i, j, rfl, rfl, q⟩
  · rename_i c; exact ⟨i, j, rfl, rfl, mulOk_iff c, q⟩
  · rename_i c; exact ⟨i, j, rfl, rfl, c, q⟩
  · rename_i c; exact ⟨i, j, rfl, rfl, c, q⟩
  · exact absurd rfl hp
  · rename_i c; exact ⟨i, j, rfl, rfl, c, q⟩
  · rename_i c; exact ⟨i, j, rfl, rfl, c, q⟩
  · exact ⟨i, j, rfl, rfl, q⟩
  · exact ⟨i, j, rfl, rfl, q⟩
  · exact ⟨i, j, rfl, rfl, q⟩
theorem s_aug {i : Nat} {o : BOp} {op : Operator} {e : Ex} {x : Str} {px p : Pos} {v : Expr} (S : SS Γ sc X) (hi : Γ.N[i]? = some x) (hx : Loc sc x) (hm : ∀ p ∈ Γ.mv, p.1 ≠ i) (ho : bopOk o op = true) (hp : o ≠ .pow) (h : PE X v (tE Γ W0 e)) : PS X (.AugAssign (.Name x px) op v p) (tS Γ (.aug i o e)) := by
  refine PSmono (ps_aug (ti := rIop o) S.nd (by rw [S.N]; exact hi) (by rw [S.hs]; exact hx) h (iop_ok (X := X) ho hp) (.inl (S.fnT x))) fun D σ H ⟨F, env, T, g, hp2⟩ => ?_
  unfold evS at hp2
  cases e1 : env.at i with
  | none => simp only [e1] at hp2; exact hp2.elim
  | some x0 =>
    simp only [e1] at hp2
    obtain ⟨v0, hv, g'⟩ := g.take e1
    obtain ⟨f0, r0⟩ := ge_rep g'
    cases x0 <;> (try (exact hp2.elim))
    rename_i a
    refine ⟨v0, hv, preE g hp2 fun y env1 v1 H1 F1 g1 h1 => ?_⟩
    cases y <;> (try (exact h1.elim))
    rename_i b
    obtain ⟨n, en, h2⟩ := h1.lift
    have h2 : okN Γ D T (env1.set i (some (.int n))) := h2
    obtain ⟨f1, r1⟩ := ge_rep g1
    rw [rep_int r0, rep_int r1]
    exact rIop_ok hp en (h2 _ H1 F1 (store' (g1.drop.push (mk_int n)) hm))
def rSetX : TSet := fun o i v H Q => rSetL o i v H Q ∨ rSetD o i v H Q
theorem set_all {X : Cx} (hu : X.A.units + 1 < cLine) : PSet X rSetX := by
  intro pins s σ H o i v ov iv u Q I ro ri rv h
  rcases h with h | h
  · exact set_list pins s σ H o i v ov iv u Q I ro ri rv h
  · exact set_dict hu pins s σ H o i v ov iv u Q I ro ri rv h
theorem s_seti {i : Nat} {k e : Ex} {x : Str} {px sp p : Pos} {y v : Expr} (S : SS Γ sc X) (hx : chkV Γ.N sc i x = true) (hy : plainX y = true) (ik : PE X y (tE Γ W0 k)) (ie : PE X v (tE Γ W0 e)) : PS X (.Assign [.Subscript (.Name x px) y sp] v p) (tS Γ (.seti (.pv i) k e)) := by
  have ip : PE X (.Name x px) (tVar i) := S.toXS.var hx
  have g1 : PG X (.Subscript (.Name x px) y sp) (gSub (tVar i) (tE Γ W0 k) rSetX) := pg_sub ip ik (set_all (by have := S.room.units; omega)) (fun v => by
    cases y <;> first | rfl | (simp [plainX] at hy))
  refine PSmono (ps_asg ie g1 (by cases v <;> rfl) (by cases v <;> rfl) rfl) fun D σ H ⟨F, env, T, g, hp⟩ => ?_
  unfold evS at hp
  refine preE g hp fun y env1 vy H1 F1 g1 h1 => ?_
  cases e1 : env1.at i with
  | none => simp only [e1] at h1; exact h1.elim
  | some x0 =>
    simp only [e1] at h1
    obtain ⟨v0, hv, _⟩ := g1.take e1
    refine ⟨v0, hv, F1, env1, _, g1, h1.fl.imp (fun q env2 h2 vq H2 F2 g2 _ _ => ?_) fun _ _ z => ex0 z⟩
    obtain ⟨env3, em, h3⟩ := h2.lift
    have h3 : okN Γ D T env3 := h3
    unfold modP at em
    cases e2 : env2.at i with
    | none => rw [e2] at em; cases em
    | some x1 =>
      rw [e2] at em
      cases e3 : Z.seti x1 q y with
      | none => simp only [e3] at em; cases em
      | some x2 =>
        simp only [e3] at em
        cases em
        obtain ⟨vo, hvo, k⟩ := seti_ok (Q := fun H' => D.nx σ H') g2 e2 e3
        rw [hv] at hvo
        cases hvo
        exact k fun H' F' g' => h3 σ H' F' g'
theorem getL_ok : PGet X (rIxL X.K) := by
  intro pins s σ H o i ov iv Q I ro ri h
  obtain ⟨p, xs, i, z, rfl, rfl, hq, he, q⟩ := h
  cases ro
  obtain ⟨t, rfl⟩ := ri
  obtain ⟨its, r, pl, hz⟩ := I.list hq
  obtain ⟨j, h1, h2, h3, h4, h5⟩ := atI_get he
  obtain ⟨w, ew, rw'⟩ := r.get h2
  have hl := r.length
  have hn := line63
  have fin : EP X pins σ Q w s := ⟨z, H, I, rw', q⟩
  by_cases h0 : 0 ≤ i
  · have hj : i.toNat = j := by
      rw [seqIndex_of h0 h5] at h1
      exact Option.some.inj h1
    exact wpAny_getItem_list pl.isList h0 (by omega) (by rw [hj]; simpa using ew) fin
  · have hj : (i + (its.toArray.size : Int)).toNat = j := by
      rw [seqIndex_neg (by omega) h4] at h1
      rw [List.size_toArray, ← hl]
      exact Option.some.inj h1
    exact wpAny_getItem_list_neg pl.isList (by omega) (by rw [List.size_toArray] <;> omega) (by omega) (by rw [hj]; simpa using ew) fin
end
end Z

set_option Elab.async false
set_option linter.all false
set_option maxRecDepth 100000
/-! Z18: statements, the rest. -/
namespace Z
open PySem L2
section
variable {Γ : Ctx} {X : Cx} {sc : Scope} {D : Ends} {σ : L2.St} {H : Hp} {F : Addr → Prop} {T : List (PV × V)} {env : Env}
theorem s_augi {i : Nat} {k e : Ex} {o : BOp} {op : Operator} {x : Str} {px sp p : Pos} {y v : Expr} (S : SS Γ sc X) (hx : chkV Γ.N sc i x = true) (hy : plainX y = true) (ho : bopOk o op = true) (hpw : o ≠ .pow) (ik : PE X y (tE Γ W0 k)) (ie : PE X v (tE Γ W0 e)) :
    PS X (.AugAssign (.Subscript (.Name x px) y sp) op v p) (tS Γ (.augi (.pv i) k o e)) := by
  have ip : PE X (.Name x px) (tVar i) := S.toXS.var hx
  refine PSmono (ps_augS (tget := rIxL X.K) (tip := rIop o) (tset := rSetX) ip ik getL_ok ie (iop_ok (X := X) ho hpw) (set_all (by have := S.room.units; omega)) (fun ov iv new => by
    cases y <;> first | rfl | (simp [plainX] at hy))) fun D σ H ⟨F, env, T, g, hp⟩ => ?_
  rw [S.K]
  unfold evS at hp
  cases e1 : env.at i with
  | none => simp only [e1] at hp; exact hp.elim
  | some x0 =>
    simp only [e1] at hp
    obtain ⟨v0, hv, _⟩ := g.take e1
    refine ⟨v0, hv, preE g hp fun q env1 vq H1 F1 g1 h1 => ?_⟩
    cases e2 : env1.at i with
    | none => simp only [e2] at h1; exact h1.elim
    | some x1 =>
      obtain ⟨v1, hv1, g2⟩ := g1.take e2
      rw [hv] at hv1
      cases hv1
      simp only [e2] at h1
      obtain ⟨fq, rq⟩ := ge_rep g1
      obtain ⟨fo, ro⟩ := ge_rep g2
      split at h1
      · rename_i o0 xs eo
        cases eo
        split at h1
        · rename_i j
          cases ei : getI xs j with
          | none => simp only [ei] at h1; exact h1.elim
          | some z0 =>
            simp only [ei] at h1
            cases z0 <;> (try (exact h1.elim))
            rename_i a
            have eq := rep_int rq
            subst eq
            obtain ⟨p0, vs, fl, rfl, ha, hl⟩ := rep_lst ro
            obtain ⟨w, fw, e5, r5, _⟩ := getI_rep ei hl
            have ew := rep_int r5
            subst ew
            refine ⟨p0, vs, j, .int a, rfl, rfl, .of ha, e5, F1, env1, _, g1, h1.fl.imp (fun y env2 h2 vy H2 F2 g2 _ _ => ?_) fun _ _ z => ex0 z⟩
            cases y <;> (try (exact h2.elim))
            rename_i b
            obtain ⟨z, ez, h3⟩ := h2.lift
            obtain ⟨env3, em, h4⟩ := h3.lift
            have h4 : okN Γ D T env3 := h4
            obtain ⟨f1, r1⟩ := ge_rep g2
            rw [rep_int r1]
            refine rIop_ok hpw ez ?_
            unfold modP at em
            cases e6 : env2.at i with
            | none => rw [e6] at em; cases em
            | some x1 =>
              rw [e6] at em
              cases e7 : Z.seti x1 (.int j) (.int z) with
              | none => simp only [e7] at em; cases em
              | some x2 =>
                simp only [e7] at em
                cases em
                have g3 : Γ.ge σ H2 F2 env2 ((.int j, .int j) :: (.int z, .int z) :: T) := (g2.drop.drop.push (mk_int z)).push (mk_int j)
                obtain ⟨vo, hvo, k⟩ := seti_ok (Q := fun H' => D.nx σ H') g3 e6 e7
                rw [hv] at hvo
                cases hvo
                exact k fun H' F' g' => h4 σ H' F' g'
        · exact h1.elim
      · exact h1.elim
theorem s_setf {i f : Nat} {e : Ex} {x n : Str} {px ap p : Pos} {v : Expr} (S : SS Γ sc X) (K : Kn0 Γ) (hnf : ∀ C Ca n, Γ.tab.fld C f = true → Γ.G.cls C = some Ca → Γ.M.att f = some n → NoAttr Γ.G.K Ca n) (hx : chkV Γ.N sc i x = true) (hf : isStr (Γ.M.att f) n = true) (ie : PE X v (tE Γ W0 e)) :
    PS X (.Assign [.Attribute (.Name x px) n ap] v p) (tS Γ (.setf (.pv i) f e)) := by
  have hf := isStr_iff.mp hf
  have ip : PE X (.Name x px) (tVar i) := S.toXS.var hx
  refine PSmono (ps_fld ip ie (by cases v <;> rfl)) fun D σ H ⟨F, env, T, g, hp⟩ => ?_
  rw [S.K]
  unfold evS at hp
  refine preE g hp fun y env1 vy H1 F1 g1 h1 => ?_
  obtain ⟨env2, em, h2⟩ := h1.lift
  have h2 : okN Γ D T env2 := h2
  unfold modP at em
  cases e2 : env1.at i with
  | none => rw [e2] at em; cases em
  | some x1 =>
    rw [e2] at em
    cases e3 : Z.setf Γ.tab.fld x1 f y with
    | none => simp only [e3] at em; cases em
    | some x2 =>
      simp only [e3] at em
      cases em
      have hfG : Γ.G.att f = some n := by rw [K.att]; exact hf
      obtain ⟨a, Ca, dx, fs, hv, ha, hc, hn, hl, g3, _⟩ := setf_ok (Q := fun _ => True) hfG (by rw [K.att]; exact K.inj) K.cls (fun C Ca h1 h2 => hnf C Ca n h1 h2 hf) g1 e2 e3
      exact ⟨.ref a, hv, a, Ca, dx, fs, rfl, ha, hc, hn, hl, h2 σ _ F1 g3⟩
theorem s_augf {i f : Nat} {o : BOp} {op : Operator} {e : Ex} {x n : Str} {px ap p : Pos} {v : Expr} (S : SS Γ sc X) (K : Kn0 Γ) (hnf : ∀ C Ca n, Γ.tab.fld C f = true → Γ.G.cls C = some Ca → Γ.M.att f = some n → NoAttr Γ.G.K Ca n) (hx : chkV Γ.N sc i x = true) (hf : isStr (Γ.M.att f) n = true) (ho : bopOk o op = true) (hpw : o ≠ .pow) (ie : PE X v (tE Γ W0 e)) :
    PS X (.AugAssign (.Attribute (.Name x px) n ap) op v p) (tS Γ (.augf (.pv i) f o e)) := by
  have hf := isStr_iff.mp hf
  have hfG : Γ.G.att f = some n := by rw [K.att]; exact hf
  have ip : PE X (.Name x px) (tVar i) := S.toXS.var hx
  refine PSmono (ps_fldaug (rd := rIop o) ip ie (iop_ok (X := X) ho hpw)) fun D σ H ⟨F, env, T, g, hp⟩ => ?_
  rw [S.K]
  unfold evS at hp
  cases e1 : env.at i with
  | none => simp only [e1] at hp; exact hp.elim
  | some x0 =>
    simp only [e1] at hp
    obtain ⟨v0, hv, g'⟩ := g.take e1
    obtain ⟨f0, r0⟩ := ge_rep g'
    split at hp
    · rename_i ow C as xs eo
      cases eo
      obtain ⟨pa, Ca, dx, ns, vs, fl, rfl, hc, ha, hn, hk, hl⟩ := rep_obj r0
      cases el : lookF as xs f with
      | none => simp only [el] at hp; exact hp.elim
      | some z0 =>
        simp only [el] at hp
        cases z0 <;> (try (exact hp.elim))
        rename_i a
        obtain ⟨q1, w, fz, q2, q3, q4⟩ := lookF_rep hfG (by rw [K.att]; exact K.inj) hn hl el
        have ew := rep_int q3
        subst ew
        refine ⟨.ref pa, hv, pa, Ca, dx, _, .int a, rfl, ha, K.cls C Ca hc, q1, q2, preE g hp fun y env1 vy H1 F1 g1 h1 => ?_⟩
        cases y <;> (try (exact h1.elim))
        rename_i b
        obtain ⟨z, ez, h2⟩ := h1.lift
        obtain ⟨env2, em, h3⟩ := h2.lift
        have h3 : okN Γ D T env2 := h3
        obtain ⟨f1, r1⟩ := ge_rep g1
        rw [rep_int r1]
        refine rIop_ok hpw ez ?_
        unfold modP at em
        cases e2 : env1.at i with
        | none => rw [e2] at em; cases em
        | some x1 =>
          rw [e2] at em
          by_cases hcl : clsP x1 = some C
          · simp only [hcl, if_true] at em
            cases e3 : Z.setf Γ.tab.fld x1 f (.int z) with
            | none => simp only [e3] at em; cases em
            | some x2 =>
              simp only [e3] at em
              cases em
              obtain ⟨a', Ca', dx', fs, hv', ha', hc', hn', hl', g3, C2, hC2, hC3⟩ := setf_ok (Q := fun _ => True) hfG (by rw [K.att]; exact K.inj) K.cls (fun C Ca h1 h2 => hnf C Ca n h1 h2 hf) (g1.drop.push (mk_int z)) e2 e3
              rw [hv] at hv'
              cases hv'
              rw [hcl] at hC2
              cases hC2
              rw [hc] at hC3
              cases hC3
              exact ⟨dx', fs, ha', hl', h3 σ _ F1 g3⟩
          · simp only [hcl, if_false] at em; cases em
    · exact hp.elim
/-! ### methods of lists -/
theorem getLst {i : Nat} {xs : List PV} {v : V} (g : Γ.ge σ H F env T) (e : env.at i = some (.lst true xs)) (hv : σ[i]? = some (some v)) : ∃ p vs, v = .ref p ∧ H p = some (.lst vs) := by
  obtain ⟨v', hv', g'⟩ := g.take e
  rw [hv] at hv'
  cases hv'
  obtain ⟨f, r⟩ := ge_rep g'
  obtain ⟨p, vs, fl, rfl, ha, _⟩ := rep_lst r
  exact ⟨p, vs, rfl, ha⟩
theorem modP_some {i : Nat} {f : PV → Option PV} {env2 : Env} (h : modP i f env = some env2) : ∃ x y, env.at i = some x ∧ f x = some y ∧ env2 = env.set i (some y) := by
  unfold modP at h
  cases e : env.at i with
  | none => rw [e] at h; cases h
  | some x =>
    rw [e] at h
    cases e2 : f x with
    | none => simp only [e2] at h; cases h
    | some y => simp only [e2] at h; cases h; exact ⟨x, y, rfl, e2, rfl⟩
/-- the list at a slot becomes another -/
theorem ge_relist {i : Nat} {xs ys : List PV} {v : V} {L R : List (PV × V)} (g : Γ.ge σ H F env (L ++ T)) (e : env.at i = some (.lst true xs)) (hv : σ[i]? = some (some v)) :
    ∃ p vs, v = .ref p ∧ H p = some (.lst vs) ∧ xs.length = vs.length ∧ ∀ ws, ys.length = ws.length → (Good Γ.G Γ.B H F [p] (xs.zip vs ++ (L ++ (T ++ rE (env.set i none) σ))) → Good Γ.G Γ.B H F [p] (ys.zip ws ++ (T ++ rE (env.set i none) σ))) →
      Γ.ge σ (upd H p (.lst ws)) F (env.set i (some (.lst true ys))) T := by
  obtain ⟨v', hv', g1⟩ := g.take e
  rw [hv] at hv'
  cases hv'
  obtain ⟨p, vs, rfl, ha, hl, go⟩ := Good.openL (xs := xs) (R := L ++ T ++ rE (env.set i none) σ) (by simpa using g1.good)
  refine ⟨p, vs, rfl, ha, hl, fun ws hw h => ?_⟩
  have := h (by simpa using go)
  exact ge_back g.dropL e hv (Good.closeL hw this)
theorem swaps_call {f : Expr} {as : List Expr} {kws : List Keyword} {p : Pos} {l : Nat} {env : PySem.Env} : swapsWith (.Call f as kws p) none l env = pure false := rfl
theorem few_ok {pos : Pos} {env : PySem.Env} {e : Expr} {es : List Expr} (hxs : ∀ y ∈ e :: es, plainX y = true) (h30 : (e :: es).length < 30) : ((backTo pos (starEach (e :: es) env)).all (fun x => !x.1) && (backToKw pos (keywordEach [] env)).all (fun x => x.1.isSome)
      && decide ((e :: es).length + ([] : List Keyword).length + (if ([] : List Keyword).isEmpty then 0 else 1) < 30)) = true := by
  rw [notStar_all hxs]
  show (true && true && decide ((e :: es).length + 0 + 0 < 30)) = true
  simpa using h30
theorem s_append {i : Nat} {es : Exs} {x : Str} {px ap cp p : Pos} {v : Expr} {vs : List Expr} (S : SS Γ sc X) (hx : chkV Γ.N sc i x = true) (hl : (ap.endLine == cp.line) = true) (h30 : (v :: vs).length < 30) (hxs : ∀ y ∈ v :: vs, plainX y = true) (ia : PA X (v :: vs) (tEs Γ W0 es)) :
    PS X (.Expr (.Call (.Attribute (.Name x px) "append" ap) (v :: vs) [] cp) p) (tS Γ (.mth .append (.pv i) es)) := by
  have ip : PE X (.Name x px) (tVar i) := S.toXS.var hx
  refine PSmono (ps_expr (pe_bm F.plainAttrs_list F.slot_list_append F.type_list_append mt_append ip ia rfl (few_ok hxs h30) hl (plain_star (hxs v List.mem_cons_self)) (plain_pl fun y hy => hxs y (List.mem_cons_of_mem _ hy))) swaps_call) fun D σ H ⟨F, env, T, g, hp⟩ => ?_
  rw [S.K]
  unfold evS at hp
  split at hp
  · rename_i xs0 e1
    obtain ⟨v0, hv, _⟩ := g.take e1
    obtain ⟨p0, us, rfl, ha⟩ := getLst g e1 hv
    refine ⟨.ref p0, hv, .inl ⟨rfl, us, .of ha⟩, preEs g hp fun ys env1 ws H1 F1 hlen g1 h1 => ?_⟩
    obtain ⟨env2, em, h2⟩ := h1.lift
    have h2 : okN Γ D T env2 := h2
    obtain ⟨x1, x2, e2, e3, rfl⟩ := modP_some em
    unfold mmeth at e3
    split at e3 <;> (try (cases e3; done)) <;> (try contradiction)
    rename_i xs y _
    split at e3
    · rename_i c
      cases e3
      obtain ⟨w, rfl, g2⟩ := ge_one hlen g1
      obtain ⟨p1, vs1, ep, ha1, hl1, k⟩ := ge_relist (R := []) (L := [(y, w)]) (ys := xs ++ [y]) g2 e2 hv
      cases ep
      refine ⟨p0, vs1, w, rfl, rfl, ha1, by rw [← hl1, ← lineB_eq]; exact c, h2 σ _ F1 (k _ (by simp [hl1]) fun gg => ?_)⟩
      rw [List.zip_append hl1]
      simpa using gg
    · cases e3
  · exact hp.elim
theorem s_insert {i : Nat} {es : Exs} {x : Str} {px ap cp p : Pos} {v : Expr} {vs : List Expr} (S : SS Γ sc X) (hx : chkV Γ.N sc i x = true) (hl : (ap.endLine == cp.line) = true) (h30 : (v :: vs).length < 30) (hxs : ∀ y ∈ v :: vs, plainX y = true) (ia : PA X (v :: vs) (tEs Γ W0 es)) :
    PS X (.Expr (.Call (.Attribute (.Name x px) "insert" ap) (v :: vs) [] cp) p) (tS Γ (.mth .insert (.pv i) es)) := by
  have ip : PE X (.Name x px) (tVar i) := S.toXS.var hx
  refine PSmono (ps_expr (pe_bm F.plainAttrs_list F.slot_list_insert F.type_list_insert mt_insert ip ia rfl (few_ok hxs h30) hl (plain_star (hxs v List.mem_cons_self)) (plain_pl fun y hy => hxs y (List.mem_cons_of_mem _ hy))) swaps_call) fun D σ H ⟨F, env, T, g, hp⟩ => ?_
  rw [S.K]
  unfold evS at hp
  split at hp
  · rename_i xs0 e1
    obtain ⟨v0, hv, _⟩ := g.take e1
    obtain ⟨p0, us, rfl, ha⟩ := getLst g e1 hv
    refine ⟨.ref p0, hv, .inl ⟨rfl, us, .of ha⟩, preEs g hp fun ys env1 ws H1 F1 hlen g1 h1 => ?_⟩
    obtain ⟨env2, em, h2⟩ := h1.lift
    have h2 : okN Γ D T env2 := h2
    obtain ⟨x1, x2, e2, e3, rfl⟩ := modP_some em
    unfold mmeth at e3
    split at e3 <;> (try (cases e3; done)) <;> (try contradiction)
    rename_i xs j y _
    split at e3
    · rename_i c
      cases e3
      obtain ⟨w0, w, rfl, g2⟩ := ge_two hlen g1
      obtain ⟨fj, rj⟩ := ge_rep g2
      have ej := rep_int rj
      subst ej
      obtain ⟨p1, vs1, ep, ha1, hl1, k⟩ := ge_relist (R := []) (L := [(y, w)]) (ys := xs.take j.toNat ++ [y] ++ xs.drop j.toNat) g2.drop e2 hv
      cases ep
      refine ⟨p0, vs1, j, w, rfl, rfl, ha1, by rw [← hl1, ← lineB_eq]; exact c.1, c.2.1, by have := c.2.2; omega, h2 σ _ F1 (k _ (by simp [hl1]) fun gg => ?_)⟩
      have e4 : (xs.take j.toNat ++ [y] ++ xs.drop j.toNat).zip (vs1.take j.toNat ++ [w] ++ vs1.drop j.toNat) = (xs.zip vs1).take j.toNat ++ (y, w) :: (xs.zip vs1).drop j.toNat := by
        have e41 : (xs.take j.toNat).zip (vs1.take j.toNat) = (xs.zip vs1).take j.toNat := by rw [List.zip_eq_zipWith, List.zip_eq_zipWith, List.take_zipWith]
        have e42 : (xs.drop j.toNat).zip (vs1.drop j.toNat) = (xs.zip vs1).drop j.toNat := by rw [List.zip_eq_zipWith, List.zip_eq_zipWith, List.drop_zipWith]
        rw [List.zip_append (by simp [hl1]), List.zip_append (by simp [hl1]), e41, e42]
        simp
      rw [e4]
      refine gg.perm ?_
      have e5 : xs.zip vs1 = (xs.zip vs1).take j.toNat ++ (xs.zip vs1).drop j.toNat := (List.take_append_drop ..).symm
      conv => lhs; rw [e5]
      simp only [List.append_assoc, List.cons_append, List.nil_append]
      refine List.Perm.append_left _ ?_
      exact List.perm_middle
    · cases e3
  · exact hp.elim
theorem s_clear {i : Nat} {es : Exs} {x : Str} {px ap cp p : Pos} (S : SS Γ sc X) (hx : chkV Γ.N sc i x = true) (hl : (ap.endLine == cp.line) = true) (hes : es = .nil) :
    PS X (.Expr (.Call (.Attribute (.Name x px) "clear" ap) [] [] cp) p) (tS Γ (.mth .clear (.pv i) es)) := by
  have ip : PE X (.Name x px) (tVar i) := S.toXS.var hx
  subst hes
  refine PSmono (ps_expr (pe_bm0 F.plainAttrs_list F.slot_list_clear F.type_list_clear mt_clear ip rfl hl) swaps_call) fun D σ H ⟨F, env, T, g, hp⟩ => ?_
  rw [S.K]
  unfold evS evs at hp
  split at hp
  · rename_i xs0 e1
    obtain ⟨v0, hv, _⟩ := g.take e1
    obtain ⟨p0, us, rfl, ha⟩ := getLst g e1 hv
    obtain ⟨env2, em, h2⟩ := FP.lift (nx := okN Γ D T) (rt := okRt Γ D T) hp
    have h2 : okN Γ D T env2 := h2
    obtain ⟨x1, x2, e2, e3, rfl⟩ := modP_some em
    rw [e1] at e2
    cases e2
    simp only [mmeth] at e3
    cases e3
    obtain ⟨p1, vs1, ep, ha1, hl1, k⟩ := ge_relist (R := []) (L := []) (ys := []) g e1 hv
    cases ep
    exact ⟨.ref p0, hv, .inl ⟨rfl, us, .of ha⟩, p0, vs1, rfl, rfl, ha1, h2 σ _ F (k [] rfl fun gg => by
      have := Good.dropL (S := xs0.zip vs1) (R := T ++ rE (env.set i none) σ) (by simpa using gg)
      simpa using this)⟩
  · exact hp.elim
theorem s_reverse {i : Nat} {es : Exs} {x : Str} {px ap cp p : Pos} (S : SS Γ sc X) (hx : chkV Γ.N sc i x = true) (hl : (ap.endLine == cp.line) = true) (hes : es = .nil) :
    PS X (.Expr (.Call (.Attribute (.Name x px) "reverse" ap) [] [] cp) p) (tS Γ (.mth .reverse (.pv i) es)) := by
  have ip : PE X (.Name x px) (tVar i) := S.toXS.var hx
  subst hes
  refine PSmono (ps_expr (pe_bm0 F.plainAttrs_list F.slot_list_reverse F.type_list_reverse mt_reverse ip rfl hl) swaps_call) fun D σ H ⟨F, env, T, g, hp⟩ => ?_
  rw [S.K]
  unfold evS evs at hp
  split at hp
  · rename_i xs0 e1
    obtain ⟨v0, hv, _⟩ := g.take e1
    obtain ⟨p0, us, rfl, ha⟩ := getLst g e1 hv
    obtain ⟨env2, em, h2⟩ := FP.lift (nx := okN Γ D T) (rt := okRt Γ D T) hp
    have h2 : okN Γ D T env2 := h2
    obtain ⟨x1, x2, e2, e3, rfl⟩ := modP_some em
    rw [e1] at e2
    cases e2
    simp only [mmeth] at e3
    cases e3
    obtain ⟨p1, vs1, ep, ha1, hl1, k⟩ := ge_relist (R := []) (L := []) (ys := xs0.reverse) g e1 hv
    cases ep
    refine ⟨.ref p0, hv, .inl ⟨rfl, us, .of ha⟩, p0, vs1, rfl, rfl, ha1, h2 σ _ F (k _ (by simp [hl1]) fun gg => ?_)⟩
    refine gg.perm ?_
    refine List.Perm.append_right _ ?_
    have : xs0.reverse.zip vs1.reverse = (xs0.zip vs1).reverse := by
      rw [List.zip_eq_zipWith, List.zip_eq_zipWith, List.reverse_zipWith hl1]
    rw [this]
    exact (List.reverse_perm _).symm
  · exact hp.elim
end
end Z

set_option Elab.async false
set_option linter.all false
set_option maxRecDepth 100000
set_option maxHeartbeats 4000000
/-! Z19: loops; every statement that is looked at. -/
namespace Z
open PySem L2
section
variable {Γ : Ctx} {X : Cx} {sc : Scope} {D : Ends} {σ : L2.St} {H : Hp} {F : Addr → Prop} {T : List (PV × V)} {env : Env}
theorem s_for {t : Pat} {it : Z.It} {kill : List Nat} {body : Sts} {tg iter : Expr} {b : List Stmt} {p : Pos} (S : SS Γ sc X) (hm : ∀ p ∈ Γ.mv, p.1 ∉ patL t) (ht : chkT Γ.N sc t tg = true) (hi : PI X tg iter (tI Γ W0 it)) (hf : ∀ x, foldedSetIterable iter X.env x = pure x) (hb : PSs X b (tSs Γ body)) :
    PS X (.For tg iter b [] p) (tS Γ (.for t it kill body)) := by
  have hg : PG X tg (gPat Γ t) := pg_pat S.toXS (fun x hx => ⟨hx, .inl (S.fnT x)⟩) hm ht
  refine PSmono (ps_for S.own S.calm hi hg hb hf) fun D σ H ⟨F, env, T, g, hp⟩ => ?_
  unfold evS at hp
  refine ⟨F, env, T, g, hp.fl.imp (fun xs env1 h1 => ?_) fun _ _ z => ex0 z⟩
  intro J U H1 F1 g1 m1 fd
  refine for_it (G := fun H => ∃ σ F env T, Γ.ge σ H F env (U ++ T)) (Y := J.yld) (n := xs.length) ⟨fun i H hi ⟨σ, F, env, T, g⟩ => fd.goes i H F σ env T g hi, fun H ⟨σ, F, env, T, g⟩ => fd.stops H F σ env T g, fun i H x H' _ _ y => y⟩
    (fun i σ H => ∃ F env, Γ.ge σ H F env (U ++ T) ∧ FP (okN Γ D T) (okRt Γ D T) (loopF t kill (evSs Γ.tab body) (xs.drop i) env)) ⟨F1, kil env1 kill, g1.kil kill, h1⟩ ?_ ?_ ?_
  · rintro i σ H hi ⟨F, env, g, _⟩
    exact ⟨σ, F, env, T, g⟩
  · rintro i x σ H H' hi ⟨F, env, g, h⟩ y
    obtain ⟨z, F2, hz, g2, m2⟩ := fd.yields i H F _ _ _ x H' g hi y
    have hd : xs.drop i = z :: xs.drop (i + 1) := by
      obtain ⟨hi', e⟩ := List.getElem?_eq_some_iff.mp hz
      rw [← e, List.drop_eq_getElem_cons hi']
    rw [hd] at h
    unfold loopF at h
    cases hbp : bindP t z env with
    | none => rw [hbp] at h; exact h.elim
    | some e1 =>
      simp only [hbp] at h
      refine ⟨F2, env, U ++ T, z, e1, g2, hbp, fun σ2 g3 hw => ⟨F2, e1, U ++ T, g3, ?_⟩⟩
      cases eb : evSs Γ.tab body e1 with
      | nx e2 =>
        simp only [eb] at h
        exact fun σ' H' F' g' => ⟨F', kil e2 kill, g'.kil kill, h⟩
      | rt y e2 =>
        simp only [eb] at h
        exact fun v σ' H' F' g' => h v σ' H' F' (GE.dropL (U := U) (g'.perm List.perm_middle.symm))
      | exn => simp only [eb] at h; exact h.elim
      | bad => simp only [eb] at h; exact h.elim
  · rintro σ H ⟨F, env, g, h⟩
    rw [List.drop_length] at h
    unfold loopF at h
    exact h σ H F g.dropL
theorem s_whl {n : Nat} {c : Ex} {kill : List Nat} {body : Sts} {t : Expr} {b : List Stmt} {p : Pos} (S : SS Γ sc X) (hc : PT X t (tT Γ W0 c)) (hb : PSs X b (tSs Γ body)) : PS X (.While t b [] p) (tS Γ (.whl n c kill body)) := by
  refine PSmono (ps_while S.own hc hb) fun D σ H ⟨F, env, T, g, hp⟩ => ?_
  unfold evS at hp
  refine ⟨fun m σ H => ∃ F env, Γ.ge σ H F env T ∧ FP (okN Γ D T) (okRt Γ D T) (loopW (ev Γ.tab c) kill (evSs Γ.tab body) m env), ⟨n, F, kil env kill, g.kil kill, hp⟩, ?_⟩
  rintro m σ H ⟨F, env, g, h⟩
  cases m with
  | zero => unfold loopW at h; exact h.elim
  | succ m =>
    unfold loopW at h
    refine preT g h (fun x env1 h => ?_) fun k env1 H1 F1 g1 h1 => ?_
    · cases x <;> first | exact h.elim | exact ⟨_, rfl⟩
    · cases k with
      | false =>
        simp only [Bool.false_eq_true, if_false]
        exact h1 σ H1 F1 g1
      | true =>
        simp only [if_true]
        refine ⟨fun σ H => ∃ F env, Γ.ge σ H F env T ∧ FP (okN Γ D T) (okRt Γ D T) (loopW (ev Γ.tab c) kill (evSs Γ.tab body) m env), fun σ' H' q => ⟨m, Nat.lt_succ_self _, q⟩, F1, env1, T, g1, ?_⟩
        cases eb : evSs Γ.tab body env1 with
        | nx e2 =>
          simp only [eb] at h1
          exact fun σ' H' F' g' => ⟨F', kil e2 kill, g'.kil kill, h1⟩
        | rt y e2 => simp only [eb] at h1; exact h1
        | exn => simp only [eb] at h1; exact h1.elim
        | bad => simp only [eb] at h1; exact h1.elim

structure KA (Γ : Ctx) : Prop where
  kn : Kn Γ
  mm : ∀ p ∈ Γ.mv, p.1 ∈ Γ.M.mm
  fld : ∀ C Ca f n, Γ.tab.fld C f = true → Γ.G.cls C = some Ca → Γ.M.att f = some n → NoAttr Γ.G.K Ca n
theorem storeB_iff {N : List Str} {mm : List Nat} {i : Nat} {x : Str} (h : storeB N sc mm i x = true) : N[i]? = some x ∧ Loc sc x ∧ i ∉ mm := by
  unfold storeB at h
  simp only [Bool.and_eq_true, decide_eq_true_eq] at h
  exact ⟨isStr_iff.mp h.1.1, loc_of h.1.2, h.2⟩
theorem KA.ne (K : KA Γ) {i : Nat} (h : i ∉ Γ.M.mm) : ∀ p ∈ Γ.mv, p.1 ≠ i := fun p m e => h (e ▸ K.mm p m)
theorem s_setC (K : KA Γ) {i : Nat} {fr : Bool} {e : Ex} {x : Str} {py p : Pos} {v : Expr} (S : SS Γ sc X) (h1 : storeB Γ.N sc Γ.M.mm i x = true) (h2 : chkE Γ.M Γ.N sc e v = true) (h3 : (!swapsB sc v x py || isCom e) = true) : PS X (.Assign [.Name x py] v p) (tS Γ (.set i fr e)) := by
  obtain ⟨hi, hx, hm⟩ := storeB_iff h1
  by_cases hs : swapsB sc v x py = true
  · rw [hs] at h3
    simp only [Bool.not_true, Bool.false_or] at h3
    cases e <;> simp only [isCom] at h3 <;> (try (cases h3; done))
    rename_i elt own t it cond
    obtain ⟨y, tg, iter, ifs, scope, p', rfl, q1, q2, q3, q4, q5, q6, q7, q8⟩ := inv_com h2
    have hmo : ∀ p ∈ Γ.mv, p.1 ∉ own := fun p m e => by
      have := List.all_eq_true.mp q4 _ e
      exact absurd (K.mm p m) (by simpa using this)
    have ho : ∀ i ∈ patL t, i ∈ own := fun i hi => by simpa using List.all_eq_true.mp q5 i hi
    have jc : ∀ (s : Shared) (H : Hp) (C : Addr) (cl : List (Str × Addr)) (fp : List Addr), PTs (X.blk s H scope (compEnvC scope cl C X.env) fp) ifs (tCc Γ W0 cond) := fun s H C cl fp => by
      have sb : XS Γ (relS scope sc) (X.blk s H scope (compEnvC scope cl C X.env) fp) := XS.blk (scope := scope) (s := s) (H := H) (C := C) (cl := cl) (fp := fp) S.toXS
      exact c_ok K.kn K.mm cond sb q7
    have je : ∀ (s : Shared) (H : Hp) (C : Addr) (cl : List (Str × Addr)) (fp : List Addr), PE (X.blk s H scope (compEnvC scope cl C X.env) fp) y (tE Γ W0 elt) := fun s H C cl fp => by
      have sb : XS Γ (relS scope sc) (X.blk s H scope (compEnvC scope cl C X.env) fp) := XS.blk (scope := scope) (s := s) (H := H) (C := C) (cl := cl) (fp := fp) S.toXS
      exact (ex_ok K.kn K.mm elt sb q8).pe
    have ii : PI X tg iter (tI Γ W0 it) ∧ FoldOk iter X := i_ok K.kn K.mm it S.toXS q1
    exact s_setLc (ownL := ownOk Γ.N own) S hi (K.ne hm) hs q3 ho hmo q2 ii.1 ii.2 q6 jc je
  · exact s_set S hi hx (K.ne hm) (by simpa using hs) (ex_ok K.kn K.mm e S.toXS h2).pe
theorem isNil_of_chk {M : Nms} {N : List Str} {es : Exs} (h : chkEs M N sc es [] = true) : es = .nil := by
  cases es with
  | nil => rfl
  | cons => simp [chkEs] at h
end
section
variable {Γ : Ctx} {X : Cx} {sc : Scope}
theorem vIf_iff {x : Stmt} {r : Expr × List Stmt × List Stmt} (h : vIf x = some r) : ∃ p, x = .If r.1 r.2.1 r.2.2 p := by
  unfold vIf at h
  split at h <;> cases h
  exact ⟨_, rfl⟩
theorem vFor_iff {x : Stmt} {r : Expr × Expr × List Stmt} (h : vFor x = some r) : ∃ p, x = .For r.1 r.2.1 r.2.2 [] p := by
  unfold vFor at h
  split at h <;> cases h
  exact ⟨_, rfl⟩
theorem vWhl_iff {x : Stmt} {r : Expr × List Stmt} (h : vWhl x = some r) : ∃ p, x = .While r.1 r.2 [] p := by
  unfold vWhl at h
  split at h <;> cases h
  exact ⟨_, rfl⟩
theorem noPow_ne {o : BOp} (h : noPow o = true) : o ≠ .pow := of_decide_eq_true h
theorem l_set (K : KA Γ) {i : Nat} {fr : Bool} {e : Ex} {x : Stmt} (S : SS Γ sc X) (h : kSet Γ.M Γ.N sc Γ.M.mm i e x = true) : PS X x (tS Γ (.set i fr e)) := by
  unfold kSet at h
  split at h
  · simp only [Bool.and_eq_true] at h
    exact s_setC K S h.1.1 h.1.2 h.2
  · cases h
theorem l_unp (K : KA Γ) {is : List Nat} {e : Ex} {x : Stmt} (S : SS Γ sc X) (h : kUnp Γ.M Γ.N sc Γ.M.mm is e x = true) : PS X x (tS Γ (.unp is e)) := by
  unfold kUnp at h
  split at h
  · rw [Bool.and_eq_true, Bool.and_eq_true] at h
    exact s_unp S h.1.1 K.mm h.2 (ex_ok K.kn K.mm e S.toXS h.1.2).pe
  · cases h
theorem l_par (K : KA Γ) {is : List Nat} {es : Exs} {x : Stmt} (S : SS Γ sc X) (h : kPar Γ.M Γ.N sc Γ.M.mm is es x = true) : PS X x (tS Γ (.par is es)) := by
  unfold kPar at h
  split at h
  · simp only [Bool.and_eq_true, decide_eq_true_eq, Bool.not_eq_true'] at h
    obtain ⟨⟨⟨⟨⟨⟨⟨⟨q1, q2⟩, q3⟩, q4⟩, q5⟩, q6⟩, q7⟩, q8⟩, q9⟩ := h
    obtain ⟨hi, _, hmi⟩ := storeB_iff q1
    obtain ⟨hj, _, hmj⟩ := storeB_iff q2
    exact s_par2 S hi hj q3 q4 q5 (K.ne hmi) (K.ne hmj) q7 q8 q9 (chkEs_plain q6) (exs_ok K.kn K.mm es S.toXS q6)
  · cases h
theorem l_aug (K : KA Γ) {i : Nat} {o : BOp} {e : Ex} {x : Stmt} (S : SS Γ sc X) (h : kAug Γ.M Γ.N sc Γ.M.mm i o e x = true) : PS X x (tS Γ (.aug i o e)) := by
  unfold kAug at h
  split at h
  · simp only [Bool.and_eq_true] at h
    obtain ⟨hi, hx, hm⟩ := storeB_iff h.1.1.1
    exact s_aug S hi hx (K.ne hm) h.1.1.2 (noPow_ne h.1.2) (ex_ok K.kn K.mm e S.toXS h.2).pe
  · cases h
theorem l_seti (K : KA Γ) {q : Pl} {k e : Ex} {x : Stmt} (S : SS Γ sc X) (h : kSeti Γ.M Γ.N sc q k e x = true) : PS X x (tS Γ (.seti q k e)) := by
  unfold kSeti at h
  split at h
  · simp only [Bool.and_eq_true] at h
    exact s_seti S h.1.1.1 h.1.1.2 (ex_ok K.kn K.mm k S.toXS h.1.2).pe (ex_ok K.kn K.mm e S.toXS h.2).pe
  · cases h
theorem l_augi (K : KA Γ) {q : Pl} {k e : Ex} {o : BOp} {x : Stmt} (S : SS Γ sc X) (h : kAugi Γ.M Γ.N sc q k o e x = true) : PS X x (tS Γ (.augi q k o e)) := by
  unfold kAugi at h
  split at h
  · simp only [Bool.and_eq_true] at h
    obtain ⟨⟨⟨⟨⟨h1, h2⟩, h3⟩, h4⟩, h5⟩, h6⟩ := h
    exact s_augi S h1 h2 h4 (noPow_ne h5) (ex_ok K.kn K.mm k S.toXS h3).pe (ex_ok K.kn K.mm e S.toXS h6).pe
  · cases h
theorem l_setf (K : KA Γ) {q : Pl} {f : Nat} {e : Ex} {x : Stmt} (S : SS Γ sc X) (h : kSetf Γ.M Γ.N sc q f e x = true) : PS X x (tS Γ (.setf q f e)) := by
  unfold kSetf at h
  split at h
  · simp only [Bool.and_eq_true] at h
    exact s_setf S K.kn.toKn0 (fun C Ca n a b c => K.fld C Ca f n a b c) h.1.1 h.1.2 (ex_ok K.kn K.mm e S.toXS h.2).pe
  · cases h
theorem l_augf (K : KA Γ) {q : Pl} {f : Nat} {o : BOp} {e : Ex} {x : Stmt} (S : SS Γ sc X) (h : kAugf Γ.M Γ.N sc q f o e x = true) : PS X x (tS Γ (.augf q f o e)) := by
  unfold kAugf at h
  split at h
  · simp only [Bool.and_eq_true] at h
    obtain ⟨⟨⟨⟨h1, h2⟩, h3⟩, h4⟩, h5⟩ := h
    exact s_augf S K.kn.toKn0 (fun C Ca n a b c => K.fld C Ca f n a b c) h1 h2 h3 (noPow_ne h4) (ex_ok K.kn K.mm e S.toXS h5).pe
  · cases h
theorem l_mth (K : KA Γ) {q : Pl} {b : MM} {es : Exs} {x : Stmt} (S : SS Γ sc X) (h : kMth Γ.M Γ.N sc b q es x = true) : PS X x (tS Γ (.mth b q es)) := by
  unfold kMth at h
  split at h
  · rename_i vs _ _
    simp only [Bool.and_eq_true, decide_eq_true_eq] at h
    obtain ⟨⟨⟨⟨⟨⟨h1, h2⟩, h3⟩, h4⟩, h5⟩, h7⟩, h6⟩ := h
    have ia := exs_ok (W := W0) K.kn K.mm es S.toXS h6
    have hp := chkEs_plain h6
    subst h4
    cases b with
    | append =>
      cases vs with
      | nil => simp [MM.none0] at h5
      | cons v vs => exact s_append S h3 h1 h2 hp ia
    | insert =>
      cases vs with
      | nil => simp [MM.none0] at h5
      | cons v vs => exact s_insert S h3 h1 h2 hp ia
    | clear =>
      cases vs with
      | nil => exact s_clear S h3 h1 (isNil_of_chk h6)
      | cons => simp [MM.none0] at h5
    | reverse =>
      cases vs with
      | nil => exact s_reverse S h3 h1 (isNil_of_chk h6)
      | cons => simp [MM.none0] at h5
    | pop => simp [mmOk] at h7
  · cases h
theorem l_expr (K : KA Γ) {e : Ex} {x : Stmt} (S : SS Γ sc X) (h : kExpr Γ.M Γ.N sc e x = true) : PS X x (tS Γ (.expr e)) := by
  unfold kExpr at h
  split at h
  · exact s_expr (ex_ok K.kn K.mm e S.toXS h).pe swaps_call
  · cases h
theorem l_ret (K : KA Γ) {e : Ex} {x : Stmt} (S : SS Γ sc X) (h : kRet Γ.M Γ.N sc e x = true) : PS X x (tS Γ (.ret e)) := by
  unfold kRet at h
  split at h
  · exact s_ret (ex_ok K.kn K.mm e S.toXS h).pe
  · cases h
theorem l_retN {x : Stmt} (h : kRetN x = true) : PS X x (tS Γ .retN) := by
  unfold kRetN at h
  split at h
  · exact s_retN
  · cases h
theorem l_pass {x : Stmt} (h : kPass x = true) : PS X x (tS Γ .pass) := by
  unfold kPass at h
  split at h
  · exact s_pass
  · exact s_doc
  · cases h
mutual
theorem st_ok (K : KA Γ) : ∀ (s : Z.St) {x : Stmt}, SS Γ sc X → chkS Γ.M Γ.N sc Γ.M.mm s x = true → PS X x (tS Γ s)
  | .set i fr e, x, S, h => by unfold chkS at h; exact l_set K S h
  | .unp is e, x, S, h => by unfold chkS at h; exact l_unp K S h
  | .par is es, x, S, h => by unfold chkS at h; exact l_par K S h
  | .unps is k e, x, S, h => by unfold chkS at h; cases h
  | .aug i o e, x, S, h => by unfold chkS at h; exact l_aug K S h
  | .seti q k e, x, S, h => by unfold chkS at h; exact l_seti K S h
  | .augi q k o e, x, S, h => by unfold chkS at h; exact l_augi K S h
  | .setf q f e, x, S, h => by unfold chkS at h; exact l_setf K S h
  | .augf q f o e, x, S, h => by unfold chkS at h; exact l_augf K S h
  | .mth b q es, x, S, h => by unfold chkS at h; exact l_mth K S h
  | .expr e, x, S, h => by unfold chkS at h; exact l_expr K S h
  | .ret e, x, S, h => by unfold chkS at h; exact l_ret K S h
  | .retN, x, S, h => by unfold chkS at h; exact l_retN h
  | .ife c a b, x, S, h => by
    unfold chkS at h
    cases hv : vIf x with
    | none => simp only [hv] at h; cases h
    | some r =>
      simp only [hv, Bool.and_eq_true] at h
      obtain ⟨p, rfl⟩ := vIf_iff hv
      exact s_ife (ex_ok K.kn K.mm c S.toXS h.1.1).pt (sts_ok K a S h.1.2) (sts_ok K b S h.2)
  | .for t it kill body, x, S, h => by
    unfold chkS at h
    cases hv : vFor x with
    | none => simp only [hv] at h; cases h
    | some r =>
      simp only [hv, Bool.and_eq_true] at h
      obtain ⟨p, rfl⟩ := vFor_iff hv
      have ii : PI X r.1 r.2.1 (tI Γ W0 it) ∧ FoldOk r.2.1 X := i_ok K.kn K.mm it S.toXS h.1.1.1
      have hm : ∀ p ∈ Γ.mv, p.1 ∉ patL t := fun p m e => by
        have := List.all_eq_true.mp h.1.2 _ e
        exact absurd (K.mm p m) (by simpa using this)
      exact s_for S hm h.1.1.2 ii.1 ii.2 (sts_ok K body S h.2)
  | .whl n c kill body, x, S, h => by
    unfold chkS at h
    cases hv : vWhl x with
    | none => simp only [hv] at h; cases h
    | some r =>
      simp only [hv, Bool.and_eq_true] at h
      obtain ⟨p, rfl⟩ := vWhl_iff hv
      exact s_whl S (ex_ok K.kn K.mm c S.toXS h.1).pt (sts_ok K body S h.2)
  | .pass, x, S, h => by unfold chkS at h; exact l_pass h
  | .bad, x, S, h => s_bad
theorem sts_ok (K : KA Γ) : ∀ (ss : Sts) {xs : List Stmt}, SS Γ sc X → chkSs Γ.M Γ.N sc Γ.M.mm ss xs = true → PSs X xs (tSs Γ ss)
  | .nil, xs, S, h => by
    unfold chkSs at h
    cases xs with
    | nil => exact s_nil
    | cons => cases h
  | .cons s ss, xs, S, h => by
    unfold chkSs at h
    rw [Bool.or_eq_true] at h
    rcases h with h | h
    · rw [Bool.and_eq_true] at h
      obtain ⟨h1, h2⟩ := h
      cases s <;> first | (cases h1; done) | skip
      cases ss <;> first | (cases h2; done) | skip
      exact ss_bad
    · cases xs with
      | nil => cases h
      | cons x xs =>
        simp only [Bool.and_eq_true] at h
        exact s_cons (st_ok K s S h.1) (sts_ok K ss S h.2)
end
end
end Z

set_option Elab.async false
set_option linter.all false
set_option maxRecDepth 100000
/-! Z20: defs; the program. -/
namespace Z
open PySem L2

def mvL : Nat → List Bool → List V → List (Nat × V)
  | k, true :: bs, v :: vs => (k, v) :: mvL (k + 1) bs vs
  | k, false :: bs, _ :: vs => mvL (k + 1) bs vs
  | _, _, _ => []
def mmL : Nat → List Bool → List Nat
  | k, true :: bs => k :: mmL (k + 1) bs
  | k, false :: bs => mmL (k + 1) bs
  | _, [] => []
theorem mvL_mm : ∀ {k : Nat} {bs : List Bool} {vs : List V}, ∀ p ∈ mvL k bs vs, p.1 ∈ mmL k bs
  | k, [], vs, p, h => by simp [mvL] at h
  | k, true :: bs, [], p, h => by simp [mvL] at h
  | k, false :: bs, [], p, h => by simp [mvL] at h
  | k, true :: bs, v :: vs, p, h => by
    unfold mvL at h; unfold mmL
    rcases List.mem_cons.mp h with rfl | h
    · exact List.mem_cons_self
    · exact List.mem_cons_of_mem _ (mvL_mm p h)
  | k, false :: bs, v :: vs, p, h => by
    unfold mvL at h; unfold mmL
    exact mvL_mm p h
theorem mvL_get : ∀ {k : Nat} {bs : List Bool} {vs : List V}, ∀ p ∈ mvL k bs vs, k ≤ p.1 ∧ vs[p.1 - k]? = some p.2
  | k, [], vs, p, h => by simp [mvL] at h
  | k, true :: bs, [], p, h => by simp [mvL] at h
  | k, false :: bs, [], p, h => by simp [mvL] at h
  | k, true :: bs, v :: vs, p, h => by
    unfold mvL at h
    rcases List.mem_cons.mp h with rfl | h
    · exact ⟨Nat.le_refl _, by simp⟩
    · obtain ⟨h1, h2⟩ := mvL_get p h
      refine ⟨by omega, ?_⟩
      rw [show p.1 - k = (p.1 - (k + 1)) + 1 by omega]
      simpa using h2
  | k, false :: bs, v :: vs, p, h => by
    unfold mvL at h
    obtain ⟨h1, h2⟩ := mvL_get p h
    refine ⟨by omega, ?_⟩
    rw [show p.1 - k = (p.1 - (k + 1)) + 1 by omega]
    simpa using h2
theorem start_at {N : List Str} {vs : List V} {i : Nat} {v : V} (h : vs[i]? = some v) : (L2.start N vs)[i]? = some (some v) := by
  unfold L2.start
  obtain ⟨hi, e⟩ := List.getElem?_eq_some_iff.mp h
  rw [List.getElem?_append_left (by simpa using hi), List.getElem?_map, h]
  rfl
theorem rE_start : ∀ {xs : List PV} {vs : List V} {n : Nat}, xs.length = vs.length → rE (xs.map some ++ List.replicate n none) (vs.map some ++ List.replicate n none) = xs.zip vs ∧ WE (xs.map some ++ List.replicate n none) (vs.map some ++ List.replicate n none)
  | [], [], 0, _ => ⟨rfl, trivial⟩
  | [], [], n + 1, _ => by
    have := rE_start (xs := []) (vs := []) (n := n) rfl
    simp only [List.map_nil, List.nil_append, List.replicate_succ] at this ⊢
    exact ⟨by simp only [rE]; exact this.1, by simp only [WE]; exact this.2⟩
  | [], _ :: _, _, h => by simp at h
  | _ :: _, [], _, h => by simp at h
  | x :: xs, v :: vs, n, h => by
    have := rE_start (xs := xs) (vs := vs) (n := n) (by simpa using h)
    simp only [List.map_cons, List.cons_append, List.zip_cons_cons] at this ⊢
    exact ⟨by simp only [rE, this.1], by simp only [WE]; exact this.2⟩
theorem out_perm : ∀ {bs : List Bool} {env : Env} {σ : L2.St} {vs : List V} {ms : List PV} {k : Nat}, bs.length ≤ vs.length → WE env σ → outM bs env = some ms → (∀ p ∈ mvL k bs vs, σ[p.1 - k]? = some (some p.2)) → ∃ R, (rE env σ).Perm (ms.zip (mvB bs vs) ++ R)
  | [], env, σ, vs, ms, k, hl, w, h, hp => by
    unfold outM at h; cases h
    exact ⟨rE env σ, by simp⟩
  | true :: bs, [], σ, vs, ms, k, hl, w, h, hp => by simp [outM] at h
  | true :: bs, none :: env, σ, vs, ms, k, hl, w, h, hp => by simp [outM] at h
  | true :: bs, some x :: env, [], vs, ms, k, hl, w, h, hp => by simp [WE] at w
  | true :: bs, some x :: env, s :: σ, [], ms, k, hl, w, h, hp => by simp at hl
  | true :: bs, some x :: env, s :: σ, v :: vs, ms, k, hl, w, h, hp => by
    unfold outM at h
    cases e : outM bs env with
    | none => rw [e] at h; cases h
    | some ms' =>
      rw [e] at h; cases h
      have h0 := hp (k, v) (by unfold mvL; exact List.mem_cons_self)
      have es : s = some v := by simpa using h0
      subst es
      obtain ⟨R, hR⟩ := out_perm (k := k + 1) (vs := vs) (by simpa using hl) (by simpa [WE] using w) e fun p m => by
        have := hp p (by unfold mvL; exact List.mem_cons_of_mem _ m)
        have hk := (mvL_get p m).1
        rw [show p.1 - k = (p.1 - (k + 1)) + 1 by omega] at this
        simpa using this
      refine ⟨R, ?_⟩
      simp only [rE, mvB, List.zip_cons_cons, List.cons_append]
      exact hR.cons _
  | false :: bs, [], σ, vs, ms, k, hl, w, h, hp => by simp [outM] at h
  | false :: bs, o :: env, [], vs, ms, k, hl, w, h, hp => by cases o <;> simp [WE] at w
  | false :: bs, o :: env, s :: σ, [], ms, k, hl, w, h, hp => by simp at hl
  | false :: bs, o :: env, s :: σ, v :: vs, ms, k, hl, w, h, hp => by
    unfold outM at h
    have w' : WE env σ := by cases o <;> cases s <;> simpa [WE] using w
    obtain ⟨R, hR⟩ := out_perm (k := k + 1) (vs := vs) (by simpa using hl) w' h fun p m => by
      have := hp p (by unfold mvL; exact m)
      have hk := (mvL_get p m).1
      rw [show p.1 - k = (p.1 - (k + 1)) + 1 by omega] at this
      simpa using this
    cases o with
    | none =>
      refine ⟨R, ?_⟩
      simp only [rE, mvB]
      exact hR
    | some x =>
      cases s with
      | none => simp [WE] at w
      | some u =>
        refine ⟨(x, u) :: R, ?_⟩
        simp only [rE, mvB]
        exact (hR.cons _).trans List.perm_middle.symm
theorem okA_len : ∀ {bs : List Bool} {xs : List PV}, okA bs xs = true → bs.length = xs.length
  | [], [], _ => rfl
  | [], _ :: _, h => by simp [okA] at h
  | true :: bs, [], h => by simp [okA] at h
  | false :: bs, [], h => by simp [okA] at h
  | true :: bs, x :: xs, h => by simp only [okA] at h; simp [okA_len h]
  | false :: bs, x :: xs, h => by simp only [okA, Bool.and_eq_true] at h; simp [okA_len h.2]

/-! ### the module -/
/-- the def f stands at a -/
structure DfAt (K : PySem.W.Frag) (M : Nms) (Pr : Prog) (f : Nat) (a : Addr) (fd : FuncData) (ps : List Str) : Prop where
  ex : ∃ (d : Z.Def) (nm qual : Str) (st : Stmt) (N : List Str), Pr.defs[f]? = some d ∧ C8.Fun K nm qual st a fd ∧ ((M.pat f = none → Binds K fd ps []) ∧ ∀ np ks, M.pat f = some (np, ks) → KBinds K fd ps ks (gk np ks.length) (gk np ks.length)) ∧ FnScope N ps (C8.fnScope st) ∧ N.length = d.ns ∧ ps.length = d.np ∧
    chkSs { M with mm := mmL 0 d.mode } N (C8.fnScope st) (mmL 0 d.mode) d.body (C8.fnBody st) = true
structure Df (K : PySem.W.Frag) (M : Nms) (Pr : Prog) (f : Nat) (a : Addr) : Prop where
  ex : ∃ (fd : FuncData) (ps : List Str), DfAt K M Pr f a fd ps
structure Mo (P : Program) (w : World) (K : PySem.W.Frag) (mg : Str → Option Value) (base : Heap) (G : Txt) (M : Nms) (Pr : Prog) : Prop where
  GK : G.K = K
  blt : ∀ x ∈ builtinNames, mg x = none
  cls : ∀ C Ca, G.cls C = some Ca → Cls K Ca
  att : G.att = M.att
  inj : ∀ a b n, M.att a = some n → M.att b = some n → a = b
  glb : ∀ g x y, M.glb g = some x → Pr.glb g = some y → ∃ u v, mg x = some u ∧ RelV v u ∧ ∀ F H, Rep G F H y v []
  fld : ∀ C Ca f n, Pr.fld C f = true → G.cls C = some Ca → M.att f = some n → NoAttr K Ca n
  fn : ∀ f x, M.fn f = some x → ∃ a, mg x = some (.ref a) ∧ PySem.W.keepIn K (.ref a) = true ∧ Df K M Pr f a
  meth : ∀ C Ca m n f, G.cls C = some Ca → M.att m = some n → Pr.meth C m = some f → ∃ a, Meth K Ca n a ∧ Df K M Pr f a ∧ M.pat f = none
  init : ∀ C x f, M.cls C = some x → Pr.init C = some f → ∃ Ca a, G.cls C = some Ca ∧ mg x = some (.ref Ca) ∧ Mk K Ca a ∧ Df K M Pr f a ∧ M.pat f = none
section
variable {P : Program} {w : World} {K : PySem.W.Frag} {mg : Str → Option Value} {base : Heap} {G : Txt} {M : Nms} {Pr : Prog}
theorem kind_of {sc : Scope} {env : PySem.Env} (hs : env.scope = sc) (hk : sc.kind = .function) : env.blockKind = .function := by
  unfold Env.blockKind
  rw [hs, hk]
  rfl
theorem prog_okA (m : Mo P w K mg base G M Pr) : ∀ (n : Nat) (f : Nat) (a : Addr) (fd : FuncData) (ps : List Str), DfAt K M Pr f a fd ps → FnOk P w K mg base C8.CX0 (2 * n) a fd ps (spF G ((Pr.tab (callN Pr n)).mode f) (callN Pr n f))
  | 0, f, a, fd, ps, ⟨d, nm, qual, st, N, hd, F, hb, S, hN, hp, hc⟩ => by
    refine ⟨fun vs H Q E h => ?_, fun A outer s H args us vs Q E hr he hbi hv h => ?_⟩
    · obtain ⟨_, _, _, _, _, _, h⟩ := h
      unfold callN at h; exact h.elim
    · obtain ⟨_, _, _, _, _, _, h⟩ := h
      unfold callN at h; exact h.elim
  | n + 1, f, a, fd, ps, ⟨d, nm, qual, st, N, hd, F, hb, S, hN, hp, hc⟩ => by
    have ih : ∀ (f : Nat) (a : Addr), Df K M Pr f a → ∃ (fd : FuncData) (ps : List Str), FnOk P w K mg base C8.CX0 (2 * n) a fd ps (spF G ((Pr.tab (callN Pr n)).mode f) (callN Pr n f)) ∧ (M.pat f = none → Binds K fd ps []) ∧ ∀ np ks, M.pat f = some (np, ks) → KBinds K fd ps ks (gk np ks.length) (gk np ks.length) := fun f a ⟨fd, ps, q⟩ => by
      have q1 := prog_okA m n f a fd ps q
      obtain ⟨_, _, _, _, _, _, _, hb, _⟩ := q
      exact ⟨fd, ps, q1, hb⟩
    have hmode : (Pr.tab (callN Pr (n + 1))).mode f = d.mode := by
      show (match Pr.defs[f]? with | some d => d.mode | none => []) = d.mode
      rw [hd]
    have hsem : ∀ xs, callN Pr (n + 1) f xs = runD (Pr.tab (callN Pr n)) d xs := fun xs => by
      unfold callN
      rw [hd]
    rw [hmode]
    have e2 : 2 * (n + 1) = (2 * n + 1) + 1 := by omega
    rw [e2]
    refine C8.fn0 F S (fun vs H Q E h => ?_) fun cdv A outer s H vs Q E hr h => ?_
    · obtain ⟨F0, fA, xs, hl, ho, g, h⟩ := h
      rw [hsem] at h
      unfold runD at h
      by_cases c : okA d.mode xs = true ∧ d.mode.length = d.np ∧ d.np ≤ d.ns
      · rw [← hl, ← okA_len ho, c.2.1, hp]
      · rw [if_neg c] at h; exact h.elim
    · obtain ⟨F0, fA, xs, hl, ho, g, h⟩ := h
      rw [hsem] at h
      unfold runD at h
      by_cases c : okA d.mode xs = true ∧ d.mode.length = d.np ∧ d.np ≤ d.ns
      · rw [if_pos c] at h
        -- the def's context
        let Γ : Ctx := ⟨G, P, w, mg, base, { M with mm := mmL 0 d.mode }, Pr.tab (callN Pr n), 2 * n, N, ⟨F0, H, fA⟩, mvL 0 d.mode vs⟩
        have K1 : KA Γ := by
          refine ⟨⟨⟨m.blt, fun C Ca h => by show Cls G.K Ca; rw [m.GK]; exact m.cls C Ca h, m.att, m.inj, m.glb⟩, fun f x h => ?_, fun C Ca mm n' f h1 h2 h3 => ?_, fun C x f h1 h2 => ?_⟩, fun p hp => mvL_mm p hp, fun C Ca f n' h1 h2 h3 => by show NoAttr G.K Ca n'; rw [m.GK]; exact m.fld C Ca f n' h1 h2 h3⟩
          · obtain ⟨a, q1, q2, q3⟩ := m.fn f x h
            refine ⟨a, q1, by show PySem.W.keepIn G.K _ = true; rw [m.GK]; exact q2, ?_⟩
            obtain ⟨fd', ps', q4, q5, q6⟩ := ih f a q3
            exact ⟨fd', ps', by show FnOk P w G.K mg base C8.CX0 (2 * n) a fd' ps' _; rw [m.GK]; exact q4, fun z => by show Binds G.K fd' ps' []; rw [m.GK]; exact q5 z, fun np ks z => by show KBinds G.K fd' ps' ks _ _; rw [m.GK]; exact q6 np ks z⟩
          · obtain ⟨a, q1, q3, hpat⟩ := m.meth C Ca mm n' f h1 h2 h3
            refine ⟨a, by show Meth G.K Ca n' a; rw [m.GK]; exact q1, ?_, hpat⟩
            obtain ⟨fd', ps', q4, q5, q6⟩ := ih f a q3
            exact ⟨fd', ps', by show FnOk P w G.K mg base C8.CX0 (2 * n) a fd' ps' _; rw [m.GK]; exact q4, fun z => by show Binds G.K fd' ps' []; rw [m.GK]; exact q5 z, fun np ks z => by show KBinds G.K fd' ps' ks _ _; rw [m.GK]; exact q6 np ks z⟩
          · obtain ⟨Ca, a, q0, q1, q2, q3, hpat⟩ := m.init C x f h1 h2
            refine ⟨Ca, a, q0, q1, by show Mk G.K Ca a; rw [m.GK]; exact q2, ?_, hpat⟩
            obtain ⟨fd', ps', q4, q5, q6⟩ := ih f a q3
            exact ⟨fd', ps', by show FnOk P w G.K mg base C8.CX0 (2 * n) a fd' ps' _; rw [m.GK]; exact q4, fun z => by show Binds G.K fd' ps' []; rw [m.GK]; exact q5 z, fun np ks z => by show KBinds G.K fd' ps' ks _ _; rw [m.GK]; exact q6 np ks z⟩
        have SX : SS Γ (C8.fnScope st) (cxOf C8.CX0 P w K mg base N qual (C8.fnScope st) a cdv A outer s H E).nox := by
          refine ⟨⟨rfl, rfl, m.GK.symm, rfl, rfl, rfl, rfl, hr, rfl, S.nd⟩, fun _ => rfl, PassesOwn.never, kind_of rfl S.kind⟩
        refine ⟨_, sts_ok K1 d.body SX hc, ?_⟩
        have hlen : d.ns - d.np = N.length - vs.length := by
          have := okA_len ho
          have := c.2.1
          omega
        obtain ⟨q1, q2⟩ := rE_start (xs := xs) (vs := vs) (n := d.ns - d.np) hl
        have hst : L2.start N vs = vs.map some ++ List.replicate (d.ns - d.np) none := by
          unfold L2.start; rw [hlen]
        have g0 : Γ.ge (L2.start N vs) H F0 (xs.map some ++ List.replicate (d.ns - d.np) none) [] := by
          refine ⟨?_, ?_, fun p hp => ?_⟩
          · rw [hst, q1]; exact g
          · rw [hst]; exact q2
          · have := (mvL_get p hp).2
            exact start_at (by simpa using this)
        refine ⟨F0, _, [], g0, ?_⟩
        -- behind the body
        have fin : ∀ {y : PV} {v : V} {σ' : L2.St} {H' : Hp} {F' : Addr → Prop} {env' : Env} {ms : List PV}, Γ.ge σ' H' F' env' [(y, v)] → outM d.mode env' = some ms → Good G ⟨F0, H, fA⟩ H' F' [] ((y, v) :: ms.zip (mvB d.mode vs)) := fun {y v σ' H' F' env' ms} g ho' => by
          obtain ⟨R, hR⟩ := out_perm (k := 0) (vs := vs) (by have := okA_len ho; omega) g.we ho' fun p hp => by simpa using g.pin p hp
          have g1 : Good G ⟨F0, H, fA⟩ H' F' [] ((y, v) :: rE env' σ') := g.good
          have g2 := g1.perm (hR.cons (y, v))
          have g3 : Good G ⟨F0, H, fA⟩ H' F' [] (R ++ ((y, v) :: ms.zip (mvB d.mode vs))) := g2.perm (by
            have : ((y, v) :: (ms.zip (mvB d.mode vs) ++ R)) = ((y, v) :: ms.zip (mvB d.mode vs)) ++ R := rfl
            rw [this]
            exact List.perm_append_comm)
          exact g3.dropL
        cases eb : evSs (Pr.tab (callN Pr n)) d.body (xs.map some ++ List.replicate (d.ns - d.np) none) with
        | bad => rw [eb] at h; exact h.elim
        | exn x env =>
          rw [eb] at h
          cases eo : outM d.mode env with
          | none => simp only [eo] at h
          | some ms => simp only [eo] at h
        | nx env =>
          rw [eb] at h
          cases eo : outM d.mode env with
          | none => simp only [eo] at h
          | some ms =>
            simp only [eo] at h
            intro σ' H' F' g'
            exact h .non H' F' (fin (g'.push mk_non) eo)
        | rt y env =>
          rw [eb] at h
          cases eo : outM d.mode env with
          | none => simp only [eo] at h
          | some ms =>
            simp only [eo] at h
            intro v σ' H' F' g'
            exact h v H' F' (fin g' eo)
      · rw [if_neg c] at h; exact h.elim
theorem kb_of {K : PySem.W.Frag} {fd : FuncData} {ps ks : List Str} {np : Nat} (hn : np + ks.length = ps.length) (h0 : 0 < ps.length) (h : ∀ us ws : List Value, us.length = np → ws.length = ks.length → bindArgs fd ⟨us, ks.zip ws⟩ = pure (ps.zip (us ++ ws))) : KBinds K fd ps ks (gk np ks.length) (gk np ks.length) := by
  refine ⟨fun s us ws _ hl => ?_, fun {vs us zs ws} r1 r2 => ?_⟩
  · by_cases c : us.length = np ∧ ws.length = ks.length
    · have e : gk np ks.length us ws = us ++ ws := by unfold gk; rw [if_pos c]
      rw [e]
      exact .of_eq (h us ws c.1 c.2)
    · unfold gk at hl
      rw [if_neg c] at hl
      simp at hl; omega
  · have l1 := r1.length
    have l2 := r2.length
    unfold gk
    rw [l1, l2]
    split
    · exact r1.append r2
    · exact .nil
end
end Z

set_option Elab.async false
set_option linter.all false
set_option maxRecDepth 100000
/-! Z21: the end of a law. -/
namespace Z
open PySem L2

theorem mem_of_lookup {α : Type} : ∀ {l : List (Nat × α)} {f : Nat} {x : α}, l.lookup f = some x → (f, x) ∈ l
  | [], f, x, h => by simp at h
  | (g, y) :: l, f, x, h => by
    rw [List.lookup_cons] at h
    by_cases e : f = g
    · subst e
      simp at h; subst h
      exact List.mem_cons_self
    · have : (f == g) = false := by simpa using e
      rw [this] at h
      exact List.mem_cons_of_mem _ (mem_of_lookup h)
theorem inj_lookup {l : List (Nat × Str)} (h : (l.map (·.2)).Nodup) (a b : Nat) (n : Str) (h1 : l.lookup a = some n) (h2 : l.lookup b = some n) : a = b := by
  have m1 := mem_of_lookup h1
  have m2 := mem_of_lookup h2
  clear h1 h2
  induction l with
  | nil => simp at m1
  | cons p l ih =>
    rw [List.map_cons, List.nodup_cons] at h
    rcases List.mem_cons.mp m1 with e1 | m1
    · rcases List.mem_cons.mp m2 with e2 | m2
      · rw [← e1] at e2; exact (congrArg Prod.fst e2).symm
      · exact absurd (List.mem_map_of_mem (f := (·.2)) m2) (by rw [← e1] at h; exact h.1)
    · rcases List.mem_cons.mp m2 with e2 | m2
      · exact absurd (List.mem_map_of_mem (f := (·.2)) m1) (by rw [← e2] at h; exact h.1)
      · exact ih h.2 m1 m2
/-- the law's promise: a list of whole numbers is handed in, True comes out -/
def spLaw (K : PySem.W.Frag) : Sp := fun vs H Q _ => ∃ (a : Addr) (ns : List Int), vs = [.ref a] ∧ ns.length ≤ 63 ∧ Only H ∧ SqL K H a (ns.map V.int) ∧ ∀ H', Q (.bl true) H'
theorem spLaw_spF {K : PySem.W.Frag} {G : Txt} {sem : List PV → RC} (hG : G.K = K) (hp : ∀ ns : List Int, ns.length ≤ 63 → ∃ ms, sem [.scr ns] = .ret (.bl true) ms) : ∀ vs H Q E, spLaw K vs H Q E → spF G [false] sem vs H Q E := by
  rintro vs H Q E ⟨a, ns, rfl, hl, hO, hs, q⟩
  subst hG
  obtain ⟨ms, e⟩ := hp ns hl
  refine ⟨fun b => H b ≠ none, [], [.scr ns], rfl, rfl, ?_, ?_⟩
  · refine ⟨⟨[], ⟨[], [], rfl, ?_, rfl⟩, by simp, Stp.refl⟩, (fun _ h => nomatch h), fun _ h => h⟩
    unfold Rep
    refine ⟨a, rfl, ?_, rfl⟩
    rcases hs with (hs | ⟨o, hs⟩) | hs
    · rcases hO a with h | ⟨o, xs, h⟩
      · rw [h] at hs; cases hs
      · rw [h] at hs; cases hs
    · exact .inl ⟨o, hs, by rw [hs]; simp⟩
    · exact .inr hs
  · rw [e]
    intro v H' F' g
    obtain ⟨f, r⟩ := Good.rep (x := .bl true) (v := v) g
    rw [rep_bl r]
    exact q H'
/-- the law's def keeps its promise -/
theorem law_ok {P : Program} {w : World} {K : PySem.W.Frag} {mg : Str → Option Value} {base : Heap} {G : Txt} {M : Nms} {Pr : Prog} {n f : Nat} {a : Addr} {d : Z.Def} {fd : FuncData} {ps : List Str} (m : Mo P w K mg base G M Pr) (D : DfAt K M Pr f a fd ps) (hd : Pr.defs[f]? = some d) (hm : d.mode = [false]) (hp : ∀ ns : List Int, ns.length ≤ 63 → ∃ ms, callN Pr n f [.scr ns] = .ret (.bl true) ms) :
    FnOk P w K mg base C8.CX0 (2 * n) a fd ps (spLaw K) := by
  have FO := prog_okA m n f a fd ps D
  refine FO.imp fun vs H Q E h => ?_
  have e : (Pr.tab (callN Pr n)).mode f = [false] := by
    show (match Pr.defs[f]? with | some d => d.mode | none => []) = _
    rw [hd]; exact hm
  rw [e]
  exact spLaw_spF m.GK hp vs H Q E h
/-- from the law's promise to the goal that k_head leaves -/
theorem walk_z {l : PySem.W.OpenLaw} {k : Nat} {q : Program} {loose : List Str} {XP : (Str → Option Value) → Heap → Prop} {YP : World → Heap → Prop} {d : DefRec} {K : Params → PySem.W.Frag} {x : Str} (hn : l.most = some 63) (hdf : d.params.defaults = [])
    (hr : Room k callerA) (hY : ∀ (w : World) (h : Heap), YP w h → (K w.params).In h)
    (F : ∀ (w : World) (mg : Str → Option Value) (fa : Addr) (h : Heap), (K w.params).In h → h.Ns mainGlobals mg → mg d.name = some (.ref fa) →
      ∃ fd : FuncData, (∀ (s : Shared) (u : Value), BindsTo s fd ⟨[u], []⟩ [(x, u)]) ∧ ∀ base : Heap, (K w.params).In base → base.Ns mainGlobals mg → FnOk l.prog w (K w.params) mg base C8.CX0 k fa fd [x] (spLaw (K w.params))) :
    PySem.W.WalkO q loose XP YP l.row.toRowW d [] (fun f vs => PySem.call f vs) :=
  L2.walk_of (n := 63) (k := k) (x := x) (CX := fun _ => C8.CX0) (sp := fun w => spLaw (K w.params)) hn (by rw [sizeLine_eq]; decide) hdf hr hY F (fun _ _ a ns hl hO hS => ⟨a, ns, rfl, hl, hO, hS, fun _ => rfl⟩) fun _ _ _ _ _ z => z
end Z

set_option Elab.async false
set_option linter.all false
set_option maxRecDepth 100000
/-! E0: the evaluator's equations, for reading a def. -/
namespace Z
open PySem
theorem at_z (o : Option PV) (env : Env) : Env.at (o :: env) 0 = o := by cases o <;> rfl
theorem at_s (o : Option PV) (env : Env) (n : Nat) : Env.at (o :: env) (n + 1) = Env.at env n := by simp [Env.at]
def evVar (o : Option PV) (env : Env) (i : Nat) : Res PV := match o with
  | some x => .ok x.fz (if x.frz then env else env.set i (some x.fz))
  | none => .bad
def evMv (o : Option PV) (env : Env) (i : Nat) : Res PV := match o with
  | some x => .ok x (env.set i none)
  | none => .bad
theorem ev_var (T : Tab) (i : Nat) (env : Env) : ev T (.var i) env = evVar (env.at i) env i := by
  conv => lhs; unfold ev
  cases env.at i <;> rfl
theorem ev_mv (T : Tab) (i : Nat) (env : Env) : ev T (.mv i) env = evMv (env.at i) env i := by
  conv => lhs; unfold ev
  cases env.at i <;> rfl
theorem evVar_some (x : PV) (env : Env) (i : Nat) : evVar (some x) env i = .ok x.fz (if x.frz then env else env.set i (some x.fz)) := of_eq_true (eq_true rfl)
theorem evMv_some (x : PV) (env : Env) (i : Nat) : evMv (some x) env i = .ok x (env.set i none) := of_eq_true (eq_true rfl)
theorem bind_ok {α β : Type} (a : α) (env : Env) (k : α → Env → Res β) : Res.bind (.ok a env) k = k a env := of_eq_true (eq_true rfl)
theorem fl_ok {α : Type} (a : α) (env : Env) (k : α → Env → Fl) : Res.fl (.ok a env) k = k a env := of_eq_true (eq_true rfl)
theorem lift_some {α : Type} (a : α) (env : Env) : lift (some a) env = .ok a env := of_eq_true (eq_true rfl)
theorem liftF_some {α : Type} (a : α) (k : α → Fl) : liftF (some a) k = k a := of_eq_true (eq_true rfl)
theorem frz_int (a : Int) : (PV.int a).frz = true := by unfold PV.frz; rfl
theorem fz_int (a : Int) : (PV.int a).fz = .int a := by unfold PV.fz; rfl
theorem frz_bl (a : Bool) : (PV.bl a).frz = true := by unfold PV.frz; rfl
theorem fz_bl (a : Bool) : (PV.bl a).fz = .bl a := by unfold PV.fz; rfl
theorem binop_int (o : BOp) (i j : Int) : binop o (.int i) (.int j) = (binI o i j).map .int := by unfold binop; rfl
theorem ev_cint (T : Tab) (n : Int) (env : Env) : ev T (.cint n) env = .ok (.int n) env := by conv => lhs; unfold ev
theorem ev_bin (T : Tab) (o : BOp) (a b : Ex) (env : Env) : ev T (.bin o a b) env = (ev T a env).bind fun x env => (ev T b env).bind fun y env => lift (binop o x y) env := by conv => lhs; unfold ev
theorem ev_cmp (T : Tab) (o : COp) (a b : Ex) (env : Env) : ev T (.cmp o a b) env = (ev T a env).bind fun x env => (ev T b env).bind fun y env => lift ((cmpop o x y).map .bl) env := by conv => lhs; unfold ev
theorem evS_set (T : Tab) (i : Nat) (fr : Bool) (e : Ex) (env : Env) : evS T (.set i fr e) env = (ev T e env).fl fun x env => .nx (env.set i (some (if fr then x.fz else x))) := by conv => lhs; unfold evS
theorem evS_ret (T : Tab) (e : Ex) (env : Env) : evS T (.ret e) env = (ev T e env).fl fun x env => .rt x env := by conv => lhs; unfold evS
theorem evSs_nil (T : Tab) (env : Env) : evSs T .nil env = .nx env := by unfold evSs; rfl
def nxt (r : Fl) (k : Env → Fl) : Fl := match r with
  | .nx env => k env
  | r => r
theorem nxt_nx (env : Env) (k : Env → Fl) : nxt (.nx env) k = k env := of_eq_true (eq_true rfl)
theorem nxt_rt (y : PV) (env : Env) (k : Env → Fl) : nxt (.rt y env) k = .rt y env := of_eq_true (eq_true rfl)
theorem evSs_cons (T : Tab) (s : Z.St) (ss : Sts) (env : Env) : evSs T (.cons s ss) env = nxt (evS T s env) (evSs T ss) := by
  conv => lhs; unfold evSs
  cases evS T s env <;> rfl
def onP (o : Option Env) (k : Env → Fl) : Fl := match o with
  | some e => k e
  | none => .bad
theorem onP_some (e : Env) (k : Env → Fl) : onP (some e) k = k e := of_eq_true (eq_true rfl)
theorem loopF_nil (t : Pat) (k : List Nat) (b : Env → Fl) (env : Env) : loopF t k b [] env = .nx env := of_eq_true (eq_true rfl)
theorem loopF_cons (t : Pat) (k : List Nat) (b : Env → Fl) (x : PV) (xs : List PV) (env : Env) : loopF t k b (x :: xs) env = onP (bindP t x env) fun e1 => nxt (b e1) fun e2 => loopF t k b xs (kil e2 k) := by
  conv => lhs; unfold loopF
  cases bindP t x env with
  | none => rfl
  | some e1 =>
    show (match b e1 with | .nx e2 => _ | r => r) = nxt (b e1) _
    cases b e1 <;> rfl
theorem bindP_one (i : Nat) (x : PV) (env : Env) : bindP (.one i) x env = some (env.set i (some x)) := of_eq_true (eq_true rfl)
theorem kil_nil (env : Env) : kil env [] = env := of_eq_true (eq_true rfl)
theorem kil_cons (env : Env) (i : Nat) (is : List Nat) : kil env (i :: is) = kil (env.set i none) is := of_eq_true (eq_true rfl)
theorem binI_add (i j : Int) : binI .add i j = some (i + j) := of_eq_true (eq_true rfl)
theorem binI_sub (i j : Int) : binI .sub i j = some (i - j) := of_eq_true (eq_true rfl)
theorem binI_bxor (i j : Int) : binI .bxor i j = some (Builtin.bitXor i j) := of_eq_true (eq_true rfl)
theorem binI_band (i j : Int) : binI .band i j = some (Builtin.bitAnd i j) := of_eq_true (eq_true rfl)
def onI {α : Type} (x : PV) (k : Int → Res α) : Res α := match x with
  | .int i => k i
  | _ => .bad
theorem onI_int {α : Type} (i : Int) (k : Int → Res α) : onI (.int i) k = k i := of_eq_true (eq_true rfl)
def onB {α : Type} (x : PV) (k : Bool → Res α) : Res α := match x with
  | .bl i => k i
  | _ => .bad
theorem onB_bl {α : Type} (i : Bool) (k : Bool → Res α) : onB (.bl i) k = k i := of_eq_true (eq_true rfl)
def onBF (x : PV) (k : Bool → Fl) : Fl := match x with
  | .bl i => k i
  | _ => .bad
theorem onBF_bl (i : Bool) (k : Bool → Fl) : onBF (.bl i) k = k i := of_eq_true (eq_true rfl)
theorem ev_cbool (T : Tab) (n : Bool) (env : Env) : ev T (.cbool n) env = .ok (.bl n) env := by conv => lhs; unfold ev
theorem ev_cnon (T : Tab) (env : Env) : ev T .cnon env = .ok .non env := by conv => lhs; unfold ev
theorem ev_cstr (T : Tab) (n : Str) (env : Env) : ev T (.cstr n) env = .ok (.str n) env := by conv => lhs; unfold ev
theorem ev_glb (T : Tab) (g : Nat) (env : Env) : ev T (.glb g) env = lift (T.glb g) env := by conv => lhs; unfold ev
theorem ev_neg (T : Tab) (a : Ex) (env : Env) : ev T (.neg a) env = (ev T a env).bind fun x env => onI x fun i => .ok (.int (-i)) env := by
  conv => lhs; unfold ev
  first | (congr 1; done) | (congr 1; funext x env; cases x <;> rfl)
theorem ev_one (T : Tab) (a : Ex) (env : Env) : ev T (.one a) env = ev T a env := by conv => lhs; unfold ev
theorem ev_and (T : Tab) (a b : Ex) (env : Env) : ev T (.and a b) env = (ev T a env).bind fun x env => onB x fun c => if c = true then ev T b env else .ok (.bl false) env := by
  conv => lhs; unfold ev
  congr 1; funext x env; cases x <;> try rfl
  rename_i c; cases c <;> rfl
theorem ev_or (T : Tab) (a b : Ex) (env : Env) : ev T (.or a b) env = (ev T a env).bind fun x env => onB x fun c => if c = true then .ok (.bl true) env else ev T b env := by
  conv => lhs; unfold ev
  congr 1; funext x env; cases x <;> try rfl
  rename_i c; cases c <;> rfl
theorem ev_not (T : Tab) (a : Ex) (env : Env) : ev T (.not a) env = (ev T a env).bind fun x env => onB x fun c => .ok (.bl (!c)) env := by
  conv => lhs; unfold ev
  first | (congr 1; done) | (congr 1; funext x env; cases x <;> rfl)
theorem ev_ife (T : Tab) (c a b : Ex) (env : Env) : ev T (.ife c a b) env = (ev T c env).bind fun x env => onB x fun k => if k = true then ev T a env else ev T b env := by
  conv => lhs; unfold ev
  congr 1; funext x env; cases x <;> try rfl
  rename_i c; cases c <;> rfl
theorem ev_lst (T : Tab) (es : Exs) (env : Env) : ev T (.lst es) env = (evs T es env).bind fun xs env => .ok (.lst true xs) env := by conv => lhs; unfold ev
theorem ev_tup (T : Tab) (es : Exs) (env : Env) : ev T (.tup es) env = (evs T es env).bind fun xs env => .ok (.tup xs) env := by conv => lhs; unfold ev
theorem ev_dct0 (T : Tab) (env : Env) : ev T .dct0 env = .ok (.dic true [] []) env := by conv => lhs; unfold ev
theorem ev_idx (T : Tab) (a i : Ex) (env : Env) : ev T (.idx a i) env = (ev T a env).bind fun x env => (ev T i env).bind fun y env => lift (item x.fz y) env := by conv => lhs; unfold ev
theorem ev_slc (T : Tab) (a : Ex) (lo hi : OEx) (env : Env) : ev T (.slc a lo hi) env = (ev T a env).bind fun x env => (evo T lo env).bind fun l env => (evo T hi env).bind fun h env => lift (slice x l h) env := by conv => lhs; unfold ev
theorem ev_rev (T : Tab) (a : Ex) (env : Env) : ev T (.rev a) env = (ev T a env).bind fun x env => lift (revP x) env := by conv => lhs; unfold ev
theorem evs_nil (T : Tab) (env : Env) : evs T .nil env = .ok [] env := by conv => lhs; unfold evs
theorem evs_cons (T : Tab) (e : Ex) (es : Exs) (env : Env) : evs T (.cons e es) env = (ev T e env).bind fun x env => (evs T es env).bind fun xs env => .ok (x :: xs) env := by conv => lhs; unfold evs
theorem evo_no (T : Tab) (env : Env) : evo T .no env = .ok none env := by conv => lhs; unfold evo
theorem evo_so (T : Tab) (e : Ex) (env : Env) : evo T (.so e) env = (ev T e env).bind fun x env => onI x fun i => .ok (some i) env := by
  conv => lhs; unfold evo
  first | (congr 1; done) | (congr 1; funext x env; cases x <;> rfl)
theorem evc_no (T : Tab) (env : Env) : evc T .no env = .ok (.bl true) env := by conv => lhs; unfold evc
theorem evc_so (T : Tab) (e : Ex) (env : Env) : evc T (.so e) env = ev T e env := by conv => lhs; unfold evc
theorem ev_call (T : Tab) (f : Nat) (es ks : Exs) (env : Env) : ev T (.call f es ks) env = (evs T es env).bind fun xs env => (evs T ks env).bind fun zs env => callX T f (kinds es ++ kinds ks) (xs ++ zs) env := by conv => lhs; unfold ev
theorem ev_bf (T : Tab) (b : BF) (es : Exs) (env : Env) : ev T (.bf b es) env = (evs T es env).bind fun xs env => lift (bfun b xs) env := by conv => lhs; unfold ev
theorem ev_bm (T : Tab) (b : BM) (a : Ex) (es : Exs) (env : Env) : ev T (.bm b a es) env = (ev T a env).bind fun x env => (evs T es env).bind fun xs env => lift (bmeth b x xs) env := by conv => lhs; unfold ev
theorem ev_com (T : Tab) (elt : Ex) (own : List Nat) (t : Pat) (it : Z.It) (cond : OEx) (env : Env) : ev T (.com elt own t it cond) env = (evI T it env).bind fun xs env => (loopC own t (evc T cond) (ev T elt) xs [] (kil env own)).bind fun ys e2 => .ok (.lst true ys) (kil e2 own) := by conv => lhs; unfold ev
theorem evI_val (T : Tab) (e : Ex) (env : Env) : evI T (.val e) env = (ev T e env).bind fun x env => lift (itemsOf x.fz) env := by conv => lhs; unfold evI
theorem evI_enum (T : Tab) (e : Ex) (env : Env) : evI T (.enum e) env = (ev T e env).bind fun x env => lift ((itemsOf x.fz).map fun xs => xs.zipIdx.map fun p => .tup [.int (p.2 : Nat), p.1]) env := by conv => lhs; unfold evI
theorem evI_rng1 (T : Tab) (e : Ex) (env : Env) : evI T (.rng1 e) env = (ev T e env).bind fun x env => onI x fun j => if okR j = true then .ok (rngs 0 j.toNat) env else .bad := by
  conv => lhs; unfold evI
  first | (congr 1; done) | (congr 1; funext x env; cases x <;> rfl)
theorem evS_ife (T : Tab) (c : Ex) (a b : Sts) (env : Env) : evS T (.ife c a b) env = (ev T c env).fl fun x env => onBF x fun k => if k = true then evSs T a env else evSs T b env := by
  conv => lhs; unfold evS
  congr 1; funext x env; cases x <;> try rfl
  rename_i c; cases c <;> rfl
theorem evS_for (T : Tab) (t : Pat) (it : Z.It) (kill : List Nat) (body : Sts) (env : Env) : evS T (.for t it kill body) env = (evI T it env).fl fun xs env => loopF t kill (evSs T body) xs (kil env kill) := by conv => lhs; unfold evS
theorem evS_par (T : Tab) (is : List Nat) (es : Exs) (env : Env) : evS T (.par is es) env = (evs T es env).fl fun xs env => liftF (setAll is xs env) .nx := by conv => lhs; unfold evS
theorem evS_expr (T : Tab) (e : Ex) (env : Env) : evS T (.expr e) env = (ev T e env).fl fun _ env => .nx env := by conv => lhs; unfold evS
/-- a comprehension's turn -/
theorem loopC_nil (own : List Nat) (t : Pat) (c e : Env → Res PV) (acc : List PV) (env : Env) : loopC own t c e [] acc env = .ok acc env := of_eq_true (eq_true rfl)
def onPR {α : Type} (o : Option Env) (k : Env → Res α) : Res α := match o with
  | some e => k e
  | none => .bad
theorem onPR_some {α : Type} (e : Env) (k : Env → Res α) : onPR (some e) k = k e := of_eq_true (eq_true rfl)
theorem loopC_cons (own : List Nat) (t : Pat) (c e : Env → Res PV) (x : PV) (xs acc : List PV) (env : Env) : loopC own t c e (x :: xs) acc env = onPR (bindP t x env) fun e1 => (c e1).bind fun b e2 => onB b fun k =>
    if k = true then (e e2).bind fun y e3 => if acc.length < lineB then loopC own t c e xs (acc ++ [y]) (kil e3 own) else .bad else loopC own t c e xs acc (kil e2 own) := by
  conv => lhs; unfold loopC
  cases bindP t x env with
  | none => rfl
  | some e1 =>
    show Res.bind _ _ = Res.bind _ _
    congr 1; funext b e2; cases b <;> try rfl
    rename_i k; cases k <;> rfl
theorem runD_rt {T : Tab} {d : Z.Def} {args : List PV} {env : Env} {y : PV} {ms : List PV} (h1 : okA d.mode args = true) (h2 : d.mode.length = d.np) (h3 : d.np ≤ d.ns) (h : evSs T d.body (args.map some ++ List.replicate (d.ns - d.np) none) = .rt y env) (h4 : outM d.mode env = some ms) : runD T d args = .ret y ms := by
  unfold runD
  rw [if_pos ⟨h1, h2, h3⟩, h]
  simp only [h4]
theorem runD_nx {T : Tab} {d : Z.Def} {args : List PV} {env : Env} {ms : List PV} (h1 : okA d.mode args = true) (h2 : d.mode.length = d.np) (h3 : d.np ≤ d.ns) (h : evSs T d.body (args.map some ++ List.replicate (d.ns - d.np) none) = .nx env) (h4 : outM d.mode env = some ms) : runD T d args = .ret .non ms := by
  unfold runD
  rw [if_pos ⟨h1, h2, h3⟩, h]
  simp only [h4]
theorem callN_succ {P : Prog} {n f : Nat} {d : Z.Def} {args : List PV} (h : P.defs[f]? = some d) : callN P (n + 1) f args = runD (P.tab (callN P n)) d args := by
  show (match P.defs[f]? with | some d => runD (P.tab (callN P n)) d args | none => .bad) = _
  rw [h]
theorem fillM_none : ∀ (xs : List PV) (env : Env), fillM (List.replicate xs.length none) xs env = some (xs.map PV.fz)
  | [], env => rfl
  | x :: xs, env => by
    show (fillM (List.replicate xs.length none) xs env).map (x.fz :: ·) = _
    rw [fillM_none xs env]; rfl
theorem modesOf_none : ∀ n, modesOf (List.replicate n none) = List.replicate n false
  | 0 => rfl
  | n + 1 => by
    rw [List.replicate_succ, List.replicate_succ]
    show (false :: modesOf _) = _
    rw [modesOf_none n]
theorem outK_none : ∀ n (env : Env), outK (List.replicate n none) env = env
  | 0, env => rfl
  | n + 1, env => by rw [List.replicate_succ]; exact outK_none n env
theorem backM_none : ∀ n (env : Env), backM (List.replicate n none) [] env = some env
  | 0, env => rfl
  | n + 1, env => by rw [List.replicate_succ]; exact backM_none n env
/-- a call none of whose arguments is handed to be changed -/
theorem callX_none {T : Tab} {f : Nat} {xs : List PV} {env : Env} {y : PV} (hm : T.mode f = List.replicate xs.length false) (h : T.fn f (xs.map PV.fz) = .ret y []) : callX T f (List.replicate xs.length none) xs env = .ok y env := by
  unfold callX
  rw [modesOf_none, if_pos hm, fillM_none]
  simp only [h, RC.res, outK_none, backM_none]
theorem frzL_ints : ∀ xs : List Int, frzL (xs.map PV.int) = true
  | [] => rfl
  | x :: xs => by rw [List.map_cons]; unfold frzL; rw [frz_int, frzL_ints xs]; rfl
theorem frz_lints (xs : List Int) : (PV.lst false (xs.map PV.int)).frz = true := by unfold PV.frz; rw [frzL_ints]; rfl
theorem fz_lints (xs : List Int) : (PV.lst false (xs.map PV.int)).fz = .lst false (xs.map PV.int) := frz_fz_of (frz_lints xs)
theorem fzL_ints (xs : List Int) : fzL (xs.map PV.int) = xs.map PV.int := frzL_fzL_of (frzL_ints xs)
theorem fz_olints (xs : List Int) : (PV.lst true (xs.map PV.int)).fz = .lst false (xs.map PV.int) := by unfold PV.fz; rw [fzL_ints]
/-- a trial: blended's loop -/
theorem loop_bl (T : Tab) : ∀ (xs : List Int) (f : Int) (o : Option PV) (r : PV), ∃ o', loopF (.one 2) [2] (evSs T (.cons (.set 1 true (.bin .bxor (.var 1) (.var 2))) .nil)) (xs.map .int) [some r, some (.int f), o] = .nx [some r, some (.int (xs.foldl (fun a b => Builtin.bitXor a b) f)), o']
  | [], f, o, r => ⟨o, by simp only [List.map_nil, loopF_nil, List.foldl_nil]⟩
  | x :: xs, f, o, r => by
    obtain ⟨o', h⟩ := loop_bl T xs (Builtin.bitXor f x) none r
    refine ⟨o', ?_⟩
    simp only [List.map_cons, loopF_cons, bindP_one, onP_some, List.set_cons_succ, List.set_cons_zero, evSs_cons, evS_set, ev_bin, ev_var, at_s, at_z, evVar_some, frz_int, fz_int, if_true, bind_ok, fl_ok, lift_some, binop_int, binI_bxor, Option.map_some, nxt_nx, evSs_nil, kil_cons, kil_nil, List.foldl_cons, h]
end Z

set_option Elab.async false
set_option linter.all false
set_option maxRecDepth 100000
/-! E1: defs read by rewriting: calls, loops, comprehensions, natural numbers. -/
namespace Z
open PySem
/-! ### calls -/
def onO {α : Type} (o : Option α) (k : α → RC) : RC := match o with
  | some a => k a
  | none => .bad
theorem onO_some {α : Type} (a : α) (k : α → RC) : onO (some a) k = k a := of_eq_true (eq_true rfl)
def finD (mode : List Bool) : Fl → RC
  | .nx env => onO (outM mode env) fun ms => .ret .non ms
  | .rt y env => onO (outM mode env) fun ms => .ret y ms
  | .exn x env => onO (outM mode env) fun ms => .exn x ms
  | .bad => .bad
theorem finD_nx (mode : List Bool) (env : Env) : finD mode (.nx env) = onO (outM mode env) fun ms => .ret .non ms := of_eq_true (eq_true rfl)
theorem finD_rt (mode : List Bool) (y : PV) (env : Env) : finD mode (.rt y env) = onO (outM mode env) fun ms => .ret y ms := of_eq_true (eq_true rfl)
theorem runD_eq (T : Tab) (d : Z.Def) (args : List PV) (h : d.mode.length = d.np ∧ d.np ≤ d.ns) : runD T d args = if okA d.mode args = true then finD d.mode (evSs T d.body (args.map some ++ List.replicate (d.ns - d.np) none)) else .bad := by
  unfold runD
  by_cases c : okA d.mode args = true
  · rw [if_pos ⟨c, h⟩, if_pos c]
    cases evSs T d.body (args.map some ++ List.replicate (d.ns - d.np) none) with
    | nx env => show (match outM d.mode env with | some ms => _ | none => _) = onO (outM d.mode env) _; cases outM d.mode env <;> rfl
    | rt y env => show (match outM d.mode env with | some ms => _ | none => _) = onO (outM d.mode env) _; cases outM d.mode env <;> rfl
    | exn y env => show (match outM d.mode env with | some ms => _ | none => _) = onO (outM d.mode env) _; cases outM d.mode env <;> rfl
    | bad => rfl
  · rw [if_neg (fun z => c z.1), if_neg c]
theorem callN_d {P : Prog} {n f : Nat} {d : Z.Def} {args : List PV} {env : Env} (h : P.defs[f]? = some d) (h1 : d.mode.length = d.np ∧ d.np ≤ d.ns) (h2 : args.map some ++ List.replicate (d.ns - d.np) none = env) :
    callN P (n + 1) f args = if okA d.mode args = true then finD d.mode (evSs (P.tab (callN P n)) d.body env) else .bad := by
  rw [callN_succ h, runD_eq _ _ _ h1, h2]
theorem okA_nil : okA [] [] = true := of_eq_true (eq_true rfl)
theorem okA_t (bs : List Bool) (x : PV) (xs : List PV) : okA (true :: bs) (x :: xs) = okA bs xs := of_eq_true (eq_true rfl)
theorem okA_f (bs : List Bool) (x : PV) (xs : List PV) : okA (false :: bs) (x :: xs) = (x.frz && okA bs xs) := of_eq_true (eq_true rfl)
theorem outM_nil (env : Env) : outM [] env = some [] := by cases env <;> rfl
theorem outM_t (bs : List Bool) (x : PV) (env : Env) : outM (true :: bs) (some x :: env) = (outM bs env).map (x :: ·) := of_eq_true (eq_true rfl)
theorem outM_f (bs : List Bool) (o : Option PV) (env : Env) : outM (false :: bs) (o :: env) = outM bs env := by cases o <;> rfl
theorem tab_fn (P : Prog) (fn : Nat → List PV → RC) (f : Nat) : (P.tab fn).fn f = fn f := of_eq_true (eq_true rfl)
theorem tab_glb (P : Prog) (fn : Nat → List PV → RC) : (P.tab fn).glb = P.glb := of_eq_true (eq_true rfl)
theorem tab_meth (P : Prog) (fn : Nat → List PV → RC) : (P.tab fn).meth = P.meth := of_eq_true (eq_true rfl)
theorem tab_init (P : Prog) (fn : Nat → List PV → RC) : (P.tab fn).init = P.init := of_eq_true (eq_true rfl)
theorem tab_fld (P : Prog) (fn : Nat → List PV → RC) : (P.tab fn).fld = P.fld := of_eq_true (eq_true rfl)
def onA {α : Type} (o : Option α) (k : α → Res PV) : Res PV := match o with
  | some a => k a
  | none => .bad
theorem onA_some {α : Type} (a : α) (k : α → Res PV) : onA (some a) k = k a := of_eq_true (eq_true rfl)
theorem callX_eq (T : Tab) (f : Nat) (ks : List (Option Nat)) (xs : List PV) (env : Env) : callX T f ks xs env = if T.mode f = modesOf ks then onA (fillM ks xs env) fun ys => (T.fn f ys).res ks (outK ks env) else .bad := by
  unfold callX
  split
  · cases fillM ks xs env <;> rfl
  · rfl
theorem modesOf_nil : modesOf [] = [] := of_eq_true (eq_true rfl)
theorem modesOf_n (ks : List (Option Nat)) : modesOf (none :: ks) = false :: modesOf ks := of_eq_true (eq_true rfl)
theorem modesOf_s (i : Nat) (ks : List (Option Nat)) : modesOf (some i :: ks) = true :: modesOf ks := of_eq_true (eq_true rfl)
theorem fillM_nil (env : Env) : fillM [] [] env = some [] := of_eq_true (eq_true rfl)
theorem fillM_n (ks : List (Option Nat)) (x : PV) (xs : List PV) (env : Env) : fillM (none :: ks) (x :: xs) env = (fillM ks xs env).map (x.fz :: ·) := of_eq_true (eq_true rfl)
def fill1 (o : Option PV) (r : Option (List PV)) : Option (List PV) := match o with
  | some x => r.map (x :: ·)
  | none => none
theorem fill1_some (x : PV) (r : Option (List PV)) : fill1 (some x) r = r.map (x :: ·) := of_eq_true (eq_true rfl)
theorem fillM_s (i : Nat) (ks : List (Option Nat)) (x : PV) (xs : List PV) (env : Env) : fillM (some i :: ks) (x :: xs) env = fill1 (env.at i) (fillM ks xs (env.set i none)) := by
  show (match env.at i, fillM ks xs (env.set i none) with | some x, some ys => some (x :: ys) | _, _ => none) = _
  cases env.at i <;> cases fillM ks xs (env.set i none) <;> rfl
theorem outK_nil (env : Env) : outK [] env = env := of_eq_true (eq_true rfl)
theorem outK_n (ks : List (Option Nat)) (env : Env) : outK (none :: ks) env = outK ks env := of_eq_true (eq_true rfl)
theorem outK_s (i : Nat) (ks : List (Option Nat)) (env : Env) : outK (some i :: ks) env = outK ks (env.set i none) := of_eq_true (eq_true rfl)
theorem backM_nil (env : Env) : backM [] [] env = some env := of_eq_true (eq_true rfl)
theorem backM_n (ks : List (Option Nat)) (ms : List PV) (env : Env) : backM (none :: ks) ms env = backM ks ms env := by cases ms <;> rfl
theorem backM_s (i : Nat) (ks : List (Option Nat)) (m : PV) (ms : List PV) (env : Env) : backM (some i :: ks) (m :: ms) env = backM ks ms (env.set i (some m)) := of_eq_true (eq_true rfl)
theorem res_ret (y : PV) (ms : List PV) (ks : List (Option Nat)) (env : Env) : (RC.ret y ms).res ks env = onA (backM ks ms env) fun env' => .ok y env' := by
  show (match backM ks ms env with | some env' => Res.ok y env' | none => .bad) = _
  cases backM ks ms env <;> rfl
theorem kinds_nil : kinds .nil = [] := of_eq_true (eq_true rfl)
theorem kinds_cons (e : Ex) (es : Exs) : kinds (.cons e es) = e.mg :: kinds es := of_eq_true (eq_true rfl)
theorem ev_marg (T : Tab) (i : Nat) (env : Env) : ev T (.marg i) env = onA (env.at i) fun _ => .ok .non env := by
  conv => lhs; unfold ev
  cases env.at i <;> rfl
/-- e.m(..), the receiver's class known -/
def onOb (x : PV) (k : Nat → PV → Res PV) : Res PV := match x with
  | .obj false C as ys => k C (.obj false C as ys)
  | _ => .bad
theorem onOb_obj (C : Nat) (as : List Nat) (ys : List PV) (k : Nat → PV → Res PV) : onOb (.obj false C as ys) k = k C (.obj false C as ys) := of_eq_true (eq_true rfl)
theorem ev_meth (T : Tab) (m : Nat) (a : Ex) (es ks : Exs) (env : Env) : ev T (.meth m a es ks) env = (ev T a env).bind fun o env => onOb o.fz fun C v => onA (T.meth C m) fun f => (evs T es env).bind fun xs env => (evs T ks env).bind fun zs env => callX T f (none :: (kinds es ++ kinds ks)) (v :: (xs ++ zs)) env := by
  conv => lhs; unfold ev
  congr 1; funext o env
  cases o.fz <;> try rfl
  rename_i b C as ys
  cases b
  · show (match T.meth C m with | some f => _ | none => _) = onA (T.meth C m) _
    cases T.meth C m <;> rfl
  · rfl
def onCl (o : Option PV) (k : Nat → Res PV) : Res PV := match o with
  | some (.obj _ C _ _) => k C
  | _ => .bad
theorem onCl_obj (b : Bool) (C : Nat) (as : List Nat) (ys : List PV) (k : Nat → Res PV) : onCl (some (.obj b C as ys)) k = k C := of_eq_true (eq_true rfl)
theorem ev_methm (T : Tab) (m i : Nat) (es ks : Exs) (env : Env) : ev T (.methm m i es ks) env = onCl (env.at i) fun C => onA (T.meth C m) fun f => (evs T es env).bind fun xs env => (evs T ks env).bind fun zs env => callX T f (some i :: (kinds es ++ kinds ks)) (.non :: (xs ++ zs)) env := by
  conv => lhs; unfold ev
  cases env.at i with
  | none => rfl
  | some o =>
    cases o <;> try rfl
    rename_i b C as ys
    show (match T.meth C m with | some f => _ | none => _) = onA (T.meth C m) _
    cases T.meth C m <;> rfl
theorem makeX_eq {T : Tab} {C f : Nat} {ks : List (Option Nat)} {xs ys : List PV} {env : Env} {o : PV} {ms : List PV} (h1 : T.init C = some f) (h2 : T.mode f = true :: modesOf ks) (h3 : fillM ks xs env = some ys) (h4 : T.fn f (.obj true C [] [] :: ys) = .ret .non (o :: ms)) :
    makeX T C ks xs env = (RC.ret o ms).res ks (outK ks env) := by
  unfold makeX
  simp only [h1, h2, h3, h4, if_true]
def onMk (ks : List (Option Nat)) (env : Env) (r : RC) : Res PV := match r with
  | .ret .non (o :: ms) => (RC.ret o ms).res ks env
  | .exn x (_ :: ms) => (RC.exn x ms).res ks env
  | _ => .bad
theorem onMk_ret' (ks : List (Option Nat)) (env : Env) (o : PV) (ms : List PV) : onMk ks env (.ret .non (o :: ms)) = (RC.ret o ms).res ks env := of_eq_true (eq_true rfl)
theorem makeX_on (T : Tab) (C : Nat) (ks : List (Option Nat)) (xs : List PV) (env : Env) : makeX T C ks xs env = onA (T.init C) fun f => if T.mode f = true :: modesOf ks then onA (fillM ks xs env) fun ys => onMk ks (outK ks env) (T.fn f (.obj true C [] [] :: ys)) else .bad := by
  unfold makeX
  cases T.init C with
  | none => rfl
  | some f =>
    show (if T.mode f = true :: modesOf ks then _ else _) = (if T.mode f = true :: modesOf ks then _ else _)
    split
    · cases fillM ks xs env with
      | none => rfl
      | some ys =>
        show _ = onMk ks (outK ks env) (T.fn f (.obj true C [] [] :: ys))
        dsimp only
        generalize T.fn f (.obj true C [] [] :: ys) = r
        cases r with
        | bad => rfl
        | exn x ms => cases ms <;> rfl
        | ret y ms => cases y <;> cases ms <;> rfl
    · rfl
theorem ev_make (T : Tab) (C : Nat) (es ks : Exs) (env : Env) : ev T (.make C es ks) env = (evs T es env).bind fun xs env => (evs T ks env).bind fun zs env => makeX T C (kinds es ++ kinds ks) (xs ++ zs) env := by conv => lhs; unfold ev
/-! ### statements and places -/
def onOF {α : Type} (o : Option α) (k : α → Fl) : Fl := match o with
  | some a => k a
  | none => .bad
theorem evS_retN (T : Tab) (env : Env) : evS T .retN env = .rt .non env := by conv => lhs; unfold evS
theorem evS_pass (T : Tab) (env : Env) : evS T .pass env = .nx env := by conv => lhs; unfold evS
def itemsT (x : PV) : Option (List PV) := match x with
  | .tup xs => some xs
  | .lst _ xs => some xs
  | _ => none
theorem itemsT_tup (xs : List PV) : itemsT (.tup xs) = some xs := of_eq_true (eq_true rfl)
theorem itemsT_lst (o : Bool) (xs : List PV) : itemsT (.lst o xs) = some xs := of_eq_true (eq_true rfl)
theorem evS_unp (T : Tab) (is : List Nat) (e : Ex) (env : Env) : evS T (.unp is e) env = (ev T e env).fl fun x env => liftF (itemsT x) fun xs => liftF (setAll is xs env) .nx := by
  conv => lhs; unfold evS
  first | done | (congr 1 <;> (funext x env; cases x <;> rfl))
theorem setAll_nil (env : Env) : setAll [] [] env = some env := of_eq_true (eq_true rfl)
theorem setAll_cons (i : Nat) (is : List Nat) (x : PV) (xs : List PV) (env : Env) : setAll (i :: is) (x :: xs) env = setAll is xs (env.set i (some x)) := of_eq_true (eq_true rfl)
theorem bindP_many (is : List Nat) (xs : List PV) (env : Env) : bindP (.many is) (.tup xs) env = setAll is xs env := of_eq_true (eq_true rfl)
def onIo (o : Option PV) (k : Int → Fl) : Fl := match o with
  | some (.int i) => k i
  | _ => .bad
theorem onIo_int (i : Int) (k : Int → Fl) : onIo (some (.int i)) k = k i := of_eq_true (eq_true rfl)
def onIF (x : PV) (k : Int → Fl) : Fl := match x with
  | .int i => k i
  | _ => .bad
theorem onIF_int (i : Int) (k : Int → Fl) : onIF (.int i) k = k i := of_eq_true (eq_true rfl)
theorem evS_aug (T : Tab) (i : Nat) (o : BOp) (e : Ex) (env : Env) : evS T (.aug i o e) env = onIo (env.at i) fun x => (ev T e env).fl fun y env => onIF y fun y => liftF (binI o x y) fun z => .nx (env.set i (some (.int z))) := by
  conv => lhs; unfold evS
  cases env.at i with
  | none => rfl
  | some x =>
    cases x <;> try rfl
def modO (o : Option PV) (i : Nat) (f : PV → Option PV) (env : Env) : Option Env := match o with
  | some x => (f x).map fun y => env.set i (some y)
  | none => none
theorem modO_some (x : PV) (i : Nat) (f : PV → Option PV) (env : Env) : modO (some x) i f env = (f x).map fun y => env.set i (some y) := of_eq_true (eq_true rfl)
theorem modP_eq (i : Nat) (f : PV → Option PV) (env : Env) : modP i f env = modO (env.at i) i f env := by
  unfold modP modO; cases env.at i <;> rfl
def isS {α : Type} (o : Option α) (k : Fl) : Fl := match o with
  | some _ => k
  | none => .bad
theorem isS_some {α : Type} (a : α) (k : Fl) : isS (some a) k = k := of_eq_true (eq_true rfl)
theorem evS_seti_v (T : Tab) (i : Nat) (k e : Ex) (env : Env) : evS T (.seti (.pv i) k e) env = (ev T e env).fl fun y env => isS (env.at i) ((ev T k env).fl fun q env => liftF (modP i (fun x => seti x q y) env) .nx) := by
  conv => lhs; unfold evS
  first | done | (congr 1 <;> (funext y env; cases env.at i <;> rfl))
def onLst (o : Option PV) (k : List PV → Fl) : Fl := match o with
  | some (.lst true xs) => k xs
  | _ => .bad
theorem onLst_lst (xs : List PV) (k : List PV → Fl) : onLst (some (.lst true xs)) k = k xs := of_eq_true (eq_true rfl)
theorem evS_augi_v (T : Tab) (i : Nat) (k : Ex) (o : BOp) (e : Ex) (env : Env) : evS T (.augi (.pv i) k o e) env = isS (env.at i) ((ev T k env).fl fun q env => onLst (env.at i) fun xs => onIF q fun j => onIo (getI xs j) fun a =>
    (ev T e env).fl fun y env => onIF y fun b => liftF (binI o a b) fun z => liftF (modP i (fun x => seti x (.int j) (.int z)) env) .nx) := by
  conv => lhs; unfold evS
  cases env.at i with
  | none => rfl
  | some x =>
    show Res.fl _ _ = Res.fl _ _
    congr 1
theorem evS_mth_v (T : Tab) (b : MM) (i : Nat) (es : Exs) (env : Env) : evS T (.mth b (.pv i) es) env = onLst (env.at i) fun _ => (evs T es env).fl fun ys env => liftF (modP i (fun x => mmeth b x ys) env) .nx := by
  conv => lhs; unfold evS
  cases env.at i with
  | none => rfl
  | some x =>
    cases x <;> try rfl
theorem evS_setf_v (T : Tab) (i f : Nat) (e : Ex) (env : Env) : evS T (.setf (.pv i) f e) env = (ev T e env).fl fun y env => liftF (modP i (fun x => setf T.fld x f y) env) .nx := by conv => lhs; unfold evS
def onObj (x : PV) (k : List Nat → List PV → Res PV) : Res PV := match x with
  | .obj _ _ as xs => k as xs
  | _ => .bad
theorem onObj_obj (b : Bool) (C : Nat) (as : List Nat) (ys : List PV) (k : List Nat → List PV → Res PV) : onObj (.obj b C as ys) k = k as ys := of_eq_true (eq_true rfl)
theorem ev_fld (T : Tab) (a : Ex) (f : Nat) (env : Env) : ev T (.fld a f) env = (ev T a env).bind fun x env => onObj x.fz fun as xs => lift (lookF as xs f) env := by
  conv => lhs; unfold ev
  first | done | (congr 1 <;> (funext x env; cases x.fz <;> rfl))
theorem ev_rd (T : Tab) (p : Pl) (env : Env) : ev T (.rd p) env = (evp T p env).bind fun x env => if x.frz = true then .ok x env else .bad := by conv => lhs; unfold ev
def lenI (x : PV) : Option PV := (lenP x).map fun n => .int (n : Int)
theorem ev_lenp (T : Tab) (p : Pl) (env : Env) : ev T (.lenp p) env = (evp T p env).bind fun x env => lift (lenI x) env := by
  conv => lhs; unfold ev
  congr 1
theorem ev_inp (T : Tab) (neg : Bool) (e : Ex) (p : Pl) (env : Env) : ev T (.inp neg e p) env = (ev T e env).bind fun x env => (evp T p env).bind fun c env => lift ((inP x c).map fun b => .bl (if neg then !b else b)) env := by conv => lhs; unfold ev
theorem evp_pv (T : Tab) (i : Nat) (env : Env) : evp T (.pv i) env = lift (env.at i) env := by conv => lhs; unfold evp
theorem evp_pf (T : Tab) (p : Pl) (f : Nat) (env : Env) : evp T (.pf p f) env = (evp T p env).bind fun x env => onObj x fun as xs => lift (lookF as xs f) env := by
  conv => lhs; unfold evp
  first | done | (congr 1 <;> (funext x env; cases x <;> rfl))
theorem evp_pi (T : Tab) (p : Pl) (e : Ex) (env : Env) : evp T (.pi p e) env = (evp T p env).bind fun x env => (ev T e env).bind fun k env => lift (item x k) env := by conv => lhs; unfold evp
theorem evI_rng2 (T : Tab) (a b : Ex) (env : Env) : evI T (.rng2 a b) env = (ev T a env).bind fun x env => (ev T b env).bind fun y env => onI x fun i => onI y fun j => if okR i && okR j then .ok (rngs i (j - i).toNat) env else .bad := by
  conv => lhs; unfold evI
  congr 1; funext x env
  congr 1; funext y env
  cases x <;> cases y <;> rfl
theorem ev_chn (T : Tab) (o p : COp) (a b c : Ex) (env : Env) : ev T (.chn o p a b c) env = (ev T a env).bind fun x env => (ev T b env).bind fun y env => onA (cmpop o x y) fun k => if k = true then (ev T c env).bind fun z env => lift ((cmpop p y z).map .bl) env else .ok (.bl false) env := by
  conv => lhs; unfold ev
  congr 1; funext x env
  congr 1; funext y env
  cases cmpop o x y with
  | none => rfl
  | some k => cases k <;> rfl
/-! ### objects' fields -/
theorem lookF_cons (a : Nat) (as : List Nat) (x : PV) (xs : List PV) (f : Nat) : lookF (a :: as) (x :: xs) f = if a = f then some x else lookF as xs f := of_eq_true (eq_true rfl)
/-! ### loops -/
theorem loopF_fold {S α : Type} (E : S → Env) (g : α → PV) (step : S → α → S) (P : S → Prop) {t : Pat} {kill : List Nat} {body : Env → Fl} : ∀ (xs : List α) (s : S), P s →
    (∀ s x, x ∈ xs → P s → (onP (bindP t (g x) (E s)) fun e1 => nxt (body e1) fun e2 => .nx (kil e2 kill)) = .nx (E (step s x)) ∧ P (step s x)) →
    loopF t kill body (xs.map g) (E s) = .nx (E (xs.foldl step s)) ∧ P (xs.foldl step s)
  | [], s, h0, _ => ⟨rfl, h0⟩
  | x :: xs, s, h0, h => by
    obtain ⟨h1, h2⟩ := h s x List.mem_cons_self h0
    obtain ⟨h3, h4⟩ := loopF_fold E g step P xs (step s x) h2 fun s y hy => h s y (List.mem_cons_of_mem _ hy)
    refine ⟨?_, h4⟩
    rw [List.map_cons, loopF_cons]
    cases eb : bindP t (g x) (E s) with
    | none => rw [eb] at h1; cases h1
    | some e1 =>
      rw [eb] at h1
      simp only [onP_some] at h1 ⊢
      cases e2 : body e1 with
      | nx env => rw [e2] at h1; simp only [nxt_nx] at h1 ⊢; injection h1 with h1; rw [h1]; exact h3
      | rt y env => rw [e2] at h1; cases h1
      | exn y env => rw [e2] at h1; cases h1
      | bad => rw [e2] at h1; cases h1
/-- .. by what stands before each turn -/
theorem loopF_inv {α : Type} (g : α → PV) (E : List α → Env) {t : Pat} {kill : List Nat} {body : Env → Fl} (xs : List α)
    (h : ∀ pre x suf, xs = pre ++ x :: suf → (onP (bindP t (g x) (E pre)) fun e1 => nxt (body e1) fun e2 => .nx (kil e2 kill)) = .nx (E (pre ++ [x]))) :
    loopF t kill body (xs.map g) (E []) = .nx (E xs) := by
  have aux : ∀ (suf pre : List α), xs = pre ++ suf → loopF t kill body (suf.map g) (E pre) = .nx (E xs) := by
    intro suf
    induction suf with
    | nil => intro pre e; rw [List.append_nil] at e; rw [e]; rfl
    | cons x suf ih =>
      intro pre e
      have h1 := h pre x suf e
      have h3 := ih (pre ++ [x]) (by rw [e, List.append_assoc]; rfl)
      rw [List.map_cons, loopF_cons]
      cases eb : bindP t (g x) (E pre) with
      | none => rw [eb] at h1; cases h1
      | some e1 =>
        rw [eb] at h1
        simp only [onP_some] at h1 ⊢
        cases e2 : body e1 with
        | nx env => rw [e2] at h1; simp only [nxt_nx] at h1 ⊢; injection h1 with h1; rw [h1]; exact h3
        | rt y env => rw [e2] at h1; cases h1
        | exn y env => rw [e2] at h1; cases h1
        | bad => rw [e2] at h1; cases h1
  exact aux xs [] rfl
/-! ### comprehensions -/
def comR (own : List Nat) (t : Pat) (cond elt : Env → Res PV) (xs : List PV) (env : Env) : Res PV := (loopC own t cond elt xs [] (kil env own)).bind fun ys e2 => .ok (.lst true ys) (kil e2 own)
theorem ev_comR (T : Tab) (elt : Ex) (own : List Nat) (t : Pat) (it : Z.It) (cond : OEx) (env : Env) : ev T (.com elt own t it cond) env = (evI T it env).bind fun xs env => comR own t (evc T cond) (ev T elt) xs env := by rw [ev_com]; rfl
def turnC (own : List Nat) (t : Pat) (cond elt : Env → Res PV) (x : PV) (env : Env) : Res (Option PV) := onPR (bindP t x env) fun e1 => (cond e1).bind fun b e2 => onB b fun k =>
  if k = true then (elt e2).bind fun y e3 => .ok (some y) (kil e3 own) else .ok none (kil e2 own)
theorem kil_set_none : ∀ (own : List Nat) (i : Nat) (env : Env), kil (env.set i none) own = (kil env own).set i none
  | [], i, env => rfl
  | j :: own, i, env => by
    show kil ((env.set i none).set j none) own = _
    by_cases e : i = j
    · subst e
      rw [List.set_set, kil_set_none own, ]
      show _ = (kil (env.set i none) own).set i none
      rw [kil_set_none own, List.set_set]
    · rw [List.set_comm _ _ e, kil_set_none own]; rfl
theorem kil_kil : ∀ (own : List Nat) (env : Env), kil (kil env own) own = kil env own
  | [], env => rfl
  | i :: own, env => by
    show kil ((kil (env.set i none) own).set i none) own = kil (env.set i none) own
    rw [kil_set_none, kil_kil own]
    rw [kil_set_none, List.set_set]
/-- the values that the turns make, the state behind them -/
def collA {S α : Type} (o : S → α → Option PV) (step : S → α → S) : List α → S → List PV
  | [], _ => []
  | x :: xs, s => match o s x with
    | some y => y :: collA o step xs (step s x)
    | none => collA o step xs (step s x)
theorem collA_len {S α : Type} (o : S → α → Option PV) (step : S → α → S) : ∀ (xs : List α) (s : S), (collA o step xs s).length ≤ xs.length
  | [], _ => Nat.le_refl _
  | x :: xs, s => by
    have := collA_len o step xs (step s x)
    unfold collA
    split <;> simp <;> omega
theorem loopC_coll {S α : Type} (E : S → Env) (g : α → PV) (o : S → α → Option PV) (step : S → α → S) (P : S → Prop) {own : List Nat} {t : Pat} {cond elt : Env → Res PV} : ∀ (xs : List α) (s : S) (acc : List PV), P s → acc.length + xs.length ≤ lineB →
    (∀ s x, x ∈ xs → P s → turnC own t cond elt (g x) (E s) = .ok (o s x) (E (step s x)) ∧ P (step s x)) →
    loopC own t cond elt (xs.map g) acc (E s) = .ok (acc ++ collA o step xs s) (E (xs.foldl step s)) ∧ P (xs.foldl step s)
  | [], s, acc, h0, _, _ => ⟨by rw [List.map_nil, loopC_nil]; simp [collA], h0⟩
  | x :: xs, s, acc, h0, hl, h => by
    simp only [List.length_cons] at hl
    obtain ⟨h1, h2⟩ := h s x List.mem_cons_self h0
    have ih := fun acc' hl' => loopC_coll E g o step P xs (step s x) acc' h2 hl' fun s y hy => h s y (List.mem_cons_of_mem _ hy)
    rw [List.map_cons, loopC_cons]
    unfold turnC at h1
    cases eb : bindP t (g x) (E s) with
    | none => rw [eb] at h1; cases h1
    | some e1 =>
      rw [eb] at h1
      simp only [onPR_some] at h1 ⊢
      cases ec : cond e1 with
      | bad => rw [ec] at h1; cases h1
      | exn y env => rw [ec] at h1; cases h1
      | ok b e2 =>
        rw [ec] at h1
        simp only [bind_ok] at h1 ⊢
        cases b <;> try (cases h1; done)
        rename_i b
        simp only [onB_bl] at h1 ⊢
        cases b with
        | true =>
          simp only [if_true] at h1 ⊢
          cases ee : elt e2 with
          | bad => rw [ee] at h1; cases h1
          | exn y env => rw [ee] at h1; cases h1
          | ok y e3 =>
            rw [ee] at h1
            simp only [bind_ok] at h1 ⊢
            injection h1 with h1 h1'
            rw [if_pos (by omega), h1']
            have := ih (acc ++ [y]) (by simp; omega)
            rw [this.1]
            refine ⟨?_, this.2⟩
            rw [List.foldl_cons]
            congr 1
            show _ = acc ++ (match o s x with | some y => _ | none => _)
            rw [← h1, List.append_assoc]; rfl
        | false =>
          simp only [Bool.false_eq_true, if_false] at h1 ⊢
          injection h1 with h1 h1'
          rw [h1']
          have := ih acc (by omega)
          rw [this.1]
          refine ⟨?_, this.2⟩
          rw [List.foldl_cons]
          congr 1
          show _ = acc ++ (match o s x with | some y => _ | none => _)
          rw [← h1]
theorem comR_coll {S α : Type} (E : S → Env) (g : α → PV) (o : S → α → Option PV) (step : S → α → S) (P : S → Prop) {own : List Nat} {t : Pat} {cond elt : Env → Res PV} {env : Env} (xs : List α) (s : S) (he : kil env own = E s) (h0 : P s) (hl : xs.length ≤ lineB)
    (h : ∀ s x, x ∈ xs → P s → turnC own t cond elt (g x) (E s) = .ok (o s x) (E (step s x)) ∧ P (step s x)) :
    comR own t cond elt (xs.map g) env = .ok (.lst true (collA o step xs s)) (kil (E (xs.foldl step s)) own) := by
  unfold comR
  rw [he, (loopC_coll E g o step P xs s [] h0 (by simpa using hl) h).1]
  rfl
/-- each item by itself -/
theorem comR_map {α : Type} (g f : α → PV) {own : List Nat} {t : Pat} {cond elt : Env → Res PV} {env : Env} (xs : List α) (hl : xs.length ≤ lineB) (h : ∀ x, x ∈ xs → turnC own t cond elt (g x) (kil env own) = .ok (some (f x)) (kil env own)) :
    comR own t cond elt (xs.map g) env = .ok (.lst true (xs.map f)) (kil env own) := by
  have := comR_coll (S := Unit) (fun _ => kil env own) g (fun _ x => some (f x)) (fun s _ => s) (fun _ => True) (env := env) (own := own) (t := t) (cond := cond) (elt := elt) xs () rfl trivial hl fun s x hx _ => ⟨h x hx, trivial⟩
  rw [this, kil_kil]
  congr 2
  clear h hl this
  induction xs with
  | nil => rfl
  | cons x xs ih => show f x :: collA _ _ xs () = _; rw [ih]; rfl
theorem comR_filter {α : Type} (g f : α → PV) (c : α → Bool) {own : List Nat} {t : Pat} {cond elt : Env → Res PV} {env : Env} (xs : List α) (hl : xs.length ≤ lineB) (h : ∀ x, x ∈ xs → turnC own t cond elt (g x) (kil env own) = .ok (if c x = true then some (f x) else none) (kil env own)) :
    comR own t cond elt (xs.map g) env = .ok (.lst true ((xs.filter c).map f)) (kil env own) := by
  have := comR_coll (S := Unit) (fun _ => kil env own) g (fun _ x => if c x = true then some (f x) else none) (fun s _ => s) (fun _ => True) (env := env) (own := own) (t := t) (cond := cond) (elt := elt) xs () rfl trivial hl fun s x hx _ => ⟨h x hx, trivial⟩
  rw [this, kil_kil]
  congr 2
  clear h hl this
  induction xs with
  | nil => rfl
  | cons x xs ih =>
    unfold collA
    rw [List.filter_cons]
    cases c x
    · exact ih
    · show f x :: collA _ _ xs () = _; rw [ih]; rfl
end Z

set_option linter.all false
set_option maxRecDepth 100000
/-! G1: numbers as rows of bits: spans, reduced bases. -/
namespace GF
/-- what blends of some numbers are -/
inductive Sp (xs : List Nat) : Nat → Prop
  | zero : Sp xs 0
  | step {x v : Nat} : x ∈ xs → Sp xs v → Sp xs (v ^^^ x)
theorem Sp.mem {xs : List Nat} {x : Nat} (h : x ∈ xs) : Sp xs x := by
  have := Sp.step h (Sp.zero (xs := xs))
  rwa [Nat.zero_xor] at this
theorem Sp.add {xs : List Nat} {a b : Nat} (ha : Sp xs a) (hb : Sp xs b) : Sp xs (a ^^^ b) := by
  induction hb with
  | zero => rwa [Nat.xor_zero]
  | step hx _ ih => rw [← Nat.xor_assoc]; exact ih.step hx
theorem Sp.lift {xs ys : List Nat} {v : Nat} (h : ∀ x ∈ xs, Sp ys x) (hv : Sp xs v) : Sp ys v := by
  induction hv with
  | zero => exact .zero
  | step hx _ ih => exact ih.add (h _ hx)
theorem Sp.mono {xs ys : List Nat} {v : Nat} (h : ∀ x ∈ xs, x ∈ ys) (hv : Sp xs v) : Sp ys v := hv.lift fun x hx => .mem (h x hx)
theorem Sp.lt {xs : List Nat} {v m : Nat} (h : ∀ x ∈ xs, x < 2 ^ m) (hv : Sp xs v) : v < 2 ^ m := by
  induction hv with
  | zero => exact Nat.two_pow_pos m
  | step hx _ ih => exact Nat.xor_lt_two_pow ih (h _ hx)
theorem Sp.bit {xs : List Nat} {v i : Nat} (h : ∀ x ∈ xs, x.testBit i = false) (hv : Sp xs v) : v.testBit i = false := by
  induction hv with
  | zero => exact Nat.zero_testBit i
  | step hx _ ih => rw [Nat.testBit_xor, ih, h _ hx]; rfl
/-- a map that bears blends -/
structure Add (f : Nat → Nat) : Prop where
  z : f 0 = 0
  x : ∀ a b, f (a ^^^ b) = f a ^^^ f b
theorem Sp.map {f : Nat → Nat} (A : Add f) {xs : List Nat} {v : Nat} (hv : Sp xs v) : Sp (xs.map f) (f v) := by
  induction hv with
  | zero => rw [A.z]; exact .zero
  | step hx _ ih => rw [A.x]; exact ih.step (List.mem_map_of_mem hx)
theorem Sp.unmap {f : Nat → Nat} (A : Add f) {xs : List Nat} {w : Nat} (hw : Sp (xs.map f) w) : ∃ v, Sp xs v ∧ f v = w := by
  induction hw with
  | zero => exact ⟨0, .zero, A.z⟩
  | step hx _ ih =>
    obtain ⟨v, h1, h2⟩ := ih
    obtain ⟨y, hy, e⟩ := List.mem_map.mp hx
    subst e
    exact ⟨v ^^^ y, Sp.step hy h1, by rw [A.x, h2]⟩
theorem add_shr (k : Nat) : Add (· >>> k) := ⟨by simp, fun a b => by simp [Nat.shiftRight_xor_distrib]⟩
theorem Add.comp {f g : Nat → Nat} (a : Add f) (b : Add g) : Add (fun x => f (g x)) := ⟨by rw [b.z, a.z], fun x y => by rw [b.x, a.x]⟩
theorem Add.id : Add (fun x => x) := ⟨rfl, fun _ _ => rfl⟩
theorem xor_cancel (a b : Nat) : a ^^^ b ^^^ b = a := by rw [Nat.xor_assoc, Nat.xor_self, Nat.xor_zero]
theorem xor_cancel' (a b : Nat) : b ^^^ (b ^^^ a) = a := by rw [← Nat.xor_assoc, Nat.xor_self, Nat.zero_xor]
theorem top_bit {n : Nat} (h : n ≠ 0) : n.testBit n.log2 = true := Nat.testBit_log2 h
theorem bit_above {n i : Nat} (h : n.log2 < i) : n.testBit i = false := by
  by_cases z : n = 0
  · rw [z]; exact Nat.zero_testBit i
  · exact Nat.testBit_lt_two_pow (Nat.lt_of_lt_of_le (Nat.lt_log2_self) (Nat.pow_le_pow_right (by decide) h))
theorem log2_of {n k : Nat} (h : n.testBit k = true) (g : ∀ i, k < i → n.testBit i = false) : n.log2 = k := by
  have nz : n ≠ 0 := fun e => by rw [e, Nat.zero_testBit] at h; cases h
  rcases Nat.lt_trichotomy n.log2 k with c | c | c
  · rw [bit_above c] at h; cases h
  · exact c
  · have := g _ c; rw [top_bit nz] at this; cases this

/-- without the topmost digits of a basis -/
def rst (l o : Nat) : Nat := if l.testBit o.log2 then l ^^^ o else l
def redu (v : Nat) (B : List Nat) : Nat := B.foldl rst v
theorem add_rst (o : Nat) : Add (fun l => rst l o) := by
  refine ⟨by unfold rst; simp, fun a b => ?_⟩
  unfold rst
  rw [Nat.testBit_xor]
  cases a.testBit o.log2 <;> cases b.testBit o.log2 <;> simp
  · rw [Nat.xor_assoc]
  · rw [Nat.xor_assoc, Nat.xor_assoc, Nat.xor_comm b o]
  · rw [Nat.xor_assoc, Nat.xor_comm b o, ← Nat.xor_assoc o, Nat.xor_self, Nat.zero_xor]
theorem add_redu : ∀ B : List Nat, Add (fun v => redu v B)
  | [] => .id
  | o :: B => (add_redu B).comp (add_rst o)
theorem redu_sp : ∀ (B : List Nat) (v : Nat), Sp B (v ^^^ redu v B)
  | [], v => by show Sp _ (v ^^^ v); rw [Nat.xor_self]; exact .zero
  | o :: B, v => by
    have h := (redu_sp B (rst v o)).mono (ys := o :: B) fun x hx => List.mem_cons_of_mem _ hx
    show Sp _ (v ^^^ redu (rst v o) B)
    have e : v ^^^ redu (rst v o) B = (v ^^^ rst v o) ^^^ (rst v o ^^^ redu (rst v o) B) := by
      rw [Nat.xor_assoc v, xor_cancel']
    rw [e]
    refine Sp.add ?_ h
    unfold rst
    split
    · rw [xor_cancel']; exact .mem List.mem_cons_self
    · rw [Nat.xor_self]; exact .zero
theorem redu_keep : ∀ {B : List Nat} {v : Nat}, (∀ b ∈ B, v.testBit b.log2 = false) → redu v B = v
  | [], v, _ => rfl
  | o :: B, v, h => by
    show redu (rst v o) B = v
    have : rst v o = v := by unfold rst; rw [h o List.mem_cons_self]; rfl
    rw [this]
    exact redu_keep fun b hb => h b (List.mem_cons_of_mem _ hb)

/-- each topmost digit stands in its own number alone -/
structure Red (B : List Nat) : Prop where
  nd : B.Nodup
  pos : ∀ b ∈ B, b ≠ 0
  red : ∀ a ∈ B, ∀ b ∈ B, a ≠ b → b.testBit a.log2 = false
theorem Red.nil : Red [] := ⟨List.nodup_nil, (fun _ h => nomatch h), (fun _ h => nomatch h)⟩
theorem Red.perm {A B : List Nat} (r : Red A) (p : A.Perm B) : Red B := ⟨p.nodup_iff.mp r.nd, fun b hb => r.pos b (p.mem_iff.mpr hb), fun a ha b hb => r.red a (p.mem_iff.mpr ha) b (p.mem_iff.mpr hb)⟩
theorem Red.tail {a : Nat} {B : List Nat} (r : Red (a :: B)) : Red B := ⟨(List.nodup_cons.mp r.nd).2, fun b hb => r.pos b (List.mem_cons_of_mem _ hb), fun x hx b hb => r.red x (List.mem_cons_of_mem _ hx) b (List.mem_cons_of_mem _ hb)⟩
theorem redu_mem : ∀ {B : List Nat} {b : Nat}, Red B → b ∈ B → redu b B = 0
  | o :: B, b, r, h => by
    show redu (rst b o) B = 0
    rcases List.mem_cons.mp h with rfl | h
    · have : rst b b = 0 := by unfold rst; rw [top_bit (r.pos b List.mem_cons_self), if_pos rfl, Nat.xor_self]
      rw [this]; exact (add_redu B).z
    · have ne : o ≠ b := fun e => (List.nodup_cons.mp r.nd).1 (e ▸ h)
      have : rst b o = b := by unfold rst; rw [r.red o List.mem_cons_self b (List.mem_cons_of_mem _ h) ne]; rfl
      rw [this]; exact redu_mem r.tail h
theorem redu_zero {B : List Nat} {v : Nat} (r : Red B) (h : Sp B v) : redu v B = 0 := by
  induction h with
  | zero => exact (add_redu B).z
  | step hx _ ih => rw [(add_redu B).x, ih, redu_mem r hx]; rfl
theorem redu_bit_aux : ∀ {B : List Nat} {v : Nat}, Red B → (∀ b ∈ B, (redu v B).testBit b.log2 = false) ∧ ∀ k, (∀ b ∈ B, b.testBit k = false) → (redu v B).testBit k = v.testBit k
  | [], v, _ => ⟨(fun _ h => nomatch h), fun _ _ => rfl⟩
  | o :: B, v, r => by
    obtain ⟨h1, h2⟩ := redu_bit_aux (B := B) (v := rst v o) r.tail
    have key : ∀ k, (∀ b ∈ B, b.testBit k = false) → (redu v (o :: B)).testBit k = (rst v o).testBit k := h2
    refine ⟨fun b hb => ?_, fun k hk => ?_⟩
    · rcases List.mem_cons.mp hb with rfl | hb
      · rw [key _ fun c hc => r.red b List.mem_cons_self c (List.mem_cons_of_mem _ hc) fun e => (List.nodup_cons.mp r.nd).1 (e ▸ hc)]
        unfold rst
        by_cases c : v.testBit b.log2 = true
        · rw [c, if_pos rfl, Nat.testBit_xor, c, top_bit (r.pos b List.mem_cons_self)]; rfl
        · rw [Bool.not_eq_true] at c; rw [c]; simpa using c
      · exact h1 b hb
    · rw [key k fun b hb => hk b (List.mem_cons_of_mem _ hb)]
      unfold rst
      split
      · rw [Nat.testBit_xor, hk o List.mem_cons_self, Bool.xor_false]
      · rfl
theorem redu_bit {B : List Nat} {v : Nat} (r : Red B) : ∀ b ∈ B, (redu v B).testBit b.log2 = false := (redu_bit_aux r).1
theorem redu_eq {B : List Nat} {v w : Nat} (r : Red B) (h : Sp B (v ^^^ w)) : redu v B = redu w B := by
  have := redu_zero r h
  rw [(add_redu B).x] at this
  have e : redu v B ^^^ redu w B ^^^ redu w B = 0 ^^^ redu w B := by rw [this]
  rwa [xor_cancel, Nat.zero_xor] at e
theorem sp_of_redu {B : List Nat} {v : Nat} (h : redu v B = 0) : Sp B v := by
  have := redu_sp B v
  rwa [h, Nat.xor_zero] at this
theorem redu_lt {B : List Nat} {v m : Nat} (hb : ∀ b ∈ B, b < 2 ^ m) (hv : v < 2 ^ m) : redu v B < 2 ^ m := by
  have h := (redu_sp B v).lt hb
  have := Nat.xor_lt_two_pow h hv
  rwa [Nat.xor_comm, xor_cancel'] at this
theorem redu_idem {B : List Nat} {v : Nat} (r : Red B) : redu (redu v B) B = redu v B := redu_keep (redu_bit r)

/-- one number more taken into a basis -/
def wid (left : Nat) (B : List Nat) : List Nat := B.map fun o => if o.testBit left.log2 then o ^^^ left else o
def bst (B : List Nat) (one : Nat) : List Nat := if redu one B = 0 then B else wid (redu one B) B ++ [redu one B]
theorem wid_log {left o : Nat} (h1 : o.testBit left.log2 = true) (h2 : left.testBit o.log2 = false) (h3 : left ≠ 0) : (o ^^^ left).log2 = o.log2 := by
  have nz : o ≠ 0 := fun e => by rw [e, Nat.zero_testBit] at h1; cases h1
  have lt : left.log2 < o.log2 := by
    rcases Nat.lt_trichotomy left.log2 o.log2 with c | c | c
    · exact c
    · rw [← c, top_bit h3] at h2; cases h2
    · rw [bit_above c] at h1; cases h1
  refine log2_of ?_ fun i hi => ?_
  · rw [Nat.testBit_xor, top_bit nz, h2]; rfl
  · rw [Nat.testBit_xor, bit_above hi, bit_above (Nat.lt_trans lt hi)]; rfl
def widf (left o : Nat) : Nat := if o.testBit left.log2 then o ^^^ left else o
theorem wid_eq (left : Nat) (B : List Nat) : wid left B = B.map (widf left) := rfl
theorem widf_log {left o : Nat} (h2 : left.testBit o.log2 = false) (h3 : left ≠ 0) : (widf left o).log2 = o.log2 := by
  unfold widf
  split
  · rename_i h; exact wid_log h h2 h3
  · rfl
theorem widf_ne {left o : Nat} (h2 : left.testBit o.log2 = false) (h3 : left ≠ 0) (ho : o ≠ 0) : widf left o ≠ 0 := fun e => by
  have h := widf_log h2 h3
  have : (widf left o).testBit o.log2 = true := by
    unfold widf
    split
    · rw [Nat.testBit_xor, top_bit ho, h2]; rfl
    · exact top_bit ho
  rw [e, Nat.zero_testBit] at this; cases this
theorem red_bst {B : List Nat} {one : Nat} (r : Red B) : Red (bst B one) := by
  unfold bst
  split
  · exact r
  · rename_i nz
    have hb := redu_bit (v := one) r
    generalize redu one B = left at *
    rw [wid_eq]
    have tl : ∀ o ∈ B, (widf left o).testBit left.log2 = false := fun o ho => by
      unfold widf
      split
      · rename_i h; rw [Nat.testBit_xor, h, top_bit nz]; rfl
      · rename_i h; simpa using h
    have inj : ∀ a ∈ B, ∀ b ∈ B, widf left a = widf left b → a = b := fun a ha b hb' e => Classical.byContradiction fun ne => by
      have h1 : (widf left b).testBit a.log2 = true := by
        rw [← e]
        unfold widf
        split
        · rw [Nat.testBit_xor, top_bit (r.pos a ha), hb a ha]; rfl
        · exact top_bit (r.pos a ha)
      unfold widf at h1
      split at h1
      · rw [Nat.testBit_xor, r.red a ha b hb' ne, hb a ha] at h1; cases h1
      · rw [r.red a ha b hb' ne] at h1; cases h1
    refine ⟨?_, fun b hm => ?_, fun a ha b hm ne => ?_⟩
    · refine List.nodup_append.mpr ⟨?_, by simp, fun a ha b hb' => ?_⟩
      · exact List.pairwise_map.mpr (r.nd.imp_of_mem fun {a b} ha hb' ne e => ne (inj a ha b hb' e))
      · obtain ⟨o, ho, rfl⟩ := List.mem_map.mp ha
        rw [List.mem_singleton.mp hb']
        intro e
        have := tl o ho
        rw [e, top_bit nz] at this; cases this
    · rcases List.mem_append.mp hm with hm | hm
      · obtain ⟨o, ho, rfl⟩ := List.mem_map.mp hm
        exact widf_ne (hb o ho) nz (r.pos o ho)
      · rw [List.mem_singleton.mp hm]; exact nz
    · rcases List.mem_append.mp ha with ha | ha
      · obtain ⟨o, ho, rfl⟩ := List.mem_map.mp ha
        rw [widf_log (hb o ho) nz]
        rcases List.mem_append.mp hm with hm | hm
        · obtain ⟨p, hp, rfl⟩ := List.mem_map.mp hm
          have nop : o ≠ p := fun e => ne (by rw [e])
          unfold widf
          split
          · rw [Nat.testBit_xor, r.red o ho p hp nop, hb o ho]; rfl
          · exact r.red o ho p hp nop
        · rw [List.mem_singleton.mp hm]; exact hb o ho
      · rw [List.mem_singleton.mp ha]
        rcases List.mem_append.mp hm with hm | hm
        · obtain ⟨p, hp, rfl⟩ := List.mem_map.mp hm
          exact tl p hp
        · rw [List.mem_singleton.mp ha, List.mem_singleton.mp hm] at ne
          exact absurd rfl ne
theorem sp_bst {B : List Nat} {one v : Nat} : Sp (bst B one) v ↔ Sp (one :: B) v := by
  have hs := redu_sp B one
  unfold bst
  split
  · rename_i e
    rw [e, Nat.xor_zero] at hs
    exact ⟨fun h => h.mono fun x hx => List.mem_cons_of_mem _ hx, fun h => h.lift fun x hx => by
      rcases List.mem_cons.mp hx with rfl | hx
      · exact hs
      · exact .mem hx⟩
  · generalize redu one B = left at *
    have hl : Sp (one :: B) left := by
      have h := (hs.mono (ys := one :: B) fun x hx => List.mem_cons_of_mem _ hx).add (Sp.mem (xs := one :: B) List.mem_cons_self)
      rwa [Nat.xor_comm one left, xor_cancel] at h
    have bk : ∀ o ∈ B, Sp (wid left B ++ [left]) o := fun o ho => by
      have h1 : Sp (wid left B ++ [left]) (widf left o) := .mem (List.mem_append_left _ (by rw [wid_eq]; exact List.mem_map_of_mem ho))
      unfold widf at h1
      split at h1
      · have := h1.step (x := left) (List.mem_append_right _ List.mem_cons_self)
        rwa [xor_cancel] at this
      · exact h1
    constructor
    · refine fun h => h.lift fun x hx => ?_
      rcases List.mem_append.mp hx with hx | hx
      · rw [wid_eq] at hx
        obtain ⟨o, ho, rfl⟩ := List.mem_map.mp hx
        have h0 : Sp (one :: B) o := .mem (List.mem_cons_of_mem _ ho)
        unfold widf
        split
        · exact h0.add hl
        · exact h0
      · rw [List.mem_singleton.mp hx]; exact hl
    · refine fun h => h.lift fun x hx => ?_
      rcases List.mem_cons.mp hx with rfl | hx
      · have h1 : Sp (wid left B ++ [left]) (x ^^^ left) := hs.lift bk
        have := h1.step (x := left) (List.mem_append_right _ List.mem_cons_self)
        rwa [xor_cancel] at this
      · exact bk x hx
theorem bst_len (B : List Nat) (one : Nat) : (bst B one).length = B.length ∨ (bst B one).length = B.length + 1 := by
  unfold bst
  split
  · exact .inl rfl
  · right; simp [wid]
def bas0 (xs : List Nat) : List Nat := xs.foldl bst []
theorem red_fold : ∀ (xs : List Nat) {B : List Nat}, Red B → Red (xs.foldl bst B)
  | [], B, r => r
  | x :: xs, B, r => red_fold xs (red_bst r)
theorem sp_fold : ∀ (xs : List Nat) {B : List Nat} {v : Nat}, Sp (xs.foldl bst B) v ↔ Sp (xs ++ B) v
  | [], B, v => Iff.rfl
  | x :: xs, B, v => by
    rw [List.foldl_cons, sp_fold xs]
    constructor
    · refine fun h => h.lift fun y hy => ?_
      rcases List.mem_append.mp hy with hy | hy
      · exact .mem (List.mem_append_left _ (List.mem_cons_of_mem _ hy))
      · exact (sp_bst.mp (.mem hy)).mono fun z hz => by
          rcases List.mem_cons.mp hz with rfl | hz
          · simp
          · exact List.mem_append_right _ hz
    · refine fun h => h.lift fun y hy => ?_
      rcases List.mem_append.mp hy with hy | hy
      · rcases List.mem_cons.mp hy with rfl | hy
        · exact (sp_bst.mpr (.mem List.mem_cons_self)).mono fun z hz => List.mem_append_right _ hz
        · exact .mem (List.mem_append_left _ hy)
      · exact (sp_bst.mpr (.mem (List.mem_cons_of_mem _ hy))).mono fun z hz => List.mem_append_right _ hz
theorem len_fold : ∀ (xs : List Nat) (B : List Nat), (xs.foldl bst B).length ≤ xs.length + B.length
  | [], B => by simp
  | x :: xs, B => by
    have h := len_fold xs (bst B x)
    have := bst_len B x
    rw [List.foldl_cons, List.length_cons]
    omega
theorem bas0_red (xs : List Nat) : Red (bas0 xs) := red_fold xs .nil
theorem bas0_sp {xs : List Nat} {v : Nat} : Sp (bas0 xs) v ↔ Sp xs v := by
  unfold bas0
  rw [sp_fold xs, List.append_nil]
theorem bas0_len (xs : List Nat) : (bas0 xs).length ≤ xs.length := len_fold xs []
theorem bas0_lt {xs : List Nat} {m : Nat} (h : ∀ x ∈ xs, x < 2 ^ m) : ∀ b ∈ bas0 xs, b < 2 ^ m := fun b hb => (bas0_sp.mp (.mem hb)).lt h

/-! ### counting -/
theorem nodup_le : ∀ {m : Nat} {l : List Nat}, l.Nodup → (∀ x ∈ l, x < m) → l.length ≤ m
  | 0, l, _, h => by
    cases l with
    | nil => simp
    | cons x l => exact absurd (h x List.mem_cons_self) (by omega)
  | m + 1, l, nd, h => by
    have h1 : (l.filter (· ≠ m)).length ≤ m := nodup_le (nd.filter _) fun x hx => by
      have := List.mem_filter.mp hx
      have h2 := h x this.1
      have h3 : x ≠ m := by simpa using this.2
      omega
    have h2 : l.length ≤ (l.filter (· ≠ m)).length + 1 := by
      clear h h1
      induction l with
      | nil => simp
      | cons x l ih =>
        have nd' := List.nodup_cons.mp nd
        by_cases e : x = m
        · subst e
          have : l.filter (· ≠ x) = l := List.filter_eq_self.mpr fun y hy => by
            have : y ≠ x := fun e => nd'.1 (e ▸ hy)
            simpa using this
          rw [List.filter_cons, this]; simp
        · have := ih nd'.2
          rw [List.filter_cons]; simp [e]; simpa using this
    omega
theorem Red.tops {B : List Nat} (r : Red B) : (B.map Nat.log2).Nodup := List.pairwise_map.mpr (r.nd.imp_of_mem fun {a b} ha hb ne e => by
  have := r.red a ha b hb ne
  rw [e, top_bit (r.pos b hb)] at this; cases this)
theorem Red.len {B : List Nat} {m : Nat} (r : Red B) (h : ∀ b ∈ B, b < 2 ^ m) : B.length ≤ m := by
  have := nodup_le (m := m) r.tops fun x hx => by
    obtain ⟨b, hb, rfl⟩ := List.mem_map.mp hx
    exact (Nat.log2_lt (r.pos b hb)).mpr (h b hb)
  simpa using this
/-- all numbers of m digits are come to -/
def Onto (xs : List Nat) (m : Nat) : Prop := (∀ x ∈ xs, x < 2 ^ m) ∧ ∀ k, k < m → Sp xs (2 ^ k)
theorem le_nodup {m : Nat} {l : List Nat} (h : ∀ k, k < m → k ∈ l) : m ≤ l.length := by
  have := List.length_range (n := m)
  have h2 : (List.range m).length ≤ l.length := by
    have nd := List.nodup_range (n := m)
    have sub : ∀ x ∈ List.range m, x ∈ l := fun x hx => h x (List.mem_range.mp hx)
    generalize List.range m = r at nd sub
    clear h this
    induction r generalizing l with
    | nil => simp
    | cons x r ih =>
      have hx := sub x List.mem_cons_self
      have nd' := List.nodup_cons.mp nd
      have h1 := ih (l := l.erase x) nd'.2 fun y hy => (List.mem_erase_of_ne (fun e => nd'.1 (by rw [← e]; exact hy))).mpr (sub y (List.mem_cons_of_mem _ hy))
      have h2 := List.length_erase_of_mem hx
      have h3 : 0 < l.length := List.length_pos_of_mem hx
      simp; omega
  omega
theorem Onto.len {xs : List Nat} {m : Nat} (o : Onto xs m) : (bas0 xs).length = m := by
  have r := bas0_red xs
  refine Nat.le_antisymm (r.len (bas0_lt o.1)) ?_
  have := le_nodup (m := m) (l := (bas0 xs).map Nat.log2) fun k hk => Classical.byContradiction fun nm => by
    have h1 := redu_zero r (bas0_sp.mpr (o.2 k hk))
    have h2 : redu (2 ^ k) (bas0 xs) = 2 ^ k := redu_keep fun b hb => by
      rw [Nat.testBit_two_pow]
      exact decide_eq_false fun e => nm (List.mem_map.mpr ⟨b, hb, e.symm⟩)
    rw [h2] at h1
    exact absurd h1 (Nat.pos_iff_ne_zero.mp (Nat.two_pow_pos k))
  simpa using this
theorem Onto.all {xs : List Nat} {m : Nat} (o : Onto xs m) {v : Nat} (hv : v < 2 ^ m) : Sp xs v := by
  have r := bas0_red xs
  refine bas0_sp.mp (sp_of_redu (Nat.eq_of_testBit_eq fun i => ?_))
  rw [Nat.zero_testBit]
  by_cases c : i < m
  · have : i ∈ (bas0 xs).map Nat.log2 := Classical.byContradiction fun nm => by
      have h1 := redu_zero r (bas0_sp.mpr (o.2 i c))
      have h2 : redu (2 ^ i) (bas0 xs) = 2 ^ i := redu_keep fun b hb => by
        rw [Nat.testBit_two_pow]
        exact decide_eq_false fun e => nm (List.mem_map.mpr ⟨b, hb, e.symm⟩)
      rw [h2] at h1
      exact absurd h1 (Nat.pos_iff_ne_zero.mp (Nat.two_pow_pos i))
    obtain ⟨b, hb, rfl⟩ := List.mem_map.mp this
    exact redu_bit r b hb
  · exact Nat.testBit_lt_two_pow (Nat.lt_of_lt_of_le (redu_lt (bas0_lt o.1) hv) (Nat.pow_le_pow_right (by decide) (by omega)))
end GF

set_option linter.all false
set_option maxRecDepth 100000
/-! G2: blends by marks; what leads to 0; the least way back. -/
namespace GF
/-- the blend of the rows at which m has 1 -/
def comb : List Nat → Nat → Nat
  | [], _ => 0
  | x :: xs, m => (if m.testBit 0 then x else 0) ^^^ comb xs (m / 2)
theorem tb_half (m i : Nat) : (m / 2).testBit i = m.testBit (i + 1) := by rw [Nat.testBit_succ]
theorem half_xor (a b : Nat) : (a ^^^ b) / 2 = a / 2 ^^^ b / 2 := Nat.eq_of_testBit_eq fun i => by simp only [Nat.testBit_xor, tb_half]
theorem add_if (x : Nat) : Add (fun m => if m.testBit 0 then x else 0) := ⟨by simp, fun a b => by
  simp only [Nat.testBit_xor]
  cases a.testBit 0 <;> cases b.testBit 0 <;> simp⟩
theorem add_comb : ∀ xs : List Nat, Add (comb xs)
  | [] => ⟨rfl, fun _ _ => by simp [comb]⟩
  | x :: xs => ⟨by unfold comb; rw [Nat.zero_div, (add_comb xs).z]; simp, fun a b => by
    unfold comb
    rw [half_xor, (add_comb xs).x, (add_if x).x]
    simp only [Nat.xor_assoc]
    congr 1
    rw [← Nat.xor_assoc, ← Nat.xor_assoc]
    congr 1
    exact Nat.xor_comm _ _⟩
theorem comb_snoc : ∀ (xs : List Nat) (y m : Nat), comb (xs ++ [y]) m = comb xs m ^^^ (if m.testBit xs.length then y else 0)
  | [], y, m => by simp [comb]
  | x :: xs, y, m => by
    show (if m.testBit 0 then x else 0) ^^^ comb (xs ++ [y]) (m / 2) = _
    rw [comb_snoc xs y, tb_half]
    show _ = (if m.testBit 0 then x else 0) ^^^ comb xs (m / 2) ^^^ _
    rw [Nat.xor_assoc]; rfl
theorem comb_pow : ∀ (xs : List Nat) (i : Nat), comb xs (2 ^ i) = xs.getD i 0
  | [], i => by simp [comb]
  | x :: xs, 0 => by
    have := (add_comb xs).z
    simp [comb, this]
  | x :: xs, i + 1 => by
    have h : 2 ^ (i + 1) / 2 = 2 ^ i := by rw [Nat.pow_succ]; omega
    have h2 : (2 ^ (i + 1)).testBit 0 = false := by rw [Nat.testBit_two_pow]; simp
    unfold comb
    rw [h, comb_pow xs i, h2]; simp
theorem comb_sp : ∀ (xs : List Nat) (m : Nat), Sp xs (comb xs m)
  | [], m => .zero
  | x :: xs, m => by
    unfold comb
    refine Sp.add ?_ ((comb_sp xs _).mono fun y hy => List.mem_cons_of_mem _ hy)
    split
    · exact .mem List.mem_cons_self
    · exact .zero
theorem sp_comb {xs : List Nat} {v : Nat} (h : Sp xs v) : ∃ m, m < 2 ^ xs.length ∧ comb xs m = v := by
  induction h with
  | zero => exact ⟨0, Nat.two_pow_pos _, (add_comb xs).z⟩
  | step hx _ ih =>
    obtain ⟨m, h1, h2⟩ := ih
    obtain ⟨i, hi, e⟩ := List.getElem_of_mem hx
    refine ⟨m ^^^ 2 ^ i, Nat.xor_lt_two_pow h1 (Nat.pow_lt_pow_right (by decide) hi), ?_⟩
    rw [(add_comb xs).x, h2, comb_pow, List.getD_eq_getElem?_getD, List.getElem?_eq_getElem hi, e]; rfl
theorem comb_lt {xs : List Nat} {m : Nat} (h : ∀ x ∈ xs, x < 2 ^ m) (v : Nat) : comb xs v < 2 ^ m := (comb_sp xs v).lt h

/-! ### numbers with marks -/
def rst2 (l o : Nat × Nat) : Nat × Nat := if l.1.testBit o.1.log2 then (l.1 ^^^ o.1, l.2 ^^^ o.2) else l
def redu2 (v : Nat × Nat) (B : List (Nat × Nat)) : Nat × Nat := B.foldl rst2 v
theorem redu2_fst : ∀ (B : List (Nat × Nat)) (v : Nat × Nat), (redu2 v B).1 = redu v.1 (B.map (·.1))
  | [], v => rfl
  | o :: B, v => by
    show (redu2 (rst2 v o) B).1 = redu (rst v.1 o.1) (B.map (·.1))
    rw [redu2_fst B]
    congr 1
    unfold rst2 rst
    split <;> rfl
/-- both parts blended alike -/
inductive Sq (B : List (Nat × Nat)) : Nat × Nat → Prop
  | zero : Sq B (0, 0)
  | step {o v : Nat × Nat} : o ∈ B → Sq B v → Sq B (v.1 ^^^ o.1, v.2 ^^^ o.2)
theorem Sq.mono {A B : List (Nat × Nat)} {v : Nat × Nat} (h : ∀ x ∈ A, x ∈ B) (s : Sq A v) : Sq B v := by
  induction s with
  | zero => exact .zero
  | step hx _ ih => exact ih.step (h _ hx)
theorem redu2_sq : ∀ (B : List (Nat × Nat)) (v : Nat × Nat), Sq B (v.1 ^^^ (redu2 v B).1, v.2 ^^^ (redu2 v B).2)
  | [], v => by
    show Sq [] (v.1 ^^^ v.1, v.2 ^^^ v.2)
    rw [Nat.xor_self, Nat.xor_self]; exact .zero
  | o :: B, v => by
    have h := (redu2_sq B (rst2 v o)).mono (B := o :: B) fun x hx => List.mem_cons_of_mem _ hx
    show Sq _ (v.1 ^^^ (redu2 (rst2 v o) B).1, v.2 ^^^ (redu2 (rst2 v o) B).2)
    generalize redu2 (rst2 v o) B = r at *
    unfold rst2 at h
    split at h
    · have := h.step List.mem_cons_self (o := o)
      simp only at this
      have e : ∀ a b c : Nat, a ^^^ b ^^^ c ^^^ b = a ^^^ c := fun a b c => by
        rw [Nat.xor_assoc a b c, Nat.xor_comm b c, ← Nat.xor_assoc, xor_cancel]
      rw [e, e] at this
      exact this
    · exact h
theorem Sq.fst {B : List (Nat × Nat)} {v : Nat × Nat} (s : Sq B v) : Sp (B.map (·.1)) v.1 := by
  induction s with
  | zero => exact .zero
  | step hx _ ih => exact Sp.step (List.mem_map_of_mem hx) ih
theorem Sq.snd {B : List (Nat × Nat)} {v : Nat × Nat} (s : Sq B v) : Sp (B.map (·.2)) v.2 := by
  induction s with
  | zero => exact .zero
  | step hx _ ih => exact Sp.step (List.mem_map_of_mem hx) ih
theorem sq_of_snd {B : List (Nat × Nat)} {b : Nat} (h : Sp (B.map (·.2)) b) : ∃ a, Sq B (a, b) := by
  induction h with
  | zero => exact ⟨0, .zero⟩
  | step hx _ ih =>
    obtain ⟨o, ho, e⟩ := List.mem_map.mp hx
    subst e
    obtain ⟨a, ha⟩ := ih
    exact ⟨_, Sq.step ho ha⟩
theorem Sq.comb {B : List (Nat × Nat)} {v : Nat × Nat} {xs : List Nat} (h : ∀ o ∈ B, comb xs o.2 = o.1) (s : Sq B v) : comb xs v.2 = v.1 := by
  induction s with
  | zero => exact (add_comb xs).z
  | step hx _ ih => show GF.comb xs (_ ^^^ _) = _; rw [(add_comb xs).x, ih, h _ hx]
theorem Sq.lt {B : List (Nat × Nat)} {v : Nat × Nat} {n : Nat} (h : ∀ o ∈ B, o.2 < 2 ^ n) (s : Sq B v) : v.2 < 2 ^ n := s.snd.lt fun x hx => by
  obtain ⟨o, ho, rfl⟩ := List.mem_map.mp hx
  exact h o ho
theorem rst2_add (o a b : Nat × Nat) : rst2 (a.1 ^^^ b.1, a.2 ^^^ b.2) o = ((rst2 a o).1 ^^^ (rst2 b o).1, (rst2 a o).2 ^^^ (rst2 b o).2) := by
  have e1 : ∀ a b c : Nat, a ^^^ b ^^^ c = a ^^^ c ^^^ b := fun a b c => by rw [Nat.xor_assoc, Nat.xor_comm b c, ← Nat.xor_assoc]
  have e2 : ∀ a b c : Nat, a ^^^ c ^^^ (b ^^^ c) = a ^^^ b := fun a b c => by rw [Nat.xor_assoc, Nat.xor_comm b c, xor_cancel']
  unfold rst2
  simp only [Nat.testBit_xor]
  cases a.1.testBit o.1.log2 <;> cases b.1.testBit o.1.log2 <;> simp [Nat.xor_assoc, e2]
  all_goals (constructor <;> first | rw [← Nat.xor_assoc, e1, Nat.xor_assoc] | rw [← Nat.xor_assoc, ← Nat.xor_assoc, e2])
theorem redu2_add : ∀ (B : List (Nat × Nat)) (a b : Nat × Nat), redu2 (a.1 ^^^ b.1, a.2 ^^^ b.2) B = ((redu2 a B).1 ^^^ (redu2 b B).1, (redu2 a B).2 ^^^ (redu2 b B).2)
  | [], a, b => rfl
  | o :: B, a, b => by
    show redu2 (rst2 _ o) B = _
    rw [rst2_add, redu2_add B]; rfl
theorem redu2_zero : ∀ B : List (Nat × Nat), redu2 (0, 0) B = (0, 0)
  | [] => rfl
  | o :: B => by
    show redu2 (rst2 (0, 0) o) B = _
    have : rst2 (0, 0) o = (0, 0) := by unfold rst2; simp
    rw [this]; exact redu2_zero B
theorem redu2_zero_any : ∀ (B : List (Nat × Nat)) (b : Nat), redu2 (0, b) B = (0, b)
  | [], b => rfl
  | o :: B, b => by
    show redu2 (rst2 (0, b) o) B = _
    have : rst2 (0, b) o = (0, b) := by unfold rst2; simp
    rw [this]; exact redu2_zero_any B b
theorem redu2_mem : ∀ {B : List (Nat × Nat)} {o : Nat × Nat}, Red (B.map (·.1)) → o ∈ B → redu2 o B = (0, 0)
  | p :: B, o, r, h => by
    show redu2 (rst2 o p) B = (0, 0)
    rcases List.mem_cons.mp h with rfl | h
    · have : rst2 o o = (0, 0) := by unfold rst2; rw [top_bit (r.pos o.1 (by simp)), if_pos rfl, Nat.xor_self, Nat.xor_self]
      rw [this]; exact redu2_zero B
    · have hm : o.1 ∈ B.map (·.1) := List.mem_map_of_mem h
      have ne : p.1 ≠ o.1 := fun e => (List.nodup_cons.mp r.nd).1 (by show p.1 ∈ _; rw [e]; exact hm)
      have : rst2 o p = o := by unfold rst2; rw [r.red p.1 List.mem_cons_self o.1 (List.mem_cons_of_mem _ hm) ne]; rfl
      rw [this]; exact redu2_mem r.tail h
theorem sq_zero {B : List (Nat × Nat)} {v : Nat × Nat} (r : Red (B.map (·.1))) (s : Sq B v) : redu2 v B = (0, 0) := by
  induction s with
  | zero => exact redu2_zero B
  | step hx _ ih => rw [redu2_add, ih, redu2_mem r hx]; rfl
theorem sq_nil {B : List (Nat × Nat)} {b : Nat} (r : Red (B.map (·.1))) (s : Sq B (0, b)) : b = 0 := by
  have := sq_zero r s
  rw [redu2_zero_any] at this
  exact (Prod.mk.inj this).2

/-! ### traced -/
def wid2 (l : Nat × Nat) (B : List (Nat × Nat)) : List (Nat × Nat) := B.map fun o => if o.1.testBit l.1.log2 then (o.1 ^^^ l.1, o.2 ^^^ l.2) else o
def tst (s : List (Nat × Nat) × List Nat) (q : Nat × Nat) : List (Nat × Nat) × List Nat :=
  let l := redu2 (q.1, 2 ^ q.2) s.1
  if l.1 = 0 then (s.1, s.2 ++ [l.2]) else (l :: wid2 l s.1, s.2)
def trc0 (xs : List Nat) (k : Nat) (s : List (Nat × Nat) × List Nat) : List (Nat × Nat) × List Nat := (xs.zipIdx k).foldl tst s
def trc (xs : List Nat) : List (Nat × Nat) × List Nat := trc0 xs 0 ([], [])
structure TrOk (xs : List Nat) (s : List (Nat × Nat) × List Nat) : Prop where
  red : Red (s.1.map (·.1))
  fnd : ∀ o ∈ s.1, o.2 < 2 ^ xs.length ∧ comb xs o.2 = o.1
  idl : ∀ t ∈ s.2, t < 2 ^ xs.length ∧ comb xs t = 0
  all : ∀ m, m < 2 ^ xs.length → Sp (s.2 ++ s.1.map (·.2)) m
  sp : ∀ v, Sp (s.1.map (·.1)) v ↔ Sp xs v
theorem comb_low {xs : List Nat} {y m : Nat} (h : m < 2 ^ xs.length) : comb (xs ++ [y]) m = comb xs m := by
  rw [comb_snoc, Nat.testBit_lt_two_pow h]; simp
theorem wid2_fst (l : Nat × Nat) (B : List (Nat × Nat)) : (wid2 l B).map (·.1) = wid l.1 (B.map (·.1)) := by
  unfold wid2 wid
  rw [List.map_map, List.map_map]
  refine List.map_congr_left fun o _ => ?_
  show (if _ then _ else _ : Nat × Nat).1 = if _ then _ else _
  split <;> rfl
theorem TrOk.step {xs : List Nat} {s : List (Nat × Nat) × List Nat} (t : TrOk xs s) (y : Nat) : TrOk (xs ++ [y]) (tst s (y, xs.length)) := by
  obtain ⟨B, I⟩ := s
  have hl : (xs ++ [y]).length = xs.length + 1 := by simp
  have up : ∀ {m : Nat}, m < 2 ^ xs.length → m < 2 ^ (xs.length + 1) := fun {m} h => by rw [Nat.pow_succ]; omega
  have hB : ∀ o ∈ B, o.2 < 2 ^ (xs.length + 1) ∧ comb (xs ++ [y]) o.2 = o.1 := fun o ho => ⟨up (t.fnd o ho).1, (comb_low (t.fnd o ho).1).trans (t.fnd o ho).2⟩
  have hI : ∀ o ∈ I, o < 2 ^ (xs.length + 1) ∧ comb (xs ++ [y]) o = 0 := fun o ho => ⟨up (t.idl o ho).1, (comb_low (t.idl o ho).1).trans (t.idl o ho).2⟩
  have sq := redu2_sq B (y, 2 ^ xs.length)
  have hfst := redu2_fst B (y, 2 ^ xs.length)
  have hy : comb (xs ++ [y]) (2 ^ xs.length) = y := by
    rw [comb_pow, List.getD_eq_getElem?_getD, List.getElem?_append_right (Nat.le_refl _)]; simp
  have hp : 2 ^ xs.length < 2 ^ (xs.length + 1) := by rw [Nat.pow_succ]; have := Nat.two_pow_pos xs.length; omega
  have hc := sq.comb fun o ho => (hB o ho).2
  have hlt := sq.lt fun o ho => (hB o ho).1
  have hsnd := sq.snd
  have hff := sq.fst
  have hsp : Sp (bst (B.map (·.1)) y) = Sp (bst (B.map (·.1)) y) := rfl
  have spxs : ∀ v, Sp (y :: B.map (·.1)) v ↔ Sp (xs ++ [y]) v := fun v => by
    constructor
    · refine fun h => h.lift fun x hx => ?_
      rcases List.mem_cons.mp hx with rfl | hx
      · exact .mem (by simp)
      · exact ((t.sp x).mp (.mem hx)).mono fun z hz => List.mem_append_left _ hz
    · refine fun h => h.lift fun x hx => ?_
      rcases List.mem_append.mp hx with hx | hx
      · exact ((t.sp x).mpr (.mem hx)).mono fun z hz => List.mem_cons_of_mem _ hz
      · rw [List.mem_singleton.mp hx]; exact .mem List.mem_cons_self
  have tst_eq : tst (B, I) (y, xs.length) = if (redu2 (y, 2 ^ xs.length) B).1 = 0 then (B, I ++ [(redu2 (y, 2 ^ xs.length) B).2]) else (redu2 (y, 2 ^ xs.length) B :: wid2 (redu2 (y, 2 ^ xs.length) B) B, I) := rfl
  rw [tst_eq]
  have rb := red_bst (one := y) t.red
  have sb : ∀ v, Sp (bst (B.map (·.1)) y) v ↔ Sp (xs ++ [y]) v := fun v => sp_bst.trans (spxs v)
  have ebst : bst (B.map (·.1)) y = if (redu2 (y, 2 ^ xs.length) B).1 = 0 then B.map (·.1) else wid (redu2 (y, 2 ^ xs.length) B).1 (B.map (·.1)) ++ [(redu2 (y, 2 ^ xs.length) B).1] := by
    rw [hfst]; rfl
  rw [ebst] at rb sb
  generalize redu2 (y, 2 ^ xs.length) B = l at *
  simp only at hc hlt hsnd hff
  rw [(add_comb _).x, hy] at hc
  have hcl : comb (xs ++ [y]) l.2 = l.1 := by
    have : y ^^^ (y ^^^ comb (xs ++ [y]) l.2) = y ^^^ (y ^^^ l.1) := by rw [hc]
    rwa [xor_cancel', xor_cancel'] at this
  have hll : l.2 < 2 ^ (xs.length + 1) := by
    have := Nat.xor_lt_two_pow hp hlt
    rwa [xor_cancel'] at this
  -- every mark of one digit more
  have marks : ∀ (L : List Nat), (∀ x ∈ I ++ B.map (·.2), Sp L x) → Sp L l.2 → ∀ m, m < 2 ^ (xs.length + 1) → Sp L m := fun L h1 h2 m hm => by
    have hpow : Sp L (2 ^ xs.length) := by
      have h3 : Sp L (2 ^ xs.length ^^^ l.2) := hsnd.lift fun x hx => h1 x (List.mem_append_right _ hx)
      have := h3.add h2
      rwa [xor_cancel] at this
    by_cases c : m < 2 ^ xs.length
    · exact (t.all m c).lift h1
    · have hlow : m ^^^ 2 ^ xs.length < 2 ^ xs.length := by
        refine Nat.lt_pow_two_of_testBit _ fun i hi => ?_
        rw [Nat.testBit_xor, Nat.testBit_two_pow]
        by_cases e : i = xs.length
        · subst e
          have : m.testBit xs.length = true := by
            have h5 : m / 2 ^ xs.length = 1 := by
              have := Nat.div_lt_of_lt_mul (show m < 2 ^ xs.length * 2 by rw [← Nat.pow_succ]; exact hm)
              have := Nat.div_pos (show 2 ^ xs.length ≤ m by omega) (Nat.two_pow_pos _)
              omega
            rw [Nat.testBit_eq_decide_div_mod_eq, h5]; rfl
          rw [this]; simp
        · rw [Nat.testBit_lt_two_pow (Nat.lt_of_lt_of_le hm (Nat.pow_le_pow_right (by decide) (show xs.length + 1 ≤ i by omega)))]
          simp; omega
      have := ((t.all _ hlow).lift h1).add hpow
      rwa [xor_cancel] at this
  by_cases c : l.1 = 0
  · rw [if_pos c] at rb sb ⊢
    refine ⟨rb, fun o ho => by rw [hl]; exact hB o ho, fun o ho => ?_, fun m hm => ?_, sb⟩
    · rw [hl]
      rcases List.mem_append.mp ho with ho | ho
      · exact hI o ho
      · rw [List.mem_singleton.mp ho]; exact ⟨hll, hcl.trans c⟩
    · rw [hl] at hm
      refine marks _ (fun x hx => .mem ?_) (.mem (by simp)) m hm
      rcases List.mem_append.mp hx with hx | hx
      · exact List.mem_append_left _ (List.mem_append_left _ hx)
      · exact List.mem_append_right _ hx
  · rw [if_neg c] at rb sb ⊢
    have pm : (wid l.1 (B.map (·.1)) ++ [l.1]).Perm ((l :: wid2 l B).map (·.1)) := by
      rw [List.map_cons, wid2_fst]; exact List.perm_append_comm
    refine ⟨rb.perm pm, fun o ho => ?_, fun o ho => by rw [hl]; exact hI o ho, fun m hm => ?_, fun v => ?_⟩
    · rw [hl]
      rcases List.mem_cons.mp ho with rfl | ho
      · exact ⟨hll, hcl⟩
      · obtain ⟨p, hp', rfl⟩ := List.mem_map.mp ho
        split
        · exact ⟨Nat.xor_lt_two_pow (hB p hp').1 hll, by rw [(add_comb _).x, (hB p hp').2, hcl]⟩
        · exact hB p hp'
    · rw [hl] at hm
      refine marks _ (fun x hx => ?_) (.mem (by simp)) m hm
      rcases List.mem_append.mp hx with hx | hx
      · exact .mem (List.mem_append_left _ hx)
      · obtain ⟨p, hp', rfl⟩ := List.mem_map.mp hx
        have h0 : Sp (I ++ (l :: wid2 l B).map (·.2)) l.2 := .mem (by simp)
        have hq : (if p.1.testBit l.1.log2 then (p.1 ^^^ l.1, p.2 ^^^ l.2) else p) ∈ wid2 l B := List.mem_map_of_mem hp'
        have h1 : Sp (I ++ (l :: wid2 l B).map (·.2)) (if p.1.testBit l.1.log2 then (p.1 ^^^ l.1, p.2 ^^^ l.2) else p).2 := .mem (List.mem_append_right _ (List.mem_map_of_mem (List.mem_cons_of_mem _ hq)))
        split at h1
        · have := h1.add h0
          simp only at this
          rwa [xor_cancel] at this
        · exact h1
    · rw [← sb v]
      exact ⟨fun h => h.mono fun x hx => pm.mem_iff.mpr hx, fun h => h.mono fun x hx => pm.mem_iff.mp hx⟩
theorem trok_nil : TrOk [] ([], []) := by
  refine ⟨Red.nil, (fun _ h => nomatch h), (fun _ h => nomatch h), fun m hm => ?_, fun v => Iff.rfl⟩
  have : m = 0 := by simpa using hm
  rw [this]; exact .zero
theorem trok_aux : ∀ (ys xs : List Nat) (s : List (Nat × Nat) × List Nat), TrOk xs s → TrOk (xs ++ ys) (trc0 ys xs.length s)
  | [], xs, s, t => by rw [List.append_nil]; exact t
  | y :: ys, xs, s, t => by
    have := trok_aux ys (xs ++ [y]) _ (t.step y)
    rw [List.append_assoc, List.length_append] at this
    exact this
theorem trok (xs : List Nat) : TrOk xs (trc xs) := trok_aux xs [] _ trok_nil
/-- the marks that blend to a number -/
def trail (xs : List Nat) (one : Nat) : Option Nat := let l := redu2 (one, 0) (trc xs).1; if l.1 = 0 then some l.2 else none
theorem trail_some {xs : List Nat} {one : Nat} (h : Sp xs one) : ∃ m, trail xs one = some m ∧ m < 2 ^ xs.length ∧ comb xs m = one := by
  have t := trok xs
  have hz : (redu2 (one, 0) (trc xs).1).1 = 0 := by
    rw [redu2_fst]; exact redu_zero t.red ((t.sp one).mpr h)
  have sq := redu2_sq (trc xs).1 (one, 0)
  have hc := sq.comb fun o ho => (t.fnd o ho).2
  have hl := sq.lt fun o ho => (t.fnd o ho).1
  unfold trail
  simp only [hz, if_true]
  refine ⟨_, rfl, ?_, ?_⟩
  · simpa using hl
  · simpa [hz] using hc
theorem trail_none {xs : List Nat} {one : Nat} (h : ¬ Sp xs one) : trail xs one = none := by
  have t := trok xs
  unfold trail
  have : (redu2 (one, 0) (trc xs).1).1 ≠ 0 := fun e => h (by
    rw [redu2_fst] at e
    exact (t.sp one).mp (sp_of_redu e))
  simp only [this, if_false]
theorem idle_ok {xs : List Nat} {m : Nat} : Sp (trc xs).2 m ↔ m < 2 ^ xs.length ∧ comb xs m = 0 := by
  have t := trok xs
  constructor
  · intro h
    refine ⟨h.lt fun x hx => (t.idl x hx).1, ?_⟩
    induction h with
    | zero => exact (add_comb xs).z
    | step hx _ ih => rw [(add_comb xs).x, ih, (t.idl _ hx).2]; rfl
  · rintro ⟨h1, h2⟩
    have h3 := t.all m h1
    have split : ∀ {m : Nat}, Sp ((trc xs).2 ++ (trc xs).1.map (·.2)) m → ∃ a b, Sp (trc xs).2 a ∧ Sp ((trc xs).1.map (·.2)) b ∧ m = a ^^^ b := fun {m} h => by
      induction h with
      | zero => exact ⟨0, 0, .zero, .zero, rfl⟩
      | step hx _ ih =>
        obtain ⟨a, b, ha, hb, rfl⟩ := ih
        rcases List.mem_append.mp hx with hx | hx
        · exact ⟨_, b, Sp.step hx ha, hb, by rw [Nat.xor_assoc, Nat.xor_assoc, Nat.xor_comm b]⟩
        · exact ⟨a, _, ha, Sp.step hx hb, by rw [Nat.xor_assoc]⟩
    obtain ⟨a, b, ha, hb, rfl⟩ := split h3
    obtain ⟨v, hv⟩ := sq_of_snd hb
    have e1 := hv.comb fun o ho => (t.fnd o ho).2
    have ea : comb xs a = 0 := by
      clear h1 h2 h3
      induction ha with
      | zero => exact (add_comb xs).z
      | step hx _ ih => rw [(add_comb xs).x, ih, (t.idl _ hx).2]; rfl
    rw [(add_comb xs).x, ea, Nat.zero_xor] at h2
    simp only at e1
    rw [h2] at e1
    subst e1
    have := sq_nil t.red hv
    rw [this, Nat.xor_zero]; exact ha
end GF

set_option linter.all false
set_option maxRecDepth 100000
/-! G3: sorted bases, the kernel, the way back, steps along digits. -/
namespace GF
def insN (x : Nat) : List Nat → List Nat
  | [] => [x]
  | y :: ys => if x ≤ y then x :: y :: ys else y :: insN x ys
def sortN : List Nat → List Nat
  | [] => []
  | x :: xs => insN x (sortN xs)
theorem insN_perm (x : Nat) : ∀ ys, (insN x ys).Perm (x :: ys)
  | [] => .refl _
  | y :: ys => by
    unfold insN
    split
    · exact .refl _
    · exact ((insN_perm x ys).cons y).trans (.swap x y ys)
theorem sortN_perm : ∀ xs, (sortN xs).Perm xs
  | [] => .refl _
  | x :: xs => (insN_perm x _).trans ((sortN_perm xs).cons x)
theorem sortN_of_sorted : ∀ {xs : List Nat}, xs.Pairwise (· ≤ ·) → sortN xs = xs
  | [], _ => rfl
  | [x], _ => rfl
  | x :: y :: ys, h => by
    have h2 := List.pairwise_cons.mp h
    unfold sortN
    rw [sortN_of_sorted h2.2]
    unfold insN
    rw [if_pos (h2.1 y List.mem_cons_self)]
theorem insN_sorted (x : Nat) : ∀ {ys : List Nat}, ys.Pairwise (· ≤ ·) → (insN x ys).Pairwise (· ≤ ·)
  | [], _ => List.pairwise_singleton _ _
  | y :: ys, h => by
    have h2 := List.pairwise_cons.mp h
    unfold insN
    split
    · rename_i c
      refine List.pairwise_cons.mpr ⟨fun z hz => ?_, h⟩
      rcases List.mem_cons.mp hz with rfl | hz
      · exact c
      · exact Nat.le_trans c (h2.1 z hz)
    · rename_i c
      refine List.pairwise_cons.mpr ⟨fun z hz => ?_, insN_sorted x h2.2⟩
      rcases List.mem_cons.mp ((insN_perm x ys).mem_iff.mp hz) with rfl | hz
      · omega
      · exact h2.1 z hz
theorem sortN_sorted : ∀ xs, (sortN xs).Pairwise (· ≤ ·)
  | [] => .nil
  | x :: xs => insN_sorted x (sortN_sorted xs)
theorem sp_perm {A B : List Nat} (p : A.Perm B) {v : Nat} : Sp A v ↔ Sp B v := ⟨fun h => h.mono fun x hx => p.mem_iff.mp hx, fun h => h.mono fun x hx => p.mem_iff.mpr hx⟩
/-- the basis of some numbers -/
def bas (xs : List Nat) : List Nat := sortN (bas0 xs)
theorem bas_red (xs : List Nat) : Red (bas xs) := (bas0_red xs).perm (sortN_perm _).symm
theorem bas_sp {xs : List Nat} {v : Nat} : Sp (bas xs) v ↔ Sp xs v := (sp_perm (sortN_perm _)).trans bas0_sp
theorem bas_length (xs : List Nat) : (bas xs).length = (bas0 xs).length := (sortN_perm _).length_eq
theorem bas_len (xs : List Nat) : (bas xs).length ≤ xs.length := by rw [bas_length]; exact bas0_len xs
theorem bas_lt {xs : List Nat} {m : Nat} (h : ∀ x ∈ xs, x < 2 ^ m) : ∀ b ∈ bas xs, b < 2 ^ m := fun b hb => (bas_sp.mp (.mem hb)).lt h
theorem Onto.lenS {xs : List Nat} {m : Nat} (o : Onto xs m) : (bas xs).length = m := by rw [bas_length]; exact o.len
/-- a basis' elements are the reduced blends of what it was made of: what has no digit at k, leaves none there -/
theorem bas_bit {xs : List Nat} {k : Nat} (h : ∀ x ∈ xs, x.testBit k = false) : ∀ b ∈ bas xs, b.testBit k = false := fun b hb => (bas_sp.mp (.mem hb)).bit h

def kern (lines : List Nat) : List Nat := bas (trc lines).2
theorem kern_red (l : List Nat) : Red (kern l) := bas_red _
theorem kern_sp {l : List Nat} {m : Nat} : Sp (kern l) m ↔ m < 2 ^ l.length ∧ comb l m = 0 := bas_sp.trans idle_ok
theorem kern_mem {l : List Nat} {m : Nat} (h : m ∈ kern l) : m < 2 ^ l.length ∧ comb l m = 0 := kern_sp.mp (.mem h)
def leastO (lines : List Nat) (number : Nat) : Option Nat := (trail lines number).map fun m => redu m (kern lines)
def least (lines : List Nat) (number : Nat) : Nat := (leastO lines number).getD 0
theorem redu_comb {l : List Nat} (m : Nat) (hm : m < 2 ^ l.length) : redu m (kern l) < 2 ^ l.length ∧ comb l (redu m (kern l)) = comb l m := by
  have h := redu_sp (kern l) m
  have h2 := (kern_sp.mp h).2
  rw [(add_comb l).x] at h2
  refine ⟨redu_lt (fun b hb => (kern_mem hb).1) hm, ?_⟩
  have : comb l m ^^^ (comb l m ^^^ comb l (redu m (kern l))) = comb l m ^^^ 0 := by rw [h2]
  rwa [xor_cancel', Nat.xor_zero] at this
theorem least_ok {l : List Nat} {v : Nat} (h : Sp l v) : leastO l v = some (least l v) ∧ least l v < 2 ^ l.length ∧ comb l (least l v) = v := by
  obtain ⟨m, h1, h2, h3⟩ := trail_some h
  have e : leastO l v = some (redu m (kern l)) := by unfold leastO; rw [h1]; rfl
  have e2 : least l v = redu m (kern l) := by unfold least; rw [e]; rfl
  rw [e2]
  obtain ⟨a, b⟩ := redu_comb m h2
  exact ⟨e, a, b.trans h3⟩
/-- the fold backwards -/
def backL (lines : List Nat) (many : Nat) : List Nat := (List.range many).map fun at_ => least lines (2 ^ at_)
theorem backL_get {l : List Nat} {many k : Nat} (h : k < many) : comb (backL l many) (2 ^ k) = least l (2 ^ k) := by
  rw [comb_pow]
  unfold backL
  simp [List.getD_eq_getElem?_getD, h]

/-! ### steps along digits -/
section
variable (lines : List Nat) (many low : Nat)
def swgs : List Nat := (kern lines).map (· >>> low)
def free : List Nat := bas (swgs lines low)
def need (at_ : Nat) : Nat := comb (backL lines many) (2 ^ at_) >>> low ^^^ redu (comb (backL lines many) (2 ^ at_) >>> low) (free lines low)
def stepA (at_ : Nat) : Nat := comb (backL lines many) (2 ^ at_) ^^^ comb (kern lines) ((trail (swgs lines low) (need lines many low at_)).getD 0)
end
section
variable {lines : List Nat} {many low : Nat}
theorem free_red : Red (free lines low) := bas_red _
theorem free_sp {v : Nat} : Sp (free lines low) v ↔ ∃ m, m < 2 ^ lines.length ∧ comb lines m = 0 ∧ m >>> low = v := by
  unfold free swgs
  rw [bas_sp]
  constructor
  · intro h
    obtain ⟨m, h1, h2⟩ := h.unmap (add_shr low)
    exact ⟨m, (kern_sp.mp h1).1, (kern_sp.mp h1).2, h2⟩
  · rintro ⟨m, h1, h2, rfl⟩
    exact (kern_sp.mpr ⟨h1, h2⟩).map (add_shr low)
theorem comb_map {f : Nat → Nat} (A : Add f) : ∀ (xs : List Nat) (m : Nat), comb (xs.map f) m = f (comb xs m)
  | [], m => A.z.symm
  | x :: xs, m => by
    show (if m.testBit 0 then f x else 0) ^^^ comb (xs.map f) (m / 2) = f ((if m.testBit 0 then x else 0) ^^^ comb xs (m / 2))
    rw [comb_map A xs, A.x]
    split
    · rfl
    · rw [A.z]
theorem need_sp (at_ : Nat) : Sp (swgs lines low) (need lines many low at_) := bas_sp.mp (redu_sp _ _)
theorem need_trail (at_ : Nat) : ∃ m, trail (swgs lines low) (need lines many low at_) = some m ∧ comb (swgs lines low) m = need lines many low at_ := by
  obtain ⟨m, h1, h2, h3⟩ := trail_some (need_sp (lines := lines) (many := many) (low := low) at_)
  exact ⟨m, h1, h3⟩
theorem comb_kern (m : Nat) : comb (kern lines) m < 2 ^ lines.length ∧ comb lines (comb (kern lines) m) = 0 := kern_sp.mp (comb_sp _ _)
theorem stepA_ok {at_ : Nat} (o : Onto lines many) (h : at_ < many) : stepA lines many low at_ < 2 ^ lines.length ∧ comb lines (stepA lines many low at_) = 2 ^ at_ ∧
    stepA lines many low at_ >>> low = redu (least lines (2 ^ at_) >>> low) (free lines low) := by
  obtain ⟨m, h1, h2⟩ := need_trail (lines := lines) (many := many) (low := low) at_
  obtain ⟨_, l1, l2⟩ := least_ok (o.2 at_ h)
  obtain ⟨k1, k2⟩ := comb_kern (lines := lines) m
  have e : stepA lines many low at_ = least lines (2 ^ at_) ^^^ comb (kern lines) m := by unfold stepA; rw [h1, backL_get h]; rfl
  rw [e]
  refine ⟨Nat.xor_lt_two_pow l1 k1, by rw [(add_comb _).x, l2, k2, Nat.xor_zero], ?_⟩
  rw [(add_shr low).x]
  show least lines (2 ^ at_) >>> low ^^^ comb (kern lines) m >>> low = _
  have : comb (kern lines) m >>> low = need lines many low at_ := by rw [← h2]; exact (comb_map (add_shr low) _ _).symm
  rw [this]
  unfold need
  rw [backL_get h, xor_cancel']
end

/-! ### the gather -/
section
variable {lines : List Nat} {many low : Nat} {places : List Nat}
def gath (lines : List Nat) (many low : Nat) (places : List Nat) : List Nat := bas (places.map fun at_ => stepA lines many low at_ >>> low)
theorem gath_lt {lanes : Nat} (o : Onto lines many) (hp : ∀ a ∈ places, a < many) (hl : lines.length = low + lanes) : ∀ b ∈ gath lines many low places, b < 2 ^ lanes := bas_lt fun x hx => by
  obtain ⟨a, ha, rfl⟩ := List.mem_map.mp hx
  have := (stepA_ok (low := low) o (hp a ha)).1
  rw [hl] at this
  show stepA lines many low a >>> low < _
  rw [Nat.shiftRight_eq_div_pow]
  exact Nat.div_lt_of_lt_mul (by rw [← Nat.pow_add]; exact this)
/-- what differs along the digits is reached -/
theorem reach_all (o : Onto lines many) (hp : ∀ a ∈ places, a < many) {d : Nat} (hd : Sp (places.map (2 ^ ·)) d) : ∃ y, y < 2 ^ lines.length ∧ comb lines y = d ∧ Sp (gath lines many low places) (y >>> low) := by
  induction hd with
  | zero => exact ⟨0, Nat.two_pow_pos _, (add_comb _).z, by rw [(add_shr low).z]; exact .zero⟩
  | step hx _ ih =>
    obtain ⟨y, h1, h2, h3⟩ := ih
    obtain ⟨a, ha, rfl⟩ := List.mem_map.mp hx
    obtain ⟨s1, s2, _⟩ := stepA_ok (low := low) o (hp a ha)
    refine ⟨y ^^^ stepA lines many low a, Nat.xor_lt_two_pow h1 s1, by rw [(add_comb _).x, h2, s2], ?_⟩
    rw [(add_shr low).x]
    exact h3.add (bas_sp.mpr (.mem (List.mem_map_of_mem (f := fun at_ => stepA lines many low at_ >>> low) ha)))
theorem gath_bit (o : Onto lines many) (hp : ∀ a ∈ places, a < many) : ∀ g ∈ gath lines many low places, ∀ b ∈ free lines low, g.testBit b.log2 = false := fun g hg b hb => bas_bit (fun x hx => by
  obtain ⟨a, ha, rfl⟩ := List.mem_map.mp hx
  show (stepA lines many low a >>> low).testBit _ = false
  rw [(stepA_ok (low := low) o (hp a ha)).2.2]
  exact redu_bit free_red b hb) g hg
/-- with one number fewer not all is reached -/
theorem reach_less (o : Onto lines many) (hp : ∀ a ∈ places, a < many) {L R : List Nat} {g : Nat} (hg : gath lines many low places = L ++ g :: R)
    (h : ∀ a ∈ places, ∃ y, y < 2 ^ lines.length ∧ comb lines y = 2 ^ a ∧ Sp (L ++ R) (y >>> low)) : False := by
  have hall : ∀ a ∈ places, Sp (L ++ R) (stepA lines many low a >>> low) := fun a ha => by
    obtain ⟨y, h1, h2, h3⟩ := h a ha
    obtain ⟨s1, s2, s3⟩ := stepA_ok (low := low) o (hp a ha)
    have hU : Sp (free lines low) (y >>> low ^^^ stepA lines many low a >>> low) := by
      rw [← (add_shr low).x]
      exact free_sp.mpr ⟨_, Nat.xor_lt_two_pow h1 s1, by rw [(add_comb _).x, h2, s2, Nat.xor_self], rfl⟩
    have e := redu_eq free_red hU
    have k1 : redu (y >>> low) (free lines low) = y >>> low := redu_keep fun b hb => h3.bit fun x hx => gath_bit o hp x (by
      rw [hg]
      rcases List.mem_append.mp hx with hx | hx
      · exact List.mem_append_left _ hx
      · exact List.mem_append_right _ (List.mem_cons_of_mem _ hx)) b hb
    have k2 : redu (stepA lines many low a >>> low) (free lines low) = stepA lines many low a >>> low := by rw [s3]; exact redu_idem free_red
    rw [k1, k2] at e
    rw [← e]; exact h3
  have r : Red (L ++ g :: R) := by rw [← hg]; exact bas_red _
  have hgs : Sp (L ++ R) g := by
    have h1 : Sp (gath lines many low places) g := .mem (by rw [hg]; simp)
    refine (bas_sp.mp h1).lift fun x hx => ?_
    obtain ⟨a, ha, rfl⟩ := List.mem_map.mp hx
    exact hall a ha
  have nd := r.nd
  have ne : ∀ x ∈ L ++ R, g ≠ x := fun x hx e => by
    subst e
    have := List.nodup_append.mp nd
    rcases List.mem_append.mp hx with hx | hx
    · exact this.2.2 g hx g List.mem_cons_self rfl
    · exact (List.nodup_cons.mp this.2.1).1 hx
  have : g.testBit g.log2 = false := hgs.bit fun x hx => r.red g (by simp) x (by
    rcases List.mem_append.mp hx with hx | hx
    · exact List.mem_append_left _ hx
    · exact List.mem_append_right _ (List.mem_cons_of_mem _ hx)) (ne x hx)
  rw [top_bit (r.pos g (by simp))] at this
  cases this
theorem gath_count (places : List Nat) (a : Nat) : (gath lines many low (places ++ [a])).length = (gath lines many low places).length ∨ (gath lines many low (places ++ [a])).length = (gath lines many low places).length + 1 := by
  unfold gath
  rw [bas_length, bas_length, List.map_append]
  unfold bas0
  rw [List.foldl_append]
  exact bst_len _ _
end

/-! ### spans and images as lists -/
def spanL (xs : List Nat) : List Nat := xs.foldl (fun f one => if one ∈ f then f else f ++ f.map (· ^^^ one)) [0]
theorem spanL_aux : ∀ (ys xs f : List Nat), (∀ v, v ∈ f ↔ Sp xs v) → ∀ v, v ∈ ys.foldl (fun f one => if one ∈ f then f else f ++ f.map (· ^^^ one)) f ↔ Sp (xs ++ ys) v
  | [], xs, f, h, v => by rw [List.append_nil]; exact h v
  | y :: ys, xs, f, h, v => by
    rw [List.foldl_cons]
    have := spanL_aux ys (xs ++ [y]) (if y ∈ f then f else f ++ f.map (· ^^^ y)) (fun v => ?_) v
    · rw [this, List.append_assoc]; rfl
    · have sub : ∀ {v}, Sp xs v → Sp (xs ++ [y]) v := fun s => s.mono fun z hz => List.mem_append_left _ hz
      have split : ∀ {v}, Sp (xs ++ [y]) v → Sp xs v ∨ ∃ u, Sp xs u ∧ v = u ^^^ y := fun {v} s => by
        induction s with
        | zero => exact .inl .zero
        | step hx _ ih =>
          rcases List.mem_append.mp hx with hx | hx
          · rcases ih with ih | ⟨u, hu, rfl⟩
            · exact .inl (ih.step hx)
            · exact .inr ⟨_, hu.step hx, by rw [Nat.xor_assoc, Nat.xor_assoc, Nat.xor_comm y]⟩
          · rw [List.mem_singleton.mp hx]
            rcases ih with ih | ⟨u, hu, rfl⟩
            · exact .inr ⟨_, ih, rfl⟩
            · rw [xor_cancel]; exact .inl hu
      by_cases c : y ∈ f
      · rw [if_pos c]
        have hy := (h y).mp c
        rw [h v]
        refine ⟨sub, fun s => s.lift fun x hx => ?_⟩
        rcases List.mem_append.mp hx with hx | hx
        · exact .mem hx
        · rw [List.mem_singleton.mp hx]; exact hy
      · rw [if_neg c, List.mem_append, h v]
        constructor
        · rintro (s | hm)
          · exact sub s
          · obtain ⟨u, hu, rfl⟩ := List.mem_map.mp hm
            exact (sub ((h u).mp hu)).step (by simp)
        · intro s
          rcases split s with s | ⟨u, hu, rfl⟩
          · exact .inl s
          · exact .inr (List.mem_map_of_mem (f := (· ^^^ y)) ((h u).mpr hu))
theorem spanL_mem {xs : List Nat} {v : Nat} : v ∈ spanL xs ↔ Sp xs v := by
  have := spanL_aux xs [] [0] (fun v => by
    constructor
    · intro h; rw [List.mem_singleton.mp h]; exact .zero
    · intro h
      have : v = 0 := by
        induction h with
        | zero => rfl
        | step hx _ _ => cases hx
      rw [this]; exact List.mem_cons_self) v
  exact this
def imgs (xs : List Nat) : List Nat := xs.foldl (fun f l => f ++ f.map (· ^^^ l)) [0]
theorem imgs_aux : ∀ (ys xs : List Nat), ys.foldl (fun f l => f ++ f.map (· ^^^ l)) ((List.range (2 ^ xs.length)).map (comb xs)) = (List.range (2 ^ (xs ++ ys).length)).map (comb (xs ++ ys))
  | [], xs => by simp
  | y :: ys, xs => by
    rw [List.foldl_cons]
    have e : (List.range (2 ^ xs.length)).map (comb xs) ++ ((List.range (2 ^ xs.length)).map (comb xs)).map (· ^^^ y) = (List.range (2 ^ (xs ++ [y]).length)).map (comb (xs ++ [y])) := by
      have : 2 ^ (xs ++ [y]).length = 2 ^ xs.length + 2 ^ xs.length := by simp [Nat.pow_succ]; omega
      rw [this, List.range_add, List.map_append, List.map_map, List.map_map]
      congr 1
      · refine List.map_congr_left fun i hi => ?_
        exact (comb_low (List.mem_range.mp hi)).symm
      · refine List.map_congr_left fun i hi => ?_
        have hi := List.mem_range.mp hi
        show comb xs i ^^^ y = comb (xs ++ [y]) (2 ^ xs.length + i)
        have e : 2 ^ xs.length + i = i ^^^ 2 ^ xs.length := by
          refine Nat.eq_of_testBit_eq fun j => ?_
          rw [Nat.testBit_xor, Nat.testBit_two_pow]
          by_cases c : j = xs.length
          · subst c
            rw [Nat.testBit_two_pow_add_eq, Nat.testBit_lt_two_pow hi]; simp
          · by_cases c2 : j < xs.length
            · rw [Nat.testBit_two_pow_add_gt c2]
              have : ¬ xs.length = j := by omega
              simp [this]
            · rw [Nat.testBit_lt_two_pow (x := i) (i := j) (Nat.lt_of_lt_of_le hi (Nat.pow_le_pow_right (by decide) (by omega))), Nat.testBit_lt_two_pow (i := j)]
              · have : ¬ xs.length = j := by omega
                simp [this]
              · have : 2 ^ (xs.length + 1) ≤ 2 ^ j := Nat.pow_le_pow_right (by decide) (by omega)
                rw [Nat.pow_succ] at this
                omega
        rw [e, (add_comb _).x, comb_low hi, comb_pow]
        congr 1
        rw [List.getD_eq_getElem?_getD, List.getElem?_append_right (Nat.le_refl _)]; simp
    rw [e, imgs_aux ys (xs ++ [y]), List.append_assoc]; rfl
theorem imgs_eq (xs : List Nat) : imgs xs = (List.range (2 ^ xs.length)).map (comb xs) := by
  have := imgs_aux xs []
  unfold imgs
  simpa [comb] using this
end GF

set_option linter.all false
set_option maxRecDepth 100000
/-! G4: drawn spreads are onto. -/
namespace GF
theorem Onto.perm {A B : List Nat} {m : Nat} (o : Onto A m) (p : A.Perm B) : Onto B m := ⟨fun x hx => o.1 x (p.mem_iff.mpr hx), fun k hk => (sp_perm p).mp (o.2 k hk)⟩
theorem onto_units (m : Nat) {xs : List Nat} (h : ∀ x ∈ xs, x < 2 ^ m) : Onto ((List.range m).map (2 ^ ·) ++ xs) m := by
  refine ⟨fun x hx => ?_, fun k hk => .mem (List.mem_append_left _ (List.mem_map.mpr ⟨k, List.mem_range.mpr hk, rfl⟩))⟩
  rcases List.mem_append.mp hx with hx | hx
  · obtain ⟨k, hk, rfl⟩ := List.mem_map.mp hx
    exact Nat.pow_lt_pow_right (by decide) (List.mem_range.mp hk)
  · exact h x hx
/-- one row blended into another -/
theorem Onto.row {l : List Nat} {m i j : Nat} (o : Onto l m) (hi : i < l.length) (hj : j < l.length) (ne : j ≠ i) : Onto (l.set i (l.getD i 0 ^^^ l.getD j 0)) m := by
  have gi : l.getD i 0 ∈ l := by rw [List.getD_eq_getElem?_getD, List.getElem?_eq_getElem hi]; exact List.getElem_mem hi
  have gj : l.getD j 0 ∈ l := by rw [List.getD_eq_getElem?_getD, List.getElem?_eq_getElem hj]; exact List.getElem_mem hj
  have mj : l.getD j 0 ∈ l.set i (l.getD i 0 ^^^ l.getD j 0) := by
    refine List.mem_iff_getElem?.mpr ⟨j, ?_⟩
    rw [List.getElem?_set_ne (Ne.symm ne), List.getD_eq_getElem?_getD, List.getElem?_eq_getElem hj]; rfl
  have mi : (l.getD i 0 ^^^ l.getD j 0) ∈ l.set i (l.getD i 0 ^^^ l.getD j 0) := List.mem_set hi _
  refine ⟨fun x hx => ?_, fun k hk => (o.2 k hk).lift fun x hx => ?_⟩
  · rcases List.mem_or_eq_of_mem_set hx with hx | rfl
    · exact o.1 x hx
    · exact Nat.xor_lt_two_pow (o.1 _ gi) (o.1 _ gj)
  · obtain ⟨k, hk, rfl⟩ := List.getElem_of_mem hx
    by_cases e : k = i
    · subst e
      have h1 := (Sp.mem mi).add (Sp.mem mj)
      rw [xor_cancel] at h1
      have e : l.getD k 0 = l[k] := by rw [List.getD_eq_getElem?_getD, List.getElem?_eq_getElem hi]; rfl
      rw [← e]
      exact h1
    · refine .mem (List.mem_iff_getElem?.mpr ⟨k, ?_⟩)
      rw [List.getElem?_set_ne (Ne.symm e), List.getElem?_eq_getElem hk]
/-- one digit blended into another -/
def colf (i j x : Nat) : Nat := x ^^^ ((x >>> i &&& 1) <<< j)
theorem colf_bit {i j x : Nat} (k : Nat) : (colf i j x).testBit k = (x.testBit k ^^ (decide (k = j) && x.testBit i)) := by
  unfold colf
  rw [Nat.testBit_xor]
  congr 1
  rw [Nat.testBit_shiftLeft, Nat.testBit_and, Nat.testBit_shiftRight]
  by_cases e : k = j
  · subst e; simp
  · simp only [e, decide_false, Bool.false_and]
    by_cases c : j ≤ k
    · have : k - j ≠ 0 := by omega
      have h1 : (1 : Nat).testBit (k - j) = false := by
        cases h : k - j with
        | zero => exact absurd h this
        | succ n => simp [Nat.testBit_succ]
      rw [h1]; simp
    · simp [c]
theorem add_colf (i j : Nat) : Add (colf i j) := by
  refine ⟨Nat.eq_of_testBit_eq fun k => by rw [colf_bit]; simp, fun a b => Nat.eq_of_testBit_eq fun k => ?_⟩
  rw [Nat.testBit_xor, colf_bit, colf_bit, colf_bit, Nat.testBit_xor, Nat.testBit_xor]
  cases decide (k = j) <;> cases a.testBit k <;> cases a.testBit i <;> cases b.testBit k <;> cases b.testBit i <;> rfl
theorem colf_colf {i j : Nat} (ne : i ≠ j) (x : Nat) : colf i j (colf i j x) = x := Nat.eq_of_testBit_eq fun k => by
  rw [colf_bit, colf_bit, colf_bit]
  have : decide (i = j) = false := decide_eq_false ne
  rw [this]
  cases decide (k = j) <;> cases x.testBit k <;> cases x.testBit i <;> rfl
theorem colf_lt {i j x m : Nat} (hj : j < m) (h : x < 2 ^ m) : colf i j x < 2 ^ m := Nat.lt_pow_two_of_testBit _ fun k hk => by
  rw [colf_bit, Nat.testBit_lt_two_pow (Nat.lt_of_lt_of_le h (Nat.pow_le_pow_right (by decide) hk))]
  have : decide (k = j) = false := decide_eq_false (by omega)
  rw [this]; rfl
theorem Onto.col {l : List Nat} {m i j : Nat} (o : Onto l m) (hj : j < m) (ne : i ≠ j) : Onto (l.map (colf i j)) m := by
  refine ⟨fun x hx => ?_, fun k hk => ?_⟩
  · obtain ⟨y, hy, rfl⟩ := List.mem_map.mp hx
    exact colf_lt hj (o.1 y hy)
  · have h := (o.all (colf_lt (i := i) hj (Nat.pow_lt_pow_right (a := 2) (by decide) hk))).map (add_colf i j)
    rwa [colf_colf ne] at h
end GF

set_option Elab.async false
set_option linter.all false
set_option maxRecDepth 100000
/-! E2: natural numbers and lists of them in the evaluator. -/
namespace Z
open PySem GF
abbrev nI (n : Nat) : PV := .int (n : Int)
def nsP (ns : List Nat) : List PV := ns.map fun n : Nat => PV.int (n : Int)
theorem nsP_eq (ns : List Nat) : nsP ns = ns.map fun n : Nat => PV.int (n : Int) := of_eq_true (eq_true rfl)
theorem nsP_nil : nsP [] = [] := of_eq_true (eq_true rfl)
theorem nsP_cons (n : Nat) (ns : List Nat) : nsP (n :: ns) = .int (n : Int) :: nsP ns := of_eq_true (eq_true rfl)
theorem nsP_append (a b : List Nat) : nsP (a ++ b) = nsP a ++ nsP b := by unfold nsP; rw [List.map_append]
theorem nsP_length (a : List Nat) : (nsP a).length = a.length := by unfold nsP; rw [List.length_map]
theorem nsP_map {α : Type} (f : α → Nat) (xs : List α) : nsP (xs.map f) = xs.map fun x => .int (f x : Int) := by unfold nsP; rw [List.map_map]; rfl
theorem frzL_nil : frzL [] = true := of_eq_true (eq_true rfl)
theorem frzL_cons (x : PV) (xs : List PV) : frzL (x :: xs) = (x.frz && frzL xs) := of_eq_true (eq_true rfl)
theorem fzL_nil : fzL [] = [] := of_eq_true (eq_true rfl)
theorem fzL_cons (x : PV) (xs : List PV) : fzL (x :: xs) = x.fz :: fzL xs := of_eq_true (eq_true rfl)
theorem frzL_ns : ∀ ns : List Nat, frzL (nsP ns) = true
  | [] => rfl
  | x :: xs => by rw [nsP_cons, frzL_cons, frz_int, frzL_ns xs]; rfl
theorem fzL_ns (ns : List Nat) : fzL (nsP ns) = nsP ns := frzL_fzL_of (frzL_ns ns)
theorem frz_lf (xs : List PV) : (PV.lst false xs).frz = frzL xs := by (conv => lhs; unfold PV.frz); simp
theorem frz_lt (xs : List PV) : (PV.lst true xs).frz = false := by (conv => lhs; unfold PV.frz); simp
theorem frz_tp (xs : List PV) : (PV.tup xs).frz = frzL xs := by conv => lhs; unfold PV.frz
theorem frz_df (ks : List L2.Key) (xs : List PV) : (PV.dic false ks xs).frz = frzL xs := by (conv => lhs; unfold PV.frz); simp
theorem frz_dt (ks : List L2.Key) (xs : List PV) : (PV.dic true ks xs).frz = false := by (conv => lhs; unfold PV.frz); simp
theorem frz_of (C : Nat) (as : List Nat) (xs : List PV) : (PV.obj false C as xs).frz = frzL xs := by (conv => lhs; unfold PV.frz); simp
theorem frz_ot (C : Nat) (as : List Nat) (xs : List PV) : (PV.obj true C as xs).frz = false := by (conv => lhs; unfold PV.frz); simp
theorem frz_non : PV.non.frz = true := by unfold PV.frz; rfl
theorem frz_str (s : Str) : (PV.str s).frz = true := by unfold PV.frz; rfl
theorem frz_scr (s : List Int) : (PV.scr s).frz = true := by unfold PV.frz; rfl
theorem fz_lf (xs : List PV) : (PV.lst false xs).fz = .lst false xs := by unfold PV.fz; rfl
theorem fz_lt (xs : List PV) : (PV.lst true xs).fz = .lst false (fzL xs) := by conv => lhs; unfold PV.fz
theorem fz_tp (xs : List PV) : (PV.tup xs).fz = .tup (fzL xs) := by conv => lhs; unfold PV.fz
theorem fz_df (ks : List L2.Key) (xs : List PV) : (PV.dic false ks xs).fz = .dic false ks xs := by unfold PV.fz; rfl
theorem fz_dt (ks : List L2.Key) (xs : List PV) : (PV.dic true ks xs).fz = .dic false ks (fzL xs) := by conv => lhs; unfold PV.fz
theorem fz_of (C : Nat) (as : List Nat) (xs : List PV) : (PV.obj false C as xs).fz = .obj false C as xs := by unfold PV.fz; rfl
theorem fz_ot (C : Nat) (as : List Nat) (xs : List PV) : (PV.obj true C as xs).fz = .obj false C as (fzL xs) := by conv => lhs; unfold PV.fz
theorem fz_non : PV.non.fz = .non := by unfold PV.fz; rfl
theorem fz_str (s : Str) : (PV.str s).fz = .str s := by unfold PV.fz; rfl
theorem fz_scr (s : List Int) : (PV.scr s).fz = .scr s := by unfold PV.fz; rfl
/-! ### numbers -/
theorem i0 : (0 : Int) = ((0 : Nat) : Int) := of_eq_true (eq_true rfl)
theorem i1 : (1 : Int) = ((1 : Nat) : Int) := of_eq_true (eq_true rfl)
theorem i2 : (2 : Int) = ((2 : Nat) : Int) := of_eq_true (eq_true rfl)
theorem i3 : (3 : Int) = ((3 : Nat) : Int) := of_eq_true (eq_true rfl)
theorem i4 : (4 : Int) = ((4 : Nat) : Int) := of_eq_true (eq_true rfl)
theorem i5 : (5 : Int) = ((5 : Nat) : Int) := of_eq_true (eq_true rfl)
theorem i6 : (6 : Int) = ((6 : Nat) : Int) := of_eq_true (eq_true rfl)
theorem i7 : (7 : Int) = ((7 : Nat) : Int) := of_eq_true (eq_true rfl)
theorem i12 : (12 : Int) = ((12 : Nat) : Int) := of_eq_true (eq_true rfl)
theorem i8 : (8 : Int) = ((8 : Nat) : Int) := of_eq_true (eq_true rfl)
theorem i9 : (9 : Int) = ((9 : Nat) : Int) := of_eq_true (eq_true rfl)
theorem i17 : (17 : Int) = ((17 : Nat) : Int) := of_eq_true (eq_true rfl)
theorem i20 : (20 : Int) = ((20 : Nat) : Int) := of_eq_true (eq_true rfl)
theorem i41 : (41 : Int) = ((41 : Nat) : Int) := of_eq_true (eq_true rfl)
theorem i63 : (63 : Int) = ((63 : Nat) : Int) := of_eq_true (eq_true rfl)
theorem i64 : (64 : Int) = ((64 : Nat) : Int) := of_eq_true (eq_true rfl)
theorem i100 : (100 : Int) = ((100 : Nat) : Int) := of_eq_true (eq_true rfl)
theorem i2001 : (2001 : Int) = ((2001 : Nat) : Int) := of_eq_true (eq_true rfl)
theorem i69621 : (69621 : Int) = ((69621 : Nat) : Int) := of_eq_true (eq_true rfl)
theorem i40693 : (40693 : Int) = ((40693 : Nat) : Int) := of_eq_true (eq_true rfl)
theorem i2147483549 : (2147483549 : Int) = ((2147483549 : Nat) : Int) := of_eq_true (eq_true rfl)
theorem b_add (a b : Nat) : binI .add (a : Int) (b : Int) = some ((a + b : Nat) : Int) := of_eq_true (eq_true rfl)
theorem b_sub {a b : Nat} (h : b ≤ a) : binI .sub (a : Int) (b : Int) = some ((a - b : Nat) : Int) := by
  show some ((a : Int) - b) = _
  rw [Int.ofNat_sub h]
theorem b_mul {a b : Nat} (h : b < 18446744073709551616) : binI .mul (a : Int) (b : Int) = some ((a * b : Nat) : Int) := by
  show (if mulOk a b = true then some ((a : Int) * b) else none) = _
  rw [if_pos]
  · rfl
  · unfold mulOk
    simp only [Bool.or_eq_true, Bool.and_eq_true, decide_eq_true_eq]
    right; omega
theorem b_mod {a b : Nat} (h : 0 < b) : binI .mod (a : Int) (b : Int) = some ((a % b : Nat) : Int) := by
  show (if 0 < (b : Int) then some ((a : Int) % b) else none) = _
  rw [if_pos (by omega)]; rfl
theorem b_fdiv {a b : Nat} (h : 0 < b ∧ b < 1073741824) : binI .fdiv (a : Int) (b : Int) = some ((a / b : Nat) : Int) := by
  show (if 0 < (b : Int) ∧ (b : Int) < 1073741824 then some ((a : Int) / b) else none) = _
  rw [if_pos (by omega)]; rfl
theorem b_shr (a b : Nat) : binI .shr (a : Int) (b : Int) = some ((a >>> b : Nat) : Int) := by
  show (if 0 ≤ (b : Int) then some ((a : Int) / 2 ^ (b : Int).toNat) else none) = _
  rw [if_pos (by omega), Int.toNat_natCast, Nat.shiftRight_eq_div_pow]; rfl
theorem b_shl {a b : Nat} (h : b ≤ 1000000 ∧ a < 18446744073709551616) : binI .shl (a : Int) (b : Int) = some ((a <<< b : Nat) : Int) := by
  show (if 0 ≤ (b : Int) ∧ (b : Int) ≤ 1000000 ∧ (a : Int).natAbs < 2 ^ 64 then some ((a : Int) * 2 ^ (b : Int).toNat) else none) = _
  rw [if_pos ⟨by omega, by omega, by show a < _; omega⟩, Int.toNat_natCast, Nat.shiftLeft_eq]; rfl
theorem b_shl1 {b : Nat} (h : b ≤ 1000000) : binI .shl ((1 : Nat) : Int) (b : Int) = some ((2 ^ b : Nat) : Int) := by
  rw [b_shl ⟨h, by decide⟩, Nat.shiftLeft_eq, Nat.one_mul]
theorem b_band (a b : Nat) : binI .band (a : Int) (b : Int) = some ((a &&& b : Nat) : Int) := by
  show some (Builtin.bitAnd a b) = _
  congr 1
theorem b_bxor (a b : Nat) : binI .bxor (a : Int) (b : Int) = some ((a ^^^ b : Nat) : Int) := by
  show some (Builtin.bitXor a b) = _
  rw [Bits.bitXor_pp (by omega) (by omega)]; rfl
theorem c_lt (a b : Nat) : cmpop .lt (.int (a : Int)) (.int (b : Int)) = some (decide (a < b)) := by
  show some (decide ((a : Int) < b)) = _; congr 1; simp
theorem c_le (a b : Nat) : cmpop .le (.int (a : Int)) (.int (b : Int)) = some (decide (a ≤ b)) := by
  show some (decide ((a : Int) ≤ b)) = _; congr 1; simp
theorem c_gt (a b : Nat) : cmpop .gt (.int (a : Int)) (.int (b : Int)) = some (decide (b < a)) := by
  show some (decide ((b : Int) < a)) = _; congr 1; simp
theorem c_ge (a b : Nat) : cmpop .ge (.int (a : Int)) (.int (b : Int)) = some (decide (b ≤ a)) := by
  show some (decide ((b : Int) ≤ a)) = _; congr 1; simp
theorem c_eq (a b : Nat) : cmpop .eq (.int (a : Int)) (.int (b : Int)) = some (decide (a = b)) := by
  show some (decide ((a : Int) = b)) = _; congr 1; exact decide_eq_decide.mpr (by omega)
theorem c_ne (a b : Nat) : cmpop .ne (.int (a : Int)) (.int (b : Int)) = some (decide (a ≠ b)) := by
  show some (!decide ((a : Int) = b)) = _
  congr 1
  by_cases h : a = b
  · simp [h]
  · have : ¬ (a : Int) = b := by omega
    simp [h, this]
theorem c_isn (x : PV) : cmpop .isn x .non = some (isNon x) := by cases x <;> rfl
theorem c_notn (x : PV) : cmpop .notn x .non = some (!isNon x) := by cases x <;> rfl
theorem c_eqg (x y : PV) : cmpop .eq x y = eqP x y := of_eq_true (eq_true rfl)
theorem c_neg (x y : PV) : cmpop .ne x y = (eqP x y).map (!·) := of_eq_true (eq_true rfl)
theorem isNon_non : isNon .non = true := of_eq_true (eq_true rfl)
theorem isNon_int (i : Int) : isNon (.int i) = false := of_eq_true (eq_true rfl)
theorem bits_nat (a : Nat) : Builtin.Int.intBits (a : Int) = if a = 0 then 0 else a.log2 + 1 := by
  unfold Builtin.Int.intBits
  by_cases h : a = 0
  · subst h; rfl
  · rw [if_neg h, if_neg (by simpa using h)]; rfl
theorem m_bits {a : Nat} (h : a ≠ 0) : bmeth .bits (.int (a : Int)) [] = some (.int ((a.log2 + 1 : Nat) : Int)) := by
  show some (PV.int (Builtin.Int.intBits (a : Int) : Nat)) = _
  rw [bits_nat, if_neg h]
/-- a number has 1 at a place -/
theorem and_top {a k : Nat} : (0 < a &&& 2 ^ k) = (a.testBit k = true) := by
  refine propext ⟨fun h => Classical.byContradiction fun c => ?_, fun h => ?_⟩
  · have : a &&& 2 ^ k = 0 := Nat.eq_of_testBit_eq fun i => by
      rw [Nat.testBit_and, Nat.testBit_two_pow, Nat.zero_testBit]
      by_cases e : k = i
      · subst e; simpa using c
      · simp [e]
    omega
  · refine Nat.pos_of_ne_zero fun e => ?_
    have : (a &&& 2 ^ k).testBit k = true := by rw [Nat.testBit_and, h, Nat.testBit_two_pow]; simp
    rw [e, Nat.zero_testBit] at this; cases this
theorem shr_and_one (a k : Nat) : (a >>> k &&& 1 = 1) = (a.testBit k = true) := by
  rw [Nat.testBit]
  simp [Nat.and_comm]
/-! ### built-ins over lists of numbers -/
theorem intsOf_nil : intsOf [] = some [] := of_eq_true (eq_true rfl)
theorem intsOf_cons (i : Int) (xs : List PV) : intsOf (.int i :: xs) = (intsOf xs).map (i :: ·) := of_eq_true (eq_true rfl)
theorem intsOf_ns : ∀ ns : List Nat, intsOf (nsP ns) = some (ns.map fun n : Nat => (n : Int))
  | [] => rfl
  | x :: xs => by rw [nsP_cons, intsOf_cons, intsOf_ns xs]; rfl
theorem insI_nat (x : Nat) : ∀ ys : List Nat, insI (x : Int) (ys.map fun n : Nat => (n : Int)) = (insN x ys).map fun n : Nat => (n : Int)
  | [] => rfl
  | y :: ys => by
    rw [List.map_cons]
    unfold insI insN
    by_cases c : x ≤ y
    · rw [if_pos c, if_pos (by omega)]; rfl
    · rw [if_neg c, if_neg (by omega), insI_nat x ys]; rfl
theorem sortI_nat : ∀ ys : List Nat, sortI (ys.map fun n : Nat => (n : Int)) = (sortN ys).map fun n : Nat => (n : Int)
  | [] => rfl
  | y :: ys => by
    rw [List.map_cons]
    unfold sortI sortN
    rw [sortI_nat ys, insI_nat]
theorem f_sorted (o : Bool) (ns : List Nat) : bfun .sorted [.lst o (nsP ns)] = some (.lst true (nsP (sortN ns))) := by
  show (intsOf (nsP ns)).map _ = _
  rw [intsOf_ns, Option.map_some, sortI_nat, List.map_map]; rfl
theorem f_len_l (o : Bool) (xs : List PV) : bfun .len [.lst o xs] = some (.int (xs.length : Nat)) := of_eq_true (eq_true rfl)
theorem f_len_t (xs : List PV) : bfun .len [.tup xs] = some (.int (xs.length : Nat)) := of_eq_true (eq_true rfl)
theorem f_tuple_l (o : Bool) {xs : List PV} (h : frzL xs = true) : bfun .tuple [.lst o xs] = some (.tup xs) := by
  show (if frzL xs = true then _ else _) = _
  rw [if_pos h]
theorem f_tuple_t {xs : List PV} (h : frzL xs = true) : bfun .tuple [.tup xs] = some (.tup xs) := by
  show (if frzL xs = true then _ else _) = _
  rw [if_pos h]
theorem f_list_l (o : Bool) {xs : List PV} (h : frzL xs = true) : bfun .list [.lst o xs] = some (.lst true xs) := by
  show (if frzL xs = true then _ else _) = _
  rw [if_pos h]
theorem f_list_t {xs : List PV} (h : frzL xs = true) : bfun .list [.tup xs] = some (.lst true xs) := by
  show (if frzL xs = true then _ else _) = _
  rw [if_pos h]
theorem f_max2 (a b : Nat) : bfun .max2 [.int (a : Int), .int (b : Int)] = some (.int ((max a b : Nat) : Int)) := by
  show some (PV.int (if (b : Int) > a then b else a)) = _
  congr 2
  by_cases c : b > a
  · rw [if_pos (by omega)]; omega
  · rw [if_neg (by omega)]; omega
theorem f_int_b (b : Bool) : bfun .int [.bl b] = some (.int ((b.toNat : Nat) : Int)) := by cases b <;> rfl
theorem blsOf_map {α : Type} (p : α → Bool) : ∀ xs : List α, blsOf (xs.map fun x => .bl (p x)) = some (xs.map p)
  | [] => rfl
  | x :: xs => by
    show (blsOf (xs.map fun x => .bl (p x))).map _ = _
    rw [blsOf_map p xs]; rfl
theorem f_any {α : Type} (o : Bool) (p : α → Bool) (xs : List α) : bfun .any [.lst o (xs.map fun x => .bl (p x))] = some (.bl (xs.any p)) := by
  show (blsOf _).map _ = _
  rw [blsOf_map, Option.map_some, List.any_map]; rfl
theorem f_all {α : Type} (o : Bool) (p : α → Bool) (xs : List α) : bfun .all [.lst o (xs.map fun x => .bl (p x))] = some (.bl (xs.all p)) := by
  show (blsOf _).map _ = _
  rw [blsOf_map, Option.map_some, List.all_map]; rfl
theorem f_lenset (o : Bool) {ns : List Nat} (h : ns.Nodup) (hl : ns.length ≤ 4000) : bfun .lenset [.lst o (nsP ns)] = some (.int (ns.length : Nat)) := by
  show (match intsOf (nsP ns) with | some ns => _ | none => _) = _
  rw [intsOf_ns]
  show (if (ns.map fun n : Nat => (n : Int)).length ≤ 4000 ∧ (ns.map fun n : Nat => (n : Int)).Nodup then _ else _) = _
  rw [if_pos ⟨by simpa using hl, List.pairwise_map.mpr (h.imp fun {a b} ne e => ne (by omega))⟩, List.length_map]
theorem binop_ll (o p : Bool) {xs ys : List PV} (h : xs.length + ys.length ≤ lineB) (h1 : frzL xs = true) (h2 : frzL ys = true) : binop .add (.lst o xs) (.lst p ys) = some (.lst true (xs ++ ys)) := by
  unfold binop
  exact if_pos ⟨h, h1, h2⟩
theorem binop_tt {xs ys : List PV} (h : xs.length + ys.length ≤ lineB) (h1 : frzL xs = true) (h2 : frzL ys = true) : binop .add (.tup xs) (.tup ys) = some (.tup (xs ++ ys)) := by
  unfold binop
  exact if_pos ⟨h, h1, h2⟩
theorem itemsOf_l (o : Bool) (xs : List PV) : itemsOf (.lst o xs) = some xs := of_eq_true (eq_true rfl)
theorem itemsOf_t (xs : List PV) : itemsOf (.tup xs) = some xs := of_eq_true (eq_true rfl)
theorem getI_nat {xs : List PV} {k : Nat} {x : PV} (h : xs[k]? = some x) : getI xs (k : Int) = some x := by
  obtain ⟨hk, e⟩ := List.getElem?_eq_some_iff.mp h
  unfold getI ixN
  rw [if_pos (by omega), if_pos (by omega), Int.toNat_natCast]
  exact h
theorem getI_ns {ns : List Nat} {k : Nat} (h : k < ns.length) : getI (nsP ns) (k : Int) = some (.int ((ns.getD k 0 : Nat) : Int)) := by
  refine getI_nat ?_
  unfold nsP
  rw [List.getElem?_map, List.getElem?_eq_getElem h, List.getD_eq_getElem?_getD, List.getElem?_eq_getElem h]; rfl
theorem item_l (o : Bool) (xs : List PV) (i : Int) : item (.lst o xs) (.int i) = getI xs i := of_eq_true (eq_true rfl)
theorem item_t (xs : List PV) (i : Int) : item (.tup xs) (.int i) = getI xs i := of_eq_true (eq_true rfl)
theorem getI_nil (i : Int) (h : 0 ≤ i) : getI [] i = none := by unfold getI ixN; rw [if_pos h, if_neg (by simp; omega)]; rfl
theorem okR_nat {n : Nat} (h : n < 4611686018427387904) : okR (n : Int) = true := by
  unfold okR
  simp only [Bool.and_eq_true, decide_eq_true_eq]
  omega
theorem rngs_nat (n : Nat) : rngs ((0 : Nat) : Int) (n : Int).toNat = nsP (List.range n) := by
  unfold rngs nsP
  rw [Int.toNat_natCast]
  refine List.map_congr_left fun k _ => ?_
  simp
theorem rngs_nat2 (a b : Nat) : rngs (a : Int) ((b : Int) - (a : Int)).toNat = (List.range (b - a)).map fun k => .int ((a + k : Nat) : Int) := by
  unfold rngs
  have : ((b : Int) - (a : Int)).toNat = b - a := by omega
  rw [this]
  refine List.map_congr_left fun k _ => ?_
  simp
theorem enum_ns (ns : List Nat) : ((nsP ns).zipIdx.map fun p => PV.tup [.int (p.2 : Nat), p.1]) = (ns.zipIdx).map fun q => .tup [.int ((q.2 : Nat) : Int), .int ((q.1 : Nat) : Int)] := by
  unfold nsP
  rw [List.zipIdx_map, List.map_map]
  rfl
theorem loopF_g {S α : Type} (g : α → PV) (E : S → Env) (step : S → α → S) (P : S → Prop) {t : Pat} {kill : List Nat} {body : Env → Fl} {env : Env} (xs : List α) (s : S) (he : env = E s) (h0 : P s)
    (h : ∀ s x, x ∈ xs → P s → (onP (bindP t (g x) (E s)) fun e1 => nxt (body e1) fun e2 => .nx (kil e2 kill)) = .nx (E (step s x)) ∧ P (step s x)) :
    loopF t kill body (xs.map g) env = .nx (E (xs.foldl step s)) := by rw [he]; exact (loopF_fold E g step P xs s h0 h).1
theorem loopF_ns {S : Type} (E : S → Env) (step : S → Nat → S) (P : S → Prop) {t : Pat} {kill : List Nat} {body : Env → Fl} {env : Env} (xs : List Nat) (s : S) (he : env = E s) (h0 : P s)
    (h : ∀ s x, x ∈ xs → P s → (onP (bindP t (.int (x : Int)) (E s)) fun e1 => nxt (body e1) fun e2 => .nx (kil e2 kill)) = .nx (E (step s x)) ∧ P (step s x)) :
    loopF t kill body (nsP xs) env = .nx (E (xs.foldl step s)) := loopF_g (fun n : Nat => PV.int (n : Int)) E step P xs s he h0 h
theorem loopF_iv {α : Type} (g : α → PV) (E : List α → Env) {t : Pat} {kill : List Nat} {body : Env → Fl} {env : Env} (xs : List α) (he : env = E [])
    (h : ∀ (pre : List α) (x : α) (suf : List α), xs = pre ++ x :: suf → (onP (bindP t (g x) (E pre)) fun e1 => nxt (body e1) fun e2 => .nx (kil e2 kill)) = .nx (E (pre ++ [x]))) :
    loopF t kill body (xs.map g) env = .nx (E xs) := by rw [he]; exact loopF_inv g E xs h
theorem loopF_nsI (E : List Nat → Env) {t : Pat} {kill : List Nat} {body : Env → Fl} {env : Env} (xs : List Nat) (he : env = E [])
    (h : ∀ (pre : List Nat) (x : Nat) (suf : List Nat), xs = pre ++ x :: suf → (onP (bindP t (.int (x : Int)) (E pre)) fun e1 => nxt (body e1) fun e2 => .nx (kil e2 kill)) = .nx (E (pre ++ [x]))) :
    loopF t kill body (nsP xs) env = .nx (E xs) := loopF_iv (fun n : Nat => PV.int (n : Int)) E xs he h
theorem comR_ns (f : Nat → Nat) {own : List Nat} {t : Pat} {cond elt : Env → Res PV} {env : Env} (xs : List Nat) (hl : xs.length ≤ lineB) (h : ∀ x, x ∈ xs → turnC own t cond elt (.int (x : Int)) (kil env own) = .ok (some (.int (f x : Int))) (kil env own)) :
    comR own t cond elt (nsP xs) env = .ok (.lst true (nsP (xs.map f))) (kil env own) := by
  rw [nsP_map]
  exact comR_map (fun n : Nat => PV.int (n : Int)) (fun x => .int (f x : Int)) xs hl h
theorem comR_nsF (f : Nat → Nat) (c : Nat → Bool) {own : List Nat} {t : Pat} {cond elt : Env → Res PV} {env : Env} (xs : List Nat) (hl : xs.length ≤ lineB) (h : ∀ x, x ∈ xs → turnC own t cond elt (.int (x : Int)) (kil env own) = .ok (if c x = true then some (.int (f x : Int)) else none) (kil env own)) :
    comR own t cond elt (nsP xs) env = .ok (.lst true (nsP ((xs.filter c).map f))) (kil env own) := by
  rw [nsP_map]
  exact comR_filter (fun n : Nat => PV.int (n : Int)) (fun x => .int (f x : Int)) c xs hl h
theorem comR_nsB (f : Nat → Bool) {own : List Nat} {t : Pat} {cond elt : Env → Res PV} {env : Env} (xs : List Nat) (hl : xs.length ≤ lineB) (h : ∀ x, x ∈ xs → turnC own t cond elt (.int (x : Int)) (kil env own) = .ok (some (.bl (f x))) (kil env own)) :
    comR own t cond elt (nsP xs) env = .ok (.lst true (xs.map fun x => .bl (f x))) (kil env own) := comR_map (fun n : Nat => PV.int (n : Int)) (fun x => .bl (f x)) xs hl h
/-! ### pairs -/
def pr2 (o : Nat × Nat) : PV := .tup [.int (o.1 : Int), .int (o.2 : Int)]
def prP (B : List (Nat × Nat)) : List PV := B.map pr2
theorem prP_nil : prP [] = [] := of_eq_true (eq_true rfl)
theorem prP_cons (o : Nat × Nat) (B : List (Nat × Nat)) : prP (o :: B) = .tup [.int (o.1 : Int), .int (o.2 : Int)] :: prP B := of_eq_true (eq_true rfl)
theorem prP_append (A B : List (Nat × Nat)) : prP (A ++ B) = prP A ++ prP B := by unfold prP; rw [List.map_append]
theorem prP_length (A : List (Nat × Nat)) : (prP A).length = A.length := by unfold prP; rw [List.length_map]
theorem frzL_pr : ∀ B : List (Nat × Nat), frzL (prP B) = true
  | [] => rfl
  | x :: xs => by rw [prP_cons, frzL_cons, frz_tp, frzL_cons, frzL_cons, frz_int, frz_int, frzL_pr xs]; rfl
theorem fzL_pr (B : List (Nat × Nat)) : fzL (prP B) = prP B := frzL_fzL_of (frzL_pr B)
theorem loopF_pr {S : Type} (E : S → Env) (step : S → Nat × Nat → S) (P : S → Prop) {t : Pat} {kill : List Nat} {body : Env → Fl} {env : Env} (xs : List (Nat × Nat)) (s : S) (he : env = E s) (h0 : P s)
    (h : ∀ s x, x ∈ xs → P s → (onP (bindP t (.tup [.int (x.1 : Int), .int (x.2 : Int)]) (E s)) fun e1 => nxt (body e1) fun e2 => .nx (kil e2 kill)) = .nx (E (step s x)) ∧ P (step s x)) :
    loopF t kill body (prP xs) env = .nx (E (xs.foldl step s)) := loopF_g pr2 E step P xs s he h0 h
theorem loopF_prI (E : List (Nat × Nat) → Env) {t : Pat} {kill : List Nat} {body : Env → Fl} {env : Env} (xs : List (Nat × Nat)) (he : env = E [])
    (h : ∀ (pre : List (Nat × Nat)) (x : Nat × Nat) (suf : List (Nat × Nat)), xs = pre ++ x :: suf → (onP (bindP t (.tup [.int (x.1 : Int), .int (x.2 : Int)]) (E pre)) fun e1 => nxt (body e1) fun e2 => .nx (kil e2 kill)) = .nx (E (pre ++ [x]))) :
    loopF t kill body (prP xs) env = .nx (E xs) := loopF_iv pr2 E xs he h
/-! ### in-place methods -/
theorem m_append {xs : List PV} (y : PV) (h : xs.length < lineB) : mmeth .append (.lst true xs) [y] = some (.lst true (xs ++ [y])) := if_pos h
theorem m_insert {xs : List PV} {i : Nat} (y : PV) (h : xs.length < lineB) (hi : i < 4611686018427387904) : mmeth .insert (.lst true xs) [.int (i : Int), y] = some (.lst true (xs.take i ++ [y] ++ xs.drop i)) := by
  show (if xs.length < lineB ∧ 0 ≤ (i : Int) ∧ (i : Int) < 2 ^ 62 then _ else _) = _
  rw [if_pos ⟨h, by omega, by omega⟩]; rfl
theorem seti_l {xs : List PV} {i : Nat} (y : PV) (h : i < xs.length) : seti (.lst true xs) (.int (i : Int)) y = some (.lst true (xs.set i y)) := by
  show (ixN xs.length (i : Int)).map _ = _
  unfold ixN
  rw [if_pos (by omega), if_pos (by omega)]; rfl
theorem seti_d {ks : List L2.Key} {xs : List PV} (k : Int) (y : PV) (h : ks.length < lineB) : seti (.dic true ks xs) (.int k) y = some (.dic true (putKs ks (.inl k)) (putXs ks xs (.inl k) y.fz)) := if_pos h
theorem setf_o {ok : Nat → Nat → Bool} {C f : Nat} {as : List Nat} {xs : List PV} (y : PV) (h : as.length < 900) (h2 : ok C f = true) : setf ok (.obj true C as xs) f y = some (.obj true C (putFl as xs f y).1 (putFl as xs f y).2) := if_pos ⟨h, h2⟩
theorem putFl_nil (f : Nat) (y : PV) : putFl [] [] f y = ([f], [y]) := of_eq_true (eq_true rfl)
theorem putFl_cons (a : Nat) (as : List Nat) (x : PV) (xs : List PV) (f : Nat) (y : PV) : putFl (a :: as) (x :: xs) f y = if a = f then (a :: as, y :: xs) else (a :: (putFl as xs f y).1, x :: (putFl as xs f y).2) := of_eq_true (eq_true rfl)
/-- a list or a tuple of numbers, frozen -/
structure IsNs (x : PV) (xs : List Nat) : Prop where
  frz : x.frz = true
  fz : x.fz = x
  items : itemsOf x = some (nsP xs)
  len : bfun .len [x] = some (.int (xs.length : Nat))
  tup : bfun .tuple [x] = some (.tup (nsP xs))
  lst : bfun .list [x] = some (.lst true (nsP xs))
theorem isNs_l (xs : List Nat) : IsNs (.lst false (nsP xs)) xs := by
  have h : (PV.lst false (nsP xs)).frz = true := by rw [frz_lf, frzL_ns]
  exact ⟨h, frz_fz_of h, rfl, by rw [f_len_l, nsP_length], f_tuple_l _ (frzL_ns _), f_list_l _ (frzL_ns _)⟩
theorem isNs_t (xs : List Nat) : IsNs (.tup (nsP xs)) xs := by
  have h : (PV.tup (nsP xs)).frz = true := by rw [frz_tp, frzL_ns]
  exact ⟨h, frz_fz_of h, rfl, by rw [f_len_t, nsP_length], f_tuple_t (frzL_ns _), f_list_t (frzL_ns _)⟩
theorem shr_pos (r s : Nat) : (0 < r >>> s) = ¬ r < 2 ^ s := by
  rw [Nat.shiftRight_eq_div_pow]
  refine propext ⟨fun h c => ?_, fun h => Nat.div_pos (by omega) (Nat.two_pow_pos s)⟩
  rw [Nat.div_eq_of_lt c] at h; omega
theorem mapb (o : Option Bool) : (o.map PV.bl) = o.map PV.bl := of_eq_true (eq_true rfl)
end Z

set_option Elab.async false
set_option linter.all false
set_option maxRecDepth 100000
/-! E3: what the laws draw: boxes, shuffles, lines. -/
namespace GF
structure Bx where
  ns : List Int
  p : Nat
  t : Nat
  s : Nat
def Bx.ok (b : Bx) : Prop := b.s < 2147483549
def Bx.cell (b : Bx) : Int := if b.p < b.ns.length then b.ns.getD b.p 0 else 0
def Bx.nxt (b : Bx) : Nat := if b.p < b.ns.length then b.p + 1 else b.p
def sd (s c : Nat) : Nat := (s ^ 3 + 69621 * s + 40693 * c + 17) % 2147483549
/-- a number below k is drawn -/
def tk (b : Bx) (k : Nat) : Nat × Bx :=
  if 0 < b.t then (b.t % k, ⟨b.ns, b.p, b.t / k, b.s⟩)
  else if 1000000000000000000 ≤ b.cell then (b.cell.toNat % k, ⟨b.ns, b.nxt, b.cell.toNat / k, b.s⟩)
  else (sd b.s (b.cell % 2147483549).toNat / 64 % k, ⟨b.ns, b.nxt, b.t, sd b.s (b.cell % 2147483549).toNat⟩)
theorem sd_lt (s c : Nat) : sd s c < 2147483549 := Nat.mod_lt _ (by decide)
theorem tk_lt (b : Bx) {k : Nat} (hk : 0 < k) : (tk b k).1 < k := by
  unfold tk
  split
  · exact Nat.mod_lt _ hk
  · split
    · exact Nat.mod_lt _ hk
    · exact Nat.mod_lt _ hk
theorem tk_ok {b : Bx} (h : b.ok) (k : Nat) : (tk b k).2.ok := by
  unfold tk Bx.ok at *
  split
  · exact h
  · split
    · exact h
    · exact sd_lt _ _
def insAt {α : Type} (l : List α) (i : Nat) (x : α) : List α := l.take i ++ [x] ++ l.drop i
theorem insAt_perm {α : Type} (l : List α) (i : Nat) (x : α) : (insAt l i x).Perm (x :: l) := by
  unfold insAt
  have h : (l.take i ++ [x] ++ l.drop i).Perm (x :: (l.take i ++ l.drop i)) := by
    rw [List.append_assoc]
    exact List.perm_middle
  rwa [List.take_append_drop] at h
def shufS {α : Type} (s : List α × Bx) (x : α) : List α × Bx := (insAt s.1 (tk s.2 (s.1.length + 1)).1 x, (tk s.2 (s.1.length + 1)).2)
def shufB {α : Type} (b : Bx) (xs : List α) : List α × Bx := xs.foldl shufS ([], b)
theorem shuf_aux {α : Type} : ∀ (xs : List α) (s : List α × Bx), s.2.ok → (xs.foldl shufS s).1.Perm (xs ++ s.1) ∧ (xs.foldl shufS s).2.ok
  | [], s, h => ⟨.refl _, h⟩
  | x :: xs, s, h => by
    obtain ⟨h1, h2⟩ := shuf_aux xs (shufS s x) (tk_ok h _)
    refine ⟨h1.trans ?_, h2⟩
    have p : (shufS s x).1.Perm (x :: s.1) := insAt_perm _ _ _
    exact (p.append_left xs).trans List.perm_middle
theorem shuf_perm {α : Type} {b : Bx} (h : b.ok) (xs : List α) : (shufB b xs).1.Perm xs := by
  have := (shuf_aux xs ([], b) h).1
  rwa [List.append_nil] at this
theorem shuf_ok {α : Type} {b : Bx} (h : b.ok) (xs : List α) : (shufB b xs).2.ok := (shuf_aux xs ([], b) h).2
/-- n numbers below k -/
def drawL (k : Nat) : Nat → Bx → List Nat × Bx
  | 0, b => ([], b)
  | n + 1, b => ((tk b k).1 :: (drawL k n (tk b k).2).1, (drawL k n (tk b k).2).2)
theorem drawL_len (k : Nat) : ∀ (n : Nat) (b : Bx), (drawL k n b).1.length = n
  | 0, _ => rfl
  | n + 1, b => by show (drawL k n _).1.length + 1 = _; rw [drawL_len k n]
theorem drawL_lt {k : Nat} (hk : 0 < k) : ∀ (n : Nat) (b : Bx), ∀ x ∈ (drawL k n b).1, x < k
  | 0, _, x, h => nomatch h
  | n + 1, b, x, h => by
    rcases List.mem_cons.mp h with rfl | h
    · exact tk_lt b hk
    · exact drawL_lt hk n _ x h
theorem drawL_ok (k : Nat) : ∀ (n : Nat) {b : Bx}, b.ok → (drawL k n b).2.ok
  | 0, _, h => h
  | n + 1, b, h => drawL_ok k n (tk_ok h k)
def rowS (deep : Nat) (s : List Nat × Bx) : List Nat × Bx :=
  (s.1.set (tk s.2 deep).1 (s.1.getD (tk s.2 deep).1 0 ^^^ s.1.getD (((tk s.2 deep).1 + 1 + (tk (tk s.2 deep).2 (deep - 1)).1) % deep) 0), (tk (tk s.2 deep).2 (deep - 1)).2)
def colS (many : Nat) (s : List Nat × Bx) : List Nat × Bx :=
  (s.1.map (colf (tk s.2 many).1 (((tk s.2 many).1 + 1 + (tk (tk s.2 many).2 (many - 1)).1) % many)), (tk (tk s.2 many).2 (many - 1)).2)
def itF {α : Type} (f : α → α) : Nat → α → α
  | 0, a => a
  | n + 1, a => itF f n (f a)
theorem foldl_const {α β : Type} (f : α → α) : ∀ (xs : List β) (a : α), xs.foldl (fun a _ => f a) a = itF f xs.length a
  | [], _ => rfl
  | x :: xs, a => foldl_const f xs (f a)
/-- a drawn spread: the start, the turns of rows, the turns of digits -/
def ln0 (b : Bx) (deep many : Nat) : List Nat × Bx := shufB (drawL (2 ^ many) (deep - many) b).2 ((List.range many).map (2 ^ ·) ++ (drawL (2 ^ many) (deep - many) b).1)
def ln1 (s : List Nat × Bx) (deep : Nat) : List Nat × Bx := itF (rowS deep) ((tk s.2 7).1 * (decide (1 < deep)).toNat) (s.1, (tk s.2 7).2)
def ln2 (s : List Nat × Bx) (many : Nat) : List Nat × Bx := itF (colS many) ((tk s.2 4).1 * (decide (1 < many)).toNat) (s.1, (tk s.2 4).2)
def linesB (b : Bx) (deep many : Nat) : List Nat × Bx := ln2 (ln1 (ln0 b deep many) deep) many
structure LnOk (deep many : Nat) (s : List Nat × Bx) : Prop where
  onto : Onto s.1 many
  len : s.1.length = deep
  ok : s.2.ok
theorem far_ne {a f n : Nat} (ha : a < n) (hf : f < n - 1) : (a + 1 + f) % n ≠ a := fun e => by
  by_cases c : a + 1 + f < n
  · rw [Nat.mod_eq_of_lt c] at e; omega
  · have : (a + 1 + f) % n = a + 1 + f - n := by
      rw [Nat.mod_eq_sub_mod (by omega), Nat.mod_eq_of_lt (by omega)]
    omega
theorem LnOk.row {deep many : Nat} {s : List Nat × Bx} (h : LnOk deep many s) (hd : 1 < deep) : LnOk deep many (rowS deep s) := by
  have h1 := tk_lt s.2 (show 0 < deep by omega)
  have h2 := tk_lt (tk s.2 deep).2 (show 0 < deep - 1 by omega)
  have hm := Nat.mod_lt ((tk s.2 deep).1 + 1 + (tk (tk s.2 deep).2 (deep - 1)).1) (show 0 < deep by omega)
  refine ⟨h.onto.row (by rw [h.len]; exact h1) (by rw [h.len]; exact hm) (far_ne h1 h2), ?_, tk_ok (tk_ok h.ok _) _⟩
  unfold rowS; rw [List.length_set]; exact h.len
theorem LnOk.col {deep many : Nat} {s : List Nat × Bx} (h : LnOk deep many s) (hd : 1 < many) : LnOk deep many (colS many s) := by
  have h1 := tk_lt s.2 (show 0 < many by omega)
  have h2 := tk_lt (tk s.2 many).2 (show 0 < many - 1 by omega)
  have hm := Nat.mod_lt ((tk s.2 many).1 + 1 + (tk (tk s.2 many).2 (many - 1)).1) (show 0 < many by omega)
  refine ⟨h.onto.col hm (fun e => far_ne h1 h2 e.symm), ?_, tk_ok (tk_ok h.ok _) _⟩
  unfold colS; rw [List.length_map]; exact h.len
theorem it_inv {α : Type} {P : α → Prop} {f : α → α} (h : ∀ a, P a → P (f a)) : ∀ (n : Nat) (a : α), P a → P (itF f n a)
  | 0, a, h0 => h0
  | n + 1, a, h0 => it_inv h n (f a) (h a h0)
theorem ln0_ok {b : Bx} {deep many : Nat} (h : b.ok) (hm : many ≤ deep) : LnOk deep many (ln0 b deep many) := by
  have hd := drawL_ok (2 ^ many) (deep - many) h
  have p := shuf_perm hd ((List.range many).map (2 ^ ·) ++ (drawL (2 ^ many) (deep - many) b).1)
  refine ⟨(onto_units many (drawL_lt (Nat.two_pow_pos many) _ _)).perm p.symm, ?_, shuf_ok hd _⟩
  have := p.length_eq
  rw [List.length_append, List.length_map, List.length_range, drawL_len] at this
  show (ln0 b deep many).1.length = deep
  unfold ln0; omega
theorem ln1_ok {s : List Nat × Bx} {deep many : Nat} (h : LnOk deep many s) : LnOk deep many (ln1 s deep) := by
  have h0 : LnOk deep many (s.1, (tk s.2 7).2) := ⟨h.onto, h.len, tk_ok h.ok _⟩
  unfold ln1
  by_cases c : 1 < deep
  · exact it_inv (fun a ha => LnOk.row ha c) _ _ h0
  · rw [show (decide (1 < deep)).toNat = 0 by simp [c], Nat.mul_zero]; exact h0
theorem ln2_ok {s : List Nat × Bx} {deep many : Nat} (h : LnOk deep many s) : LnOk deep many (ln2 s many) := by
  have h0 : LnOk deep many (s.1, (tk s.2 4).2) := ⟨h.onto, h.len, tk_ok h.ok _⟩
  unfold ln2
  by_cases c : 1 < many
  · exact it_inv (fun a ha => LnOk.col ha c) _ _ h0
  · rw [show (decide (1 < many)).toNat = 0 by simp [c], Nat.mul_zero]; exact h0
theorem lines_ok {b : Bx} {deep many : Nat} (h : b.ok) (hm : many ≤ deep) : LnOk deep many (linesB b deep many) := ln2_ok (ln1_ok (ln0_ok h hm))
/-! two spreads -/
def deeps : List Nat := [7, 5, 4, 3, 6, 2, 1, 0]
def ofN (b : Bx) (xs : List Nat) : Nat × Bx := (xs.getD (tk b xs.length).1 0, (tk b xs.length).2)
structure Two where
  deep : Nat
  many : Nat
  lanes : Nat
  one : List Nat
  two : List Nat
def swapAt (l : List Nat) (a : Nat) : List Nat := l.take a ++ ((l.drop a).take 2).reverse ++ l.drop (a + 2)
theorem swapAt_perm (l : List Nat) (a : Nat) : (swapAt l a).Perm l := by
  unfold swapAt
  have h : ((l.drop a).take 2).reverse.Perm ((l.drop a).take 2) := List.reverse_perm _
  have e : l = l.take a ++ (l.drop a).take 2 ++ l.drop (a + 2) := by
    rw [List.append_assoc, ← List.drop_drop, List.take_append_drop, List.take_append_drop]
  exact ((h.append_left _).append_right _).trans (.of_eq e.symm)
def twoS (b : Bx) : Two × Bx :=
  let d := ofN b deeps
  let t := tk d.2 (d.1 + 1)
  let m := ofN t.2 [d.1, d.1, d.1 - 1, t.1]
  let o := linesB m.2 d.1 m.1
  let w := tk o.2 4
  let u := linesB w.2 d.1 m.1
  let v := if w.1 = 0 then shufB u.2 o.1 else if w.1 = 1 ∧ 1 < d.1 then (swapAt o.1 (tk u.2 (d.1 - 1)).1, (tk u.2 (d.1 - 1)).2) else u
  let l := tk v.2 (d.1 + 1)
  (⟨d.1, m.1, l.1, o.1, v.1⟩, l.2)
theorem ofN_mem (b : Bx) {xs : List Nat} (h : xs ≠ []) : (ofN b xs).1 ∈ xs := by
  have h0 : 0 < xs.length := List.length_pos_iff.mpr h
  have := tk_lt b h0
  unfold ofN
  show xs.getD (tk b xs.length).1 0 ∈ xs
  rw [List.getD_eq_getElem?_getD, List.getElem?_eq_getElem this]
  exact List.getElem_mem _
structure TwoOk (t : Two) : Prop where
  deep : t.deep ≤ 7
  many : t.many ≤ t.deep
  lanes : t.lanes ≤ t.deep
  one : Onto t.one t.many
  onel : t.one.length = t.deep
  two : Onto t.two t.many
  twol : t.two.length = t.deep
theorem two_ok {b : Bx} (h : b.ok) : TwoOk (twoS b).1 ∧ (twoS b).2.ok := by
  have hd : (ofN b deeps).1 ≤ 7 := by
    have := ofN_mem b (xs := deeps) (by decide)
    unfold deeps at this
    simp at this
    unfold deeps
    omega
  have hdo : (ofN b deeps).2.ok := tk_ok h _
  unfold twoS
  dsimp only
  generalize ofN b deeps = d at *
  have ht := tk_lt d.2 (show 0 < d.1 + 1 by omega)
  have hto : (tk d.2 (d.1 + 1)).2.ok := tk_ok hdo _
  generalize tk d.2 (d.1 + 1) = t at *
  have hm : (ofN t.2 [d.1, d.1, d.1 - 1, t.1]).1 ≤ d.1 := by
    have := ofN_mem t.2 (xs := [d.1, d.1, d.1 - 1, t.1]) (by simp)
    simp only [List.mem_cons, List.not_mem_nil, or_false] at this
    omega
  have hmo : (ofN t.2 [d.1, d.1, d.1 - 1, t.1]).2.ok := tk_ok hto _
  generalize ofN t.2 [d.1, d.1, d.1 - 1, t.1] = m at *
  have ho := lines_ok hmo hm
  generalize linesB m.2 d.1 m.1 = o at *
  have hw : (tk o.2 4).2.ok := tk_ok ho.ok _
  generalize tk o.2 4 = w at *
  have hu := lines_ok hw hm
  generalize linesB w.2 d.1 m.1 = u at *
  have hv : LnOk d.1 m.1 (if w.1 = 0 then shufB u.2 o.1 else if w.1 = 1 ∧ 1 < d.1 then (swapAt o.1 (tk u.2 (d.1 - 1)).1, (tk u.2 (d.1 - 1)).2) else u) := by
    split
    · have p := shuf_perm hu.ok o.1
      exact ⟨ho.onto.perm p.symm, p.length_eq.trans ho.len, shuf_ok hu.ok _⟩
    · split
      · have p := swapAt_perm o.1 (tk u.2 (d.1 - 1)).1
        exact ⟨ho.onto.perm p.symm, p.length_eq.trans ho.len, tk_ok hu.ok _⟩
      · exact hu
  generalize (if w.1 = 0 then shufB u.2 o.1 else if w.1 = 1 ∧ 1 < d.1 then (swapAt o.1 (tk u.2 (d.1 - 1)).1, (tk u.2 (d.1 - 1)).2) else u) = v at *
  have hl := tk_lt v.2 (show 0 < d.1 + 1 by omega)
  exact ⟨⟨hd, hm, by show (tk v.2 (d.1 + 1)).1 ≤ d.1; omega, ho.onto, ho.len, hv.onto, hv.len⟩, tk_ok hv.ok _⟩
end GF
namespace Z
open PySem GF
/-! ### in the evaluator -/
def inP' (ns : List Int) : List PV := ns.map .int
theorem inP_frz (ns : List Int) : frzL (inP' ns) = true := frzL_ints ns
theorem inP_fz (ns : List Int) : fzL (inP' ns) = inP' ns := fzL_ints ns
theorem inP_len (ns : List Int) : (inP' ns).length = ns.length := by unfold inP'; rw [List.length_map]
theorem inP_get {ns : List Int} {p : Nat} (h : p < ns.length) : getI (inP' ns) (p : Int) = some (.int (ns.getD p 0)) := by
  refine getI_nat ?_
  unfold inP'
  rw [List.getElem?_map, List.getElem?_eq_getElem h, List.getD_eq_getElem?_getD, List.getElem?_eq_getElem h]; rfl
abbrev boxP (b : Bx) : PV := .lst true [.lst true (inP' b.ns), .int (b.p : Int), .int (b.t : Int), .int (b.s : Int)]
theorem getI_0 (a : PV) (l : List PV) : getI (a :: l) ((0 : Nat) : Int) = some a := getI_nat rfl
theorem getI_1 (a b : PV) (l : List PV) : getI (a :: b :: l) ((1 : Nat) : Int) = some b := getI_nat rfl
theorem getI_2 (a b c : PV) (l : List PV) : getI (a :: b :: c :: l) ((2 : Nat) : Int) = some c := getI_nat rfl
theorem getI_3 (a b c d : PV) (l : List PV) : getI (a :: b :: c :: d :: l) ((3 : Nat) : Int) = some d := getI_nat rfl
theorem seti_1 (a b y : PV) (l : List PV) : seti (.lst true (a :: b :: l)) (.int ((1 : Nat) : Int)) y = some (.lst true (a :: y :: l)) := seti_l y (by simp)
theorem seti_2 (a b c y : PV) (l : List PV) : seti (.lst true (a :: b :: c :: l)) (.int ((2 : Nat) : Int)) y = some (.lst true (a :: b :: y :: l)) := seti_l y (by simp)
theorem seti_3 (a b c d y : PV) (l : List PV) : seti (.lst true (a :: b :: c :: d :: l)) (.int ((3 : Nat) : Int)) y = some (.lst true (a :: b :: c :: y :: l)) := seti_l y (by simp)
theorem lenP_l (o : Bool) (xs : List PV) : lenI (.lst o xs) = some (.int (xs.length : Nat)) := rfl
theorem lenP_t (xs : List PV) : lenI (.tup xs) = some (.int (xs.length : Nat)) := rfl
theorem b_pow {a b : Nat} (h : b ≤ 1000000 ∧ a < 18446744073709551616) : binI .pow (a : Int) (b : Int) = some ((a ^ b : Nat) : Int) := by
  show (if 0 ≤ (b : Int) ∧ (b : Int) ≤ 1000000 ∧ (a : Int).natAbs < 2 ^ 64 then some ((a : Int) ^ (b : Int).toNat) else none) = _
  rw [if_pos ⟨by omega, by omega, by show a < _; omega⟩, Int.toNat_natCast, Int.natCast_pow]
theorem pow_1018 : binI .pow 10 18 = some 1000000000000000000 := by decide +kernel
theorem c_geI (a b : Int) : cmpop .ge (.int a) (.int b) = some (decide (b ≤ a)) := rfl
theorem modI {c : Int} : binI .mod c ((2147483549 : Nat) : Int) = some (((c % 2147483549).toNat : Nat) : Int) := by
  show (if (0 : Int) < ((2147483549 : Nat) : Int) then some (c % ((2147483549 : Nat) : Int)) else none) = _
  rw [if_pos (by decide), Int.toNat_of_nonneg (Int.emod_nonneg _ (by decide))]; rfl
/-- slices -/
theorem sl_to (xs : List PV) (a : Nat) (h : frzL xs = true) : slice (.tup xs) none (some (a : Int)) = some (.tup (xs.take a)) := by
  show (if frzL xs = true then _ else _) = _
  rw [if_pos h]
  unfold cut
  rw [HT.sIx_none, HT.sIx_nat, List.drop_zero, Nat.sub_zero]
  congr 2
  exact List.take_eq_take_iff.mpr (by omega)
theorem sl_from (xs : List PV) (a : Nat) (h : frzL xs = true) : slice (.tup xs) (some (a : Int)) none = some (.tup (xs.drop a)) := by
  show (if frzL xs = true then _ else _) = _
  rw [if_pos h]
  unfold cut
  rw [HT.sIx_none, HT.sIx_nat]
  congr 2
  by_cases c : a ≤ xs.length
  · rw [Nat.min_eq_left c, List.take_of_length_le (by simp)]
  · rw [Nat.min_eq_right (by omega), List.drop_of_length_le (Nat.le_refl _), List.drop_of_length_le (by omega)]; simp
theorem sl_mid (xs : List PV) (a b : Nat) (h : frzL xs = true) : slice (.tup xs) (some (a : Int)) (some (b : Int)) = some (.tup ((xs.drop a).take (b - a))) := by
  show (if frzL xs = true then _ else _) = _
  rw [if_pos h]
  unfold cut
  rw [HT.sIx_nat, HT.sIx_nat]
  congr 2
  by_cases c : a ≤ xs.length
  · rw [Nat.min_eq_left c]
    exact List.take_eq_take_iff.mpr (by simp; omega)
  · rw [Nat.min_eq_right (show xs.length ≤ a by omega), List.drop_of_length_le (Nat.le_refl _), List.drop_of_length_le (show xs.length ≤ a by omega)]; simp
theorem sl_toL (o : Bool) (xs : List PV) (a : Nat) (h : frzL xs = true) : slice (.lst o xs) none (some (a : Int)) = some (.lst true (xs.take a)) := by
  have := sl_to xs a h
  show (if frzL xs = true then _ else _) = _
  rw [if_pos h]
  have h2 : (if frzL xs = true then some (PV.tup (cut xs none (some (a : Int)))) else none) = some (.tup (xs.take a)) := this
  rw [if_pos h] at h2
  injection h2 with h2; injection h2 with h2
  rw [h2]
theorem sl_fromL (o : Bool) (xs : List PV) (a : Nat) (h : frzL xs = true) : slice (.lst o xs) (some (a : Int)) none = some (.lst true (xs.drop a)) := by
  have := sl_from xs a h
  show (if frzL xs = true then _ else _) = _
  rw [if_pos h]
  have h2 : (if frzL xs = true then some (PV.tup (cut xs (some (a : Int)) none)) else none) = some (.tup (xs.drop a)) := this
  rw [if_pos h] at h2
  injection h2 with h2; injection h2 with h2
  rw [h2]
theorem sl_midL (o : Bool) (xs : List PV) (a b : Nat) (h : frzL xs = true) : slice (.lst o xs) (some (a : Int)) (some (b : Int)) = some (.lst true ((xs.drop a).take (b - a))) := by
  have := sl_mid xs a b h
  show (if frzL xs = true then _ else _) = _
  rw [if_pos h]
  have h2 : (if frzL xs = true then some (PV.tup (cut xs (some (a : Int)) (some (b : Int)))) else none) = some (.tup ((xs.drop a).take (b - a))) := this
  rw [if_pos h] at h2
  injection h2 with h2; injection h2 with h2
  rw [h2]
theorem sl_scr (ns : List Int) (a : Nat) : slice (.scr ns) none (some (a : Int)) = some (.lst true (inP' (ns.take a))) := by
  show some (PV.lst true _) = _
  rw [HT.sIx_none, HT.sIx_nat, List.drop_zero, Nat.sub_zero]
  unfold inP'
  congr 3
  exact List.take_eq_take_iff.mpr (by omega)
theorem nsP_take (a : Nat) (ns : List Nat) : (nsP ns).take a = nsP (ns.take a) := by unfold nsP; rw [List.map_take]
theorem nsP_drop (a : Nat) (ns : List Nat) : (nsP ns).drop a = nsP (ns.drop a) := by unfold nsP; rw [List.map_drop]
theorem nsP_rev (ns : List Nat) : (nsP ns).reverse = nsP ns.reverse := by unfold nsP; rw [List.map_reverse]
theorem nsP_set (ns : List Nat) (i x : Nat) : (nsP ns).set i (.int (x : Int)) = nsP (ns.set i x) := by unfold nsP; rw [List.map_set]
theorem rev_t {xs : List PV} (h : frzL xs = true) (hl : xs.length ≤ lineB) : revP (.tup xs) = some (.tup xs.reverse) := if_pos ⟨h, hl⟩
theorem f_max2_sub (a b : Nat) : bfun .max2 [.int ((0 : Nat) : Int), .int ((a : Int) - (b : Int))] = some (.int ((a - b : Nat) : Int)) := by
  show some (PV.int (if (a : Int) - b > ((0 : Nat) : Int) then (a : Int) - b else ((0 : Nat) : Int))) = _
  congr 2
  by_cases c : b < a
  · rw [if_pos (by omega)]; omega
  · rw [if_neg (by omega)]; omega
theorem collA_draw (k : Nat) (b : Bx) : ∀ (xs : List Nat) , collA (fun (s : Bx) (_ : Nat) => some (.int ((tk s k).1 : Int))) (fun s _ => (tk s k).2) xs b = nsP (drawL k xs.length b).1 ∧ xs.foldl (fun s _ => (tk s k).2) b = (drawL k xs.length b).2 := by
  intro xs
  induction xs generalizing b with
  | nil => exact ⟨rfl, rfl⟩
  | cons x xs ih => exact ⟨by show PV.int _ :: collA _ _ xs _ = _; rw [(ih _).1]; rfl, by rw [List.foldl_cons, (ih _).2]; rfl⟩
/-! ### == of lists of numbers -/
def ndat (ns : List Nat) : List PyData := ns.map fun n : Nat => PyData.int (n : Int)
theorem datL_ns : ∀ ns : List Nat, datL (nsP ns) = some (ndat ns)
  | [] => rfl
  | x :: xs => by
    rw [nsP_cons]
    show (match PV.dat (.int (x : Int)), datL (nsP xs) with | some d, some ds => some (d :: ds) | _, _ => none) = _
    rw [datL_ns xs]; rfl
theorem dat_l (o : Bool) (ns : List Nat) : (PV.lst o (nsP ns)).dat = some (.list (ndat ns)) := by
  show (datL (nsP ns)).map PyData.list = _
  rw [datL_ns]; rfl
theorem dat_t (ns : List Nat) : (PV.tup (nsP ns)).dat = some (.tuple (ndat ns)) := by
  show (datL (nsP ns)).map PyData.tuple = _
  rw [datL_ns]; rfl
theorem ndat_lay : ∀ ns : List Nat, PyData.canLayAll0 (ndat ns) = true
  | [] => rfl
  | x :: xs => by show (PyData.canLay0 (.int (x : Int)) && PyData.canLayAll0 (ndat xs)) = true; rw [ndat_lay xs]; rfl
theorem ndat_depth : ∀ ns : List Nat, PyData.depthAll (ndat ns) = 0
  | [] => rfl
  | x :: xs => by show max (PyData.depth (.int (x : Int))) (PyData.depthAll (ndat xs)) = 0; rw [ndat_depth xs]; rfl
theorem shaped_l (ns : List Nat) : SeqAt.shaped (.list (ndat ns)) = true := by
  unfold SeqAt.shaped
  rw [show PyData.canLay0 (.list (ndat ns)) = PyData.canLayAll0 (ndat ns) from rfl, ndat_lay, show PyData.depth (.list (ndat ns)) = PyData.depthAll (ndat ns) + 1 from rfl, ndat_depth]
  rfl
theorem shaped_t (ns : List Nat) : SeqAt.shaped (.tuple (ndat ns)) = true := by
  unfold SeqAt.shaped
  rw [show PyData.canLay0 (.tuple (ndat ns)) = PyData.canLayAll0 (ndat ns) from rfl, ndat_lay, show PyData.depth (.tuple (ndat ns)) = PyData.depthAll (ndat ns) + 1 from rfl, ndat_depth]
  rfl
theorem ndat_eqv : ∀ a b : List Nat, PyData.eqvAll (ndat a) (ndat b) = decide (a = b)
  | [], [] => rfl
  | [], y :: ys => rfl
  | x :: xs, [] => rfl
  | x :: xs, y :: ys => by
    show (PyData.eqv (.int (x : Int)) (.int (y : Int)) && PyData.eqvAll (ndat xs) (ndat ys)) = _
    rw [ndat_eqv xs ys]
    show (((x : Int) == (y : Int)) && _) = _
    by_cases c : x = y
    · subst c; simp
    · have : ¬ (x : Int) = y := by omega
      simp [c, this]
theorem eqP_ll (o p : Bool) (a b : List Nat) : eqP (.lst o (nsP a)) (.lst p (nsP b)) = some (decide (a = b)) := by
  show eqD _ _ = _
  unfold eqD
  rw [dat_l, dat_l]
  show (if SeqAt.shaped (.list (ndat a)) = true ∧ SeqAt.shaped (.list (ndat b)) = true then some (PyData.eqv (.list (ndat a)) (.list (ndat b))) else none) = _
  rw [if_pos ⟨shaped_l a, shaped_l b⟩]
  show some (PyData.eqvAll (ndat a) (ndat b)) = _
  rw [ndat_eqv]
theorem eqP_tt (a b : List Nat) : eqP (.tup (nsP a)) (.tup (nsP b)) = some (decide (a = b)) := by
  show eqD _ _ = _
  unfold eqD
  rw [dat_t, dat_t]
  show (if SeqAt.shaped (.tuple (ndat a)) = true ∧ SeqAt.shaped (.tuple (ndat b)) = true then some (PyData.eqv (.tuple (ndat a)) (.tuple (ndat b))) else none) = _
  rw [if_pos ⟨shaped_t a, shaped_t b⟩]
  show some (PyData.eqvAll (ndat a) (ndat b)) = _
  rw [ndat_eqv]
theorem c_nell (o p : Bool) (a b : List Nat) : cmpop .ne (.lst o (nsP a)) (.lst p (nsP b)) = some (!decide (a = b)) := by
  show (eqP _ _).map (!·) = _
  rw [eqP_ll]; rfl
theorem c_eqll (o p : Bool) (a b : List Nat) : cmpop .eq (.lst o (nsP a)) (.lst p (nsP b)) = some (decide (a = b)) := eqP_ll o p a b
/-! ### sets of numbers as dicts -/
def addK (ks : List Nat) (k : Nat) : List Nat := if k ∈ ks then ks else ks ++ [k]
def dks (ks : List Nat) : List L2.Key := ks.map fun k : Nat => .inl (k : Int)
def dxs (ks : List Nat) : List PV := List.replicate ks.length (.bl true)
abbrev dicP (o : Bool) (ks : List Nat) : PV := .dic o (dks ks) (dxs ks)
theorem addK_mem {ks : List Nat} {k v : Nat} : v ∈ addK ks k ↔ v ∈ ks ∨ v = k := by
  unfold addK
  split
  · rename_i h
    constructor
    · exact .inl
    · rintro (h' | rfl)
      · exact h'
      · exact h
  · simp
theorem addKs_mem {v : Nat} : ∀ {xs ks : List Nat}, v ∈ xs.foldl addK ks ↔ v ∈ ks ∨ v ∈ xs
  | [], ks => by simp
  | x :: xs, ks => by rw [List.foldl_cons, addKs_mem, addK_mem]; simp [or_assoc]
theorem addKs_len : ∀ (xs ks : List Nat), (xs.foldl addK ks).length ≤ ks.length + xs.length
  | [], ks => by simp
  | x :: xs, ks => by
    have := addKs_len xs (addK ks x)
    have h : (addK ks x).length ≤ ks.length + 1 := by unfold addK; split <;> simp
    rw [List.foldl_cons, List.length_cons]; omega
theorem hasK_ns (k : Nat) : ∀ ks : List Nat, hasK (dks ks) (.inl (k : Int)) = decide (k ∈ ks)
  | [] => rfl
  | x :: xs => by
    show (decide (Sum.inl (x : Int) = (Sum.inl (k : Int) : L2.Key)) || hasK (dks xs) (.inl (k : Int))) = _
    rw [hasK_ns k xs]
    by_cases c : x = k
    · subst c; simp
    · have h1 : ¬ (Sum.inl (x : Int) = (Sum.inl (k : Int) : L2.Key)) := fun e => c (by injection e with e; omega)
      have h2 : ¬ k = x := fun e => c e.symm
      simp [h1, h2]
theorem seti_K (ks : List Nat) (k : Nat) (h : ks.length < lineB) : seti (dicP true ks) (.int (k : Int)) (.bl true) = some (dicP true (addK ks k)) := by
  have hl : (dks ks).length < lineB := by unfold dks; rw [List.length_map]; exact h
  rw [seti_d _ _ hl]
  congr 1
  unfold putKs putXs addK
  rw [hasK_ns]
  by_cases c : k ∈ ks
  · simp only [c, decide_true, if_true]
    congr 1
    unfold dxs dks
    rw [fz_bl]
    have : ∀ (ks : List Nat), List.zipWith (fun q x => if q = (Sum.inl (k : Int) : L2.Key) then PV.bl true else x) (ks.map fun k : Nat => Sum.inl (k : Int)) (List.replicate ks.length (.bl true)) = List.replicate ks.length (.bl true) := by
      intro ks
      induction ks with
      | nil => rfl
      | cons x xs ih => rw [List.map_cons, List.length_cons, List.replicate_succ, List.zipWith_cons_cons, ih]; simp
    exact this ks
  · simp only [c, decide_false, Bool.false_eq_true, if_false]
    unfold dks dxs
    rw [fz_bl]
    show _ = PV.dic true ((ks ++ [k]).map _) (List.replicate (ks ++ [k]).length _)
    rw [List.map_append, List.length_append, List.length_singleton, List.replicate_succ']
    rfl
theorem valP_K (v : Nat) : ∀ ks : List Nat, (valP (dks ks) (dxs ks) (.inl (v : Int))).isSome = decide (v ∈ ks)
  | [] => rfl
  | x :: xs => by
    show (if Sum.inl (x : Int) = (Sum.inl (v : Int) : L2.Key) then some (PV.bl true) else valP (dks xs) (dxs xs) (.inl (v : Int))).isSome = _
    by_cases c : x = v
    · subst c; simp
    · have h1 : ¬ (Sum.inl (x : Int) = (Sum.inl (v : Int) : L2.Key)) := fun e => c (by injection e with e; omega)
      have h2 : ¬ v = x := fun e => c e.symm
      rw [if_neg h1, valP_K v xs]; simp [h2]
theorem inP_K (o : Bool) (v : Nat) (ks : List Nat) : inP (.int (v : Int)) (dicP o ks) = some (decide (v ∈ ks)) := by
  show some (valP (dks ks) (dxs ks) (.inl (v : Int))).isSome = _
  rw [valP_K]
theorem c_isin (x y : PV) : cmpop .isin x y = inP x y := rfl
theorem c_notin (x y : PV) : cmpop .notin x y = (inP x y).map (!·) := rfl
theorem frzL_dxs (ks : List Nat) : frzL (dxs ks) = true := by
  unfold dxs
  induction ks with
  | nil => rfl
  | cons x xs ih => rw [List.length_cons, List.replicate_succ, frzL_cons, frz_bl, ih]; rfl
theorem fzL_dxs (ks : List Nat) : fzL (dxs ks) = dxs ks := frzL_fzL_of (frzL_dxs ks)
theorem frzL_map {α : Type} {g : α → PV} (h : ∀ a, (g a).frz = true) : ∀ xs : List α, frzL (xs.map g) = true
  | [] => rfl
  | x :: xs => by rw [List.map_cons, frzL_cons, h, frzL_map h xs]; rfl
theorem fzL_map {α : Type} {g : α → PV} : ∀ xs : List α, fzL (xs.map g) = xs.map fun x => (g x).fz
  | [] => rfl
  | x :: xs => by rw [List.map_cons, fzL_cons, fzL_map xs]; rfl
/-- numbers kept by a draw of two -/
def keepB : List Nat → Bx → List Nat × Bx
  | [], b => ([], b)
  | x :: xs, b => (if (tk b 2).1 = 0 then x :: (keepB xs (tk b 2).2).1 else (keepB xs (tk b 2).2).1, (keepB xs (tk b 2).2).2)
theorem keepB_sub : ∀ (xs : List Nat) (b : Bx), (keepB xs b).1.Sublist xs
  | [], _ => .slnil
  | x :: xs, b => by
    show (if (tk b 2).1 = 0 then x :: (keepB xs (tk b 2).2).1 else (keepB xs (tk b 2).2).1).Sublist _
    split
    · exact (keepB_sub xs _).cons_cons x
    · exact (keepB_sub xs _).cons x
theorem keepB_ok : ∀ (xs : List Nat) {b : Bx}, b.ok → (keepB xs b).2.ok
  | [], _, h => h
  | x :: xs, b, h => keepB_ok xs (tk_ok h 2)
theorem collA_keep : ∀ (xs : List Nat) (b : Bx), collA (fun (s : Bx) (x : Nat) => if (tk s 2).1 = 0 then some (.int (x : Int)) else none) (fun s _ => (tk s 2).2) xs b = nsP (keepB xs b).1 ∧ xs.foldl (fun s _ => (tk s 2).2) b = (keepB xs b).2
  | [], b => ⟨rfl, rfl⟩
  | x :: xs, b => by
    obtain ⟨h1, h2⟩ := collA_keep xs (tk b 2).2
    refine ⟨?_, by rw [List.foldl_cons, h2]; rfl⟩
    unfold collA keepB
    by_cases c : (tk b 2).1 = 0
    · simp only [c, if_true]; rw [h1]; rfl
    · simp only [c, if_false]; exact h1
theorem comR_nsC {S : Type} (E : S → Env) (o : S → Nat → Option PV) (step : S → Nat → S) (P : S → Prop) {own : List Nat} {t : Pat} {cond elt : Env → Res PV} {env : Env} (xs : List Nat) (s : S) (he : kil env own = E s) (h0 : P s) (hl : xs.length ≤ lineB)
    (h : ∀ s x, x ∈ xs → P s → turnC own t cond elt (.int (x : Int)) (E s) = .ok (o s x) (E (step s x)) ∧ P (step s x)) :
    comR own t cond elt (nsP xs) env = .ok (.lst true (collA o step xs s)) (kil (E (xs.foldl step s)) own) := comR_coll E (fun n : Nat => PV.int (n : Int)) o step P xs s he h0 hl h
theorem comR_nsP {own : List Nat} {t : Pat} {cond elt : Env → Res PV} {env : Env} (f : Nat → PV) (xs : List Nat) (hl : xs.length ≤ lineB) (h : ∀ x, x ∈ xs → turnC own t cond elt (.int (x : Int)) (kil env own) = .ok (some (f x)) (kil env own)) :
    comR own t cond elt (nsP xs) env = .ok (.lst true (xs.map f)) (kil env own) := comR_map (fun n : Nat => PV.int (n : Int)) f xs hl h
theorem all_true {α : Type} {p : α → Bool} {xs : List α} (h : ∀ x ∈ xs, p x = true) : xs.all p = true := List.all_eq_true.mpr h
theorem all_false {α : Type} {p : α → Bool} {xs : List α} (h : ¬ ∀ x ∈ xs, p x = true) : xs.all p = false := by
  cases e : xs.all p with
  | true => exact absurd (List.all_eq_true.mp e) h
  | false => rfl
end Z

set_option Elab.async false
set_option linter.all false
set_option maxRecDepth 100000
/-! E4: printed by mk.py zr: the equations as one theorem. -/
namespace Z
open PySem GF
theorem ZR : (type_of% @at_z) ∧ (type_of% @at_s) ∧ (type_of% @ev_var) ∧ (type_of% @evVar_some) ∧ (type_of% @ev_mv) ∧ (type_of% @evMv_some) ∧ (type_of% @bind_ok) ∧ (type_of% @fl_ok) ∧ (type_of% @lift_some) ∧ (type_of% @liftF_some) ∧ (type_of% @frz_int) ∧ (type_of% @fz_int) ∧ (type_of% @frz_bl) ∧ (type_of% @fz_bl) ∧ (type_of% @frz_lf) ∧ (type_of% @frz_lt) ∧ (type_of% @frz_tp) ∧ (type_of% @frz_df) ∧ (type_of% @frz_dt) ∧ (type_of% @frz_of) ∧ (type_of% @frz_ot) ∧ (type_of% @frz_non) ∧ (type_of% @frz_str) ∧ (type_of% @frz_scr) ∧ (type_of% @fz_lf) ∧ (type_of% @fz_lt) ∧ (type_of% @fz_tp) ∧ (type_of% @fz_df) ∧ (type_of% @fz_dt) ∧ (type_of% @fz_of) ∧ (type_of% @fz_ot) ∧ (type_of% @fz_non) ∧ (type_of% @fz_str) ∧ (type_of% @fz_scr) ∧ (type_of% @frzL_nil) ∧ (type_of% @frzL_cons) ∧ (type_of% @frzL_ns) ∧ (type_of% @fzL_nil) ∧ (type_of% @fzL_cons) ∧ (type_of% @fzL_ns) ∧ (type_of% @binop_int) ∧ (type_of% @ev_cint) ∧ (type_of% @ev_bin) ∧ (type_of% @ev_cmp) ∧ (type_of% @evS_set) ∧ (type_of% @evS_ret) ∧ (type_of% @evSs_nil) ∧ (type_of% @nxt_nx) ∧ (type_of% @nxt_rt) ∧ (type_of% @evSs_cons) ∧ (type_of% @onP_some) ∧ (type_of% @loopF_nil) ∧ (type_of% @bindP_one) ∧ (type_of% @bindP_many) ∧ (type_of% @kil_nil) ∧ (type_of% @kil_cons) ∧ (type_of% @onI_int) ∧ (type_of% @onB_bl) ∧ (type_of% @onBF_bl) ∧ (type_of% @ev_cbool) ∧ (type_of% @ev_cnon) ∧ (type_of% @ev_cstr) ∧ (type_of% @ev_glb) ∧ (type_of% @ev_neg) ∧ (type_of% @ev_one) ∧ (type_of% @ev_and) ∧ (type_of% @ev_or) ∧ (type_of% @ev_not) ∧ (type_of% @ev_ife) ∧ (type_of% @ev_lst) ∧ (type_of% @ev_tup) ∧ (type_of% @ev_dct0) ∧ (type_of% @ev_idx) ∧ (type_of% @ev_slc) ∧ (type_of% @ev_rev) ∧ (type_of% @evs_nil) ∧ (type_of% @evs_cons) ∧ (type_of% @evo_no) ∧ (type_of% @evo_so) ∧ (type_of% @evc_no) ∧ (type_of% @evc_so) ∧ (type_of% @ev_call) ∧ (type_of% @ev_bf) ∧ (type_of% @ev_bm) ∧ (type_of% @ev_comR) ∧ (type_of% @evI_val) ∧ (type_of% @evI_enum) ∧ (type_of% @evI_rng1) ∧ (type_of% @evI_rng2) ∧ (type_of% @evS_ife) ∧ (type_of% @evS_for) ∧ (type_of% @evS_par) ∧ (type_of% @evS_expr) ∧ (type_of% @onPR_some) ∧ (type_of% @okA_nil) ∧ (type_of% @okA_t) ∧ (type_of% @okA_f) ∧ (type_of% @outM_nil) ∧ (type_of% @outM_t) ∧ (type_of% @outM_f) ∧ (type_of% @onO_some) ∧ (type_of% @finD_nx) ∧ (type_of% @finD_rt) ∧ (type_of% @tab_fn) ∧ (type_of% @tab_glb) ∧ (type_of% @tab_meth) ∧ (type_of% @tab_init) ∧ (type_of% @tab_fld) ∧ (type_of% @onA_some) ∧ (type_of% @callX_eq) ∧ (type_of% @modesOf_nil) ∧ (type_of% @modesOf_n) ∧ (type_of% @modesOf_s) ∧ (type_of% @fillM_nil) ∧ (type_of% @fillM_n) ∧ (type_of% @fillM_s) ∧ (type_of% @fill1_some) ∧ (type_of% @outK_nil) ∧ (type_of% @outK_n) ∧ (type_of% @outK_s) ∧ (type_of% @backM_nil) ∧ (type_of% @backM_n) ∧ (type_of% @backM_s) ∧ (type_of% @res_ret) ∧ (type_of% @kinds_nil) ∧ (type_of% @kinds_cons) ∧ (type_of% @ev_marg) ∧ (type_of% @ev_meth) ∧ (type_of% @onOb_obj) ∧ (type_of% @ev_methm) ∧ (type_of% @onCl_obj) ∧ (type_of% @ev_make) ∧ (type_of% @evS_retN) ∧ (type_of% @evS_pass) ∧ (type_of% @evS_unp) ∧ (type_of% @itemsT_tup) ∧ (type_of% @itemsT_lst) ∧ (type_of% @setAll_nil) ∧ (type_of% @setAll_cons) ∧ (type_of% @evS_aug) ∧ (type_of% @onIo_int) ∧ (type_of% @onIF_int) ∧ (type_of% @modP_eq) ∧ (type_of% @modO_some) ∧ (type_of% @evS_seti_v) ∧ (type_of% @isS_some) ∧ (type_of% @onLst_lst) ∧ (type_of% @evS_augi_v) ∧ (type_of% @evS_mth_v) ∧ (type_of% @evS_setf_v) ∧ (type_of% @ev_fld) ∧ (type_of% @onObj_obj) ∧ (type_of% @ev_rd) ∧ (type_of% @ev_lenp) ∧ (type_of% @ev_inp) ∧ (type_of% @evp_pv) ∧ (type_of% @evp_pf) ∧ (type_of% @evp_pi) ∧ (type_of% @ev_chn) ∧ (type_of% @lookF_cons) ∧ (type_of% @b_add) ∧ (type_of% @b_shr) ∧ (type_of% @b_band) ∧ (type_of% @b_bxor) ∧ (type_of% @c_lt) ∧ (type_of% @c_le) ∧ (type_of% @c_gt) ∧ (type_of% @c_ge) ∧ (type_of% @c_eq) ∧ (type_of% @c_ne) ∧ (type_of% @c_isn) ∧ (type_of% @c_notn) ∧ (type_of% @isNon_non) ∧ (type_of% @isNon_int) ∧ (type_of% @f_sorted) ∧ (type_of% @f_len_l) ∧ (type_of% @f_len_t) ∧ (type_of% @f_max2) ∧ (type_of% @f_int_b) ∧ (type_of% @itemsOf_l) ∧ (type_of% @itemsOf_t) ∧ (type_of% @item_l) ∧ (type_of% @item_t) ∧ (type_of% @decide_eq_true_eq) ∧ (type_of% @Bool.and_true) ∧ (type_of% @Bool.true_and) ∧ (type_of% @Bool.and_self) ∧ (type_of% @Bool.false_eq_true) ∧ (type_of% @decide_true) ∧ (type_of% @decide_false) ∧ (type_of% @getI_0) ∧ (type_of% @getI_1) ∧ (type_of% @getI_2) ∧ (type_of% @getI_3) ∧ (type_of% @seti_1) ∧ (type_of% @seti_2) ∧ (type_of% @seti_3) ∧ (type_of% @lenP_l) ∧ (type_of% @lenP_t) ∧ (type_of% @inP_frz) ∧ (type_of% @inP_fz) ∧ (type_of% @inP_len) ∧ (type_of% @c_nell) ∧ (type_of% @c_eqll) ∧ (type_of% @c_isin) ∧ (type_of% @inP_K) ∧ (type_of% @frzL_dxs) ∧ (type_of% @fzL_dxs) ∧ (type_of% @makeX_on) ∧ (type_of% @onMk_ret') ∧ (type_of% @setf_o) ∧ (type_of% @Nat.not_lt_zero) ∧ (type_of% @frzL_pr) ∧ (type_of% @fzL_pr) ∧ (type_of% @putFl_nil) ∧ (type_of% @putFl_cons) ∧ (type_of% @i0) ∧ (type_of% @i1) ∧ (type_of% @i2) ∧ (type_of% @i3) ∧ (type_of% @i4) ∧ (type_of% @i5) ∧ (type_of% @i6) ∧ (type_of% @i7) ∧ (type_of% @i8) ∧ (type_of% @i9) ∧ (type_of% @i12) ∧ (type_of% @i17) ∧ (type_of% @i20) ∧ (type_of% @i41) ∧ (type_of% @i63) ∧ (type_of% @i64) ∧ (type_of% @i100) ∧ (type_of% @i2001) ∧ (type_of% @i69621) ∧ (type_of% @i40693) ∧ (type_of% @i2147483549) ∧ (type_of% @Bool.not_true) ∧ (type_of% @Bool.not_false) ∧ (type_of% @Bool.not_eq_true') ∧ (type_of% @decide_eq_false_iff_not) :=
  ⟨@at_z, @at_s, @ev_var, @evVar_some, @ev_mv, @evMv_some, @bind_ok, @fl_ok, @lift_some, @liftF_some, @frz_int, @fz_int, @frz_bl, @fz_bl, @frz_lf, @frz_lt, @frz_tp, @frz_df, @frz_dt, @frz_of, @frz_ot, @frz_non, @frz_str, @frz_scr, @fz_lf, @fz_lt, @fz_tp, @fz_df, @fz_dt, @fz_of, @fz_ot, @fz_non, @fz_str, @fz_scr, @frzL_nil, @frzL_cons, @frzL_ns, @fzL_nil, @fzL_cons, @fzL_ns, @binop_int, @ev_cint, @ev_bin, @ev_cmp, @evS_set, @evS_ret, @evSs_nil, @nxt_nx, @nxt_rt, @evSs_cons, @onP_some, @loopF_nil, @bindP_one, @bindP_many, @kil_nil, @kil_cons, @onI_int, @onB_bl, @onBF_bl, @ev_cbool, @ev_cnon, @ev_cstr, @ev_glb, @ev_neg, @ev_one, @ev_and, @ev_or, @ev_not, @ev_ife, @ev_lst, @ev_tup, @ev_dct0, @ev_idx, @ev_slc, @ev_rev, @evs_nil, @evs_cons, @evo_no, @evo_so, @evc_no, @evc_so, @ev_call, @ev_bf, @ev_bm, @ev_comR, @evI_val, @evI_enum, @evI_rng1, @evI_rng2, @evS_ife, @evS_for, @evS_par, @evS_expr, @onPR_some, @okA_nil, @okA_t, @okA_f, @outM_nil, @outM_t, @outM_f, @onO_some, @finD_nx, @finD_rt, @tab_fn, @tab_glb, @tab_meth, @tab_init, @tab_fld, @onA_some, @callX_eq, @modesOf_nil, @modesOf_n, @modesOf_s, @fillM_nil, @fillM_n, @fillM_s, @fill1_some, @outK_nil, @outK_n, @outK_s, @backM_nil, @backM_n, @backM_s, @res_ret, @kinds_nil, @kinds_cons, @ev_marg, @ev_meth, @onOb_obj, @ev_methm, @onCl_obj, @ev_make, @evS_retN, @evS_pass, @evS_unp, @itemsT_tup, @itemsT_lst, @setAll_nil, @setAll_cons, @evS_aug, @onIo_int, @onIF_int, @modP_eq, @modO_some, @evS_seti_v, @isS_some, @onLst_lst, @evS_augi_v, @evS_mth_v, @evS_setf_v, @ev_fld, @onObj_obj, @ev_rd, @ev_lenp, @ev_inp, @evp_pv, @evp_pf, @evp_pi, @ev_chn, @lookF_cons, @b_add, @b_shr, @b_band, @b_bxor, @c_lt, @c_le, @c_gt, @c_ge, @c_eq, @c_ne, @c_isn, @c_notn, @isNon_non, @isNon_int, @f_sorted, @f_len_l, @f_len_t, @f_max2, @f_int_b, @itemsOf_l, @itemsOf_t, @item_l, @item_t, @decide_eq_true_eq, @Bool.and_true, @Bool.true_and, @Bool.and_self, @Bool.false_eq_true, @decide_true, @decide_false, @getI_0, @getI_1, @getI_2, @getI_3, @seti_1, @seti_2, @seti_3, @lenP_l, @lenP_t, @inP_frz, @inP_fz, @inP_len, @c_nell, @c_eqll, @c_isin, @inP_K, @frzL_dxs, @fzL_dxs, @makeX_on, @onMk_ret', @setf_o, @Nat.not_lt_zero, @frzL_pr, @fzL_pr, @putFl_nil, @putFl_cons, @i0, @i1, @i2, @i3, @i4, @i5, @i6, @i7, @i8, @i9, @i12, @i17, @i20, @i41, @i63, @i64, @i100, @i2001, @i69621, @i40693, @i2147483549, @Bool.not_true, @Bool.not_false, @Bool.not_eq_true', @decide_eq_false_iff_not⟩
end Z

namespace K54
open PySem Z
/-- 0: _wall(k); slots 0 k -/
def d__wall : Def := ⟨1, 1, [false],
 (.cons .bad .nil)⟩
/-- 1: top_of(one); slots 0 one -/
def d_top_of : Def := ⟨1, 1, [false],
 (.cons (.ret (.bin .shl (.cint 1) (.bin .sub (.bm .bits (.var 0) .nil) (.cint 1))))
 .nil)⟩
/-- 2: blended(numbers); slots 0 numbers, 1 found, 2 one -/
def d_blended : Def := ⟨1, 3, [false],
 (.cons (.set 1 true (.cint 0))
 (.cons (.for (.one 2) (.val (.var 0)) [2]
 (.cons (.set 1 true (.bin .bxor (.var 1) (.var 2)))
 .nil))
 (.cons (.ret (.mv 1))
 .nil)))⟩
/-- 3: picked(rows, number); slots 0 rows, 1 number, 2 at, 3 row -/
def d_picked : Def := ⟨2, 4, [false, false],
 (.cons (.ret (.call 2 (.cons (.com (.var 3) [2, 3] (.many [2, 3]) (.enum (.var 0)) (.so (.cmp .eq (.bin .band (.bin .shr (.var 1) (.var 2)) (.cint 1)) (.cint 1)))) .nil) .nil))
 .nil)⟩
/-- 4: reduced(one, found); slots 0 one, 1 found, 2 left, 3 other -/
def d_reduced : Def := ⟨2, 4, [false, false],
 (.cons (.set 2 true (.var 0))
 (.cons (.for (.one 3) (.val (.var 1)) [3]
 (.cons (.ife (.cmp .gt (.bin .band (.var 2) (.call 1 (.cons (.var 3) .nil) .nil)) (.cint 0))
 (.cons (.set 2 true (.bin .bxor (.var 2) (.var 3)))
 .nil)
 .nil)
 .nil))
 (.cons (.ret (.mv 2))
 .nil)))⟩
/-- 5: basis_of(numbers); slots 0 numbers, 1 found, 2 one, 3 left, 4 top, 5 other -/
def d_basis_of : Def := ⟨1, 6, [false],
 (.cons (.set 1 true (.lst .nil))
 (.cons (.for (.one 2) (.val (.var 0)) [2, 3, 4, 5]
 (.cons (.set 3 true (.call 4 (.cons (.var 2) (.cons (.var 1) .nil)) .nil))
 (.cons (.ife (.cmp .gt (.var 3) (.cint 0))
 (.cons (.set 4 true (.call 1 (.cons (.var 3) .nil) .nil))
 (.cons (.set 1 true (.bin .add (.com (.ife (.cmp .gt (.bin .band (.var 5) (.var 4)) (.cint 0)) (.bin .bxor (.var 5) (.var 3)) (.var 5)) [5] (.one 5) (.val (.var 1)) .no) (.lst (.cons (.var 3) .nil))))
 .nil))
 .nil)
 .nil)))
 (.cons (.ret (.bf .sorted (.cons (.var 1) .nil)))
 .nil)))⟩
/-- 6: traced(numbers); slots 0 numbers, 1 found, 2 idle, 3 at, 4 one, 5 left, 6 mark, 7 other, 8 trail, 9 top, 10 wider -/
def d_traced : Def := ⟨1, 11, [false],
 (.cons (.set 1 true (.lst .nil))
 (.cons (.set 2 false (.lst .nil))
 (.cons (.for (.many [3, 4]) (.enum (.var 0)) [3, 4, 5, 6, 7, 8, 9, 10]
 (.cons (.par [5, 6] (.cons (.var 4) (.cons (.bin .shl (.cint 1) (.var 3)) .nil)))
 (.cons (.for (.many [7, 8]) (.val (.var 1)) [7, 8]
 (.cons (.ife (.cmp .gt (.bin .band (.var 5) (.call 1 (.cons (.var 7) .nil) .nil)) (.cint 0))
 (.cons (.par [5, 6] (.cons (.bin .bxor (.var 5) (.var 7)) (.cons (.bin .bxor (.var 6) (.var 8)) .nil)))
 .nil)
 .nil)
 .nil))
 (.cons (.ife (.cmp .eq (.var 5) (.cint 0))
 (.cons (.mth .append (.pv 2) (.cons (.var 6) .nil))
 .nil)
 (.cons (.set 9 true (.call 1 (.cons (.var 5) .nil) .nil))
 (.cons (.set 10 false (.lst (.cons (.tup (.cons (.var 5) (.cons (.var 6) .nil))) .nil)))
 (.cons (.for (.many [7, 8]) (.val (.var 1)) [7, 8]
 (.cons (.mth .append (.pv 10) (.cons (.ife (.cmp .gt (.bin .band (.var 7) (.var 9)) (.cint 0)) (.tup (.cons (.bin .bxor (.var 7) (.var 5)) (.cons (.bin .bxor (.var 8) (.var 6)) .nil))) (.tup (.cons (.var 7) (.cons (.var 8) .nil)))) .nil))
 .nil))
 (.cons (.set 1 true (.var 10))
 .nil)))))
 .nil))))
 (.cons (.ret (.tup (.cons (.var 1) (.cons (.mv 2) .nil))))
 .nil))))⟩
/-- 7: trail_to(numbers, one); slots 0 numbers, 1 one, 2 left, 3 mark, 4 other, 5 trail -/
def d_trail_to : Def := ⟨2, 6, [false, false],
 (.cons (.par [2, 3] (.cons (.var 1) (.cons (.cint 0) .nil)))
 (.cons (.for (.many [4, 5]) (.val (.idx (.call 6 (.cons (.var 0) .nil) .nil) (.cint 0))) [4, 5]
 (.cons (.ife (.cmp .gt (.bin .band (.var 2) (.call 1 (.cons (.var 4) .nil) .nil)) (.cint 0))
 (.cons (.par [2, 3] (.cons (.bin .bxor (.var 2) (.var 4)) (.cons (.bin .bxor (.var 3) (.var 5)) .nil)))
 .nil)
 .nil)
 .nil))
 (.cons (.ret (.ife (.cmp .eq (.var 2) (.cint 0)) (.var 3) .cnon))
 .nil)))⟩
/-- 8: Fold.__init__(self, rows, size); slots 0 self, 1 rows, 2 size, 3 row -/
def d_Fold___init__ : Def := ⟨3, 4, [true, false, false],
 (.cons (.ife (.or (.cmp .lt (.var 2) (.cint 0)) (.or (.cmp .gt (.var 2) (.glb 0)) (.one (.cmp .gt (.bf .len (.cons (.var 1) .nil)) (.glb 0)))))
 (.cons .bad
 .nil)
 .nil)
 (.cons (.for (.one 3) (.val (.var 1)) [3]
 (.cons (.ife (.or (.cmp .lt (.var 3) (.cint 0)) (.one (.cmp .gt (.bin .shr (.var 3) (.var 2)) (.cint 0))))
 (.cons .bad
 .nil)
 .nil)
 .nil))
 (.cons (.setf (.pv 0) 1 (.bf .tuple (.cons (.var 1) .nil)))
 (.cons (.setf (.pv 0) 0 (.var 2))
 .nil))))⟩
/-- 9: Fold.__eq__(self, other); slots 0 self, 1 other -/
def d_Fold___eq__ : Def := ⟨2, 2, [false, false],
 (.cons (.ret (.and (.bf (.isinst 16) (.cons (.var 1) .nil)) (.and (.cmp .eq (.fld (.var 0) 1) (.fld (.var 1) 1)) (.one (.cmp .eq (.fld (.var 0) 0) (.fld (.var 1) 0))))))
 .nil)⟩
/-- 10: Fold.__len__(self); slots 0 self -/
def d_Fold___len__ : Def := ⟨1, 1, [false],
 (.cons (.ret (.bf .len (.cons (.fld (.var 0) 1) .nil)))
 .nil)⟩
/-- 11: Fold.__repr__(self); slots 0 self -/
def d_Fold___repr__ : Def := ⟨1, 1, [false],
 (.cons .bad .nil)⟩
/-- 12: Fold.rows(self); slots 0 self -/
def d_Fold_rows : Def := ⟨1, 1, [false],
 (.cons (.ret (.fld (.var 0) 1))
 .nil)⟩
/-- 13: Fold.many(self); slots 0 self -/
def d_Fold_many : Def := ⟨1, 1, [false],
 (.cons (.ret (.bf .len (.cons (.fld (.var 0) 1) .nil)))
 .nil)⟩
/-- 14: Fold.size(self); slots 0 self -/
def d_Fold_size : Def := ⟨1, 1, [false],
 (.cons (.ret (.fld (.var 0) 0))
 .nil)⟩
/-- 15: Fold.to(self, number); slots 0 self, 1 number -/
def d_Fold_to : Def := ⟨2, 2, [false, false],
 (.cons (.ife (.or (.cmp .lt (.var 1) (.cint 0)) (.one (.cmp .gt (.bin .shr (.var 1) (.bf .len (.cons (.fld (.var 0) 1) .nil))) (.cint 0))))
 (.cons .bad
 .nil)
 .nil)
 (.cons (.ret (.call 3 (.cons (.fld (.var 0) 1) (.cons (.var 1) .nil)) .nil))
 .nil))⟩
/-- 16: Fold.kernel(self); slots 0 self -/
def d_Fold_kernel : Def := ⟨1, 1, [false],
 (.cons (.ret (.call 5 (.cons (.idx (.call 6 (.cons (.fld (.var 0) 1) .nil) .nil) (.cint 1)) .nil) .nil))
 .nil)⟩
/-- 17: Fold.onto(self); slots 0 self -/
def d_Fold_onto : Def := ⟨1, 1, [false],
 (.cons (.ret (.cmp .eq (.bf .len (.cons (.call 5 (.cons (.fld (.var 0) 1) .nil) .nil) .nil)) (.fld (.var 0) 0)))
 .nil)⟩
/-- 18: Fold.single(self); slots 0 self -/
def d_Fold_single : Def := ⟨1, 1, [false],
 (.cons .bad .nil)⟩
/-- 19: Fold.then(self, other); slots 0 self, 1 other -/
def d_Fold_then : Def := ⟨2, 2, [false, false],
 (.cons .bad .nil)⟩
/-- 20: Fold.beside(self, other); slots 0 self, 1 other -/
def d_Fold_beside : Def := ⟨2, 2, [false, false],
 (.cons .bad .nil)⟩
/-- 21: Fold.part(self, other); slots 0 self, 1 other -/
def d_Fold_part : Def := ⟨2, 2, [false, false],
 (.cons .bad .nil)⟩
/-- 22: Fold.least(self, number); slots 0 self, 1 number, 2 mark -/
def d_Fold_least : Def := ⟨2, 3, [false, false],
 (.cons (.set 2 true (.call 7 (.cons (.fld (.var 0) 1) (.cons (.var 1) .nil)) .nil))
 (.cons (.ret (.ife (.cmp .isn (.var 2) .cnon) .cnon (.call 4 (.cons (.var 2) (.cons (.meth 2 (.var 0) .nil .nil) .nil)) .nil)))
 .nil))⟩
/-- 23: Fold.back(self); slots 0 self, 1 at -/
def d_Fold_back : Def := ⟨1, 2, [false],
 (.cons (.ife (.not (.meth 4 (.var 0) .nil .nil))
 (.cons .bad
 .nil)
 .nil)
 (.cons (.ret (.make 6 (.cons (.com (.meth 3 (.var 0) (.cons (.bin .shl (.cint 1) (.var 1)) .nil) .nil) [1] (.one 1) (.rng1 (.fld (.var 0) 0)) .no) (.cons (.bf .len (.cons (.fld (.var 0) 1) .nil)) .nil)) .nil))
 .nil))⟩
/-- 24: need_lanes(spread, lanes); slots 0 spread, 1 lanes -/
def d_need_lanes : Def := ⟨2, 2, [false, false],
 (.cons (.ife (.or (.cmp .lt (.var 1) (.cint 0)) (.one (.cmp .gt (.var 1) (.meth 5 (.var 0) .nil .nil))))
 (.cons .bad
 .nil)
 .nil)
 .nil)⟩
/-- 25: steps_along(spread, places, lanes); slots 0 spread, 1 places, 2 lanes, 3 low, 4 idle, 5 swings, 6 free, 7 back, 8 found, 9 at, 10 step, 11 mark, 12 number, 13 place -/
def d_steps_along : Def := ⟨3, 14, [false, false, false],
 (.cons (.set 3 true (.bin .sub (.meth 5 (.var 0) .nil .nil) (.var 2)))
 (.cons (.set 4 true (.meth 2 (.var 0) .nil .nil))
 (.cons (.set 5 true (.com (.bin .shr (.var 12) (.var 3)) [12] (.one 12) (.val (.var 4)) .no))
 (.cons (.set 6 true (.call 5 (.cons (.var 5) .nil) .nil))
 (.cons (.set 7 true (.meth 7 (.var 0) .nil .nil))
 (.cons (.set 8 false (.lst .nil))
 (.cons (.for (.one 9) (.val (.var 1)) [9, 10, 11, 12, 13]
 (.cons (.set 10 true (.meth 6 (.var 7) (.cons (.bin .shl (.cint 1) (.var 9)) .nil) .nil))
 (.cons (.set 11 true (.call 7 (.cons (.var 5) (.cons (.bin .bxor (.bin .shr (.var 10) (.var 3)) (.call 4 (.cons (.bin .shr (.var 10) (.var 3)) (.cons (.var 6) .nil)) .nil)) .nil)) .nil))
 (.cons (.for (.many [13, 12]) (.enum (.var 4)) [12, 13]
 (.cons (.set 10 true (.ife (.cmp .eq (.bin .band (.bin .shr (.var 11) (.var 13)) (.cint 1)) (.cint 1)) (.bin .bxor (.var 10) (.var 12)) (.var 10)))
 .nil))
 (.cons (.mth .append (.pv 8) (.cons (.var 10) .nil))
 .nil)))))
 (.cons (.ret (.mv 8))
 .nil))))))))⟩
/-- 26: gather(spread, places, lanes); slots 0 spread, 1 places, 2 lanes, 3 step, 4 at -/
def d_gather : Def := ⟨3, 5, [false, false, false],
 (.cons (.expr (.call 24 (.cons (.var 0) (.cons (.var 2) .nil)) .nil))
 (.cons (.ife (.not (.meth 4 (.var 0) .nil .nil))
 (.cons .bad
 .nil)
 .nil)
 (.cons (.ife (.or (.cmp .lt (.bf .lenset (.cons (.var 1) .nil)) (.bf .len (.cons (.var 1) .nil))) (.one (.bf .any (.cons (.com (.or (.cmp .lt (.var 4) (.cint 0)) (.one (.cmp .ge (.var 4) (.meth 8 (.var 0) .nil .nil)))) [4] (.one 4) (.val (.var 1)) .no) .nil))))
 (.cons .bad
 .nil)
 .nil)
 (.cons (.ret (.call 5 (.cons (.com (.bin .shr (.var 3) (.bin .sub (.meth 5 (.var 0) .nil .nil) (.var 2))) [3] (.one 3) (.val (.call 25 (.cons (.var 0) (.cons (.var 1) (.cons (.var 2) .nil))) .nil)) .no) .nil) .nil))
 .nil))))⟩
/-- 27: _law_box(_law_script); slots 0 _law_script -/
def d__law_box : Def := ⟨1, 1, [false],
 (.cons (.ret (.lst (.cons (.bf .list (.cons (.slc (.var 0) .no (.so (.cint 63))) .nil)) (.cons (.cint 0) (.cons (.cint 0) (.cons (.cint 41) .nil))))))
 .nil)⟩
/-- 28: _law_take(_law_box_here, _law_sides); slots 0 _law_box_here, 1 _law_sides, 2 _law_cell, 3 _law_seed, 4 _law_tail -/
def d__law_take : Def := ⟨2, 5, [true, false],
 (.cons (.ife (.cmp .gt (.rd (.pi (.pv 0) (.cint 2))) (.cint 0))
 (.cons (.set 4 false (.rd (.pi (.pv 0) (.cint 2))))
 (.cons (.seti (.pv 0) (.cint 2) (.bin .fdiv (.var 4) (.var 1)))
 (.cons (.ret (.bin .mod (.var 4) (.var 1)))
 .nil)))
 .nil)
 (.cons (.set 2 false (.cint 0))
 (.cons (.ife (.cmp .lt (.rd (.pi (.pv 0) (.cint 1))) (.lenp (.pi (.pv 0) (.cint 0))))
 (.cons (.set 2 false (.rd (.pi (.pi (.pv 0) (.cint 0)) (.rd (.pi (.pv 0) (.cint 1))))))
 (.cons (.augi (.pv 0) (.cint 1) .add (.cint 1))
 .nil))
 .nil)
 (.cons (.ife (.cmp .ge (.var 2) (.bin .pow (.cint 10) (.cint 18)))
 (.cons (.seti (.pv 0) (.cint 2) (.bin .fdiv (.var 2) (.var 1)))
 (.cons (.ret (.bin .mod (.var 2) (.var 1)))
 .nil))
 .nil)
 (.cons (.set 3 true (.rd (.pi (.pv 0) (.cint 3))))
 (.cons (.seti (.pv 0) (.cint 3) (.bin .mod (.bin .add (.bin .add (.bin .add (.bin .pow (.var 3) (.cint 3)) (.bin .mul (.cint 69621) (.var 3))) (.bin .mul (.cint 40693) (.bin .mod (.var 2) (.cint 2147483549)))) (.cint 17)) (.cint 2147483549)))
 (.cons (.ret (.bin .mod (.bin .fdiv (.rd (.pi (.pv 0) (.cint 3))) (.cint 64)) (.var 1)))
 .nil)))))))⟩
/-- 29: _law_of(_law_box_here, _law_some); slots 0 _law_box_here, 1 _law_some -/
def d__law_of : Def := ⟨2, 2, [true, false],
 (.cons (.ret (.idx (.var 1) (.call 28 (.cons (.marg 0) (.cons (.bf .len (.cons (.var 1) .nil)) .nil)) .nil)))
 .nil)⟩
/-- 30: _law_shuffled(_law_box_here, _law_some); slots 0 _law_box_here, 1 _law_some, 2 _law_found, 3 _law_one -/
def d__law_shuffled : Def := ⟨2, 4, [true, false],
 (.cons (.set 2 false (.lst .nil))
 (.cons (.for (.one 3) (.val (.var 1)) [3]
 (.cons (.mth .insert (.pv 2) (.cons (.call 28 (.cons (.marg 0) (.cons (.bin .add (.lenp (.pv 2)) (.cint 1)) .nil)) .nil) (.cons (.var 3) .nil)))
 .nil))
 (.cons (.ret (.mv 2))
 .nil)))⟩
/-- 31: _law_span(_law_numbers_here); slots 0 _law_numbers_here, 1 _law_found, 2 _law_one, 3 _law_other -/
def d__law_span : Def := ⟨1, 4, [false],
 (.cons (.set 1 true (.lst (.cons (.cint 0) .nil)))
 (.cons (.for (.one 2) (.val (.var 0)) [2, 3]
 (.cons (.ife (.cmp .notin (.var 2) (.var 1))
 (.cons (.set 1 true (.bin .add (.var 1) (.com (.bin .bxor (.var 3) (.var 2)) [3] (.one 3) (.val (.var 1)) .no)))
 .nil)
 .nil)
 .nil))
 (.cons (.ret (.mv 1))
 .nil)))⟩
/-- 32: _law_numbers(_law_box_here, _law_count, _law_many); slots 0 _law_box_here, 1 _law_count, 2 _law_many, 3 _law_at -/
def d__law_numbers : Def := ⟨3, 4, [true, false, false],
 (.cons (.ret (.com (.call 28 (.cons (.marg 0) (.cons (.bin .shl (.cint 1) (.var 2)) .nil)) .nil) [3] (.one 3) (.rng1 (.var 1)) .no))
 .nil)⟩
/-- 33: _law_images(_law_lines_here); slots 0 _law_lines_here, 1 _law_found, 2 _law_line, 3 _law_one -/
def d__law_images : Def := ⟨1, 4, [false],
 (.cons (.set 1 true (.lst (.cons (.cint 0) .nil)))
 (.cons (.for (.one 2) (.val (.var 0)) [2, 3]
 (.cons (.set 1 true (.bin .add (.var 1) (.com (.bin .bxor (.var 3) (.var 2)) [3] (.one 3) (.val (.var 1)) .no)))
 .nil))
 (.cons (.ret (.mv 1))
 .nil)))⟩
/-- 34: _law_lines(_law_box_here, _law_deep, _law_many); slots 0 _law_box_here, 1 _law_deep, 2 _law_many, 3 _law_lines_here, 4 _law_turn, 5 _law_one, 6 _law_far, 7 _law_at, 8 _law_line -/
def d__law_lines : Def := ⟨3, 9, [true, false, false],
 (.cons (.set 3 false (.com (.bin .shl (.cint 1) (.var 7)) [7] (.one 7) (.rng1 (.var 2)) .no))
 (.cons (.set 3 false (.call 30 (.cons (.marg 0) (.cons (.bin .add (.var 3) (.call 32 (.cons (.marg 0) (.cons (.bin .sub (.var 1) (.var 2)) (.cons (.var 2) .nil))) .nil)) .nil)) .nil))
 (.cons (.for (.one 4) (.rng1 (.bin .mul (.call 28 (.cons (.marg 0) (.cons (.cint 7) .nil)) .nil) (.bf .int (.cons (.cmp .gt (.var 1) (.cint 1)) .nil)))) [4, 5, 6]
 (.cons (.set 5 true (.call 28 (.cons (.marg 0) (.cons (.var 1) .nil)) .nil))
 (.cons (.set 6 true (.bin .add (.bin .add (.var 5) (.cint 1)) (.call 28 (.cons (.marg 0) (.cons (.bin .sub (.var 1) (.cint 1)) .nil)) .nil)))
 (.cons (.seti (.pv 3) (.var 5) (.bin .bxor (.rd (.pi (.pv 3) (.var 5))) (.rd (.pi (.pv 3) (.bin .mod (.var 6) (.var 1))))))
 .nil))))
 (.cons (.for (.one 4) (.rng1 (.bin .mul (.call 28 (.cons (.marg 0) (.cons (.cint 4) .nil)) .nil) (.bf .int (.cons (.cmp .gt (.var 2) (.cint 1)) .nil)))) [4, 5, 6, 8]
 (.cons (.set 5 true (.call 28 (.cons (.marg 0) (.cons (.var 2) .nil)) .nil))
 (.cons (.set 6 true (.bin .mod (.bin .add (.bin .add (.var 5) (.cint 1)) (.call 28 (.cons (.marg 0) (.cons (.bin .sub (.var 2) (.cint 1)) .nil)) .nil)) (.var 2)))
 (.cons (.set 3 false (.com (.bin .bxor (.var 8) (.bin .shl (.bin .band (.bin .shr (.var 8) (.var 5)) (.cint 1)) (.var 6))) [8] (.one 8) (.val (.var 3)) .no))
 .nil))))
 (.cons (.ret (.bf .tuple (.cons (.var 3) .nil)))
 .nil)))))⟩
/-- 35: _law_two_spreads(_law_box_here); slots 0 _law_box_here, 1 _law_deep, 2 _law_some, 3 _law_many, 4 _law_one, 5 _law_way, 6 _law_two, 7 _law_at -/
def d__law_two_spreads : Def := ⟨1, 8, [true],
 (.cons (.set 1 true (.call 29 (.cons (.marg 0) (.cons (.lst (.cons (.cint 7) (.cons (.cint 5) (.cons (.cint 4) (.cons (.cint 3) (.cons (.cint 6) (.cons (.cint 2) (.cons (.cint 1) (.cons (.cint 0) .nil))))))))) .nil)) .nil))
 (.cons (.set 2 true (.lst (.cons (.var 1) (.cons (.var 1) (.cons (.bf .max2 (.cons (.cint 0) (.cons (.bin .sub (.var 1) (.cint 1)) .nil))) (.cons (.call 28 (.cons (.marg 0) (.cons (.bin .add (.var 1) (.cint 1)) .nil)) .nil) .nil))))))
 (.cons (.set 3 true (.call 29 (.cons (.marg 0) (.cons (.var 2) .nil)) .nil))
 (.cons (.set 4 true (.call 34 (.cons (.marg 0) (.cons (.var 1) (.cons (.var 3) .nil))) .nil))
 (.cons (.set 5 true (.call 28 (.cons (.marg 0) (.cons (.cint 4) .nil)) .nil))
 (.cons (.set 6 true (.call 34 (.cons (.marg 0) (.cons (.var 1) (.cons (.var 3) .nil))) .nil))
 (.cons (.ife (.cmp .eq (.var 5) (.cint 0))
 (.cons (.set 6 true (.bf .tuple (.cons (.call 30 (.cons (.marg 0) (.cons (.bf .list (.cons (.var 4) .nil)) .nil)) .nil) .nil)))
 .nil)
 .nil)
 (.cons (.ife (.and (.cmp .eq (.var 5) (.cint 1)) (.one (.cmp .gt (.var 1) (.cint 1))))
 (.cons (.set 7 true (.call 28 (.cons (.marg 0) (.cons (.bin .sub (.var 1) (.cint 1)) .nil)) .nil))
 (.cons (.set 6 true (.bin .add (.bin .add (.slc (.var 4) .no (.so (.var 7))) (.rev (.slc (.var 4) (.so (.var 7)) (.so (.bin .add (.var 7) (.cint 2)))))) (.slc (.var 4) (.so (.bin .add (.var 7) (.cint 2))) .no)))
 .nil))
 .nil)
 (.cons (.ret (.tup (.cons (.var 1) (.cons (.var 3) (.cons (.call 28 (.cons (.marg 0) (.cons (.bin .add (.var 1) (.cint 1)) .nil)) .nil) (.cons (.var 4) (.cons (.var 6) .nil)))))))
 .nil)))))))))⟩
/-- 36: _law_reached(_law_images_here, _law_lane, _law_span_here, _law_low); slots 0 _law_images_here, 1 _law_lane, 2 _law_span_here, 3 _law_low, 4 _law_found, 5 _law_swing, 6 _law_start, 7 _law_cell -/
def d__law_reached : Def := ⟨4, 8, [false, false, false, false],
 (.cons (.set 4 false .dct0)
 (.cons (.for (.one 5) (.val (.var 2)) [5, 6, 7]
 (.cons (.set 6 true (.bin .shl (.bin .bxor (.var 1) (.var 5)) (.var 3)))
 (.cons (.for (.one 7) (.val (.slc (.var 0) (.so (.var 6)) (.so (.bin .add (.var 6) (.bin .shl (.cint 1) (.var 3)))))) [7]
 (.cons (.seti (.pv 4) (.var 7) (.cbool true))
 .nil))
 .nil)))
 (.cons (.ret (.mv 4))
 .nil)))⟩
/-- 37: law(_law_script); slots 0 _law_script, 1 _law_box_here, 2 _law_turn, 3 _law_low, 4 _law_places, 5 _law_found, 6 _law_wanted, 7 _law_span_here, 8 _law_lane, 9 _law_counts, 10 _law_deep, 11 _law_many, 12 _law_lanes_now, 13 _law_one, 14 _law_two, 15 _law_spread, 16 _law_images_here, 17 _law_cells, 18 _law_start, 19 _law_fewer, 20 _law_at, 21 _law_k, 22 _law_apart -/
def d_law : Def := ⟨1, 23, [false],
 (.cons (.set 1 false (.call 27 (.cons (.var 0) .nil) .nil))
 (.cons (.for (.one 2) (.rng1 (.cint 2)) [2, 3, 4, 5, 6, 7, 8, 9, 10, 11, 12, 13, 14, 15, 16, 17, 18, 19, 20, 21, 22]
 (.cons (.unp [10, 11, 12, 13, 14] (.call 35 (.cons (.marg 1) .nil) .nil))
 (.cons (.set 3 true (.bin .sub (.var 10) (.var 12)))
 (.cons (.unp [15, 16] (.tup (.cons (.make 6 (.cons (.var 13) (.cons (.var 11) .nil)) .nil) (.cons (.call 33 (.cons (.var 13) .nil) .nil) .nil))))
 (.cons (.set 4 true (.com (.var 20) [20] (.one 20) (.rng1 (.var 11)) (.so (.cmp .eq (.call 28 (.cons (.marg 1) (.cons (.cint 2) .nil)) .nil) (.cint 0)))))
 (.cons (.set 5 true (.call 26 (.cons (.var 15) (.cons (.var 4) .nil)) (.cons (.var 12) .nil)))
 (.cons (.set 6 true (.call 31 (.cons (.com (.bin .shl (.cint 1) (.var 20)) [20] (.one 20) (.val (.var 4)) .no) .nil) .nil))
 (.cons (.set 7 true (.call 31 (.cons (.var 5) .nil) .nil))
 (.cons (.for (.one 8) (.rng1 (.bin .shl (.cint 1) (.var 12))) [8, 17, 18, 19, 21, 22]
 (.cons (.set 17 true (.call 36 (.cons (.var 16) (.cons (.var 8) (.cons (.var 7) (.cons (.var 3) .nil)))) .nil))
 (.cons (.set 18 true (.idx (.var 16) (.bin .shl (.var 8) (.var 3))))
 (.cons (.ife (.not (.bf .all (.cons (.com (.cmp .isin (.bin .bxor (.var 18) (.var 22)) (.var 17)) [22] (.one 22) (.val (.var 6)) .no) .nil)))
 (.cons (.ret (.cbool false))
 .nil)
 .nil)
 (.cons (.for (.one 19) (.val (.com (.bin .add (.slc (.var 5) .no (.so (.var 21))) (.slc (.var 5) (.so (.bin .add (.var 21) (.cint 1))) .no)) [21] (.one 21) (.rng1 (.bf .len (.cons (.var 5) .nil))) .no)) [17, 19, 22]
 (.cons (.set 17 true (.call 36 (.cons (.var 16) (.cons (.var 8) (.cons (.call 31 (.cons (.var 19) .nil) .nil) (.cons (.var 3) .nil)))) .nil))
 (.cons (.ife (.bf .all (.cons (.com (.cmp .isin (.bin .bxor (.var 18) (.var 22)) (.var 17)) [22] (.one 22) (.val (.var 6)) .no) .nil))
 (.cons (.ret (.cbool false))
 .nil)
 .nil)
 .nil)))
 .nil)))))
 (.cons (.ife (.or (.cmp .gt (.bf .len (.cons (.var 5) .nil)) (.bf .len (.cons (.var 4) .nil))) (.one (.cmp .gt (.bf .len (.cons (.var 5) .nil)) (.var 12))))
 (.cons (.ret (.cbool false))
 .nil)
 .nil)
 (.cons (.set 9 true (.com (.bf .len (.cons (.call 26 (.cons (.var 15) (.cons (.slc (.var 4) .no (.so (.var 21))) .nil)) (.cons (.var 12) .nil)) .nil)) [21] (.one 21) (.rng1 (.bin .add (.bf .len (.cons (.var 4) .nil)) (.cint 1))) .no))
 (.cons (.ife (.or (.cmp .ne (.var 9) (.bf .sorted (.cons (.var 9) .nil))) (.one (.bf .any (.cons (.com (.cmp .gt (.bin .sub (.idx (.var 9) (.bin .add (.var 21) (.cint 1))) (.idx (.var 9) (.var 21))) (.cint 1)) [21] (.one 21) (.rng1 (.bf .len (.cons (.var 4) .nil))) .no) .nil))))
 (.cons (.ret (.cbool false))
 .nil)
 .nil)
 .nil))))))))))))
 (.cons (.ret (.cbool true))
 .nil)))⟩
def defs : List Def := [d__wall, d_top_of, d_blended, d_picked, d_reduced, d_basis_of, d_traced, d_trail_to, d_Fold___init__, d_Fold___eq__, d_Fold___len__, d_Fold___repr__, d_Fold_rows, d_Fold_many, d_Fold_size, d_Fold_to, d_Fold_kernel, d_Fold_onto, d_Fold_single, d_Fold_then, d_Fold_beside, d_Fold_part, d_Fold_least, d_Fold_back, d_need_lanes, d_steps_along, d_gather, d__law_box, d__law_take, d__law_of, d__law_shuffled, d__law_span, d__law_numbers, d__law_images, d__law_lines, d__law_two_spreads, d__law_reached, d_law]
def methT : Nat → Nat → Option Nat
  | 6, 9 => some 9
  | 6, 10 => some 10
  | 6, 11 => some 11
  | 6, 12 => some 12
  | 6, 5 => some 13
  | 6, 8 => some 14
  | 6, 6 => some 15
  | 6, 2 => some 16
  | 6, 4 => some 17
  | 6, 13 => some 18
  | 6, 14 => some 19
  | 6, 15 => some 20
  | 6, 16 => some 21
  | 6, 3 => some 22
  | 6, 7 => some 23
  | _, _ => none
def initT : Nat → Option Nat
  | 6 => some 8
  | _ => none
def glbT : Nat → Option PV
  | 0 => some (.int 12)  -- MOST_DIGITS
  | _ => none
def fldT : Nat → Nat → Bool
  | 6, 1 => true
  | 6, 0 => true
  | _, _ => false
def prog : Prog := ⟨defs, methT, initT, glbT, fldT⟩
/- attributes: 0 wide, 1 lines, 2 kernel, 3 least, 4 onto, 5 many, 6 to, 7 back, 8 size, 9 __eq__, 10 __len__, 11 __repr__, 12 rows, 13 single, 14 then, 15 beside, 16 part; classes: 0 FoldError, 1 BadNumber, 2 BadFold, 3 NotOnto, 4 BadSize, 5 BadDigits, 6 Fold -/
end K54
namespace K54
open PySem L2 Z
def top (i : Nat) : Stmt := PySem.Challenge.pw_foldberth_k54_whole_gathers_reach_all.main.body.getD i (.Pass ⟨0, 0, 0, 0⟩)
def fnL : List (Nat × Str) := [(1, ("top_of" : Str)), (2, ("blended" : Str)), (3, ("picked" : Str)), (4, ("reduced" : Str)), (5, ("basis_of" : Str)), (6, ("traced" : Str)), (7, ("trail_to" : Str)), (24, ("need_lanes" : Str)), (25, ("steps_along" : Str)), (26, ("gather" : Str)), (27, ("_law_box" : Str)), (28, ("_law_take" : Str)), (29, ("_law_of" : Str)), (30, ("_law_shuffled" : Str)), (31, ("_law_span" : Str)), (32, ("_law_numbers" : Str)), (33, ("_law_images" : Str)), (34, ("_law_lines" : Str)), (35, ("_law_two_spreads" : Str)), (36, ("_law_reached" : Str)), (37, ("law" : Str))]
def clsL : List (Nat × Str) := [(6, ("Fold" : Str))]
def atL : List (Nat × Str) := [(0, ("wide" : Str)), (1, ("lines" : Str)), (2, ("kernel" : Str)), (3, ("least" : Str)), (4, ("onto" : Str)), (5, ("many" : Str)), (6, ("to" : Str)), (7, ("back" : Str)), (8, ("size" : Str))]
def glL : List (Nat × Str) := [(0, ("MOST_DIGITS" : Str))]
def ptL : List (Nat × (Nat × List Str)) := [(26, (2, [("lanes" : Str)]))]
def depth : Nat := 30
def nms : Nms := ⟨fun f => fnL.lookup f, fun f => clsL.lookup f, fun f => atL.lookup f, fun f => glL.lookup f, [], fun f => ptL.lookup f⟩
def clsA (C6 : Addr) : Nat → Option Addr := fun C => if C = 6 then some C6 else none
def txt (K : PySem.W.Frag) (C6 : Addr) : Txt := ⟨K, clsA C6, fun f => atL.lookup f, fun _ _ _ _ => False⟩
set_option maxHeartbeats 0 in
theorem facts {P : Program} {w : World} {K : PySem.W.Frag} {h : Heap} {mg : Str → Option Value} {C6 a1 a2 a3 a4 a5 a6 a7 a8 a13 a14 a15 a16 a17 a22 a23 a24 a25 a26 a27 a28 a29 a30 a31 a32 a33 a34 a35 a36 a37 : Addr} {od1 an1 od2 an2 od3 an3 od4 an4 od5 an5 od6 an6 od7 an7 od8 an8 od13 an13 od14 an14 od15 an15 od16 an16 od17 an17 od22 an22 od23 an23 od24 an24 od25 an25 od26 an26 od27 an27 od28 an28 od29 an29 od30 an30 od31 an31 od32 an32 od33 an33 od34 an34 od35 an35 od36 an36 od37 an37 : Option Addr} {sl1 sl2 sl3 sl4 sl5 sl6 sl7 sl8 sl13 sl14 sl15 sl16 sl17 sl22 sl23 sl24 sl25 sl26 sl27 sl28 sl29 sl30 sl31 sl32 sl33 sl34 sl35 sl36 sl37 : Array (Option Value)} {oc1 kV1 dc1 pm1 cd1 ct1 oc2 kV2 dc2 pm2 cd2 ct2 oc3 kV3 dc3 pm3 cd3 ct3 oc4 kV4 dc4 pm4 cd4 ct4 oc5 kV5 dc5 pm5 cd5 ct5 oc6 kV6 dc6 pm6 cd6 ct6 oc7 kV7 dc7 pm7 cd7 ct7 oc8 kV8 dc8 pm8 cd8 ct8 oc13 kV13 dc13 pm13 cd13 ct13 oc14 kV14 dc14 pm14 cd14 ct14 oc15 kV15 dc15 pm15 cd15 ct15 oc16 kV16 dc16 pm16 cd16 ct16 oc17 kV17 dc17 pm17 cd17 ct17 oc22 kV22 dc22 pm22 cd22 ct22 oc23 kV23 dc23 pm23 cd23 ct23 oc24 kV24 dc24 pm24 cd24 ct24 oc25 kV25 dc25 pm25 cd25 ct25 oc26 kV26 dc26 pm26 cd26 ct26 oc27 kV27 dc27 pm27 cd27 ct27 oc28 kV28 dc28 pm28 cd28 ct28 oc29 kV29 dc29 pm29 cd29 ct29 oc30 kV30 dc30 pm30 cd30 ct30 oc31 kV31 dc31 pm31 cd31 ct31 oc32 kV32 dc32 pm32 cd32 ct32 oc33 kV33 dc33 pm33 cd33 ct33 oc34 kV34 dc34 pm34 cd34 ct34 oc35 kV35 dc35 pm35 cd35 ct35 oc36 kV36 dc36 pm36 cd36 ct36 oc37 kV37 dc37 pm37 cd37 ct37 : Value} {t0 : Tok} (X : K.In h) (G : h.Ns mainGlobals mg)
    (aC6 : PySem.W.nsIn K mainGlobals ("Fold" : Str) = some (some (.ref C6)))
    (at1 : PySem.W.nsIn K mainGlobals ("top_of" : Str) = some (some (.ref a1)))
    (lk1 : K.lookup a1 = some ⟨oc1, od1, .func (PySem.W.fnOf ("top_of" : Str) ("top_of" : Str) (C8.fnArgs (top 10)) (C8.fnBody (top 10)) (C8.fnScope (top 10)) .none kV1 dc1 pm1 an1 cd1 ct1), sl1⟩)
    (co1 : PySem.W.codeIn K cd1 ("top_of" : Str) = true)
    (kp1 : PySem.W.keepIn K (.ref a1) = true)
    (at2 : PySem.W.nsIn K mainGlobals ("blended" : Str) = some (some (.ref a2)))
    (lk2 : K.lookup a2 = some ⟨oc2, od2, .func (PySem.W.fnOf ("blended" : Str) ("blended" : Str) (C8.fnArgs (top 11)) (C8.fnBody (top 11)) (C8.fnScope (top 11)) .none kV2 dc2 pm2 an2 cd2 ct2), sl2⟩)
    (co2 : PySem.W.codeIn K cd2 ("blended" : Str) = true)
    (kp2 : PySem.W.keepIn K (.ref a2) = true)
    (at3 : PySem.W.nsIn K mainGlobals ("picked" : Str) = some (some (.ref a3)))
    (lk3 : K.lookup a3 = some ⟨oc3, od3, .func (PySem.W.fnOf ("picked" : Str) ("picked" : Str) (C8.fnArgs (top 12)) (C8.fnBody (top 12)) (C8.fnScope (top 12)) .none kV3 dc3 pm3 an3 cd3 ct3), sl3⟩)
    (co3 : PySem.W.codeIn K cd3 ("picked" : Str) = true)
    (kp3 : PySem.W.keepIn K (.ref a3) = true)
    (at4 : PySem.W.nsIn K mainGlobals ("reduced" : Str) = some (some (.ref a4)))
    (lk4 : K.lookup a4 = some ⟨oc4, od4, .func (PySem.W.fnOf ("reduced" : Str) ("reduced" : Str) (C8.fnArgs (top 13)) (C8.fnBody (top 13)) (C8.fnScope (top 13)) .none kV4 dc4 pm4 an4 cd4 ct4), sl4⟩)
    (co4 : PySem.W.codeIn K cd4 ("reduced" : Str) = true)
    (kp4 : PySem.W.keepIn K (.ref a4) = true)
    (at5 : PySem.W.nsIn K mainGlobals ("basis_of" : Str) = some (some (.ref a5)))
    (lk5 : K.lookup a5 = some ⟨oc5, od5, .func (PySem.W.fnOf ("basis_of" : Str) ("basis_of" : Str) (C8.fnArgs (top 14)) (C8.fnBody (top 14)) (C8.fnScope (top 14)) .none kV5 dc5 pm5 an5 cd5 ct5), sl5⟩)
    (co5 : PySem.W.codeIn K cd5 ("basis_of" : Str) = true)
    (kp5 : PySem.W.keepIn K (.ref a5) = true)
    (at6 : PySem.W.nsIn K mainGlobals ("traced" : Str) = some (some (.ref a6)))
    (lk6 : K.lookup a6 = some ⟨oc6, od6, .func (PySem.W.fnOf ("traced" : Str) ("traced" : Str) (C8.fnArgs (top 15)) (C8.fnBody (top 15)) (C8.fnScope (top 15)) .none kV6 dc6 pm6 an6 cd6 ct6), sl6⟩)
    (co6 : PySem.W.codeIn K cd6 ("traced" : Str) = true)
    (kp6 : PySem.W.keepIn K (.ref a6) = true)
    (at7 : PySem.W.nsIn K mainGlobals ("trail_to" : Str) = some (some (.ref a7)))
    (lk7 : K.lookup a7 = some ⟨oc7, od7, .func (PySem.W.fnOf ("trail_to" : Str) ("trail_to" : Str) (C8.fnArgs (top 16)) (C8.fnBody (top 16)) (C8.fnScope (top 16)) .none kV7 dc7 pm7 an7 cd7 ct7), sl7⟩)
    (co7 : PySem.W.codeIn K cd7 ("trail_to" : Str) = true)
    (kp7 : PySem.W.keepIn K (.ref a7) = true)
    (at8 : PySem.W.findIn K (.ref C6) ("__init__" : Str) = some (some (.ref a8)))
    (fn8 : PySem.W.isFn K (.ref a8) = true)
    (lk8 : K.lookup a8 = some ⟨oc8, od8, .func (PySem.W.fnOf ("__init__" : Str) ("Fold.__init__" : Str) (C8.fnArgs (L2.inClass (top 18) 0)) (C8.fnBody (L2.inClass (top 18) 0)) (C8.fnScope (L2.inClass (top 18) 0)) .none kV8 dc8 pm8 an8 cd8 ct8), sl8⟩)
    (co8 : PySem.W.codeIn K cd8 ("Fold.__init__" : Str) = true)
    (kp8 : PySem.W.keepIn K (.ref a8) = true)
    (at13 : PySem.W.findIn K (.ref C6) ("many" : Str) = some (some (.ref a13)))
    (fn13 : PySem.W.isFn K (.ref a13) = true)
    (lk13 : K.lookup a13 = some ⟨oc13, od13, .func (PySem.W.fnOf ("many" : Str) ("Fold.many" : Str) (C8.fnArgs (L2.inClass (top 18) 5)) (C8.fnBody (L2.inClass (top 18) 5)) (C8.fnScope (L2.inClass (top 18) 5)) .none kV13 dc13 pm13 an13 cd13 ct13), sl13⟩)
    (co13 : PySem.W.codeIn K cd13 ("Fold.many" : Str) = true)
    (kp13 : PySem.W.keepIn K (.ref a13) = true)
    (at14 : PySem.W.findIn K (.ref C6) ("size" : Str) = some (some (.ref a14)))
    (fn14 : PySem.W.isFn K (.ref a14) = true)
    (lk14 : K.lookup a14 = some ⟨oc14, od14, .func (PySem.W.fnOf ("size" : Str) ("Fold.size" : Str) (C8.fnArgs (L2.inClass (top 18) 6)) (C8.fnBody (L2.inClass (top 18) 6)) (C8.fnScope (L2.inClass (top 18) 6)) .none kV14 dc14 pm14 an14 cd14 ct14), sl14⟩)
    (co14 : PySem.W.codeIn K cd14 ("Fold.size" : Str) = true)
    (kp14 : PySem.W.keepIn K (.ref a14) = true)
    (at15 : PySem.W.findIn K (.ref C6) ("to" : Str) = some (some (.ref a15)))
    (fn15 : PySem.W.isFn K (.ref a15) = true)
    (lk15 : K.lookup a15 = some ⟨oc15, od15, .func (PySem.W.fnOf ("to" : Str) ("Fold.to" : Str) (C8.fnArgs (L2.inClass (top 18) 7)) (C8.fnBody (L2.inClass (top 18) 7)) (C8.fnScope (L2.inClass (top 18) 7)) .none kV15 dc15 pm15 an15 cd15 ct15), sl15⟩)
    (co15 : PySem.W.codeIn K cd15 ("Fold.to" : Str) = true)
    (kp15 : PySem.W.keepIn K (.ref a15) = true)
    (at16 : PySem.W.findIn K (.ref C6) ("kernel" : Str) = some (some (.ref a16)))
    (fn16 : PySem.W.isFn K (.ref a16) = true)
    (lk16 : K.lookup a16 = some ⟨oc16, od16, .func (PySem.W.fnOf ("kernel" : Str) ("Fold.kernel" : Str) (C8.fnArgs (L2.inClass (top 18) 8)) (C8.fnBody (L2.inClass (top 18) 8)) (C8.fnScope (L2.inClass (top 18) 8)) .none kV16 dc16 pm16 an16 cd16 ct16), sl16⟩)
    (co16 : PySem.W.codeIn K cd16 ("Fold.kernel" : Str) = true)
    (kp16 : PySem.W.keepIn K (.ref a16) = true)
    (at17 : PySem.W.findIn K (.ref C6) ("onto" : Str) = some (some (.ref a17)))
    (fn17 : PySem.W.isFn K (.ref a17) = true)
    (lk17 : K.lookup a17 = some ⟨oc17, od17, .func (PySem.W.fnOf ("onto" : Str) ("Fold.onto" : Str) (C8.fnArgs (L2.inClass (top 18) 9)) (C8.fnBody (L2.inClass (top 18) 9)) (C8.fnScope (L2.inClass (top 18) 9)) .none kV17 dc17 pm17 an17 cd17 ct17), sl17⟩)
    (co17 : PySem.W.codeIn K cd17 ("Fold.onto" : Str) = true)
    (kp17 : PySem.W.keepIn K (.ref a17) = true)
    (at22 : PySem.W.findIn K (.ref C6) ("least" : Str) = some (some (.ref a22)))
    (fn22 : PySem.W.isFn K (.ref a22) = true)
    (lk22 : K.lookup a22 = some ⟨oc22, od22, .func (PySem.W.fnOf ("least" : Str) ("Fold.least" : Str) (C8.fnArgs (L2.inClass (top 18) 14)) (C8.fnBody (L2.inClass (top 18) 14)) (C8.fnScope (L2.inClass (top 18) 14)) .none kV22 dc22 pm22 an22 cd22 ct22), sl22⟩)
    (co22 : PySem.W.codeIn K cd22 ("Fold.least" : Str) = true)
    (kp22 : PySem.W.keepIn K (.ref a22) = true)
    (at23 : PySem.W.findIn K (.ref C6) ("back" : Str) = some (some (.ref a23)))
    (fn23 : PySem.W.isFn K (.ref a23) = true)
    (lk23 : K.lookup a23 = some ⟨oc23, od23, .func (PySem.W.fnOf ("back" : Str) ("Fold.back" : Str) (C8.fnArgs (L2.inClass (top 18) 15)) (C8.fnBody (L2.inClass (top 18) 15)) (C8.fnScope (L2.inClass (top 18) 15)) .none kV23 dc23 pm23 an23 cd23 ct23), sl23⟩)
    (co23 : PySem.W.codeIn K cd23 ("Fold.back" : Str) = true)
    (kp23 : PySem.W.keepIn K (.ref a23) = true)
    (at24 : PySem.W.nsIn K mainGlobals ("need_lanes" : Str) = some (some (.ref a24)))
    (lk24 : K.lookup a24 = some ⟨oc24, od24, .func (PySem.W.fnOf ("need_lanes" : Str) ("need_lanes" : Str) (C8.fnArgs (top 20)) (C8.fnBody (top 20)) (C8.fnScope (top 20)) .none kV24 dc24 pm24 an24 cd24 ct24), sl24⟩)
    (co24 : PySem.W.codeIn K cd24 ("need_lanes" : Str) = true)
    (kp24 : PySem.W.keepIn K (.ref a24) = true)
    (at25 : PySem.W.nsIn K mainGlobals ("steps_along" : Str) = some (some (.ref a25)))
    (lk25 : K.lookup a25 = some ⟨oc25, od25, .func (PySem.W.fnOf ("steps_along" : Str) ("steps_along" : Str) (C8.fnArgs (top 22)) (C8.fnBody (top 22)) (C8.fnScope (top 22)) .none kV25 dc25 pm25 an25 cd25 ct25), sl25⟩)
    (co25 : PySem.W.codeIn K cd25 ("steps_along" : Str) = true)
    (kp25 : PySem.W.keepIn K (.ref a25) = true)
    (at26 : PySem.W.nsIn K mainGlobals ("gather" : Str) = some (some (.ref a26)))
    (lk26 : K.lookup a26 = some ⟨oc26, od26, .func (PySem.W.fnOf ("gather" : Str) ("gather" : Str) (C8.fnArgs (top 23)) (C8.fnBody (top 23)) (C8.fnScope (top 23)) .none kV26 dc26 pm26 an26 cd26 ct26), sl26⟩)
    (co26 : PySem.W.codeIn K cd26 ("gather" : Str) = true)
    (kp26 : PySem.W.keepIn K (.ref a26) = true)
    (at27 : PySem.W.nsIn K mainGlobals ("_law_box" : Str) = some (some (.ref a27)))
    (lk27 : K.lookup a27 = some ⟨oc27, od27, .func (PySem.W.fnOf ("_law_box" : Str) ("_law_box" : Str) (C8.fnArgs (top 25)) (C8.fnBody (top 25)) (C8.fnScope (top 25)) .none kV27 dc27 pm27 an27 cd27 ct27), sl27⟩)
    (co27 : PySem.W.codeIn K cd27 ("_law_box" : Str) = true)
    (kp27 : PySem.W.keepIn K (.ref a27) = true)
    (at28 : PySem.W.nsIn K mainGlobals ("_law_take" : Str) = some (some (.ref a28)))
    (lk28 : K.lookup a28 = some ⟨oc28, od28, .func (PySem.W.fnOf ("_law_take" : Str) ("_law_take" : Str) (C8.fnArgs (top 26)) (C8.fnBody (top 26)) (C8.fnScope (top 26)) .none kV28 dc28 pm28 an28 cd28 ct28), sl28⟩)
    (co28 : PySem.W.codeIn K cd28 ("_law_take" : Str) = true)
    (kp28 : PySem.W.keepIn K (.ref a28) = true)
    (at29 : PySem.W.nsIn K mainGlobals ("_law_of" : Str) = some (some (.ref a29)))
    (lk29 : K.lookup a29 = some ⟨oc29, od29, .func (PySem.W.fnOf ("_law_of" : Str) ("_law_of" : Str) (C8.fnArgs (top 27)) (C8.fnBody (top 27)) (C8.fnScope (top 27)) .none kV29 dc29 pm29 an29 cd29 ct29), sl29⟩)
    (co29 : PySem.W.codeIn K cd29 ("_law_of" : Str) = true)
    (kp29 : PySem.W.keepIn K (.ref a29) = true)
    (at30 : PySem.W.nsIn K mainGlobals ("_law_shuffled" : Str) = some (some (.ref a30)))
    (lk30 : K.lookup a30 = some ⟨oc30, od30, .func (PySem.W.fnOf ("_law_shuffled" : Str) ("_law_shuffled" : Str) (C8.fnArgs (top 28)) (C8.fnBody (top 28)) (C8.fnScope (top 28)) .none kV30 dc30 pm30 an30 cd30 ct30), sl30⟩)
    (co30 : PySem.W.codeIn K cd30 ("_law_shuffled" : Str) = true)
    (kp30 : PySem.W.keepIn K (.ref a30) = true)
    (at31 : PySem.W.nsIn K mainGlobals ("_law_span" : Str) = some (some (.ref a31)))
    (lk31 : K.lookup a31 = some ⟨oc31, od31, .func (PySem.W.fnOf ("_law_span" : Str) ("_law_span" : Str) (C8.fnArgs (top 29)) (C8.fnBody (top 29)) (C8.fnScope (top 29)) .none kV31 dc31 pm31 an31 cd31 ct31), sl31⟩)
    (co31 : PySem.W.codeIn K cd31 ("_law_span" : Str) = true)
    (kp31 : PySem.W.keepIn K (.ref a31) = true)
    (at32 : PySem.W.nsIn K mainGlobals ("_law_numbers" : Str) = some (some (.ref a32)))
    (lk32 : K.lookup a32 = some ⟨oc32, od32, .func (PySem.W.fnOf ("_law_numbers" : Str) ("_law_numbers" : Str) (C8.fnArgs (top 30)) (C8.fnBody (top 30)) (C8.fnScope (top 30)) .none kV32 dc32 pm32 an32 cd32 ct32), sl32⟩)
    (co32 : PySem.W.codeIn K cd32 ("_law_numbers" : Str) = true)
    (kp32 : PySem.W.keepIn K (.ref a32) = true)
    (at33 : PySem.W.nsIn K mainGlobals ("_law_images" : Str) = some (some (.ref a33)))
    (lk33 : K.lookup a33 = some ⟨oc33, od33, .func (PySem.W.fnOf ("_law_images" : Str) ("_law_images" : Str) (C8.fnArgs (top 31)) (C8.fnBody (top 31)) (C8.fnScope (top 31)) .none kV33 dc33 pm33 an33 cd33 ct33), sl33⟩)
    (co33 : PySem.W.codeIn K cd33 ("_law_images" : Str) = true)
    (kp33 : PySem.W.keepIn K (.ref a33) = true)
    (at34 : PySem.W.nsIn K mainGlobals ("_law_lines" : Str) = some (some (.ref a34)))
    (lk34 : K.lookup a34 = some ⟨oc34, od34, .func (PySem.W.fnOf ("_law_lines" : Str) ("_law_lines" : Str) (C8.fnArgs (top 32)) (C8.fnBody (top 32)) (C8.fnScope (top 32)) .none kV34 dc34 pm34 an34 cd34 ct34), sl34⟩)
    (co34 : PySem.W.codeIn K cd34 ("_law_lines" : Str) = true)
    (kp34 : PySem.W.keepIn K (.ref a34) = true)
    (at35 : PySem.W.nsIn K mainGlobals ("_law_two_spreads" : Str) = some (some (.ref a35)))
    (lk35 : K.lookup a35 = some ⟨oc35, od35, .func (PySem.W.fnOf ("_law_two_spreads" : Str) ("_law_two_spreads" : Str) (C8.fnArgs (top 33)) (C8.fnBody (top 33)) (C8.fnScope (top 33)) .none kV35 dc35 pm35 an35 cd35 ct35), sl35⟩)
    (co35 : PySem.W.codeIn K cd35 ("_law_two_spreads" : Str) = true)
    (kp35 : PySem.W.keepIn K (.ref a35) = true)
    (at36 : PySem.W.nsIn K mainGlobals ("_law_reached" : Str) = some (some (.ref a36)))
    (lk36 : K.lookup a36 = some ⟨oc36, od36, .func (PySem.W.fnOf ("_law_reached" : Str) ("_law_reached" : Str) (C8.fnArgs (top 34)) (C8.fnBody (top 34)) (C8.fnScope (top 34)) .none kV36 dc36 pm36 an36 cd36 ct36), sl36⟩)
    (co36 : PySem.W.codeIn K cd36 ("_law_reached" : Str) = true)
    (kp36 : PySem.W.keepIn K (.ref a36) = true)
    (at37 : PySem.W.nsIn K mainGlobals ("law" : Str) = some (some (.ref a37)))
    (lk37 : K.lookup a37 = some ⟨oc37, od37, .func (PySem.W.fnOf ("law" : Str) ("law" : Str) (C8.fnArgs (top 35)) (C8.fnBody (top 35)) (C8.fnScope (top 35)) .none kV37 dc37 pm37 an37 cd37 ct37), sl37⟩)
    (co37 : PySem.W.codeIn K cd37 ("law" : Str) = true)
    (kp37 : PySem.W.keepIn K (.ref a37) = true)
    (pg6 : PySem.W.plainGet K C6 Str.empty = true)
    (hd6 : PySem.W.hasDictIn K C6 = true)
    (po6 : PySem.W.plainOver K C6 = true)
    (sa6 : PySem.W.findIn K (.ref C6) "__setattr__" = some (some (.builtin "object.__setattr__")))
    (mk6 : PySem.W.makesIn K C6 = true)
    (kc6 : PySem.W.keepIn K (.ref C6) = true)
    (no6_0 : PySem.W.findIn K (.ref C6) ("wide" : Str) = some none)
    (no6_1 : PySem.W.findIn K (.ref C6) ("lines" : Str) = some none)
    (z_len : PySem.W.nsIn K mainGlobals ("len" : Str) = some none)
    (z_sorted : PySem.W.nsIn K mainGlobals ("sorted" : Str) = some none)
    (z_sum : PySem.W.nsIn K mainGlobals ("sum" : Str) = some none)
    (z_max : PySem.W.nsIn K mainGlobals ("max" : Str) = some none)
    (z_min : PySem.W.nsIn K mainGlobals ("min" : Str) = some none)
    (z_abs : PySem.W.nsIn K mainGlobals ("abs" : Str) = some none)
    (z_int : PySem.W.nsIn K mainGlobals ("int" : Str) = some none)
    (z_list : PySem.W.nsIn K mainGlobals ("list" : Str) = some none)
    (z_tuple : PySem.W.nsIn K mainGlobals ("tuple" : Str) = some none)
    (z_any : PySem.W.nsIn K mainGlobals ("any" : Str) = some none)
    (z_all : PySem.W.nsIn K mainGlobals ("all" : Str) = some none)
    (z_set : PySem.W.nsIn K mainGlobals ("set" : Str) = some none)
    (z_isinstance : PySem.W.nsIn K mainGlobals ("isinstance" : Str) = some none)
    (z_bool : PySem.W.nsIn K mainGlobals ("bool" : Str) = some none)
    (z_str : PySem.W.nsIn K mainGlobals ("str" : Str) = some none)
    (z_range : PySem.W.nsIn K mainGlobals ("range" : Str) = some none)
    (z_enumerate : PySem.W.nsIn K mainGlobals ("enumerate" : Str) = some none)
    (z_zip : PySem.W.nsIn K mainGlobals ("zip" : Str) = some none)
    (gl0 : PySem.W.nsIn K mainGlobals ("MOST_DIGITS" : Str) = some (some (.int 12 t0)))
    (pure_ : ∀ ns : List Int, ns.length ≤ 63 → ∃ ms, callN prog depth 37 [.scr ns] = .ret (.bl true) ms) {fa : Addr} (hfa : mg ("law" : Str) = some (.ref fa)) :
    ∃ fd : FuncData, (∀ (s : Shared) (v : Value), BindsTo s fd ⟨[v], []⟩ [(("_law_script" : Str), v)]) ∧ ∀ base : Heap, K.In base → base.Ns mainGlobals mg → FnOk P w K mg base C8.CX0 (2 * depth) fa fd [("_law_script" : Str)] (spLaw K) := by
  have ee := hfa.symm.trans (PySem.W.mg_of X G at37)
  cases ee
  have F1 : C8.Fun K ("top_of" : Str) ("top_of" : Str) (top 10) a1 (PySem.W.fnOf ("top_of" : Str) ("top_of" : Str) (C8.fnArgs (top 10)) (C8.fnBody (top 10)) (C8.fnScope (top 10)) .none kV1 dc1 pm1 an1 cd1 ct1) := ⟨⟨oc1, od1, .none, kV1, dc1, pm1, an1, cd1, ct1, sl1, rfl, lk1, co1⟩⟩
  have B1 : Binds K (PySem.W.fnOf ("top_of" : Str) ("top_of" : Str) (C8.fnArgs (top 10)) (C8.fnBody (top 10)) (C8.fnScope (top 10)) .none kV1 dc1 pm1 an1 cd1 ct1) [("one" : Str)] [] := F1.binds rfl fun _ _ _ _ _ _ us hl => match us, hl with | [_], _ => rfl
  have E1 : DfAt K nms prog 1 a1 (PySem.W.fnOf ("top_of" : Str) ("top_of" : Str) (C8.fnArgs (top 10)) (C8.fnBody (top 10)) (C8.fnScope (top 10)) .none kV1 dc1 pm1 an1 cd1 ct1) [("one" : Str)] := ⟨_, _, _, _, [("one" : Str)], rfl, F1, ⟨(fun _ => B1), (fun np ks z => by cases z)⟩, C8.fnScope_by (by decide +kernel), rfl, rfl, by decide +kernel⟩
  have D1 : Df K nms prog 1 a1 := ⟨_, _, E1⟩
  have F2 : C8.Fun K ("blended" : Str) ("blended" : Str) (top 11) a2 (PySem.W.fnOf ("blended" : Str) ("blended" : Str) (C8.fnArgs (top 11)) (C8.fnBody (top 11)) (C8.fnScope (top 11)) .none kV2 dc2 pm2 an2 cd2 ct2) := ⟨⟨oc2, od2, .none, kV2, dc2, pm2, an2, cd2, ct2, sl2, rfl, lk2, co2⟩⟩
  have B2 : Binds K (PySem.W.fnOf ("blended" : Str) ("blended" : Str) (C8.fnArgs (top 11)) (C8.fnBody (top 11)) (C8.fnScope (top 11)) .none kV2 dc2 pm2 an2 cd2 ct2) [("numbers" : Str)] [] := F2.binds rfl fun _ _ _ _ _ _ us hl => match us, hl with | [_], _ => rfl
  have E2 : DfAt K nms prog 2 a2 (PySem.W.fnOf ("blended" : Str) ("blended" : Str) (C8.fnArgs (top 11)) (C8.fnBody (top 11)) (C8.fnScope (top 11)) .none kV2 dc2 pm2 an2 cd2 ct2) [("numbers" : Str)] := ⟨_, _, _, _, [("numbers" : Str), ("found" : Str), ("one" : Str)], rfl, F2, ⟨(fun _ => B2), (fun np ks z => by cases z)⟩, C8.fnScope_by (by decide +kernel), rfl, rfl, by decide +kernel⟩
  have D2 : Df K nms prog 2 a2 := ⟨_, _, E2⟩
  have F3 : C8.Fun K ("picked" : Str) ("picked" : Str) (top 12) a3 (PySem.W.fnOf ("picked" : Str) ("picked" : Str) (C8.fnArgs (top 12)) (C8.fnBody (top 12)) (C8.fnScope (top 12)) .none kV3 dc3 pm3 an3 cd3 ct3) := ⟨⟨oc3, od3, .none, kV3, dc3, pm3, an3, cd3, ct3, sl3, rfl, lk3, co3⟩⟩
  have B3 : Binds K (PySem.W.fnOf ("picked" : Str) ("picked" : Str) (C8.fnArgs (top 12)) (C8.fnBody (top 12)) (C8.fnScope (top 12)) .none kV3 dc3 pm3 an3 cd3 ct3) [("rows" : Str), ("number" : Str)] [] := F3.binds rfl fun _ _ _ _ _ _ us hl => match us, hl with | [_, _], _ => rfl
  have E3 : DfAt K nms prog 3 a3 (PySem.W.fnOf ("picked" : Str) ("picked" : Str) (C8.fnArgs (top 12)) (C8.fnBody (top 12)) (C8.fnScope (top 12)) .none kV3 dc3 pm3 an3 cd3 ct3) [("rows" : Str), ("number" : Str)] := ⟨_, _, _, _, [("rows" : Str), ("number" : Str), ("at" : Str), ("row" : Str)], rfl, F3, ⟨(fun _ => B3), (fun np ks z => by cases z)⟩, C8.fnScope_by (by decide +kernel), rfl, rfl, by decide +kernel⟩
  have D3 : Df K nms prog 3 a3 := ⟨_, _, E3⟩
  have F4 : C8.Fun K ("reduced" : Str) ("reduced" : Str) (top 13) a4 (PySem.W.fnOf ("reduced" : Str) ("reduced" : Str) (C8.fnArgs (top 13)) (C8.fnBody (top 13)) (C8.fnScope (top 13)) .none kV4 dc4 pm4 an4 cd4 ct4) := ⟨⟨oc4, od4, .none, kV4, dc4, pm4, an4, cd4, ct4, sl4, rfl, lk4, co4⟩⟩
  have B4 : Binds K (PySem.W.fnOf ("reduced" : Str) ("reduced" : Str) (C8.fnArgs (top 13)) (C8.fnBody (top 13)) (C8.fnScope (top 13)) .none kV4 dc4 pm4 an4 cd4 ct4) [("one" : Str), ("found" : Str)] [] := F4.binds rfl fun _ _ _ _ _ _ us hl => match us, hl with | [_, _], _ => rfl
  have E4 : DfAt K nms prog 4 a4 (PySem.W.fnOf ("reduced" : Str) ("reduced" : Str) (C8.fnArgs (top 13)) (C8.fnBody (top 13)) (C8.fnScope (top 13)) .none kV4 dc4 pm4 an4 cd4 ct4) [("one" : Str), ("found" : Str)] := ⟨_, _, _, _, [("one" : Str), ("found" : Str), ("left" : Str), ("other" : Str)], rfl, F4, ⟨(fun _ => B4), (fun np ks z => by cases z)⟩, C8.fnScope_by (by decide +kernel), rfl, rfl, by decide +kernel⟩
  have D4 : Df K nms prog 4 a4 := ⟨_, _, E4⟩
  have F5 : C8.Fun K ("basis_of" : Str) ("basis_of" : Str) (top 14) a5 (PySem.W.fnOf ("basis_of" : Str) ("basis_of" : Str) (C8.fnArgs (top 14)) (C8.fnBody (top 14)) (C8.fnScope (top 14)) .none kV5 dc5 pm5 an5 cd5 ct5) := ⟨⟨oc5, od5, .none, kV5, dc5, pm5, an5, cd5, ct5, sl5, rfl, lk5, co5⟩⟩
  have B5 : Binds K (PySem.W.fnOf ("basis_of" : Str) ("basis_of" : Str) (C8.fnArgs (top 14)) (C8.fnBody (top 14)) (C8.fnScope (top 14)) .none kV5 dc5 pm5 an5 cd5 ct5) [("numbers" : Str)] [] := F5.binds rfl fun _ _ _ _ _ _ us hl => match us, hl with | [_], _ => rfl
  have E5 : DfAt K nms prog 5 a5 (PySem.W.fnOf ("basis_of" : Str) ("basis_of" : Str) (C8.fnArgs (top 14)) (C8.fnBody (top 14)) (C8.fnScope (top 14)) .none kV5 dc5 pm5 an5 cd5 ct5) [("numbers" : Str)] := ⟨_, _, _, _, [("numbers" : Str), ("found" : Str), ("one" : Str), ("left" : Str), ("top" : Str), ("other" : Str)], rfl, F5, ⟨(fun _ => B5), (fun np ks z => by cases z)⟩, C8.fnScope_by (by decide +kernel), rfl, rfl, by decide +kernel⟩
  have D5 : Df K nms prog 5 a5 := ⟨_, _, E5⟩
  have F6 : C8.Fun K ("traced" : Str) ("traced" : Str) (top 15) a6 (PySem.W.fnOf ("traced" : Str) ("traced" : Str) (C8.fnArgs (top 15)) (C8.fnBody (top 15)) (C8.fnScope (top 15)) .none kV6 dc6 pm6 an6 cd6 ct6) := ⟨⟨oc6, od6, .none, kV6, dc6, pm6, an6, cd6, ct6, sl6, rfl, lk6, co6⟩⟩
  have B6 : Binds K (PySem.W.fnOf ("traced" : Str) ("traced" : Str) (C8.fnArgs (top 15)) (C8.fnBody (top 15)) (C8.fnScope (top 15)) .none kV6 dc6 pm6 an6 cd6 ct6) [("numbers" : Str)] [] := F6.binds rfl fun _ _ _ _ _ _ us hl => match us, hl with | [_], _ => rfl
  have E6 : DfAt K nms prog 6 a6 (PySem.W.fnOf ("traced" : Str) ("traced" : Str) (C8.fnArgs (top 15)) (C8.fnBody (top 15)) (C8.fnScope (top 15)) .none kV6 dc6 pm6 an6 cd6 ct6) [("numbers" : Str)] := ⟨_, _, _, _, [("numbers" : Str), ("found" : Str), ("idle" : Str), ("at" : Str), ("one" : Str), ("left" : Str), ("mark" : Str), ("other" : Str), ("trail" : Str), ("top" : Str), ("wider" : Str)], rfl, F6, ⟨(fun _ => B6), (fun np ks z => by cases z)⟩, C8.fnScope_by (by decide +kernel), rfl, rfl, by decide +kernel⟩
  have D6 : Df K nms prog 6 a6 := ⟨_, _, E6⟩
  have F7 : C8.Fun K ("trail_to" : Str) ("trail_to" : Str) (top 16) a7 (PySem.W.fnOf ("trail_to" : Str) ("trail_to" : Str) (C8.fnArgs (top 16)) (C8.fnBody (top 16)) (C8.fnScope (top 16)) .none kV7 dc7 pm7 an7 cd7 ct7) := ⟨⟨oc7, od7, .none, kV7, dc7, pm7, an7, cd7, ct7, sl7, rfl, lk7, co7⟩⟩
  have B7 : Binds K (PySem.W.fnOf ("trail_to" : Str) ("trail_to" : Str) (C8.fnArgs (top 16)) (C8.fnBody (top 16)) (C8.fnScope (top 16)) .none kV7 dc7 pm7 an7 cd7 ct7) [("numbers" : Str), ("one" : Str)] [] := F7.binds rfl fun _ _ _ _ _ _ us hl => match us, hl with | [_, _], _ => rfl
  have E7 : DfAt K nms prog 7 a7 (PySem.W.fnOf ("trail_to" : Str) ("trail_to" : Str) (C8.fnArgs (top 16)) (C8.fnBody (top 16)) (C8.fnScope (top 16)) .none kV7 dc7 pm7 an7 cd7 ct7) [("numbers" : Str), ("one" : Str)] := ⟨_, _, _, _, [("numbers" : Str), ("one" : Str), ("left" : Str), ("mark" : Str), ("other" : Str), ("trail" : Str)], rfl, F7, ⟨(fun _ => B7), (fun np ks z => by cases z)⟩, C8.fnScope_by (by decide +kernel), rfl, rfl, by decide +kernel⟩
  have D7 : Df K nms prog 7 a7 := ⟨_, _, E7⟩
  have F8 : C8.Fun K ("__init__" : Str) ("Fold.__init__" : Str) (L2.inClass (top 18) 0) a8 (PySem.W.fnOf ("__init__" : Str) ("Fold.__init__" : Str) (C8.fnArgs (L2.inClass (top 18) 0)) (C8.fnBody (L2.inClass (top 18) 0)) (C8.fnScope (L2.inClass (top 18) 0)) .none kV8 dc8 pm8 an8 cd8 ct8) := ⟨⟨oc8, od8, .none, kV8, dc8, pm8, an8, cd8, ct8, sl8, rfl, lk8, co8⟩⟩
  have B8 : Binds K (PySem.W.fnOf ("__init__" : Str) ("Fold.__init__" : Str) (C8.fnArgs (L2.inClass (top 18) 0)) (C8.fnBody (L2.inClass (top 18) 0)) (C8.fnScope (L2.inClass (top 18) 0)) .none kV8 dc8 pm8 an8 cd8 ct8) [("self" : Str), ("rows" : Str), ("size" : Str)] [] := F8.binds rfl fun _ _ _ _ _ _ us hl => match us, hl with | [_, _, _], _ => rfl
  have E8 : DfAt K nms prog 8 a8 (PySem.W.fnOf ("__init__" : Str) ("Fold.__init__" : Str) (C8.fnArgs (L2.inClass (top 18) 0)) (C8.fnBody (L2.inClass (top 18) 0)) (C8.fnScope (L2.inClass (top 18) 0)) .none kV8 dc8 pm8 an8 cd8 ct8) [("self" : Str), ("rows" : Str), ("size" : Str)] := ⟨_, _, _, _, [("self" : Str), ("rows" : Str), ("size" : Str), ("row" : Str)], rfl, F8, ⟨(fun _ => B8), (fun np ks z => by cases z)⟩, C8.fnScope_by (by decide +kernel), rfl, rfl, by decide +kernel⟩
  have D8 : Df K nms prog 8 a8 := ⟨_, _, E8⟩
  have F13 : C8.Fun K ("many" : Str) ("Fold.many" : Str) (L2.inClass (top 18) 5) a13 (PySem.W.fnOf ("many" : Str) ("Fold.many" : Str) (C8.fnArgs (L2.inClass (top 18) 5)) (C8.fnBody (L2.inClass (top 18) 5)) (C8.fnScope (L2.inClass (top 18) 5)) .none kV13 dc13 pm13 an13 cd13 ct13) := ⟨⟨oc13, od13, .none, kV13, dc13, pm13, an13, cd13, ct13, sl13, rfl, lk13, co13⟩⟩
  have B13 : Binds K (PySem.W.fnOf ("many" : Str) ("Fold.many" : Str) (C8.fnArgs (L2.inClass (top 18) 5)) (C8.fnBody (L2.inClass (top 18) 5)) (C8.fnScope (L2.inClass (top 18) 5)) .none kV13 dc13 pm13 an13 cd13 ct13) [("self" : Str)] [] := F13.binds rfl fun _ _ _ _ _ _ us hl => match us, hl with | [_], _ => rfl
  have E13 : DfAt K nms prog 13 a13 (PySem.W.fnOf ("many" : Str) ("Fold.many" : Str) (C8.fnArgs (L2.inClass (top 18) 5)) (C8.fnBody (L2.inClass (top 18) 5)) (C8.fnScope (L2.inClass (top 18) 5)) .none kV13 dc13 pm13 an13 cd13 ct13) [("self" : Str)] := ⟨_, _, _, _, [("self" : Str)], rfl, F13, ⟨(fun _ => B13), (fun np ks z => by cases z)⟩, C8.fnScope_by (by decide +kernel), rfl, rfl, by decide +kernel⟩
  have D13 : Df K nms prog 13 a13 := ⟨_, _, E13⟩
  have F14 : C8.Fun K ("size" : Str) ("Fold.size" : Str) (L2.inClass (top 18) 6) a14 (PySem.W.fnOf ("size" : Str) ("Fold.size" : Str) (C8.fnArgs (L2.inClass (top 18) 6)) (C8.fnBody (L2.inClass (top 18) 6)) (C8.fnScope (L2.inClass (top 18) 6)) .none kV14 dc14 pm14 an14 cd14 ct14) := ⟨⟨oc14, od14, .none, kV14, dc14, pm14, an14, cd14, ct14, sl14, rfl, lk14, co14⟩⟩
  have B14 : Binds K (PySem.W.fnOf ("size" : Str) ("Fold.size" : Str) (C8.fnArgs (L2.inClass (top 18) 6)) (C8.fnBody (L2.inClass (top 18) 6)) (C8.fnScope (L2.inClass (top 18) 6)) .none kV14 dc14 pm14 an14 cd14 ct14) [("self" : Str)] [] := F14.binds rfl fun _ _ _ _ _ _ us hl => match us, hl with | [_], _ => rfl
  have E14 : DfAt K nms prog 14 a14 (PySem.W.fnOf ("size" : Str) ("Fold.size" : Str) (C8.fnArgs (L2.inClass (top 18) 6)) (C8.fnBody (L2.inClass (top 18) 6)) (C8.fnScope (L2.inClass (top 18) 6)) .none kV14 dc14 pm14 an14 cd14 ct14) [("self" : Str)] := ⟨_, _, _, _, [("self" : Str)], rfl, F14, ⟨(fun _ => B14), (fun np ks z => by cases z)⟩, C8.fnScope_by (by decide +kernel), rfl, rfl, by decide +kernel⟩
  have D14 : Df K nms prog 14 a14 := ⟨_, _, E14⟩
  have F15 : C8.Fun K ("to" : Str) ("Fold.to" : Str) (L2.inClass (top 18) 7) a15 (PySem.W.fnOf ("to" : Str) ("Fold.to" : Str) (C8.fnArgs (L2.inClass (top 18) 7)) (C8.fnBody (L2.inClass (top 18) 7)) (C8.fnScope (L2.inClass (top 18) 7)) .none kV15 dc15 pm15 an15 cd15 ct15) := ⟨⟨oc15, od15, .none, kV15, dc15, pm15, an15, cd15, ct15, sl15, rfl, lk15, co15⟩⟩
  have B15 : Binds K (PySem.W.fnOf ("to" : Str) ("Fold.to" : Str) (C8.fnArgs (L2.inClass (top 18) 7)) (C8.fnBody (L2.inClass (top 18) 7)) (C8.fnScope (L2.inClass (top 18) 7)) .none kV15 dc15 pm15 an15 cd15 ct15) [("self" : Str), ("number" : Str)] [] := F15.binds rfl fun _ _ _ _ _ _ us hl => match us, hl with | [_, _], _ => rfl
  have E15 : DfAt K nms prog 15 a15 (PySem.W.fnOf ("to" : Str) ("Fold.to" : Str) (C8.fnArgs (L2.inClass (top 18) 7)) (C8.fnBody (L2.inClass (top 18) 7)) (C8.fnScope (L2.inClass (top 18) 7)) .none kV15 dc15 pm15 an15 cd15 ct15) [("self" : Str), ("number" : Str)] := ⟨_, _, _, _, [("self" : Str), ("number" : Str)], rfl, F15, ⟨(fun _ => B15), (fun np ks z => by cases z)⟩, C8.fnScope_by (by decide +kernel), rfl, rfl, by decide +kernel⟩
  have D15 : Df K nms prog 15 a15 := ⟨_, _, E15⟩
  have F16 : C8.Fun K ("kernel" : Str) ("Fold.kernel" : Str) (L2.inClass (top 18) 8) a16 (PySem.W.fnOf ("kernel" : Str) ("Fold.kernel" : Str) (C8.fnArgs (L2.inClass (top 18) 8)) (C8.fnBody (L2.inClass (top 18) 8)) (C8.fnScope (L2.inClass (top 18) 8)) .none kV16 dc16 pm16 an16 cd16 ct16) := ⟨⟨oc16, od16, .none, kV16, dc16, pm16, an16, cd16, ct16, sl16, rfl, lk16, co16⟩⟩
  have B16 : Binds K (PySem.W.fnOf ("kernel" : Str) ("Fold.kernel" : Str) (C8.fnArgs (L2.inClass (top 18) 8)) (C8.fnBody (L2.inClass (top 18) 8)) (C8.fnScope (L2.inClass (top 18) 8)) .none kV16 dc16 pm16 an16 cd16 ct16) [("self" : Str)] [] := F16.binds rfl fun _ _ _ _ _ _ us hl => match us, hl with | [_], _ => rfl
  have E16 : DfAt K nms prog 16 a16 (PySem.W.fnOf ("kernel" : Str) ("Fold.kernel" : Str) (C8.fnArgs (L2.inClass (top 18) 8)) (C8.fnBody (L2.inClass (top 18) 8)) (C8.fnScope (L2.inClass (top 18) 8)) .none kV16 dc16 pm16 an16 cd16 ct16) [("self" : Str)] := ⟨_, _, _, _, [("self" : Str)], rfl, F16, ⟨(fun _ => B16), (fun np ks z => by cases z)⟩, C8.fnScope_by (by decide +kernel), rfl, rfl, by decide +kernel⟩
  have D16 : Df K nms prog 16 a16 := ⟨_, _, E16⟩
  have F17 : C8.Fun K ("onto" : Str) ("Fold.onto" : Str) (L2.inClass (top 18) 9) a17 (PySem.W.fnOf ("onto" : Str) ("Fold.onto" : Str) (C8.fnArgs (L2.inClass (top 18) 9)) (C8.fnBody (L2.inClass (top 18) 9)) (C8.fnScope (L2.inClass (top 18) 9)) .none kV17 dc17 pm17 an17 cd17 ct17) := ⟨⟨oc17, od17, .none, kV17, dc17, pm17, an17, cd17, ct17, sl17, rfl, lk17, co17⟩⟩
  have B17 : Binds K (PySem.W.fnOf ("onto" : Str) ("Fold.onto" : Str) (C8.fnArgs (L2.inClass (top 18) 9)) (C8.fnBody (L2.inClass (top 18) 9)) (C8.fnScope (L2.inClass (top 18) 9)) .none kV17 dc17 pm17 an17 cd17 ct17) [("self" : Str)] [] := F17.binds rfl fun _ _ _ _ _ _ us hl => match us, hl with | [_], _ => rfl
  have E17 : DfAt K nms prog 17 a17 (PySem.W.fnOf ("onto" : Str) ("Fold.onto" : Str) (C8.fnArgs (L2.inClass (top 18) 9)) (C8.fnBody (L2.inClass (top 18) 9)) (C8.fnScope (L2.inClass (top 18) 9)) .none kV17 dc17 pm17 an17 cd17 ct17) [("self" : Str)] := ⟨_, _, _, _, [("self" : Str)], rfl, F17, ⟨(fun _ => B17), (fun np ks z => by cases z)⟩, C8.fnScope_by (by decide +kernel), rfl, rfl, by decide +kernel⟩
  have D17 : Df K nms prog 17 a17 := ⟨_, _, E17⟩
  have F22 : C8.Fun K ("least" : Str) ("Fold.least" : Str) (L2.inClass (top 18) 14) a22 (PySem.W.fnOf ("least" : Str) ("Fold.least" : Str) (C8.fnArgs (L2.inClass (top 18) 14)) (C8.fnBody (L2.inClass (top 18) 14)) (C8.fnScope (L2.inClass (top 18) 14)) .none kV22 dc22 pm22 an22 cd22 ct22) := ⟨⟨oc22, od22, .none, kV22, dc22, pm22, an22, cd22, ct22, sl22, rfl, lk22, co22⟩⟩
  have B22 : Binds K (PySem.W.fnOf ("least" : Str) ("Fold.least" : Str) (C8.fnArgs (L2.inClass (top 18) 14)) (C8.fnBody (L2.inClass (top 18) 14)) (C8.fnScope (L2.inClass (top 18) 14)) .none kV22 dc22 pm22 an22 cd22 ct22) [("self" : Str), ("number" : Str)] [] := F22.binds rfl fun _ _ _ _ _ _ us hl => match us, hl with | [_, _], _ => rfl
  have E22 : DfAt K nms prog 22 a22 (PySem.W.fnOf ("least" : Str) ("Fold.least" : Str) (C8.fnArgs (L2.inClass (top 18) 14)) (C8.fnBody (L2.inClass (top 18) 14)) (C8.fnScope (L2.inClass (top 18) 14)) .none kV22 dc22 pm22 an22 cd22 ct22) [("self" : Str), ("number" : Str)] := ⟨_, _, _, _, [("self" : Str), ("number" : Str), ("mark" : Str)], rfl, F22, ⟨(fun _ => B22), (fun np ks z => by cases z)⟩, C8.fnScope_by (by decide +kernel), rfl, rfl, by decide +kernel⟩
  have D22 : Df K nms prog 22 a22 := ⟨_, _, E22⟩
  have F23 : C8.Fun K ("back" : Str) ("Fold.back" : Str) (L2.inClass (top 18) 15) a23 (PySem.W.fnOf ("back" : Str) ("Fold.back" : Str) (C8.fnArgs (L2.inClass (top 18) 15)) (C8.fnBody (L2.inClass (top 18) 15)) (C8.fnScope (L2.inClass (top 18) 15)) .none kV23 dc23 pm23 an23 cd23 ct23) := ⟨⟨oc23, od23, .none, kV23, dc23, pm23, an23, cd23, ct23, sl23, rfl, lk23, co23⟩⟩
  have B23 : Binds K (PySem.W.fnOf ("back" : Str) ("Fold.back" : Str) (C8.fnArgs (L2.inClass (top 18) 15)) (C8.fnBody (L2.inClass (top 18) 15)) (C8.fnScope (L2.inClass (top 18) 15)) .none kV23 dc23 pm23 an23 cd23 ct23) [("self" : Str)] [] := F23.binds rfl fun _ _ _ _ _ _ us hl => match us, hl with | [_], _ => rfl
  have E23 : DfAt K nms prog 23 a23 (PySem.W.fnOf ("back" : Str) ("Fold.back" : Str) (C8.fnArgs (L2.inClass (top 18) 15)) (C8.fnBody (L2.inClass (top 18) 15)) (C8.fnScope (L2.inClass (top 18) 15)) .none kV23 dc23 pm23 an23 cd23 ct23) [("self" : Str)] := ⟨_, _, _, _, [("self" : Str), ("at" : Str)], rfl, F23, ⟨(fun _ => B23), (fun np ks z => by cases z)⟩, C8.fnScope_by (by decide +kernel), rfl, rfl, by decide +kernel⟩
  have D23 : Df K nms prog 23 a23 := ⟨_, _, E23⟩
  have F24 : C8.Fun K ("need_lanes" : Str) ("need_lanes" : Str) (top 20) a24 (PySem.W.fnOf ("need_lanes" : Str) ("need_lanes" : Str) (C8.fnArgs (top 20)) (C8.fnBody (top 20)) (C8.fnScope (top 20)) .none kV24 dc24 pm24 an24 cd24 ct24) := ⟨⟨oc24, od24, .none, kV24, dc24, pm24, an24, cd24, ct24, sl24, rfl, lk24, co24⟩⟩
  have B24 : Binds K (PySem.W.fnOf ("need_lanes" : Str) ("need_lanes" : Str) (C8.fnArgs (top 20)) (C8.fnBody (top 20)) (C8.fnScope (top 20)) .none kV24 dc24 pm24 an24 cd24 ct24) [("spread" : Str), ("lanes" : Str)] [] := F24.binds rfl fun _ _ _ _ _ _ us hl => match us, hl with | [_, _], _ => rfl
  have E24 : DfAt K nms prog 24 a24 (PySem.W.fnOf ("need_lanes" : Str) ("need_lanes" : Str) (C8.fnArgs (top 20)) (C8.fnBody (top 20)) (C8.fnScope (top 20)) .none kV24 dc24 pm24 an24 cd24 ct24) [("spread" : Str), ("lanes" : Str)] := ⟨_, _, _, _, [("spread" : Str), ("lanes" : Str)], rfl, F24, ⟨(fun _ => B24), (fun np ks z => by cases z)⟩, C8.fnScope_by (by decide +kernel), rfl, rfl, by decide +kernel⟩
  have D24 : Df K nms prog 24 a24 := ⟨_, _, E24⟩
  have F25 : C8.Fun K ("steps_along" : Str) ("steps_along" : Str) (top 22) a25 (PySem.W.fnOf ("steps_along" : Str) ("steps_along" : Str) (C8.fnArgs (top 22)) (C8.fnBody (top 22)) (C8.fnScope (top 22)) .none kV25 dc25 pm25 an25 cd25 ct25) := ⟨⟨oc25, od25, .none, kV25, dc25, pm25, an25, cd25, ct25, sl25, rfl, lk25, co25⟩⟩
  have B25 : Binds K (PySem.W.fnOf ("steps_along" : Str) ("steps_along" : Str) (C8.fnArgs (top 22)) (C8.fnBody (top 22)) (C8.fnScope (top 22)) .none kV25 dc25 pm25 an25 cd25 ct25) [("spread" : Str), ("places" : Str), ("lanes" : Str)] [] := F25.binds rfl fun _ _ _ _ _ _ us hl => match us, hl with | [_, _, _], _ => rfl
  have E25 : DfAt K nms prog 25 a25 (PySem.W.fnOf ("steps_along" : Str) ("steps_along" : Str) (C8.fnArgs (top 22)) (C8.fnBody (top 22)) (C8.fnScope (top 22)) .none kV25 dc25 pm25 an25 cd25 ct25) [("spread" : Str), ("places" : Str), ("lanes" : Str)] := ⟨_, _, _, _, [("spread" : Str), ("places" : Str), ("lanes" : Str), ("low" : Str), ("idle" : Str), ("swings" : Str), ("free" : Str), ("back" : Str), ("found" : Str), ("at" : Str), ("step" : Str), ("mark" : Str), ("number" : Str), ("place" : Str)], rfl, F25, ⟨(fun _ => B25), (fun np ks z => by cases z)⟩, C8.fnScope_by (by decide +kernel), rfl, rfl, by decide +kernel⟩
  have D25 : Df K nms prog 25 a25 := ⟨_, _, E25⟩
  have F26 : C8.Fun K ("gather" : Str) ("gather" : Str) (top 23) a26 (PySem.W.fnOf ("gather" : Str) ("gather" : Str) (C8.fnArgs (top 23)) (C8.fnBody (top 23)) (C8.fnScope (top 23)) .none kV26 dc26 pm26 an26 cd26 ct26) := ⟨⟨oc26, od26, .none, kV26, dc26, pm26, an26, cd26, ct26, sl26, rfl, lk26, co26⟩⟩
  have B26 : KBinds K (PySem.W.fnOf ("gather" : Str) ("gather" : Str) (C8.fnArgs (top 23)) (C8.fnBody (top 23)) (C8.fnScope (top 23)) .none kV26 dc26 pm26 an26 cd26 ct26) [("spread" : Str), ("places" : Str), ("lanes" : Str)] [("lanes" : Str)] (gk 2 1) (gk 2 1) := kb_of (np := 2) rfl (by decide) fun us ws h1 h2 => match us, ws, h1, h2 with | [_, _], [_], _, _ => rfl
  have E26 : DfAt K nms prog 26 a26 (PySem.W.fnOf ("gather" : Str) ("gather" : Str) (C8.fnArgs (top 23)) (C8.fnBody (top 23)) (C8.fnScope (top 23)) .none kV26 dc26 pm26 an26 cd26 ct26) [("spread" : Str), ("places" : Str), ("lanes" : Str)] := ⟨_, _, _, _, [("spread" : Str), ("places" : Str), ("lanes" : Str), ("step" : Str), ("at" : Str)], rfl, F26, ⟨(fun z => by cases z), (fun np ks z => by cases z; exact B26)⟩, C8.fnScope_by (by decide +kernel), rfl, rfl, by decide +kernel⟩
  have D26 : Df K nms prog 26 a26 := ⟨_, _, E26⟩
  have F27 : C8.Fun K ("_law_box" : Str) ("_law_box" : Str) (top 25) a27 (PySem.W.fnOf ("_law_box" : Str) ("_law_box" : Str) (C8.fnArgs (top 25)) (C8.fnBody (top 25)) (C8.fnScope (top 25)) .none kV27 dc27 pm27 an27 cd27 ct27) := ⟨⟨oc27, od27, .none, kV27, dc27, pm27, an27, cd27, ct27, sl27, rfl, lk27, co27⟩⟩
  have B27 : Binds K (PySem.W.fnOf ("_law_box" : Str) ("_law_box" : Str) (C8.fnArgs (top 25)) (C8.fnBody (top 25)) (C8.fnScope (top 25)) .none kV27 dc27 pm27 an27 cd27 ct27) [("_law_script" : Str)] [] := F27.binds rfl fun _ _ _ _ _ _ us hl => match us, hl with | [_], _ => rfl
  have E27 : DfAt K nms prog 27 a27 (PySem.W.fnOf ("_law_box" : Str) ("_law_box" : Str) (C8.fnArgs (top 25)) (C8.fnBody (top 25)) (C8.fnScope (top 25)) .none kV27 dc27 pm27 an27 cd27 ct27) [("_law_script" : Str)] := ⟨_, _, _, _, [("_law_script" : Str)], rfl, F27, ⟨(fun _ => B27), (fun np ks z => by cases z)⟩, C8.fnScope_by (by decide +kernel), rfl, rfl, by decide +kernel⟩
  have D27 : Df K nms prog 27 a27 := ⟨_, _, E27⟩
  have F28 : C8.Fun K ("_law_take" : Str) ("_law_take" : Str) (top 26) a28 (PySem.W.fnOf ("_law_take" : Str) ("_law_take" : Str) (C8.fnArgs (top 26)) (C8.fnBody (top 26)) (C8.fnScope (top 26)) .none kV28 dc28 pm28 an28 cd28 ct28) := ⟨⟨oc28, od28, .none, kV28, dc28, pm28, an28, cd28, ct28, sl28, rfl, lk28, co28⟩⟩
  have B28 : Binds K (PySem.W.fnOf ("_law_take" : Str) ("_law_take" : Str) (C8.fnArgs (top 26)) (C8.fnBody (top 26)) (C8.fnScope (top 26)) .none kV28 dc28 pm28 an28 cd28 ct28) [("_law_box_here" : Str), ("_law_sides" : Str)] [] := F28.binds rfl fun _ _ _ _ _ _ us hl => match us, hl with | [_, _], _ => rfl
  have E28 : DfAt K nms prog 28 a28 (PySem.W.fnOf ("_law_take" : Str) ("_law_take" : Str) (C8.fnArgs (top 26)) (C8.fnBody (top 26)) (C8.fnScope (top 26)) .none kV28 dc28 pm28 an28 cd28 ct28) [("_law_box_here" : Str), ("_law_sides" : Str)] := ⟨_, _, _, _, [("_law_box_here" : Str), ("_law_sides" : Str), ("_law_cell" : Str), ("_law_seed" : Str), ("_law_tail" : Str)], rfl, F28, ⟨(fun _ => B28), (fun np ks z => by cases z)⟩, C8.fnScope_by (by decide +kernel), rfl, rfl, by decide +kernel⟩
  have D28 : Df K nms prog 28 a28 := ⟨_, _, E28⟩
  have F29 : C8.Fun K ("_law_of" : Str) ("_law_of" : Str) (top 27) a29 (PySem.W.fnOf ("_law_of" : Str) ("_law_of" : Str) (C8.fnArgs (top 27)) (C8.fnBody (top 27)) (C8.fnScope (top 27)) .none kV29 dc29 pm29 an29 cd29 ct29) := ⟨⟨oc29, od29, .none, kV29, dc29, pm29, an29, cd29, ct29, sl29, rfl, lk29, co29⟩⟩
  have B29 : Binds K (PySem.W.fnOf ("_law_of" : Str) ("_law_of" : Str) (C8.fnArgs (top 27)) (C8.fnBody (top 27)) (C8.fnScope (top 27)) .none kV29 dc29 pm29 an29 cd29 ct29) [("_law_box_here" : Str), ("_law_some" : Str)] [] := F29.binds rfl fun _ _ _ _ _ _ us hl => match us, hl with | [_, _], _ => rfl
  have E29 : DfAt K nms prog 29 a29 (PySem.W.fnOf ("_law_of" : Str) ("_law_of" : Str) (C8.fnArgs (top 27)) (C8.fnBody (top 27)) (C8.fnScope (top 27)) .none kV29 dc29 pm29 an29 cd29 ct29) [("_law_box_here" : Str), ("_law_some" : Str)] := ⟨_, _, _, _, [("_law_box_here" : Str), ("_law_some" : Str)], rfl, F29, ⟨(fun _ => B29), (fun np ks z => by cases z)⟩, C8.fnScope_by (by decide +kernel), rfl, rfl, by decide +kernel⟩
  have D29 : Df K nms prog 29 a29 := ⟨_, _, E29⟩
  have F30 : C8.Fun K ("_law_shuffled" : Str) ("_law_shuffled" : Str) (top 28) a30 (PySem.W.fnOf ("_law_shuffled" : Str) ("_law_shuffled" : Str) (C8.fnArgs (top 28)) (C8.fnBody (top 28)) (C8.fnScope (top 28)) .none kV30 dc30 pm30 an30 cd30 ct30) := ⟨⟨oc30, od30, .none, kV30, dc30, pm30, an30, cd30, ct30, sl30, rfl, lk30, co30⟩⟩
  have B30 : Binds K (PySem.W.fnOf ("_law_shuffled" : Str) ("_law_shuffled" : Str) (C8.fnArgs (top 28)) (C8.fnBody (top 28)) (C8.fnScope (top 28)) .none kV30 dc30 pm30 an30 cd30 ct30) [("_law_box_here" : Str), ("_law_some" : Str)] [] := F30.binds rfl fun _ _ _ _ _ _ us hl => match us, hl with | [_, _], _ => rfl
  have E30 : DfAt K nms prog 30 a30 (PySem.W.fnOf ("_law_shuffled" : Str) ("_law_shuffled" : Str) (C8.fnArgs (top 28)) (C8.fnBody (top 28)) (C8.fnScope (top 28)) .none kV30 dc30 pm30 an30 cd30 ct30) [("_law_box_here" : Str), ("_law_some" : Str)] := ⟨_, _, _, _, [("_law_box_here" : Str), ("_law_some" : Str), ("_law_found" : Str), ("_law_one" : Str)], rfl, F30, ⟨(fun _ => B30), (fun np ks z => by cases z)⟩, C8.fnScope_by (by decide +kernel), rfl, rfl, by decide +kernel⟩
  have D30 : Df K nms prog 30 a30 := ⟨_, _, E30⟩
  have F31 : C8.Fun K ("_law_span" : Str) ("_law_span" : Str) (top 29) a31 (PySem.W.fnOf ("_law_span" : Str) ("_law_span" : Str) (C8.fnArgs (top 29)) (C8.fnBody (top 29)) (C8.fnScope (top 29)) .none kV31 dc31 pm31 an31 cd31 ct31) := ⟨⟨oc31, od31, .none, kV31, dc31, pm31, an31, cd31, ct31, sl31, rfl, lk31, co31⟩⟩
  have B31 : Binds K (PySem.W.fnOf ("_law_span" : Str) ("_law_span" : Str) (C8.fnArgs (top 29)) (C8.fnBody (top 29)) (C8.fnScope (top 29)) .none kV31 dc31 pm31 an31 cd31 ct31) [("_law_numbers_here" : Str)] [] := F31.binds rfl fun _ _ _ _ _ _ us hl => match us, hl with | [_], _ => rfl
  have E31 : DfAt K nms prog 31 a31 (PySem.W.fnOf ("_law_span" : Str) ("_law_span" : Str) (C8.fnArgs (top 29)) (C8.fnBody (top 29)) (C8.fnScope (top 29)) .none kV31 dc31 pm31 an31 cd31 ct31) [("_law_numbers_here" : Str)] := ⟨_, _, _, _, [("_law_numbers_here" : Str), ("_law_found" : Str), ("_law_one" : Str), ("_law_other" : Str)], rfl, F31, ⟨(fun _ => B31), (fun np ks z => by cases z)⟩, C8.fnScope_by (by decide +kernel), rfl, rfl, by decide +kernel⟩
  have D31 : Df K nms prog 31 a31 := ⟨_, _, E31⟩
  have F32 : C8.Fun K ("_law_numbers" : Str) ("_law_numbers" : Str) (top 30) a32 (PySem.W.fnOf ("_law_numbers" : Str) ("_law_numbers" : Str) (C8.fnArgs (top 30)) (C8.fnBody (top 30)) (C8.fnScope (top 30)) .none kV32 dc32 pm32 an32 cd32 ct32) := ⟨⟨oc32, od32, .none, kV32, dc32, pm32, an32, cd32, ct32, sl32, rfl, lk32, co32⟩⟩
  have B32 : Binds K (PySem.W.fnOf ("_law_numbers" : Str) ("_law_numbers" : Str) (C8.fnArgs (top 30)) (C8.fnBody (top 30)) (C8.fnScope (top 30)) .none kV32 dc32 pm32 an32 cd32 ct32) [("_law_box_here" : Str), ("_law_count" : Str), ("_law_many" : Str)] [] := F32.binds rfl fun _ _ _ _ _ _ us hl => match us, hl with | [_, _, _], _ => rfl
  have E32 : DfAt K nms prog 32 a32 (PySem.W.fnOf ("_law_numbers" : Str) ("_law_numbers" : Str) (C8.fnArgs (top 30)) (C8.fnBody (top 30)) (C8.fnScope (top 30)) .none kV32 dc32 pm32 an32 cd32 ct32) [("_law_box_here" : Str), ("_law_count" : Str), ("_law_many" : Str)] := ⟨_, _, _, _, [("_law_box_here" : Str), ("_law_count" : Str), ("_law_many" : Str), ("_law_at" : Str)], rfl, F32, ⟨(fun _ => B32), (fun np ks z => by cases z)⟩, C8.fnScope_by (by decide +kernel), rfl, rfl, by decide +kernel⟩
  have D32 : Df K nms prog 32 a32 := ⟨_, _, E32⟩
  have F33 : C8.Fun K ("_law_images" : Str) ("_law_images" : Str) (top 31) a33 (PySem.W.fnOf ("_law_images" : Str) ("_law_images" : Str) (C8.fnArgs (top 31)) (C8.fnBody (top 31)) (C8.fnScope (top 31)) .none kV33 dc33 pm33 an33 cd33 ct33) := ⟨⟨oc33, od33, .none, kV33, dc33, pm33, an33, cd33, ct33, sl33, rfl, lk33, co33⟩⟩
  have B33 : Binds K (PySem.W.fnOf ("_law_images" : Str) ("_law_images" : Str) (C8.fnArgs (top 31)) (C8.fnBody (top 31)) (C8.fnScope (top 31)) .none kV33 dc33 pm33 an33 cd33 ct33) [("_law_lines_here" : Str)] [] := F33.binds rfl fun _ _ _ _ _ _ us hl => match us, hl with | [_], _ => rfl
  have E33 : DfAt K nms prog 33 a33 (PySem.W.fnOf ("_law_images" : Str) ("_law_images" : Str) (C8.fnArgs (top 31)) (C8.fnBody (top 31)) (C8.fnScope (top 31)) .none kV33 dc33 pm33 an33 cd33 ct33) [("_law_lines_here" : Str)] := ⟨_, _, _, _, [("_law_lines_here" : Str), ("_law_found" : Str), ("_law_line" : Str), ("_law_one" : Str)], rfl, F33, ⟨(fun _ => B33), (fun np ks z => by cases z)⟩, C8.fnScope_by (by decide +kernel), rfl, rfl, by decide +kernel⟩
  have D33 : Df K nms prog 33 a33 := ⟨_, _, E33⟩
  have F34 : C8.Fun K ("_law_lines" : Str) ("_law_lines" : Str) (top 32) a34 (PySem.W.fnOf ("_law_lines" : Str) ("_law_lines" : Str) (C8.fnArgs (top 32)) (C8.fnBody (top 32)) (C8.fnScope (top 32)) .none kV34 dc34 pm34 an34 cd34 ct34) := ⟨⟨oc34, od34, .none, kV34, dc34, pm34, an34, cd34, ct34, sl34, rfl, lk34, co34⟩⟩
  have B34 : Binds K (PySem.W.fnOf ("_law_lines" : Str) ("_law_lines" : Str) (C8.fnArgs (top 32)) (C8.fnBody (top 32)) (C8.fnScope (top 32)) .none kV34 dc34 pm34 an34 cd34 ct34) [("_law_box_here" : Str), ("_law_deep" : Str), ("_law_many" : Str)] [] := F34.binds rfl fun _ _ _ _ _ _ us hl => match us, hl with | [_, _, _], _ => rfl
  have E34 : DfAt K nms prog 34 a34 (PySem.W.fnOf ("_law_lines" : Str) ("_law_lines" : Str) (C8.fnArgs (top 32)) (C8.fnBody (top 32)) (C8.fnScope (top 32)) .none kV34 dc34 pm34 an34 cd34 ct34) [("_law_box_here" : Str), ("_law_deep" : Str), ("_law_many" : Str)] := ⟨_, _, _, _, [("_law_box_here" : Str), ("_law_deep" : Str), ("_law_many" : Str), ("_law_lines_here" : Str), ("_law_turn" : Str), ("_law_one" : Str), ("_law_far" : Str), ("_law_at" : Str), ("_law_line" : Str)], rfl, F34, ⟨(fun _ => B34), (fun np ks z => by cases z)⟩, C8.fnScope_by (by decide +kernel), rfl, rfl, by decide +kernel⟩
  have D34 : Df K nms prog 34 a34 := ⟨_, _, E34⟩
  have F35 : C8.Fun K ("_law_two_spreads" : Str) ("_law_two_spreads" : Str) (top 33) a35 (PySem.W.fnOf ("_law_two_spreads" : Str) ("_law_two_spreads" : Str) (C8.fnArgs (top 33)) (C8.fnBody (top 33)) (C8.fnScope (top 33)) .none kV35 dc35 pm35 an35 cd35 ct35) := ⟨⟨oc35, od35, .none, kV35, dc35, pm35, an35, cd35, ct35, sl35, rfl, lk35, co35⟩⟩
  have B35 : Binds K (PySem.W.fnOf ("_law_two_spreads" : Str) ("_law_two_spreads" : Str) (C8.fnArgs (top 33)) (C8.fnBody (top 33)) (C8.fnScope (top 33)) .none kV35 dc35 pm35 an35 cd35 ct35) [("_law_box_here" : Str)] [] := F35.binds rfl fun _ _ _ _ _ _ us hl => match us, hl with | [_], _ => rfl
  have E35 : DfAt K nms prog 35 a35 (PySem.W.fnOf ("_law_two_spreads" : Str) ("_law_two_spreads" : Str) (C8.fnArgs (top 33)) (C8.fnBody (top 33)) (C8.fnScope (top 33)) .none kV35 dc35 pm35 an35 cd35 ct35) [("_law_box_here" : Str)] := ⟨_, _, _, _, [("_law_box_here" : Str), ("_law_deep" : Str), ("_law_some" : Str), ("_law_many" : Str), ("_law_one" : Str), ("_law_way" : Str), ("_law_two" : Str), ("_law_at" : Str)], rfl, F35, ⟨(fun _ => B35), (fun np ks z => by cases z)⟩, C8.fnScope_by (by decide +kernel), rfl, rfl, by decide +kernel⟩
  have D35 : Df K nms prog 35 a35 := ⟨_, _, E35⟩
  have F36 : C8.Fun K ("_law_reached" : Str) ("_law_reached" : Str) (top 34) a36 (PySem.W.fnOf ("_law_reached" : Str) ("_law_reached" : Str) (C8.fnArgs (top 34)) (C8.fnBody (top 34)) (C8.fnScope (top 34)) .none kV36 dc36 pm36 an36 cd36 ct36) := ⟨⟨oc36, od36, .none, kV36, dc36, pm36, an36, cd36, ct36, sl36, rfl, lk36, co36⟩⟩
  have B36 : Binds K (PySem.W.fnOf ("_law_reached" : Str) ("_law_reached" : Str) (C8.fnArgs (top 34)) (C8.fnBody (top 34)) (C8.fnScope (top 34)) .none kV36 dc36 pm36 an36 cd36 ct36) [("_law_images_here" : Str), ("_law_lane" : Str), ("_law_span_here" : Str), ("_law_low" : Str)] [] := F36.binds rfl fun _ _ _ _ _ _ us hl => match us, hl with | [_, _, _, _], _ => rfl
  have E36 : DfAt K nms prog 36 a36 (PySem.W.fnOf ("_law_reached" : Str) ("_law_reached" : Str) (C8.fnArgs (top 34)) (C8.fnBody (top 34)) (C8.fnScope (top 34)) .none kV36 dc36 pm36 an36 cd36 ct36) [("_law_images_here" : Str), ("_law_lane" : Str), ("_law_span_here" : Str), ("_law_low" : Str)] := ⟨_, _, _, _, [("_law_images_here" : Str), ("_law_lane" : Str), ("_law_span_here" : Str), ("_law_low" : Str), ("_law_found" : Str), ("_law_swing" : Str), ("_law_start" : Str), ("_law_cell" : Str)], rfl, F36, ⟨(fun _ => B36), (fun np ks z => by cases z)⟩, C8.fnScope_by (by decide +kernel), rfl, rfl, by decide +kernel⟩
  have D36 : Df K nms prog 36 a36 := ⟨_, _, E36⟩
  have F37 : C8.Fun K ("law" : Str) ("law" : Str) (top 35) a37 (PySem.W.fnOf ("law" : Str) ("law" : Str) (C8.fnArgs (top 35)) (C8.fnBody (top 35)) (C8.fnScope (top 35)) .none kV37 dc37 pm37 an37 cd37 ct37) := ⟨⟨oc37, od37, .none, kV37, dc37, pm37, an37, cd37, ct37, sl37, rfl, lk37, co37⟩⟩
  have B37 : Binds K (PySem.W.fnOf ("law" : Str) ("law" : Str) (C8.fnArgs (top 35)) (C8.fnBody (top 35)) (C8.fnScope (top 35)) .none kV37 dc37 pm37 an37 cd37 ct37) [("_law_script" : Str)] [] := F37.binds rfl fun _ _ _ _ _ _ us hl => match us, hl with | [_], _ => rfl
  have E37 : DfAt K nms prog 37 a37 (PySem.W.fnOf ("law" : Str) ("law" : Str) (C8.fnArgs (top 35)) (C8.fnBody (top 35)) (C8.fnScope (top 35)) .none kV37 dc37 pm37 an37 cd37 ct37) [("_law_script" : Str)] := ⟨_, _, _, _, [("_law_script" : Str), ("_law_box_here" : Str), ("_law_turn" : Str), ("_law_low" : Str), ("_law_places" : Str), ("_law_found" : Str), ("_law_wanted" : Str), ("_law_span_here" : Str), ("_law_lane" : Str), ("_law_counts" : Str), ("_law_deep" : Str), ("_law_many" : Str), ("_law_lanes_now" : Str), ("_law_one" : Str), ("_law_two" : Str), ("_law_spread" : Str), ("_law_images_here" : Str), ("_law_cells" : Str), ("_law_start" : Str), ("_law_fewer" : Str), ("_law_at" : Str), ("_law_k" : Str), ("_law_apart" : Str)], rfl, F37, ⟨(fun _ => B37), (fun np ks z => by cases z)⟩, C8.fnScope_by (by decide +kernel), rfl, rfl, by decide +kernel⟩
  have D37 : Df K nms prog 37 a37 := ⟨_, _, E37⟩
  refine ⟨(PySem.W.fnOf ("law" : Str) ("law" : Str) (C8.fnArgs (top 35)) (C8.fnBody (top 35)) (C8.fnScope (top 35)) .none kV37 dc37 pm37 an37 cd37 ct37), fun s v => .of_eq rfl, fun base _ _ => law_ok (n := depth) (f := 37) (M := nms) (Pr := prog) (G := txt K C6) ?_ E37 rfl rfl pure_⟩
  refine ⟨rfl, fun x hx => ?_, fun C Ca hC => ?_, rfl, fun a b n => inj_lookup (by decide +kernel) a b n, fun g x y h1 h2 => ?_, fun C Ca f n h1 h2 h3 => ?_, fun f x hf => ?_, fun C Ca m n f h1 h2 h3 => ?_, fun C x f h1 h2 => ?_⟩
  · simp only [builtinNames, List.mem_cons, List.not_mem_nil, or_false] at hx
    rcases hx with rfl | rfl | rfl | rfl | rfl | rfl | rfl | rfl | rfl | rfl | rfl | rfl | rfl | rfl | rfl | rfl | rfl | rfl
    · exact PySem.W.mg_none_of X G z_len
    · exact PySem.W.mg_none_of X G z_sorted
    · exact PySem.W.mg_none_of X G z_sum
    · exact PySem.W.mg_none_of X G z_max
    · exact PySem.W.mg_none_of X G z_min
    · exact PySem.W.mg_none_of X G z_abs
    · exact PySem.W.mg_none_of X G z_int
    · exact PySem.W.mg_none_of X G z_list
    · exact PySem.W.mg_none_of X G z_tuple
    · exact PySem.W.mg_none_of X G z_any
    · exact PySem.W.mg_none_of X G z_all
    · exact PySem.W.mg_none_of X G z_set
    · exact PySem.W.mg_none_of X G z_isinstance
    · exact PySem.W.mg_none_of X G z_bool
    · exact PySem.W.mg_none_of X G z_str
    · exact PySem.W.mg_none_of X G z_range
    · exact PySem.W.mg_none_of X G z_enumerate
    · exact PySem.W.mg_none_of X G z_zip
  · have hC : clsA C6 C = some Ca := hC
    unfold clsA at hC
    by_cases e6 : C = 6
    · subst e6; cases hC; exact ⟨pg6, hd6, po6, sa6⟩
    rw [if_neg e6] at hC
    cases hC
  · have hm := mem_of_lookup h1
    simp only [glL, List.mem_cons, List.not_mem_nil, or_false] at hm
    rcases hm with hm
    · cases hm; cases h2; exact ⟨_, .int 12, PySem.W.mg_of X G gl0, ⟨_, rfl⟩, fun F H => mk_int _⟩
  · have hC : clsA C6 C = some Ca := h2
    unfold clsA at hC
    by_cases e6 : C = 6
    · subst e6; cases hC
      have hm := mem_of_lookup h3
      simp only [atL, List.mem_cons, List.not_mem_nil, or_false] at hm
      rcases hm with hm | hm | hm | hm | hm | hm | hm | hm | hm
      · cases hm; exact no6_0
      · cases hm; exact no6_1
      · cases hm; cases h1
      · cases hm; cases h1
      · cases hm; cases h1
      · cases hm; cases h1
      · cases hm; cases h1
      · cases hm; cases h1
      · cases hm; cases h1
    rw [if_neg e6] at hC
    cases hC
  · have hm := mem_of_lookup hf
    simp only [fnL, List.mem_cons, List.not_mem_nil, or_false] at hm
    rcases hm with hm | hm | hm | hm | hm | hm | hm | hm | hm | hm | hm | hm | hm | hm | hm | hm | hm | hm | hm | hm | hm
    · cases hm; exact ⟨a1, PySem.W.mg_of X G at1, kp1, D1⟩
    · cases hm; exact ⟨a2, PySem.W.mg_of X G at2, kp2, D2⟩
    · cases hm; exact ⟨a3, PySem.W.mg_of X G at3, kp3, D3⟩
    · cases hm; exact ⟨a4, PySem.W.mg_of X G at4, kp4, D4⟩
    · cases hm; exact ⟨a5, PySem.W.mg_of X G at5, kp5, D5⟩
    · cases hm; exact ⟨a6, PySem.W.mg_of X G at6, kp6, D6⟩
    · cases hm; exact ⟨a7, PySem.W.mg_of X G at7, kp7, D7⟩
    · cases hm; exact ⟨a24, PySem.W.mg_of X G at24, kp24, D24⟩
    · cases hm; exact ⟨a25, PySem.W.mg_of X G at25, kp25, D25⟩
    · cases hm; exact ⟨a26, PySem.W.mg_of X G at26, kp26, D26⟩
    · cases hm; exact ⟨a27, PySem.W.mg_of X G at27, kp27, D27⟩
    · cases hm; exact ⟨a28, PySem.W.mg_of X G at28, kp28, D28⟩
    · cases hm; exact ⟨a29, PySem.W.mg_of X G at29, kp29, D29⟩
    · cases hm; exact ⟨a30, PySem.W.mg_of X G at30, kp30, D30⟩
    · cases hm; exact ⟨a31, PySem.W.mg_of X G at31, kp31, D31⟩
    · cases hm; exact ⟨a32, PySem.W.mg_of X G at32, kp32, D32⟩
    · cases hm; exact ⟨a33, PySem.W.mg_of X G at33, kp33, D33⟩
    · cases hm; exact ⟨a34, PySem.W.mg_of X G at34, kp34, D34⟩
    · cases hm; exact ⟨a35, PySem.W.mg_of X G at35, kp35, D35⟩
    · cases hm; exact ⟨a36, PySem.W.mg_of X G at36, kp36, D36⟩
    · cases hm; exact ⟨a37, PySem.W.mg_of X G at37, kp37, D37⟩
  · have hC : clsA C6 C = some Ca := h1
    unfold clsA at hC
    by_cases e6 : C = 6
    · subst e6; cases hC
      have hm := mem_of_lookup h2
      simp only [atL, List.mem_cons, List.not_mem_nil, or_false] at hm
      rcases hm with hm | hm | hm | hm | hm | hm | hm | hm | hm
      · cases hm; cases h3
      · cases hm; cases h3
      · cases hm; cases h3; exact ⟨a16, ⟨at16, fn16, kp16⟩, D16, rfl⟩
      · cases hm; cases h3; exact ⟨a22, ⟨at22, fn22, kp22⟩, D22, rfl⟩
      · cases hm; cases h3; exact ⟨a17, ⟨at17, fn17, kp17⟩, D17, rfl⟩
      · cases hm; cases h3; exact ⟨a13, ⟨at13, fn13, kp13⟩, D13, rfl⟩
      · cases hm; cases h3; exact ⟨a15, ⟨at15, fn15, kp15⟩, D15, rfl⟩
      · cases hm; cases h3; exact ⟨a23, ⟨at23, fn23, kp23⟩, D23, rfl⟩
      · cases hm; cases h3; exact ⟨a14, ⟨at14, fn14, kp14⟩, D14, rfl⟩
    rw [if_neg e6] at hC
    cases hC
  · have hm := mem_of_lookup h1
    simp only [clsL, List.mem_cons, List.not_mem_nil, or_false] at hm
    rcases hm with hm
    · cases hm; cases h2; exact ⟨C6, a8, (by unfold txt clsA; simp), PySem.W.mg_of X G aC6, ⟨mk6, at8, fn8, kc6⟩, D8, rfl⟩
end K54

namespace K54
open PySem Z
theorem k_top_of (n : Nat) (x0 : PV) : callN prog (n + 1) 1 [x0] = if okA [false] [x0] = true then finD [false] (evSs (prog.tab (callN prog n)) d_top_of.body [some x0]) else .bad := callN_d (d := d_top_of) rfl ⟨rfl, by decide⟩ rfl
theorem m_top_of (fn : Nat → List PV → RC) : (prog.tab fn).mode 1 = [false] := rfl
theorem k_blended (n : Nat) (x0 : PV) : callN prog (n + 1) 2 [x0] = if okA [false] [x0] = true then finD [false] (evSs (prog.tab (callN prog n)) d_blended.body [some x0, none, none]) else .bad := callN_d (d := d_blended) rfl ⟨rfl, by decide⟩ rfl
theorem m_blended (fn : Nat → List PV → RC) : (prog.tab fn).mode 2 = [false] := rfl
theorem k_picked (n : Nat) (x0 x1 : PV) : callN prog (n + 1) 3 [x0, x1] = if okA [false, false] [x0, x1] = true then finD [false, false] (evSs (prog.tab (callN prog n)) d_picked.body [some x0, some x1, none, none]) else .bad := callN_d (d := d_picked) rfl ⟨rfl, by decide⟩ rfl
theorem m_picked (fn : Nat → List PV → RC) : (prog.tab fn).mode 3 = [false, false] := rfl
theorem k_reduced (n : Nat) (x0 x1 : PV) : callN prog (n + 1) 4 [x0, x1] = if okA [false, false] [x0, x1] = true then finD [false, false] (evSs (prog.tab (callN prog n)) d_reduced.body [some x0, some x1, none, none]) else .bad := callN_d (d := d_reduced) rfl ⟨rfl, by decide⟩ rfl
theorem m_reduced (fn : Nat → List PV → RC) : (prog.tab fn).mode 4 = [false, false] := rfl
theorem k_basis_of (n : Nat) (x0 : PV) : callN prog (n + 1) 5 [x0] = if okA [false] [x0] = true then finD [false] (evSs (prog.tab (callN prog n)) d_basis_of.body [some x0, none, none, none, none, none]) else .bad := callN_d (d := d_basis_of) rfl ⟨rfl, by decide⟩ rfl
theorem m_basis_of (fn : Nat → List PV → RC) : (prog.tab fn).mode 5 = [false] := rfl
theorem k_traced (n : Nat) (x0 : PV) : callN prog (n + 1) 6 [x0] = if okA [false] [x0] = true then finD [false] (evSs (prog.tab (callN prog n)) d_traced.body [some x0, none, none, none, none, none, none, none, none, none, none]) else .bad := callN_d (d := d_traced) rfl ⟨rfl, by decide⟩ rfl
theorem m_traced (fn : Nat → List PV → RC) : (prog.tab fn).mode 6 = [false] := rfl
theorem k_trail_to (n : Nat) (x0 x1 : PV) : callN prog (n + 1) 7 [x0, x1] = if okA [false, false] [x0, x1] = true then finD [false, false] (evSs (prog.tab (callN prog n)) d_trail_to.body [some x0, some x1, none, none, none, none]) else .bad := callN_d (d := d_trail_to) rfl ⟨rfl, by decide⟩ rfl
theorem m_trail_to (fn : Nat → List PV → RC) : (prog.tab fn).mode 7 = [false, false] := rfl
theorem k_Fold___init__ (n : Nat) (x0 x1 x2 : PV) : callN prog (n + 1) 8 [x0, x1, x2] = if okA [true, false, false] [x0, x1, x2] = true then finD [true, false, false] (evSs (prog.tab (callN prog n)) d_Fold___init__.body [some x0, some x1, some x2, none]) else .bad := callN_d (d := d_Fold___init__) rfl ⟨rfl, by decide⟩ rfl
theorem m_Fold___init__ (fn : Nat → List PV → RC) : (prog.tab fn).mode 8 = [true, false, false] := rfl
theorem n_Fold___init__ : prog.init 6 = some 8 := rfl
theorem k_Fold___eq__ (n : Nat) (x0 x1 : PV) : callN prog (n + 1) 9 [x0, x1] = if okA [false, false] [x0, x1] = true then finD [false, false] (evSs (prog.tab (callN prog n)) d_Fold___eq__.body [some x0, some x1]) else .bad := callN_d (d := d_Fold___eq__) rfl ⟨rfl, by decide⟩ rfl
theorem m_Fold___eq__ (fn : Nat → List PV → RC) : (prog.tab fn).mode 9 = [false, false] := rfl
theorem n_Fold___eq__ : prog.meth 6 9 = some 9 := rfl
theorem k_Fold___len__ (n : Nat) (x0 : PV) : callN prog (n + 1) 10 [x0] = if okA [false] [x0] = true then finD [false] (evSs (prog.tab (callN prog n)) d_Fold___len__.body [some x0]) else .bad := callN_d (d := d_Fold___len__) rfl ⟨rfl, by decide⟩ rfl
theorem m_Fold___len__ (fn : Nat → List PV → RC) : (prog.tab fn).mode 10 = [false] := rfl
theorem n_Fold___len__ : prog.meth 6 10 = some 10 := rfl
theorem k_Fold_rows (n : Nat) (x0 : PV) : callN prog (n + 1) 12 [x0] = if okA [false] [x0] = true then finD [false] (evSs (prog.tab (callN prog n)) d_Fold_rows.body [some x0]) else .bad := callN_d (d := d_Fold_rows) rfl ⟨rfl, by decide⟩ rfl
theorem m_Fold_rows (fn : Nat → List PV → RC) : (prog.tab fn).mode 12 = [false] := rfl
theorem n_Fold_rows : prog.meth 6 12 = some 12 := rfl
theorem k_Fold_many (n : Nat) (x0 : PV) : callN prog (n + 1) 13 [x0] = if okA [false] [x0] = true then finD [false] (evSs (prog.tab (callN prog n)) d_Fold_many.body [some x0]) else .bad := callN_d (d := d_Fold_many) rfl ⟨rfl, by decide⟩ rfl
theorem m_Fold_many (fn : Nat → List PV → RC) : (prog.tab fn).mode 13 = [false] := rfl
theorem n_Fold_many : prog.meth 6 5 = some 13 := rfl
theorem k_Fold_size (n : Nat) (x0 : PV) : callN prog (n + 1) 14 [x0] = if okA [false] [x0] = true then finD [false] (evSs (prog.tab (callN prog n)) d_Fold_size.body [some x0]) else .bad := callN_d (d := d_Fold_size) rfl ⟨rfl, by decide⟩ rfl
theorem m_Fold_size (fn : Nat → List PV → RC) : (prog.tab fn).mode 14 = [false] := rfl
theorem n_Fold_size : prog.meth 6 8 = some 14 := rfl
theorem k_Fold_to (n : Nat) (x0 x1 : PV) : callN prog (n + 1) 15 [x0, x1] = if okA [false, false] [x0, x1] = true then finD [false, false] (evSs (prog.tab (callN prog n)) d_Fold_to.body [some x0, some x1]) else .bad := callN_d (d := d_Fold_to) rfl ⟨rfl, by decide⟩ rfl
theorem m_Fold_to (fn : Nat → List PV → RC) : (prog.tab fn).mode 15 = [false, false] := rfl
theorem n_Fold_to : prog.meth 6 6 = some 15 := rfl
theorem k_Fold_kernel (n : Nat) (x0 : PV) : callN prog (n + 1) 16 [x0] = if okA [false] [x0] = true then finD [false] (evSs (prog.tab (callN prog n)) d_Fold_kernel.body [some x0]) else .bad := callN_d (d := d_Fold_kernel) rfl ⟨rfl, by decide⟩ rfl
theorem m_Fold_kernel (fn : Nat → List PV → RC) : (prog.tab fn).mode 16 = [false] := rfl
theorem n_Fold_kernel : prog.meth 6 2 = some 16 := rfl
theorem k_Fold_onto (n : Nat) (x0 : PV) : callN prog (n + 1) 17 [x0] = if okA [false] [x0] = true then finD [false] (evSs (prog.tab (callN prog n)) d_Fold_onto.body [some x0]) else .bad := callN_d (d := d_Fold_onto) rfl ⟨rfl, by decide⟩ rfl
theorem m_Fold_onto (fn : Nat → List PV → RC) : (prog.tab fn).mode 17 = [false] := rfl
theorem n_Fold_onto : prog.meth 6 4 = some 17 := rfl
theorem k_Fold_least (n : Nat) (x0 x1 : PV) : callN prog (n + 1) 22 [x0, x1] = if okA [false, false] [x0, x1] = true then finD [false, false] (evSs (prog.tab (callN prog n)) d_Fold_least.body [some x0, some x1, none]) else .bad := callN_d (d := d_Fold_least) rfl ⟨rfl, by decide⟩ rfl
theorem m_Fold_least (fn : Nat → List PV → RC) : (prog.tab fn).mode 22 = [false, false] := rfl
theorem n_Fold_least : prog.meth 6 3 = some 22 := rfl
theorem k_Fold_back (n : Nat) (x0 : PV) : callN prog (n + 1) 23 [x0] = if okA [false] [x0] = true then finD [false] (evSs (prog.tab (callN prog n)) d_Fold_back.body [some x0, none]) else .bad := callN_d (d := d_Fold_back) rfl ⟨rfl, by decide⟩ rfl
theorem m_Fold_back (fn : Nat → List PV → RC) : (prog.tab fn).mode 23 = [false] := rfl
theorem n_Fold_back : prog.meth 6 7 = some 23 := rfl
theorem k_need_lanes (n : Nat) (x0 x1 : PV) : callN prog (n + 1) 24 [x0, x1] = if okA [false, false] [x0, x1] = true then finD [false, false] (evSs (prog.tab (callN prog n)) d_need_lanes.body [some x0, some x1]) else .bad := callN_d (d := d_need_lanes) rfl ⟨rfl, by decide⟩ rfl
theorem m_need_lanes (fn : Nat → List PV → RC) : (prog.tab fn).mode 24 = [false, false] := rfl
theorem k_steps_along (n : Nat) (x0 x1 x2 : PV) : callN prog (n + 1) 25 [x0, x1, x2] = if okA [false, false, false] [x0, x1, x2] = true then finD [false, false, false] (evSs (prog.tab (callN prog n)) d_steps_along.body [some x0, some x1, some x2, none, none, none, none, none, none, none, none, none, none, none]) else .bad := callN_d (d := d_steps_along) rfl ⟨rfl, by decide⟩ rfl
theorem m_steps_along (fn : Nat → List PV → RC) : (prog.tab fn).mode 25 = [false, false, false] := rfl
theorem k_gather (n : Nat) (x0 x1 x2 : PV) : callN prog (n + 1) 26 [x0, x1, x2] = if okA [false, false, false] [x0, x1, x2] = true then finD [false, false, false] (evSs (prog.tab (callN prog n)) d_gather.body [some x0, some x1, some x2, none, none]) else .bad := callN_d (d := d_gather) rfl ⟨rfl, by decide⟩ rfl
theorem m_gather (fn : Nat → List PV → RC) : (prog.tab fn).mode 26 = [false, false, false] := rfl
theorem k__law_box (n : Nat) (x0 : PV) : callN prog (n + 1) 27 [x0] = if okA [false] [x0] = true then finD [false] (evSs (prog.tab (callN prog n)) d__law_box.body [some x0]) else .bad := callN_d (d := d__law_box) rfl ⟨rfl, by decide⟩ rfl
theorem m__law_box (fn : Nat → List PV → RC) : (prog.tab fn).mode 27 = [false] := rfl
theorem k__law_take (n : Nat) (x0 x1 : PV) : callN prog (n + 1) 28 [x0, x1] = if okA [true, false] [x0, x1] = true then finD [true, false] (evSs (prog.tab (callN prog n)) d__law_take.body [some x0, some x1, none, none, none]) else .bad := callN_d (d := d__law_take) rfl ⟨rfl, by decide⟩ rfl
theorem m__law_take (fn : Nat → List PV → RC) : (prog.tab fn).mode 28 = [true, false] := rfl
theorem k__law_of (n : Nat) (x0 x1 : PV) : callN prog (n + 1) 29 [x0, x1] = if okA [true, false] [x0, x1] = true then finD [true, false] (evSs (prog.tab (callN prog n)) d__law_of.body [some x0, some x1]) else .bad := callN_d (d := d__law_of) rfl ⟨rfl, by decide⟩ rfl
theorem m__law_of (fn : Nat → List PV → RC) : (prog.tab fn).mode 29 = [true, false] := rfl
theorem k__law_shuffled (n : Nat) (x0 x1 : PV) : callN prog (n + 1) 30 [x0, x1] = if okA [true, false] [x0, x1] = true then finD [true, false] (evSs (prog.tab (callN prog n)) d__law_shuffled.body [some x0, some x1, none, none]) else .bad := callN_d (d := d__law_shuffled) rfl ⟨rfl, by decide⟩ rfl
theorem m__law_shuffled (fn : Nat → List PV → RC) : (prog.tab fn).mode 30 = [true, false] := rfl
theorem k__law_span (n : Nat) (x0 : PV) : callN prog (n + 1) 31 [x0] = if okA [false] [x0] = true then finD [false] (evSs (prog.tab (callN prog n)) d__law_span.body [some x0, none, none, none]) else .bad := callN_d (d := d__law_span) rfl ⟨rfl, by decide⟩ rfl
theorem m__law_span (fn : Nat → List PV → RC) : (prog.tab fn).mode 31 = [false] := rfl
theorem k__law_numbers (n : Nat) (x0 x1 x2 : PV) : callN prog (n + 1) 32 [x0, x1, x2] = if okA [true, false, false] [x0, x1, x2] = true then finD [true, false, false] (evSs (prog.tab (callN prog n)) d__law_numbers.body [some x0, some x1, some x2, none]) else .bad := callN_d (d := d__law_numbers) rfl ⟨rfl, by decide⟩ rfl
theorem m__law_numbers (fn : Nat → List PV → RC) : (prog.tab fn).mode 32 = [true, false, false] := rfl
theorem k__law_images (n : Nat) (x0 : PV) : callN prog (n + 1) 33 [x0] = if okA [false] [x0] = true then finD [false] (evSs (prog.tab (callN prog n)) d__law_images.body [some x0, none, none, none]) else .bad := callN_d (d := d__law_images) rfl ⟨rfl, by decide⟩ rfl
theorem m__law_images (fn : Nat → List PV → RC) : (prog.tab fn).mode 33 = [false] := rfl
theorem k__law_lines (n : Nat) (x0 x1 x2 : PV) : callN prog (n + 1) 34 [x0, x1, x2] = if okA [true, false, false] [x0, x1, x2] = true then finD [true, false, false] (evSs (prog.tab (callN prog n)) d__law_lines.body [some x0, some x1, some x2, none, none, none, none, none, none]) else .bad := callN_d (d := d__law_lines) rfl ⟨rfl, by decide⟩ rfl
theorem m__law_lines (fn : Nat → List PV → RC) : (prog.tab fn).mode 34 = [true, false, false] := rfl
theorem k__law_two_spreads (n : Nat) (x0 : PV) : callN prog (n + 1) 35 [x0] = if okA [true] [x0] = true then finD [true] (evSs (prog.tab (callN prog n)) d__law_two_spreads.body [some x0, none, none, none, none, none, none, none]) else .bad := callN_d (d := d__law_two_spreads) rfl ⟨rfl, by decide⟩ rfl
theorem m__law_two_spreads (fn : Nat → List PV → RC) : (prog.tab fn).mode 35 = [true] := rfl
theorem k__law_reached (n : Nat) (x0 x1 x2 x3 : PV) : callN prog (n + 1) 36 [x0, x1, x2, x3] = if okA [false, false, false, false] [x0, x1, x2, x3] = true then finD [false, false, false, false] (evSs (prog.tab (callN prog n)) d__law_reached.body [some x0, some x1, some x2, some x3, none, none, none, none]) else .bad := callN_d (d := d__law_reached) rfl ⟨rfl, by decide⟩ rfl
theorem m__law_reached (fn : Nat → List PV → RC) : (prog.tab fn).mode 36 = [false, false, false, false] := rfl
theorem k_law (n : Nat) (x0 : PV) : callN prog (n + 1) 37 [x0] = if okA [false] [x0] = true then finD [false] (evSs (prog.tab (callN prog n)) d_law.body [some x0, none, none, none, none, none, none, none, none, none, none, none, none, none, none, none, none, none, none, none, none, none, none]) else .bad := callN_d (d := d_law) rfl ⟨rfl, by decide⟩ rfl
theorem m_law (fn : Nat → List PV → RC) : (prog.tab fn).mode 37 = [false] := rfl
theorem g_0 : prog.glb 0 = some (.int 12) := rfl
theorem l_6_1 : prog.fld 6 1 = true := of_eq_true (eq_true rfl)
theorem l_6_0 : prog.fld 6 0 = true := of_eq_true (eq_true rfl)
theorem mg_var {i} : (Ex.var i).mg = none := rfl
theorem mg_mv {i} : (Ex.mv i).mg = none := rfl
theorem mg_cint {n} : (Ex.cint n).mg = none := rfl
theorem mg_cbool {b} : (Ex.cbool b).mg = none := rfl
theorem mg_cnon  : (Ex.cnon).mg = none := rfl
theorem mg_cstr {s} : (Ex.cstr s).mg = none := rfl
theorem mg_glb {g} : (Ex.glb g).mg = none := rfl
theorem mg_bin {o} {a} {b} : (Ex.bin o a b).mg = none := rfl
theorem mg_neg {a} : (Ex.neg a).mg = none := rfl
theorem mg_cmp {o} {a} {b} : (Ex.cmp o a b).mg = none := rfl
theorem mg_chn {o} {p} {a} {b} {c} : (Ex.chn o p a b c).mg = none := rfl
theorem mg_one {a} : (Ex.one a).mg = none := rfl
theorem mg_and {a} {b} : (Ex.and a b).mg = none := rfl
theorem mg_or {a} {b} : (Ex.or a b).mg = none := rfl
theorem mg_not {a} : (Ex.not a).mg = none := rfl
theorem mg_ife {c} {a} {b} : (Ex.ife c a b).mg = none := rfl
theorem mg_lst {es} : (Ex.lst es).mg = none := rfl
theorem mg_tup {es} : (Ex.tup es).mg = none := rfl
theorem mg_dct0  : (Ex.dct0).mg = none := rfl
theorem mg_idx {a} {i} : (Ex.idx a i).mg = none := rfl
theorem mg_slc {a} {lo} {hi} : (Ex.slc a lo hi).mg = none := rfl
theorem mg_rev {a} : (Ex.rev a).mg = none := rfl
theorem mg_fld {a} {f} : (Ex.fld a f).mg = none := rfl
theorem mg_call {f} {es} {ks} : (Ex.call f es ks).mg = none := rfl
theorem mg_meth {m} {a} {es} {ks} : (Ex.meth m a es ks).mg = none := rfl
theorem mg_methm {m} {i} {es} {ks} : (Ex.methm m i es ks).mg = none := rfl
theorem mg_make {C} {es} {ks} : (Ex.make C es ks).mg = none := rfl
theorem mg_bf {b} {es} : (Ex.bf b es).mg = none := rfl
theorem mg_bm {b} {a} {es} : (Ex.bm b a es).mg = none := rfl
theorem mg_com {elt} {own} {t} {it} {cond} : (Ex.com elt own t it cond).mg = none := rfl
theorem mg_rd {p} : (Ex.rd p).mg = none := rfl
theorem mg_lenp {p} : (Ex.lenp p).mg = none := rfl
theorem mg_inp {n} {e} {p} : (Ex.inp n e p).mg = none := rfl
theorem mg_marg {i} : (Ex.marg i).mg = some i := rfl
theorem FACTS : (type_of% @m_top_of) ∧ (type_of% @m_blended) ∧ (type_of% @m_picked) ∧ (type_of% @m_reduced) ∧ (type_of% @m_basis_of) ∧ (type_of% @m_traced) ∧ (type_of% @m_trail_to) ∧ (type_of% @m_Fold___init__) ∧ (type_of% @n_Fold___init__) ∧ (type_of% @m_Fold___eq__) ∧ (type_of% @n_Fold___eq__) ∧ (type_of% @m_Fold___len__) ∧ (type_of% @n_Fold___len__) ∧ (type_of% @m_Fold_rows) ∧ (type_of% @n_Fold_rows) ∧ (type_of% @m_Fold_many) ∧ (type_of% @n_Fold_many) ∧ (type_of% @m_Fold_size) ∧ (type_of% @n_Fold_size) ∧ (type_of% @m_Fold_to) ∧ (type_of% @n_Fold_to) ∧ (type_of% @m_Fold_kernel) ∧ (type_of% @n_Fold_kernel) ∧ (type_of% @m_Fold_onto) ∧ (type_of% @n_Fold_onto) ∧ (type_of% @m_Fold_least) ∧ (type_of% @n_Fold_least) ∧ (type_of% @m_Fold_back) ∧ (type_of% @n_Fold_back) ∧ (type_of% @m_need_lanes) ∧ (type_of% @m_steps_along) ∧ (type_of% @m_gather) ∧ (type_of% @m__law_box) ∧ (type_of% @m__law_take) ∧ (type_of% @m__law_of) ∧ (type_of% @m__law_shuffled) ∧ (type_of% @m__law_span) ∧ (type_of% @m__law_numbers) ∧ (type_of% @m__law_images) ∧ (type_of% @m__law_lines) ∧ (type_of% @m__law_two_spreads) ∧ (type_of% @m__law_reached) ∧ (type_of% @m_law) ∧ (type_of% @g_0) ∧ (type_of% @l_6_1) ∧ (type_of% @l_6_0) ∧ (type_of% @mg_var) ∧ (type_of% @mg_mv) ∧ (type_of% @mg_cint) ∧ (type_of% @mg_cbool) ∧ (type_of% @mg_cnon) ∧ (type_of% @mg_cstr) ∧ (type_of% @mg_glb) ∧ (type_of% @mg_bin) ∧ (type_of% @mg_neg) ∧ (type_of% @mg_cmp) ∧ (type_of% @mg_chn) ∧ (type_of% @mg_one) ∧ (type_of% @mg_and) ∧ (type_of% @mg_or) ∧ (type_of% @mg_not) ∧ (type_of% @mg_ife) ∧ (type_of% @mg_lst) ∧ (type_of% @mg_tup) ∧ (type_of% @mg_dct0) ∧ (type_of% @mg_idx) ∧ (type_of% @mg_slc) ∧ (type_of% @mg_rev) ∧ (type_of% @mg_fld) ∧ (type_of% @mg_call) ∧ (type_of% @mg_meth) ∧ (type_of% @mg_methm) ∧ (type_of% @mg_make) ∧ (type_of% @mg_bf) ∧ (type_of% @mg_bm) ∧ (type_of% @mg_com) ∧ (type_of% @mg_rd) ∧ (type_of% @mg_lenp) ∧ (type_of% @mg_inp) ∧ (type_of% @mg_marg) :=
  ⟨@m_top_of, @m_blended, @m_picked, @m_reduced, @m_basis_of, @m_traced, @m_trail_to, @m_Fold___init__, @n_Fold___init__, @m_Fold___eq__, @n_Fold___eq__, @m_Fold___len__, @n_Fold___len__, @m_Fold_rows, @n_Fold_rows, @m_Fold_many, @n_Fold_many, @m_Fold_size, @n_Fold_size, @m_Fold_to, @n_Fold_to, @m_Fold_kernel, @n_Fold_kernel, @m_Fold_onto, @n_Fold_onto, @m_Fold_least, @n_Fold_least, @m_Fold_back, @n_Fold_back, @m_need_lanes, @m_steps_along, @m_gather, @m__law_box, @m__law_take, @m__law_of, @m__law_shuffled, @m__law_span, @m__law_numbers, @m__law_images, @m__law_lines, @m__law_two_spreads, @m__law_reached, @m_law, @g_0, @l_6_1, @l_6_0, @mg_var, @mg_mv, @mg_cint, @mg_cbool, @mg_cnon, @mg_cstr, @mg_glb, @mg_bin, @mg_neg, @mg_cmp, @mg_chn, @mg_one, @mg_and, @mg_or, @mg_not, @mg_ife, @mg_lst, @mg_tup, @mg_dct0, @mg_idx, @mg_slc, @mg_rev, @mg_fld, @mg_call, @mg_meth, @mg_methm, @mg_make, @mg_bf, @mg_bm, @mg_com, @mg_rd, @mg_lenp, @mg_inp, @mg_marg⟩
end K54
namespace K54
open PySem Z GF
/-! the digits' defs, read -/
theorem r_top_of (n a : Nat) (h : 0 < a) (hb : a.log2 ≤ 1000000) : callN prog (n + 1) 1 [.int (a : Int)] = .ret (.int ((2 ^ a.log2 : Nat) : Int)) [] := by
  have h' : a ≠ 0 := by omega
  have h1 : 1 ≤ a.log2 + 1 := by omega
  rw [k_top_of]
  simp only [d_top_of, ZR, List.set_cons_zero, List.set_cons_succ, Option.map_some, if_true, if_false, List.cons_append, List.nil_append, List.append_nil, Nat.reduceEqDiff, Nat.reduceLT, Nat.reduceLeDiff, Nat.reduceAdd, List.length_cons, List.length_nil, m_bits h', b_sub h1, Nat.add_sub_cancel, b_shl1 hb]
theorem g_blended (n : Nat) {x : PV} {xs : List Nat} (hx : IsNs x xs) : callN prog (n + 1) 2 [x] = .ret (.int ((xs.foldl (· ^^^ ·) 0 : Nat) : Int)) [] := by
  rw [k_blended]
  simp only [d_blended, ZR, List.set_cons_zero, List.set_cons_succ, Option.map_some, if_true, if_false, List.cons_append, List.nil_append, List.append_nil, Nat.reduceEqDiff, Nat.reduceLT, Nat.reduceLeDiff, Nat.reduceAdd, List.length_cons, List.length_nil, hx.frz, hx.fz, hx.items]
  rw [loopF_ns (fun s => [some x, some (.int ((s : Nat) : Int)), none]) (· ^^^ ·) (fun _ => True) xs 0 ?_ trivial fun s x _ _ => ?_]
  · simp only [ZR, List.set_cons_zero, List.set_cons_succ, Option.map_some, if_true, if_false, List.cons_append, List.nil_append, List.append_nil, Nat.reduceEqDiff, Nat.reduceLT, Nat.reduceLeDiff, Nat.reduceAdd, List.length_cons, List.length_nil]
  · rfl
  · simp only [ZR, List.set_cons_zero, List.set_cons_succ, Option.map_some, if_true, if_false, List.cons_append, List.nil_append, List.append_nil, Nat.reduceEqDiff, Nat.reduceLT, Nat.reduceLeDiff, Nat.reduceAdd, List.length_cons, List.length_nil, and_true]
theorem r_blended (n : Nat) (xs : List Nat) : callN prog (n + 1) 2 [.lst false (nsP xs)] = .ret (.int ((xs.foldl (· ^^^ ·) 0 : Nat) : Int)) [] := g_blended n (isNs_l xs)
theorem r_blended_t (n : Nat) (xs : List Nat) : callN prog (n + 1) 2 [.tup (nsP xs)] = .ret (.int ((xs.foldl (· ^^^ ·) 0 : Nat) : Int)) [] := g_blended n (isNs_t xs)
/-- few digits -/
def Few (x : Nat) : Prop := 0 < x ∧ x.log2 ≤ 1000000
theorem r_reduced (n one : Nat) (xs : List Nat) (h : ∀ x ∈ xs, Few x) : callN prog (n + 2) 4 [.int (one : Int), .lst false (nsP xs)] = .ret (.int ((redu one xs : Nat) : Int)) [] := by
  rw [k_reduced]
  simp only [d_reduced, ZR, List.set_cons_zero, List.set_cons_succ, Option.map_some, if_true, if_false, List.cons_append, List.nil_append, List.append_nil, Nat.reduceEqDiff, Nat.reduceLT, Nat.reduceLeDiff, Nat.reduceAdd, List.length_cons, List.length_nil]
  rw [loopF_ns (fun s => [some (.int (one : Int)), some (.lst false (nsP xs)), some (.int ((s : Nat) : Int)), none]) rst (fun _ => True) xs one ?_ trivial fun s x hx _ => ?_]
  · simp only [ZR, List.set_cons_zero, List.set_cons_succ, Option.map_some, if_true, if_false, List.cons_append, List.nil_append, List.append_nil, Nat.reduceEqDiff, Nat.reduceLT, Nat.reduceLeDiff, Nat.reduceAdd, List.length_cons, List.length_nil]; rfl
  · rfl
  · simp only [ZR, List.set_cons_zero, List.set_cons_succ, Option.map_some, if_true, if_false, List.cons_append, List.nil_append, List.append_nil, Nat.reduceEqDiff, Nat.reduceLT, Nat.reduceLeDiff, Nat.reduceAdd, List.length_cons, List.length_nil, FACTS, r_top_of n x (h x hx).1 (h x hx).2, and_top, and_true]
    unfold rst
    split <;> simp only [ZR, List.set_cons_zero, List.set_cons_succ, Option.map_some, if_true, if_false, List.cons_append, List.nil_append, List.append_nil, Nat.reduceEqDiff, Nat.reduceLT, Nat.reduceLeDiff, Nat.reduceAdd, List.length_cons, List.length_nil, *]
theorem comb_pick (number : Nat) : ∀ (xs : List Nat) (k : Nat), ((xs.zipIdx k).filter fun q => number.testBit q.2).map (·.1) = (xs.zipIdx k).filterMap fun q => if number.testBit q.2 then some q.1 else none
  | [], k => rfl
  | x :: xs, k => by
    rw [List.zipIdx_cons, List.filter_cons, List.filterMap_cons, ← comb_pick number xs (k + 1)]
    cases h : number.testBit k <;> simp [h]
theorem comb_fold (number : Nat) : ∀ (xs : List Nat) (k a : Nat), (((xs.zipIdx k).filter fun q => number.testBit q.2).map (·.1)).foldl (· ^^^ ·) a = a ^^^ comb xs (number >>> k)
  | [], k, a => by simp [comb]
  | x :: xs, k, a => by
    rw [List.zipIdx_cons, List.filter_cons]
    have e : number >>> k / 2 = number >>> (k + 1) := by rw [Nat.shiftRight_add]; rfl
    have e2 : (number >>> k).testBit 0 = number.testBit k := by rw [Nat.testBit_shiftRight]; simp
    unfold comb
    rw [e, e2]
    cases h : number.testBit k
    · simp only [Bool.false_eq_true, if_false]
      rw [comb_fold number xs (k + 1) a, Nat.zero_xor]
    · simp only [if_true, List.map_cons, List.foldl_cons]
      rw [comb_fold number xs (k + 1) _, Nat.xor_assoc]
theorem g_picked (n : Nat) {x : PV} {xs : List Nat} (hx : IsNs x xs) (number : Nat) (hl : xs.length ≤ 10000) : callN prog (n + 2) 3 [x, .int (number : Int)] = .ret (.int ((comb xs number : Nat) : Int)) [] := by
  rw [k_picked]
  have hl' : xs.zipIdx.length ≤ lineB := by rw [List.length_zipIdx]; exact Nat.le_trans hl (by decide)
  simp only [d_picked, ZR, List.set_cons_zero, List.set_cons_succ, Option.map_some, if_true, if_false, List.cons_append, List.nil_append, List.append_nil, Nat.reduceEqDiff, Nat.reduceLT, Nat.reduceLeDiff, Nat.reduceAdd, List.length_cons, List.length_nil, hx.frz, hx.fz, hx.items, enum_ns]
  rw [comR_filter (fun q : Nat × Nat => .tup [.int (q.2 : Int), .int (q.1 : Int)]) (fun q : Nat × Nat => .int (q.1 : Int)) (fun q : Nat × Nat => number.testBit q.2) _ hl' fun q hq => ?_]
  · rw [← nsP_map]
    simp only [ZR, List.set_cons_zero, List.set_cons_succ, Option.map_some, if_true, if_false, List.cons_append, List.nil_append, List.append_nil, Nat.reduceEqDiff, Nat.reduceLT, Nat.reduceLeDiff, Nat.reduceAdd, List.length_cons, List.length_nil, FACTS, r_blended]
    rw [comb_fold]; simp
  · unfold turnC
    simp only [ZR, List.set_cons_zero, List.set_cons_succ, Option.map_some, if_true, if_false, List.cons_append, List.nil_append, List.append_nil, Nat.reduceEqDiff, Nat.reduceLT, Nat.reduceLeDiff, Nat.reduceAdd, List.length_cons, List.length_nil, shr_and_one]
    split <;> simp only [ZR, List.set_cons_zero, List.set_cons_succ, Option.map_some, if_true, if_false, List.cons_append, List.nil_append, List.append_nil, Nat.reduceEqDiff, Nat.reduceLT, Nat.reduceLeDiff, Nat.reduceAdd, List.length_cons, List.length_nil, *]
theorem r_picked (n : Nat) (xs : List Nat) (number : Nat) (hl : xs.length ≤ 10000) : callN prog (n + 2) 3 [.tup (nsP xs), .int (number : Int)] = .ret (.int ((comb xs number : Nat) : Int)) [] := g_picked n (isNs_t xs) number hl
theorem r_picked_l (n : Nat) (xs : List Nat) (number : Nat) (hl : xs.length ≤ 10000) : callN prog (n + 2) 3 [.lst false (nsP xs), .int (number : Int)] = .ret (.int ((comb xs number : Nat) : Int)) [] := g_picked n (isNs_l xs) number hl

end K54
namespace K54
open PySem Z GF
theorem few_of {x : Nat} (h : x ≠ 0) (hb : x < 2 ^ 200) : Few x := ⟨by omega, by have := (Nat.log2_lt h).mpr hb; omega⟩
def BP (B : List Nat) : Prop := Red B ∧ ∀ b ∈ B, b < 2 ^ 200
theorem BP.few {B : List Nat} (h : BP B) : ∀ b ∈ B, Few b := fun b hb => few_of (h.1.pos b hb) (h.2 b hb)
theorem BP.len {B : List Nat} (h : BP B) : B.length ≤ 200 := h.1.len h.2
theorem BP.bst {B : List Nat} {x : Nat} (h : BP B) (hx : x < 2 ^ 200) : BP (bst B x) := ⟨red_bst h.1, fun b hb => (sp_bst.mp (.mem hb)).lt fun y hy => by
  rcases List.mem_cons.mp hy with rfl | hy
  · exact hx
  · exact h.2 y hy⟩
theorem BP.nil : BP [] := ⟨.nil, fun _ h => nomatch h⟩
theorem g_basis_of (n : Nat) {w : PV} {xs : List Nat} (hw : IsNs w xs) (h : ∀ x ∈ xs, x < 2 ^ 200) : callN prog (n + 3) 5 [w] = .ret (.lst true (nsP (bas xs))) [] := by
  rw [k_basis_of]
  simp only [d_basis_of, ZR, List.set_cons_zero, List.set_cons_succ, Option.map_some, if_true, if_false, List.cons_append, List.nil_append, List.append_nil, Nat.reduceEqDiff, Nat.reduceLT, Nat.reduceLeDiff, Nat.reduceAdd, List.length_cons, List.length_nil, hw.frz, hw.fz, hw.items]
  rw [loopF_ns (fun s => [some w, some (.lst false (nsP s)), none, none, none, none]) bst BP xs [] ?_ BP.nil fun s x hx hs => ?_]
  · simp only [ZR, List.set_cons_zero, List.set_cons_succ, Option.map_some, if_true, if_false, List.cons_append, List.nil_append, List.append_nil, Nat.reduceEqDiff, Nat.reduceLT, Nat.reduceLeDiff, Nat.reduceAdd, List.length_cons, List.length_nil]; rfl
  · rfl
  · refine ⟨?_, hs.bst (h x hx)⟩
    have hlt : redu x s < 2 ^ 200 := redu_lt hs.2 (h x hx)
    simp only [ZR, List.set_cons_zero, List.set_cons_succ, Option.map_some, if_true, if_false, List.cons_append, List.nil_append, List.append_nil, Nat.reduceEqDiff, Nat.reduceLT, Nat.reduceLeDiff, Nat.reduceAdd, List.length_cons, List.length_nil, FACTS, r_reduced _ _ _ hs.few]
    unfold bst
    generalize redu x s = left at *
    by_cases c : left = 0
    · have c' : ¬ 0 < left := by omega
      simp only [c, c', ZR, List.set_cons_zero, List.set_cons_succ, Option.map_some, if_true, if_false, List.cons_append, List.nil_append, List.append_nil, Nat.reduceEqDiff, Nat.reduceLT, Nat.reduceLeDiff, Nat.reduceAdd, List.length_cons, List.length_nil, Nat.lt_irrefl]
    · have c' : 0 < left := by omega
      simp only [c', ZR, List.set_cons_zero, List.set_cons_succ, Option.map_some, if_true, if_false, List.cons_append, List.nil_append, List.append_nil, Nat.reduceEqDiff, Nat.reduceLT, Nat.reduceLeDiff, Nat.reduceAdd, List.length_cons, List.length_nil, FACTS, r_top_of _ _ (few_of c hlt).1 (few_of c hlt).2]
      rw [comR_ns (widf left) s (Nat.le_trans hs.len (by decide)) fun y hy => ?_]
      · have hb := binop_ll true true (xs := nsP (s.map (widf left))) (ys := nsP [left]) (by rw [nsP_length, nsP_length]; have := hs.len; simp; unfold lineB; omega) (frzL_ns _) (frzL_ns _)
        rw [nsP_cons, nsP_nil] at hb
        simp only [ZR, List.set_cons_zero, List.set_cons_succ, Option.map_some, if_true, if_false, List.cons_append, List.nil_append, List.append_nil, Nat.reduceEqDiff, Nat.reduceLT, Nat.reduceLeDiff, Nat.reduceAdd, List.length_cons, List.length_nil, hb, c, wid_eq, nsP_append, nsP_cons, nsP_nil]
        rw [← nsP_nil, ← nsP_cons, ← nsP_append]
        simp only [ZR, List.set_cons_zero, List.set_cons_succ, Option.map_some, if_true, if_false, List.cons_append, List.nil_append, List.append_nil, Nat.reduceEqDiff, Nat.reduceLT, Nat.reduceLeDiff, Nat.reduceAdd, List.length_cons, List.length_nil]
      · unfold turnC
        simp only [ZR, List.set_cons_zero, List.set_cons_succ, Option.map_some, if_true, if_false, List.cons_append, List.nil_append, List.append_nil, Nat.reduceEqDiff, Nat.reduceLT, Nat.reduceLeDiff, Nat.reduceAdd, List.length_cons, List.length_nil, and_top]
        unfold widf
        split <;> simp only [ZR, List.set_cons_zero, List.set_cons_succ, Option.map_some, if_true, if_false, List.cons_append, List.nil_append, List.append_nil, Nat.reduceEqDiff, Nat.reduceLT, Nat.reduceLeDiff, Nat.reduceAdd, List.length_cons, List.length_nil, *]
theorem r_basis_of (n : Nat) (xs : List Nat) (h : ∀ x ∈ xs, x < 2 ^ 200) : callN prog (n + 3) 5 [.lst false (nsP xs)] = .ret (.lst true (nsP (bas xs))) [] := g_basis_of n (isNs_l xs) h
theorem r_basis_of_t (n : Nat) (xs : List Nat) (h : ∀ x ∈ xs, x < 2 ^ 200) : callN prog (n + 3) 5 [.tup (nsP xs)] = .ret (.lst true (nsP (bas xs))) [] := g_basis_of n (isNs_t xs) h

end K54
namespace K54
open PySem Z GF
/-! traced, trail_to -/
/-- what stands at each turn of traced -/
structure TP (xs : List Nat) (s : List (Nat × Nat) × List Nat) : Prop where
  red : Red (s.1.map (·.1))
  lt : ∀ o ∈ s.1, o.1 < 2 ^ 200
  len : s.1.length ≤ 200
  ilen : s.2.length ≤ xs.length
theorem loop_rst2 (n : Nat) (E : Nat × Nat → Z.Env) {t : Pat} {kill : List Nat} {body : Z.Env → Fl} {env : Z.Env} (B : List (Nat × Nat)) (l : Nat × Nat) (he : env = E l)
    (h : ∀ s x, x ∈ B → (onP (bindP t (.tup [.int (x.1 : Int), .int (x.2 : Int)]) (E s)) fun e1 => nxt (body e1) fun e2 => .nx (kil e2 kill)) = .nx (E (rst2 s x))) :
    loopF t kill body (prP B) env = .nx (E (redu2 l B)) := loopF_pr E rst2 (fun _ => True) B l he trivial fun s x hx _ => ⟨h s x hx, trivial⟩
theorem redu2_lt {B : List (Nat × Nat)} {v : Nat × Nat} {m : Nat} (hb : ∀ b ∈ B, b.1 < 2 ^ m) (hv : v.1 < 2 ^ m) : (redu2 v B).1 < 2 ^ m := by
  rw [redu2_fst]
  exact redu_lt (fun b hb' => by obtain ⟨o, ho, rfl⟩ := List.mem_map.mp hb'; exact hb o ho) hv
theorem TP.step {xs : List Nat} {s : List (Nat × Nat) × List Nat} (t : TP xs s) {q : Nat × Nat} (hq : q.1 < 2 ^ 200) (hi : s.2.length < xs.length) : TP xs (tst s q) := by
  have rb := red_bst (one := q.1) t.red
  have hfst := redu2_fst s.1 (q.1, 2 ^ q.2)
  have hlt := redu2_lt (v := (q.1, 2 ^ q.2)) t.lt hq
  unfold tst
  unfold bst at rb
  simp only at hfst hlt ⊢
  rw [← hfst] at rb
  generalize redu2 (q.1, 2 ^ q.2) s.1 = l at *
  by_cases c : l.1 = 0
  · simp only [c, if_true]
    exact ⟨t.red, t.lt, t.len, by simp; omega⟩
  · simp only [c, if_false] at rb ⊢
    have pm : (wid l.1 (s.1.map (·.1)) ++ [l.1]).Perm ((l :: wid2 l s.1).map (·.1)) := by
      rw [List.map_cons, wid2_fst]; exact List.perm_append_comm
    have r2 := rb.perm pm
    have l2 : ∀ o ∈ l :: wid2 l s.1, o.1 < 2 ^ 200 := fun o ho => by
      rcases List.mem_cons.mp ho with rfl | ho
      · exact hlt
      · obtain ⟨p, hp, rfl⟩ := List.mem_map.mp ho
        split
        · exact Nat.xor_lt_two_pow (t.lt p hp) hlt
        · exact t.lt p hp
    refine ⟨r2, l2, ?_, t.ilen⟩
    have := r2.len (m := 200) fun b hb => by obtain ⟨o, ho, rfl⟩ := List.mem_map.mp hb; exact l2 o ho
    simpa using this
theorem TP.few {xs : List Nat} {s : List (Nat × Nat) × List Nat} (t : TP xs s) : ∀ o ∈ s.1, Few o.1 := fun o ho => few_of (t.red.pos _ (List.mem_map_of_mem (f := (·.1)) ho)) (t.lt o ho)
theorem g_traced (n : Nat) {w : PV} {xs : List Nat} (hw : IsNs w xs) (h : ∀ x ∈ xs, x < 2 ^ 200) (hl : xs.length ≤ 1000) : callN prog (n + 2) 6 [w] = .ret (.tup [.lst false (prP (trc xs).1), .lst true (nsP (trc xs).2)]) [] := by
  rw [k_traced]
  simp only [d_traced, ZR, List.set_cons_zero, List.set_cons_succ, Option.map_some, if_true, if_false, List.cons_append, List.nil_append, List.append_nil, Nat.reduceEqDiff, Nat.reduceLT, Nat.reduceLeDiff, Nat.reduceAdd, List.length_cons, List.length_nil, hw.frz, hw.fz, hw.items, enum_ns]
  rw [loopF_iv (fun q : Nat × Nat => PV.tup [.int ((q.2 : Nat) : Int), .int ((q.1 : Nat) : Int)]) (fun pre => [some w, some (.lst false (prP (pre.foldl tst ([], [])).1)), some (.lst true (nsP (pre.foldl tst ([], [])).2)), none, none, none, none, none, none, none, none]) xs.zipIdx ?_ fun pre q suf e => ?_]
  · simp only [ZR, List.set_cons_zero, List.set_cons_succ, Option.map_some, if_true, if_false, List.cons_append, List.nil_append, List.append_nil, Nat.reduceEqDiff, Nat.reduceLT, Nat.reduceLeDiff, Nat.reduceAdd, List.length_cons, List.length_nil]; rfl
  · rfl
  · have tp : TP xs (pre.foldl tst ([], [])) := by
      have aux : ∀ (pre : List (Nat × Nat)) (s : List (Nat × Nat) × List Nat), (∀ q ∈ pre, q.1 < 2 ^ 200) → s.2.length + pre.length ≤ xs.length → TP xs s → TP xs (pre.foldl tst s) ∧ (pre.foldl tst s).2.length ≤ s.2.length + pre.length := by
        intro pre
        induction pre with
        | nil => intro s _ _ t; exact ⟨t, Nat.le_refl _⟩
        | cons p pre ih =>
          intro s hp hlen t
          simp only [List.length_cons] at hlen
          have t2 := t.step (hp p List.mem_cons_self) (by omega)
          have l2 : (tst s p).2.length ≤ s.2.length + 1 := by unfold tst; dsimp only; split <;> simp
          have := ih (tst s p) (fun q hq => hp q (List.mem_cons_of_mem _ hq)) (by omega) t2
          exact ⟨this.1, by simp only [List.foldl_cons, List.length_cons]; omega⟩
      refine (aux pre ([], []) (fun q hq => ?_) ?_ ⟨.nil, (fun _ h => nomatch h), by simp, by simp⟩).1
      · have : q ∈ xs.zipIdx := by rw [e]; exact List.mem_append_left _ hq
        exact h _ (List.fst_mem_of_mem_zipIdx this)
      · have := congrArg List.length e
        simp at this ⊢; omega
    have hq : q ∈ xs.zipIdx := by rw [e]; simp
    have hq1 := h _ (List.fst_mem_of_mem_zipIdx hq)
    have hq2 : q.2 < xs.length := by have := List.snd_lt_of_mem_zipIdx hq; simpa using this
    have hil : (pre.foldl tst ([], [])).2.length < lineB := Nat.lt_of_le_of_lt tp.ilen (Nat.lt_of_le_of_lt hl (by decide))
    rw [List.foldl_append, List.foldl_cons, List.foldl_nil]
    generalize pre.foldl tst ([], []) = s at *
    simp only [ZR, List.set_cons_zero, List.set_cons_succ, Option.map_some, if_true, if_false, List.cons_append, List.nil_append, List.append_nil, Nat.reduceEqDiff, Nat.reduceLT, Nat.reduceLeDiff, Nat.reduceAdd, List.length_cons, List.length_nil, b_shl1 (show q.2 ≤ 1000000 by omega)]
    rw [loop_rst2 n (fun l => [some w, some (.lst false (prP s.1)), some (.lst true (nsP s.2)), some (.int (q.2 : Int)), some (.int (q.1 : Int)), some (.int (l.1 : Int)), some (.int (l.2 : Int)), none, none, none, none]) s.1 (q.1, 2 ^ q.2) rfl fun l x hx => ?_]
    · have hlt := redu2_lt (v := (q.1, 2 ^ q.2)) tp.lt hq1
      unfold tst
      generalize redu2 (q.1, 2 ^ q.2) s.1 = l at *
      by_cases c : l.1 = 0
      · simp only [ZR, List.set_cons_zero, List.set_cons_succ, Option.map_some, if_true, if_false, List.cons_append, List.nil_append, List.append_nil, Nat.reduceEqDiff, Nat.reduceLT, Nat.reduceLeDiff, Nat.reduceAdd, List.length_cons, List.length_nil, c, m_append _ (show (nsP s.2).length < lineB by rw [nsP_length]; exact hil), nsP_append, nsP_cons, nsP_nil]
      · simp only [ZR, List.set_cons_zero, List.set_cons_succ, Option.map_some, if_true, if_false, List.cons_append, List.nil_append, List.append_nil, Nat.reduceEqDiff, Nat.reduceLT, Nat.reduceLeDiff, Nat.reduceAdd, List.length_cons, List.length_nil, FACTS, c, r_top_of _ _ (few_of c hlt).1 (few_of c hlt).2]
        rw [loopF_prI (fun pre => [some w, some (.lst false (prP s.1)), some (.lst true (nsP s.2)), some (.int (q.2 : Int)), some (.int (q.1 : Int)), some (.int (l.1 : Int)), some (.int (l.2 : Int)), none, none, some (.int ((2 ^ l.1.log2 : Nat) : Int)), some (.lst true (prP (l :: wid2 l pre)))]) s.1 ?_ fun pr x suf ex => ?_]
        · simp only [ZR, List.set_cons_zero, List.set_cons_succ, Option.map_some, if_true, if_false, List.cons_append, List.nil_append, List.append_nil, Nat.reduceEqDiff, Nat.reduceLT, Nat.reduceLeDiff, Nat.reduceAdd, List.length_cons, List.length_nil]
        · rfl
        · have hwl : (prP (l :: wid2 l pr)).length < lineB := by
            have := congrArg List.length ex
            have t2 := tp.len
            rw [prP_length]
            unfold wid2 lineB
            simp at this ⊢; omega
          rw [prP_cons] at hwl
          have ew : wid2 l (pr ++ [x]) = wid2 l pr ++ [if x.1.testBit l.1.log2 then (x.1 ^^^ l.1, x.2 ^^^ l.2) else x] := by unfold wid2; rw [List.map_append]; rfl
          rw [ew]
          by_cases cc : x.1.testBit l.1.log2 = true
          · simp only [ZR, List.set_cons_zero, List.set_cons_succ, Option.map_some, if_true, if_false, List.cons_append, List.nil_append, List.append_nil, Nat.reduceEqDiff, Nat.reduceLT, Nat.reduceLeDiff, Nat.reduceAdd, List.length_cons, List.length_nil, and_top, cc, m_append _ hwl, prP_append, prP_cons, prP_nil]
          · simp only [ZR, List.set_cons_zero, List.set_cons_succ, Option.map_some, if_true, if_false, List.cons_append, List.nil_append, List.append_nil, Nat.reduceEqDiff, Nat.reduceLT, Nat.reduceLeDiff, Nat.reduceAdd, List.length_cons, List.length_nil, and_top, cc, m_append _ hwl, prP_append, prP_cons, prP_nil]
    · simp only [ZR, List.set_cons_zero, List.set_cons_succ, Option.map_some, if_true, if_false, List.cons_append, List.nil_append, List.append_nil, Nat.reduceEqDiff, Nat.reduceLT, Nat.reduceLeDiff, Nat.reduceAdd, List.length_cons, List.length_nil, FACTS, r_top_of _ _ (tp.few x hx).1 (tp.few x hx).2, and_top]
      unfold rst2
      split <;> simp only [ZR, List.set_cons_zero, List.set_cons_succ, Option.map_some, if_true, if_false, List.cons_append, List.nil_append, List.append_nil, Nat.reduceEqDiff, Nat.reduceLT, Nat.reduceLeDiff, Nat.reduceAdd, List.length_cons, List.length_nil, *]

theorem r_traced (n : Nat) (xs : List Nat) (h : ∀ x ∈ xs, x < 2 ^ 200) (hl : xs.length ≤ 1000) : callN prog (n + 2) 6 [.lst false (nsP xs)] = .ret (.tup [.lst false (prP (trc xs).1), .lst true (nsP (trc xs).2)]) [] := g_traced n (isNs_l xs) h hl
theorem r_traced_t (n : Nat) (xs : List Nat) (h : ∀ x ∈ xs, x < 2 ^ 200) (hl : xs.length ≤ 1000) : callN prog (n + 2) 6 [.tup (nsP xs)] = .ret (.tup [.lst false (prP (trc xs).1), .lst true (nsP (trc xs).2)]) [] := g_traced n (isNs_t xs) h hl
theorem g_trail_to (n : Nat) {w : PV} {xs : List Nat} (hw : IsNs w xs) (one : Nat) (h : ∀ x ∈ xs, x < 2 ^ 200) (hl : xs.length ≤ 1000) (h1 : one < 2 ^ 200) : callN prog (n + 3) 7 [w, .int (one : Int)] = .ret (match trail xs one with | some m => .int (m : Int) | none => .non) [] := by
  have tp : ∀ o ∈ (trc xs).1, Few o.1 := fun o ho => few_of ((trok xs).red.pos _ (List.mem_map_of_mem (f := (·.1)) ho)) ((((trok xs).sp o.1).mp (.mem (List.mem_map_of_mem (f := (·.1)) ho))).lt h)
  rw [k_trail_to]
  simp only [d_trail_to, ZR, List.set_cons_zero, List.set_cons_succ, Option.map_some, if_true, if_false, List.cons_append, List.nil_append, List.append_nil, Nat.reduceEqDiff, Nat.reduceLT, Nat.reduceLeDiff, Nat.reduceAdd, List.length_cons, List.length_nil, FACTS, hw.frz, hw.fz, hw.items, g_traced _ hw h hl, getI_nat (show ([PV.lst false (prP (trc xs).1), PV.lst false (nsP (trc xs).2)] : List PV)[0]? = some (PV.lst false (prP (trc xs).1)) from rfl)]
  rw [loop_rst2 n (fun l => [some w, some (.int (one : Int)), some (.int (l.1 : Int)), some (.int (l.2 : Int)), none, none]) (trc xs).1 (one, 0) ?_ fun l x hx => ?_]
  · unfold trail
    by_cases c : (redu2 (one, 0) (trc xs).1).1 = 0
    · simp only [ZR, List.set_cons_zero, List.set_cons_succ, Option.map_some, if_true, if_false, List.cons_append, List.nil_append, List.append_nil, Nat.reduceEqDiff, Nat.reduceLT, Nat.reduceLeDiff, Nat.reduceAdd, List.length_cons, List.length_nil, c]
    · simp only [ZR, List.set_cons_zero, List.set_cons_succ, Option.map_some, if_true, if_false, List.cons_append, List.nil_append, List.append_nil, Nat.reduceEqDiff, Nat.reduceLT, Nat.reduceLeDiff, Nat.reduceAdd, List.length_cons, List.length_nil, c]
  · rfl
  · simp only [ZR, List.set_cons_zero, List.set_cons_succ, Option.map_some, if_true, if_false, List.cons_append, List.nil_append, List.append_nil, Nat.reduceEqDiff, Nat.reduceLT, Nat.reduceLeDiff, Nat.reduceAdd, List.length_cons, List.length_nil, FACTS, r_top_of _ _ (tp x hx).1 (tp x hx).2, and_top]
    unfold rst2
    split <;> simp only [ZR, List.set_cons_zero, List.set_cons_succ, Option.map_some, if_true, if_false, List.cons_append, List.nil_append, List.append_nil, Nat.reduceEqDiff, Nat.reduceLT, Nat.reduceLeDiff, Nat.reduceAdd, List.length_cons, List.length_nil, *]
def trailP (xs : List Nat) (one : Nat) : PV := match trail xs one with | some m => .int (m : Int) | none => .non
theorem r_trail_to (n : Nat) (xs : List Nat) (one : Nat) (h : ∀ x ∈ xs, x < 2 ^ 200) (hl : xs.length ≤ 1000) (h1 : one < 2 ^ 200) : callN prog (n + 3) 7 [.lst false (nsP xs), .int (one : Int)] = .ret (trailP xs one) [] := g_trail_to n (isNs_l xs) one h hl h1
theorem r_trail_to_t (n : Nat) (xs : List Nat) (one : Nat) (h : ∀ x ∈ xs, x < 2 ^ 200) (hl : xs.length ≤ 1000) (h1 : one < 2 ^ 200) : callN prog (n + 3) 7 [.tup (nsP xs), .int (one : Int)] = .ret (trailP xs one) [] := g_trail_to n (isNs_t xs) one h hl h1

end K54
namespace K54
open PySem Z GF
/-! Fold's defs, read -/
abbrev foldP (ls : List Nat) (w : Nat) : PV := .obj false 6 [1, 0] [.tup (nsP ls), .int (w : Int)]
abbrev foldO (ls : List Nat) (w : Nat) : PV := .obj true 6 [1, 0] [.tup (nsP ls), .int (w : Int)]
theorem g_Fold_init (n : Nat) {x : PV} {rows : List Nat} (hx : IsNs x rows) (size : Nat) (h1 : size ≤ 12) (h2 : rows.length ≤ 12) (h3 : ∀ r ∈ rows, r < 2 ^ size) :
    callN prog (n + 1) 8 [.obj true 6 [] [], x, .int (size : Int)] = .ret .non [foldO rows size] := by
  have c1 : ¬ 12 < size := by omega
  have c2 : ¬ 12 < rows.length := by omega
  rw [k_Fold___init__]
  simp only [d_Fold___init__, ZR, List.set_cons_zero, List.set_cons_succ, Option.map_some, if_true, if_false, List.cons_append, List.nil_append, List.append_nil, Nat.reduceEqDiff, Nat.reduceLT, Nat.reduceLeDiff, Nat.reduceAdd, List.length_cons, List.length_nil, FACTS, hx.frz, hx.fz, hx.items, hx.len, hx.tup, c1, c2]
  rw [loopF_ns (fun _ : Unit => [some (.obj true 6 [] []), some x, some (.int (size : Int)), none]) (fun _ _ => ()) (fun _ => True) rows () ?_ trivial fun s r hr _ => ?_]
  · simp only [ZR, List.set_cons_zero, List.set_cons_succ, Option.map_some, if_true, if_false, List.cons_append, List.nil_append, List.append_nil, Nat.reduceEqDiff, Nat.reduceLT, Nat.reduceLeDiff, Nat.reduceAdd, List.length_cons, List.length_nil, FACTS, hx.frz, hx.fz, hx.tup]
  · rfl
  · have c3 : ¬ ¬ r < 2 ^ size := fun c => c (h3 r hr)
    simp only [ZR, List.set_cons_zero, List.set_cons_succ, Option.map_some, if_true, if_false, List.cons_append, List.nil_append, List.append_nil, Nat.reduceEqDiff, Nat.reduceLT, Nat.reduceLeDiff, Nat.reduceAdd, List.length_cons, List.length_nil, shr_pos, c3, and_true]

theorem r_Fold_rows (n : Nat) (ls : List Nat) (w : Nat) : callN prog (n + 1) 12 [foldP ls w] = .ret (.tup (nsP ls)) [] := by
  rw [k_Fold_rows]
  simp only [d_Fold_rows, ZR, List.set_cons_zero, List.set_cons_succ, Option.map_some, if_true, if_false, List.cons_append, List.nil_append, List.append_nil, Nat.reduceEqDiff, Nat.reduceLT, Nat.reduceLeDiff, Nat.reduceAdd, List.length_cons, List.length_nil, FACTS]
theorem r_Fold_many (n : Nat) (ls : List Nat) (w : Nat) : callN prog (n + 1) 13 [foldP ls w] = .ret (.int (ls.length : Nat)) [] := by
  rw [k_Fold_many]
  simp only [d_Fold_many, ZR, List.set_cons_zero, List.set_cons_succ, Option.map_some, if_true, if_false, List.cons_append, List.nil_append, List.append_nil, Nat.reduceEqDiff, Nat.reduceLT, Nat.reduceLeDiff, Nat.reduceAdd, List.length_cons, List.length_nil, FACTS, nsP_length]
theorem r_Fold_size (n : Nat) (ls : List Nat) (w : Nat) : callN prog (n + 1) 14 [foldP ls w] = .ret (.int (w : Int)) [] := by
  rw [k_Fold_size]
  simp only [d_Fold_size, ZR, List.set_cons_zero, List.set_cons_succ, Option.map_some, if_true, if_false, List.cons_append, List.nil_append, List.append_nil, Nat.reduceEqDiff, Nat.reduceLT, Nat.reduceLeDiff, Nat.reduceAdd, List.length_cons, List.length_nil, FACTS]
theorem r_Fold_to (n : Nat) (ls : List Nat) (w number : Nat) (hl : ls.length ≤ 12) (hn : number < 2 ^ ls.length) : callN prog (n + 3) 15 [foldP ls w, .int (number : Int)] = .ret (.int ((comb ls number : Nat) : Int)) [] := by
  have hl2 : ls.length ≤ 10000 := by omega
  rw [k_Fold_to]
  simp only [d_Fold_to, ZR, List.set_cons_zero, List.set_cons_succ, Option.map_some, if_true, if_false, List.cons_append, List.nil_append, List.append_nil, Nat.reduceEqDiff, Nat.reduceLT, Nat.reduceLeDiff, Nat.reduceAdd, List.length_cons, List.length_nil, FACTS, nsP_length, shr_pos, hn, not_true_eq_false, r_picked _ _ _ hl2]
theorem small200 {x m : Nat} (h : x < 2 ^ m) (hm : m ≤ 12) : x < 2 ^ 200 := Nat.lt_of_lt_of_le h (Nat.pow_le_pow_right (by decide) (by omega))
theorem trc_lt {ls : List Nat} (hl : ls.length ≤ 12) : ∀ x ∈ (trc ls).2, x < 2 ^ 200 := fun x hx => small200 ((trok ls).idl x hx).1 hl
theorem r_Fold_kernel (n : Nat) (ls : List Nat) (w : Nat) (hl : ls.length ≤ 12) (h : ∀ x ∈ ls, x < 2 ^ 200) : callN prog (n + 4) 16 [foldP ls w] = .ret (.lst true (nsP (kern ls))) [] := by
  have hl2 : ls.length ≤ 1000 := by omega
  rw [k_Fold_kernel]
  simp only [d_Fold_kernel, ZR, List.set_cons_zero, List.set_cons_succ, Option.map_some, if_true, if_false, List.cons_append, List.nil_append, List.append_nil, Nat.reduceEqDiff, Nat.reduceLT, Nat.reduceLeDiff, Nat.reduceAdd, List.length_cons, List.length_nil, FACTS, r_traced_t _ _ h hl2, getI_nat (show ([PV.lst false (prP (trc ls).1), PV.lst false (nsP (trc ls).2)] : List PV)[1]? = some (PV.lst false (nsP (trc ls).2)) from rfl), r_basis_of _ _ (trc_lt hl)]
  rfl
theorem r_Fold_onto (n : Nat) (ls : List Nat) (w : Nat) (h : ∀ x ∈ ls, x < 2 ^ 200) : callN prog (n + 4) 17 [foldP ls w] = .ret (.bl (decide ((bas ls).length = w))) [] := by
  rw [k_Fold_onto]
  simp only [d_Fold_onto, ZR, List.set_cons_zero, List.set_cons_succ, Option.map_some, if_true, if_false, List.cons_append, List.nil_append, List.append_nil, Nat.reduceEqDiff, Nat.reduceLT, Nat.reduceLeDiff, Nat.reduceAdd, List.length_cons, List.length_nil, FACTS, r_basis_of_t _ _ h, nsP_length]
def leastP (ls : List Nat) (v : Nat) : PV := match leastO ls v with | some m => .int (m : Int) | none => .non
theorem r_Fold_least (n : Nat) (ls : List Nat) (w v : Nat) (hl : ls.length ≤ 12) (h : ∀ x ∈ ls, x < 2 ^ 200) (hv : v < 2 ^ 200) : callN prog (n + 5) 22 [foldP ls w, .int (v : Int)] = .ret (leastP ls v) [] := by
  have hl2 : ls.length ≤ 1000 := by omega
  have hk : ∀ b ∈ kern ls, Few b := fun b hb => few_of ((kern_red ls).pos b hb) (small200 (kern_mem hb).1 hl)
  rw [k_Fold_least]
  simp only [d_Fold_least, ZR, List.set_cons_zero, List.set_cons_succ, Option.map_some, if_true, if_false, List.cons_append, List.nil_append, List.append_nil, Nat.reduceEqDiff, Nat.reduceLT, Nat.reduceLeDiff, Nat.reduceAdd, List.length_cons, List.length_nil, FACTS, r_trail_to_t _ _ _ h hl2 hv]
  unfold trailP leastP leastO
  cases e : trail ls v with
  | none => simp only [ZR, List.set_cons_zero, List.set_cons_succ, Option.map_some, if_true, if_false, List.cons_append, List.nil_append, List.append_nil, Nat.reduceEqDiff, Nat.reduceLT, Nat.reduceLeDiff, Nat.reduceAdd, List.length_cons, List.length_nil, Option.map_none]
  | some m => simp only [ZR, List.set_cons_zero, List.set_cons_succ, Option.map_some, if_true, if_false, List.cons_append, List.nil_append, List.append_nil, Nat.reduceEqDiff, Nat.reduceLT, Nat.reduceLeDiff, Nat.reduceAdd, List.length_cons, List.length_nil, FACTS, r_Fold_kernel _ _ _ hl h, r_reduced _ _ _ hk]
theorem r_Fold_back (n : Nat) (ls : List Nat) (w : Nat) (hl : ls.length ≤ 12) (hw : w ≤ 12) (o : Onto ls w) : callN prog (n + 6) 23 [foldP ls w] = .ret (foldO (backL ls w) ls.length) [] := by
  have h : ∀ x ∈ ls, x < 2 ^ 200 := fun x hx => small200 (o.1 x hx) hw
  rw [k_Fold_back]
  simp only [d_Fold_back, ZR, List.set_cons_zero, List.set_cons_succ, Option.map_some, if_true, if_false, List.cons_append, List.nil_append, List.append_nil, Nat.reduceEqDiff, Nat.reduceLT, Nat.reduceLeDiff, Nat.reduceAdd, List.length_cons, List.length_nil, FACTS, r_Fold_onto _ _ _ h, o.lenS, okR_nat (show w < 4611686018427387904 by omega), rngs_nat]
  rw [comR_ns (fun at_ => least ls (2 ^ at_)) (List.range w) (by rw [List.length_range]; unfold lineB; omega) fun k hk => ?_]
  · rw [show (List.range w).map (fun at_ => least ls (2 ^ at_)) = backL ls w from rfl]
    simp only [ZR, List.set_cons_zero, List.set_cons_succ, Option.map_some, if_true, if_false, List.cons_append, List.nil_append, List.append_nil, Nat.reduceEqDiff, Nat.reduceLT, Nat.reduceLeDiff, Nat.reduceAdd, List.length_cons, List.length_nil, FACTS, nsP_length]
    rw [g_Fold_init (n + 4) (isNs_l (backL ls w)) ls.length hl (by unfold backL; simpa using hw) fun r hr => ?_]
    · simp only [ZR, List.set_cons_zero, List.set_cons_succ, Option.map_some, if_true, if_false, List.cons_append, List.nil_append, List.append_nil, Nat.reduceEqDiff, Nat.reduceLT, Nat.reduceLeDiff, Nat.reduceAdd, List.length_cons, List.length_nil, FACTS]
    · obtain ⟨k, hk, rfl⟩ := List.mem_map.mp hr
      exact (least_ok (o.2 k (List.mem_range.mp hk))).2.1
  · have hk := List.mem_range.mp hk
    have hb : 2 ^ k < 2 ^ 200 := Nat.pow_lt_pow_right (by decide) (by omega)
    unfold turnC
    simp only [ZR, List.set_cons_zero, List.set_cons_succ, Option.map_some, if_true, if_false, List.cons_append, List.nil_append, List.append_nil, Nat.reduceEqDiff, Nat.reduceLT, Nat.reduceLeDiff, Nat.reduceAdd, List.length_cons, List.length_nil, FACTS, b_shl1 (show k ≤ 1000000 by omega), r_Fold_least _ _ _ _ hl h hb]
    unfold leastP
    simp only [(least_ok (o.2 k hk)).1, ZR, List.set_cons_zero, List.set_cons_succ, Option.map_some, if_true, if_false, List.cons_append, List.nil_append, List.append_nil, Nat.reduceEqDiff, Nat.reduceLT, Nat.reduceLeDiff, Nat.reduceAdd, List.length_cons, List.length_nil]

end K54
namespace K54
open PySem Z GF
/-! gather and its steps, read -/
theorem r_need_lanes (n : Nat) (ls : List Nat) (w lanes : Nat) (h : lanes ≤ ls.length) : callN prog (n + 2) 24 [foldP ls w, .int (lanes : Int)] = .ret .non [] := by
  have c : ¬ ls.length < lanes := by omega
  rw [k_need_lanes]
  simp only [d_need_lanes, ZR, List.set_cons_zero, List.set_cons_succ, Option.map_some, if_true, if_false, List.cons_append, List.nil_append, List.append_nil, Nat.reduceEqDiff, Nat.reduceLT, Nat.reduceLeDiff, Nat.reduceAdd, List.length_cons, List.length_nil, FACTS, r_Fold_many, c]
theorem comb_foldl (m : Nat) : ∀ (xs : List Nat) (k a : Nat), (xs.zipIdx k).foldl (fun a q => if m.testBit q.2 then a ^^^ q.1 else a) a = a ^^^ comb xs (m >>> k)
  | [], k, a => by simp [comb]
  | x :: xs, k, a => by
    rw [List.zipIdx_cons, List.foldl_cons]
    have e : m >>> k / 2 = m >>> (k + 1) := by rw [Nat.shiftRight_add]; rfl
    have e2 : (m >>> k).testBit 0 = m.testBit k := by rw [Nat.testBit_shiftRight]; simp
    unfold comb
    rw [e, e2, comb_foldl m xs (k + 1)]
    cases h : m.testBit k
    · simp
    · simp [Nat.xor_assoc]
theorem r_steps_along (n : Nat) (ls : List Nat) (w lanes : Nat) {x : PV} {places : List Nat} (hx : IsNs x places) (hl : ls.length ≤ 12) (hw : w ≤ 12) (o : Onto ls w) (hlan : lanes ≤ ls.length) (hp : ∀ a ∈ places, a < w) (hpl : places.length ≤ 1000) :
    callN prog (n + 7) 25 [foldP ls w, x, .int (lanes : Int)] = .ret (.lst true (nsP (places.map fun a => stepA ls w (ls.length - lanes) a))) [] := by
  have h : ∀ x ∈ ls, x < 2 ^ 200 := fun x hx => small200 (o.1 x hx) hw
  have hk : (kern ls).length ≤ 12 := (kern_red ls).len (fun b hb => Nat.lt_of_lt_of_le (kern_mem hb).1 (Nat.pow_le_pow_right (by decide) hl))
  have hkl : ∀ b ∈ kern ls, b < 2 ^ ls.length := fun b hb => (kern_mem hb).1
  have shrlt : ∀ {a m : Nat}, a < 2 ^ ls.length → a >>> m < 2 ^ 200 := fun {a m} ha => by
    rw [Nat.shiftRight_eq_div_pow]
    exact Nat.lt_of_le_of_lt (Nat.div_le_self _ _) (small200 ha hl)
  have hs : ∀ b ∈ (kern ls).map (· >>> (ls.length - lanes)), b < 2 ^ 200 := fun b hb => by
    obtain ⟨c, hc, rfl⟩ := List.mem_map.mp hb
    exact shrlt (hkl c hc)
  have hf : ∀ b ∈ bas ((kern ls).map (· >>> (ls.length - lanes))), Few b := fun b hb => few_of ((bas_red _).pos b hb) (bas_lt hs b hb)
  have hsl : ((kern ls).map (· >>> (ls.length - lanes))).length ≤ 1000 := by rw [List.length_map]; omega
  have hbl : (backL ls w).length ≤ 12 := by unfold backL; simpa using hw
  rw [k_steps_along]
  simp only [d_steps_along, ZR, List.set_cons_zero, List.set_cons_succ, Option.map_some, if_true, if_false, List.cons_append, List.nil_append, List.append_nil, Nat.reduceEqDiff, Nat.reduceLT, Nat.reduceLeDiff, Nat.reduceAdd, List.length_cons, List.length_nil, FACTS, hx.frz, hx.fz, hx.items, r_Fold_many, b_sub hlan, r_Fold_kernel _ _ _ hl h]
  rw [comR_ns (· >>> (ls.length - lanes)) (kern ls) (by unfold lineB; omega) fun k hk => ?_]
  · simp only [ZR, List.set_cons_zero, List.set_cons_succ, Option.map_some, if_true, if_false, List.cons_append, List.nil_append, List.append_nil, Nat.reduceEqDiff, Nat.reduceLT, Nat.reduceLeDiff, Nat.reduceAdd, List.length_cons, List.length_nil, FACTS, r_basis_of _ _ hs, r_Fold_back _ _ _ hl hw o, hx.frz, hx.fz, hx.items]
    rw [loopF_nsI (fun pre => [some (foldP ls w), some x, some (.int (lanes : Int)), some (.int ((ls.length - lanes : Nat) : Int)), some (.lst false (nsP (kern ls))), some (.lst false (nsP ((kern ls).map (· >>> (ls.length - lanes))))),
      some (.lst false (nsP (bas ((kern ls).map (· >>> (ls.length - lanes)))))), some (foldP (backL ls w) ls.length), some (.lst true (nsP (pre.map fun a => stepA ls w (ls.length - lanes) a))), none, none, none, none, none]) places ?_ fun pre a suf e => ?_]
    · simp only [ZR, List.set_cons_zero, List.set_cons_succ, Option.map_some, if_true, if_false, List.cons_append, List.nil_append, List.append_nil, Nat.reduceEqDiff, Nat.reduceLT, Nat.reduceLeDiff, Nat.reduceAdd, List.length_cons, List.length_nil]
    · rfl
    · have ha : a < w := hp a (by rw [e]; simp)
      have hpre : pre.length ≤ 1000 := by have := congrArg List.length e; simp at this; omega
      have hpw : 2 ^ a < 2 ^ (backL ls w).length := by unfold backL; rw [List.length_map, List.length_range]; exact Nat.pow_lt_pow_right (by decide) ha
      have hb2 : comb (backL ls w) (2 ^ a) < 2 ^ ls.length := by rw [backL_get ha]; exact (least_ok (o.2 a ha)).2.1
      simp only [ZR, List.set_cons_zero, List.set_cons_succ, Option.map_some, if_true, if_false, List.cons_append, List.nil_append, List.append_nil, Nat.reduceEqDiff, Nat.reduceLT, Nat.reduceLeDiff, Nat.reduceAdd, List.length_cons, List.length_nil, FACTS, b_shl1 (show a ≤ 1000000 by omega), r_Fold_to _ _ _ _ hbl hpw, r_reduced _ _ _ hf]
      have hn2 : (comb (backL ls w) (2 ^ a) >>> (ls.length - lanes) ^^^ redu (comb (backL ls w) (2 ^ a) >>> (ls.length - lanes)) (bas ((kern ls).map (· >>> (ls.length - lanes))))) = need ls w (ls.length - lanes) a := rfl
      have hnl : need ls w (ls.length - lanes) a < 2 ^ 200 := Nat.xor_lt_two_pow (shrlt hb2) (redu_lt (bas_lt hs) (shrlt hb2))
      obtain ⟨m, hm1, hm2⟩ := need_trail (lines := ls) (many := w) (low := ls.length - lanes) a
      have hm1' : trail ((kern ls).map (· >>> (ls.length - lanes))) (need ls w (ls.length - lanes) a) = some m := hm1
      have htp : trailP ((kern ls).map (· >>> (ls.length - lanes))) (need ls w (ls.length - lanes) a) = .int (m : Int) := by unfold trailP; rw [hm1']
      have est : stepA ls w (ls.length - lanes) a = comb (backL ls w) (2 ^ a) ^^^ comb (kern ls) m := by unfold stepA; rw [hm1]; rfl
      rw [hn2]
      simp only [r_trail_to _ _ _ hs hsl hnl, htp, ZR, List.set_cons_zero, List.set_cons_succ, Option.map_some, if_true, if_false, List.cons_append, List.nil_append, List.append_nil, Nat.reduceEqDiff, Nat.reduceLT, Nat.reduceLeDiff, Nat.reduceAdd, List.length_cons, List.length_nil, enum_ns]
      rw [loopF_g (fun q : Nat × Nat => PV.tup [.int ((q.2 : Nat) : Int), .int ((q.1 : Nat) : Int)]) (fun st : Nat => [some (foldP ls w), some x, some (.int (lanes : Int)), some (.int ((ls.length - lanes : Nat) : Int)), some (.lst false (nsP (kern ls))), some (.lst false (nsP ((kern ls).map (· >>> (ls.length - lanes))))),
        some (.lst false (nsP (bas ((kern ls).map (· >>> (ls.length - lanes)))))), some (foldP (backL ls w) ls.length), some (.lst true (nsP (pre.map fun a => stepA ls w (ls.length - lanes) a))), some (.int (a : Int)), some (.int (st : Int)), some (.int (m : Int)), none, none])
        (fun st q => if m.testBit q.2 then st ^^^ q.1 else st) (fun _ => True) (kern ls).zipIdx (comb (backL ls w) (2 ^ a)) ?_ trivial fun st q hq _ => ?_]
      · rw [comb_foldl, Nat.shiftRight_zero, ← est]
        have hlt : (nsP (pre.map fun a => stepA ls w (ls.length - lanes) a)).length < lineB := by rw [nsP_length, List.length_map]; unfold lineB; omega
        simp only [ZR, List.set_cons_zero, List.set_cons_succ, Option.map_some, if_true, if_false, List.cons_append, List.nil_append, List.append_nil, Nat.reduceEqDiff, Nat.reduceLT, Nat.reduceLeDiff, Nat.reduceAdd, List.length_cons, List.length_nil, m_append _ hlt, List.map_append, List.map_cons, List.map_nil, nsP_append, nsP_cons, nsP_nil]
      · rfl
      · simp only [ZR, List.set_cons_zero, List.set_cons_succ, Option.map_some, if_true, if_false, List.cons_append, List.nil_append, List.append_nil, Nat.reduceEqDiff, Nat.reduceLT, Nat.reduceLeDiff, Nat.reduceAdd, List.length_cons, List.length_nil, shr_and_one, and_true]
        split <;> simp only [ZR, List.set_cons_zero, List.set_cons_succ, Option.map_some, if_true, if_false, List.cons_append, List.nil_append, List.append_nil, Nat.reduceEqDiff, Nat.reduceLT, Nat.reduceLeDiff, Nat.reduceAdd, List.length_cons, List.length_nil, *]
  · unfold turnC
    simp only [ZR, List.set_cons_zero, List.set_cons_succ, Option.map_some, if_true, if_false, List.cons_append, List.nil_append, List.append_nil, Nat.reduceEqDiff, Nat.reduceLT, Nat.reduceLeDiff, Nat.reduceAdd, List.length_cons, List.length_nil]
theorem r_gather (n : Nat) (ls : List Nat) (w lanes : Nat) {x : PV} {places : List Nat} (hx : IsNs x places) (hl : ls.length ≤ 12) (hw : w ≤ 12) (o : Onto ls w) (hlan : lanes ≤ ls.length) (hp : ∀ a ∈ places, a < w) (hnd : places.Nodup)
    (hls : bfun .lenset [x] = some (.int (places.length : Nat))) :
    callN prog (n + 8) 26 [foldP ls w, x, .int (lanes : Int)] = .ret (.lst true (nsP (gath ls w (ls.length - lanes) places))) [] := by
  have h : ∀ x ∈ ls, x < 2 ^ 200 := fun x hx => small200 (o.1 x hx) hw
  have hpl : places.length ≤ 12 := Nat.le_trans (nodup_le hnd hp) hw
  have hst : ∀ b ∈ (places.map fun a => stepA ls w (ls.length - lanes) a >>> (ls.length - lanes)), b < 2 ^ 200 := fun b hb => by
    obtain ⟨a, ha, rfl⟩ := List.mem_map.mp hb
    have h1 := (stepA_ok (low := ls.length - lanes) o (hp a ha)).1
    show stepA ls w (ls.length - lanes) a >>> (ls.length - lanes) < _
    rw [Nat.shiftRight_eq_div_pow]
    exact Nat.lt_of_le_of_lt (Nat.div_le_self _ _) (small200 h1 hl)
  rw [k_gather]
  simp only [d_gather, ZR, List.set_cons_zero, List.set_cons_succ, Option.map_some, if_true, if_false, List.cons_append, List.nil_append, List.append_nil, Nat.reduceEqDiff, Nat.reduceLT, Nat.reduceLeDiff, Nat.reduceAdd, List.length_cons, List.length_nil, FACTS, hx.frz, hx.fz, hx.items, hx.len, hls, r_need_lanes _ _ _ _ hlan, r_Fold_onto _ _ _ h, o.lenS, Nat.lt_irrefl]
  rw [comR_nsB (fun _ => false) places (by unfold lineB; omega) fun k hk => ?_]
  · have hany : (places.any fun _ => false) = false := by induction places <;> simp
    simp only [ZR, List.set_cons_zero, List.set_cons_succ, Option.map_some, if_true, if_false, List.cons_append, List.nil_append, List.append_nil, Nat.reduceEqDiff, Nat.reduceLT, Nat.reduceLeDiff, Nat.reduceAdd, List.length_cons, List.length_nil, FACTS, f_any, hany, hx.frz, hx.fz, r_steps_along _ _ _ _ hx hl hw o hlan hp (by omega), b_sub hlan]
    rw [comR_ns (· >>> (ls.length - lanes)) (places.map fun a => stepA ls w (ls.length - lanes) a) (by rw [List.length_map]; unfold lineB; omega) fun k hk => ?_]
    · rw [List.map_map, show ((fun x => x >>> (ls.length - lanes)) ∘ fun a => stepA ls w (ls.length - lanes) a) = fun a => stepA ls w (ls.length - lanes) a >>> (ls.length - lanes) from rfl]
      simp only [ZR, List.set_cons_zero, List.set_cons_succ, Option.map_some, if_true, if_false, List.cons_append, List.nil_append, List.append_nil, Nat.reduceEqDiff, Nat.reduceLT, Nat.reduceLeDiff, Nat.reduceAdd, List.length_cons, List.length_nil, FACTS, r_basis_of _ _ hst]
      rfl
    · unfold turnC
      simp only [ZR, List.set_cons_zero, List.set_cons_succ, Option.map_some, if_true, if_false, List.cons_append, List.nil_append, List.append_nil, Nat.reduceEqDiff, Nat.reduceLT, Nat.reduceLeDiff, Nat.reduceAdd, List.length_cons, List.length_nil, FACTS, r_Fold_many, b_sub hlan]
  · have hk := hp k hk
    have c : ¬ w ≤ k := by omega
    unfold turnC
    simp only [ZR, List.set_cons_zero, List.set_cons_succ, Option.map_some, if_true, if_false, List.cons_append, List.nil_append, List.append_nil, Nat.reduceEqDiff, Nat.reduceLT, Nat.reduceLeDiff, Nat.reduceAdd, List.length_cons, List.length_nil, FACTS, r_Fold_size, c]

end K54
namespace K54
open PySem Z GF
/-! the laws' drawing defs, read -/
theorem r_box (n : Nat) (ns : List Int) (h : ns.length ≤ 63) : callN prog (n + 1) 27 [.scr ns] = .ret (boxP ⟨ns, 0, 0, 41⟩) [] := by
  have h2 : slice (.scr ns) none (some ((63 : Nat) : Int)) = some (.lst true (inP' ns)) := by
    have := sl_scr ns 63
    rw [List.take_of_length_le h] at this
    exact this
  have h3 : bfun .list [.lst true (inP' ns)] = some (.lst true (inP' ns)) := f_list_l true (inP_frz ns)
  rw [k__law_box]
  simp only [d__law_box, ZR, List.set_cons_zero, List.set_cons_succ, Option.map_some, if_true, if_false, List.cons_append, List.nil_append, List.append_nil, Nat.reduceEqDiff, Nat.reduceLT, Nat.reduceLeDiff, Nat.reduceAdd, List.length_cons, List.length_nil, h2, h3]
theorem r_take (n : Nat) (b : Bx) (k : Nat) (hb : b.ok) (hk : 0 < k) (hk2 : k < 1073741824) : callN prog (n + 1) 28 [boxP b, .int (k : Int)] = .ret (.int ((tk b k).1 : Int)) [boxP (tk b k).2] := by
  have hk3 : 0 < k ∧ k < 1073741824 := ⟨hk, hk2⟩
  have hs : b.s < 18446744073709551616 := Nat.lt_of_lt_of_le hb (by decide)
  have h3 : 3 ≤ 1000000 ∧ b.s < 18446744073709551616 := ⟨by decide, hs⟩
  have h64 : 0 < 64 ∧ 64 < 1073741824 := by decide
  have hm : 0 < 2147483549 := by decide
  rw [k__law_take]
  by_cases c : 0 < b.t
  · have e : tk b k = (b.t % k, ⟨b.ns, b.p, b.t / k, b.s⟩) := by unfold tk; rw [if_pos c]
    simp only [d__law_take, ZR, List.set_cons_zero, List.set_cons_succ, Option.map_some, if_true, if_false, List.cons_append, List.nil_append, List.append_nil, Nat.reduceEqDiff, Nat.reduceLT, Nat.reduceLeDiff, Nat.reduceAdd, List.length_cons, List.length_nil, c, b_fdiv hk3, b_mod hk, e]
  · have fin : ∀ (cell : Int) (nxt : Nat), b.cell = cell → b.nxt = nxt → ∀ (ss : Sts), (d__law_take).body = .cons (.ife (.cmp .gt (.rd (.pi (.pv 0) (.cint 2))) (.cint 0)) (.cons (.set 4 false (.rd (.pi (.pv 0) (.cint 2)))) (.cons (.seti (.pv 0) (.cint 2) (.bin .fdiv (.var 4) (.var 1))) (.cons (.ret (.bin .mod (.var 4) (.var 1))) .nil))) .nil) (.cons (.set 2 false (.cint 0)) (.cons (.ife (.cmp .lt (.rd (.pi (.pv 0) (.cint 1))) (.lenp (.pi (.pv 0) (.cint 0)))) (.cons (.set 2 false (.rd (.pi (.pi (.pv 0) (.cint 0)) (.rd (.pi (.pv 0) (.cint 1)))))) (.cons (.augi (.pv 0) (.cint 1) .add (.cint 1)) .nil)) .nil) ss)) →
        finD [true, false] (evSs (prog.tab (callN prog n)) ss [some (.lst true [.lst true (inP' b.ns), .int (nxt : Int), .int (b.t : Int), .int (b.s : Int)]), some (.int (k : Int)), some (.int cell), none, none]) = .ret (.int ((tk b k).1 : Int)) [boxP (tk b k).2] := by
      intro cell nxt ec en ss hss
      simp only [d__law_take, Sts.cons.injEq, true_and] at hss
      subst hss
      by_cases c2 : 1000000000000000000 ≤ cell
      · have e : tk b k = (cell.toNat % k, ⟨b.ns, nxt, cell.toNat / k, b.s⟩) := by unfold tk; rw [if_neg c, ec, en, if_pos c2]
        have e2 : cell = (cell.toNat : Int) := by omega
        simp only [ZR, List.set_cons_zero, List.set_cons_succ, Option.map_some, if_true, if_false, List.cons_append, List.nil_append, List.append_nil, Nat.reduceEqDiff, Nat.reduceLT, Nat.reduceLeDiff, Nat.reduceAdd, List.length_cons, List.length_nil, pow_1018, c_geI, c2]
        rw [e2]
        generalize cell.toNat = cc at *
        simp only [ZR, List.set_cons_zero, List.set_cons_succ, Option.map_some, if_true, if_false, List.cons_append, List.nil_append, List.append_nil, Nat.reduceEqDiff, Nat.reduceLT, Nat.reduceLeDiff, Nat.reduceAdd, List.length_cons, List.length_nil, b_fdiv hk3, b_mod hk, e]
      · have e : tk b k = (sd b.s (cell % 2147483549).toNat / 64 % k, ⟨b.ns, nxt, b.t, sd b.s (cell % 2147483549).toNat⟩) := by unfold tk; rw [if_neg c, ec, en, if_neg c2]
        simp only [ZR, List.set_cons_zero, List.set_cons_succ, Option.map_some, if_true, if_false, List.cons_append, List.nil_append, List.append_nil, Nat.reduceEqDiff, Nat.reduceLT, Nat.reduceLeDiff, Nat.reduceAdd, List.length_cons, List.length_nil, pow_1018, c_geI, c2, modI, b_pow h3, b_mul hs, b_mul (show (cell % ((2147483549 : Nat) : Int)).toNat < 18446744073709551616 by omega), b_mod hm, b_fdiv h64, b_mod hk, e]
        rfl
    by_cases c1 : b.p < b.ns.length
    · have hg : getI (inP' b.ns) (b.p : Int) = some (.int b.cell) := by rw [inP_get c1]; unfold Bx.cell; rw [if_pos c1]
      have hn : b.nxt = b.p + 1 := by unfold Bx.nxt; rw [if_pos c1]
      have f := fin b.cell (b.p + 1) rfl hn _ rfl
      simp only [d__law_take, ZR, List.set_cons_zero, List.set_cons_succ, Option.map_some, if_true, if_false, List.cons_append, List.nil_append, List.append_nil, Nat.reduceEqDiff, Nat.reduceLT, Nat.reduceLeDiff, Nat.reduceAdd, List.length_cons, List.length_nil, c, c1, hg] at f ⊢
      exact f
    · have hg : b.cell = 0 := by unfold Bx.cell; rw [if_neg c1]
      have hn : b.nxt = b.p := by unfold Bx.nxt; rw [if_neg c1]
      have f := fin 0 b.p hg hn _ rfl
      simp only [d__law_take, ZR, List.set_cons_zero, List.set_cons_succ, Option.map_some, if_true, if_false, List.cons_append, List.nil_append, List.append_nil, Nat.reduceEqDiff, Nat.reduceLT, Nat.reduceLeDiff, Nat.reduceAdd, List.length_cons, List.length_nil, c, c1] at f ⊢
      exact f

theorem r_of (n : Nat) (b : Bx) {x : PV} {xs : List Nat} (hx : IsNs x xs) (hi : ∀ i : Int, item x (.int i) = getI (nsP xs) i) (h0 : xs ≠ []) (hb : b.ok) (hl : xs.length < 1073741824) : callN prog (n + 2) 29 [boxP b, x] = .ret (.int ((ofN b xs).1 : Int)) [boxP (ofN b xs).2] := by
  have hp : 0 < xs.length := List.length_pos_iff.mpr h0
  rw [k__law_of]
  simp only [d__law_of, ZR, List.set_cons_zero, List.set_cons_succ, Option.map_some, if_true, if_false, List.cons_append, List.nil_append, List.append_nil, Nat.reduceEqDiff, Nat.reduceLT, Nat.reduceLeDiff, Nat.reduceAdd, List.length_cons, List.length_nil, FACTS, hx.frz, hx.fz, hx.len, r_take _ _ _ hb hp hl, hi, getI_ns (tk_lt b hp)]
  rfl
/-- a list that is walked: what its items are -/
theorem r_shuffled (n : Nat) (b : Bx) {α : Type} (g : α → PV) {x : PV} {xs : List α} (hfr : x.frz = true) (hfz : x.fz = x) (hit : itemsOf x = some (xs.map g)) (hg : ∀ a, (g a).frz = true) (hb : b.ok) (hl : xs.length < 1000000) :
    callN prog (n + 2) 30 [boxP b, x] = .ret (.lst true ((shufB b xs).1.map g)) [boxP (shufB b xs).2] := by
  have hgz : ∀ a, (g a).fz = g a := fun a => frz_fz_of (hg a)
  rw [k__law_shuffled]
  simp only [d__law_shuffled, ZR, List.set_cons_zero, List.set_cons_succ, Option.map_some, if_true, if_false, List.cons_append, List.nil_append, List.append_nil, Nat.reduceEqDiff, Nat.reduceLT, Nat.reduceLeDiff, Nat.reduceAdd, List.length_cons, List.length_nil, hfr, hfz, hit]
  rw [loopF_iv g (fun pre => [some (boxP (shufB b pre).2), some x, some (.lst true ((shufB b pre).1.map g)), none]) xs ?_ fun pre a suf e => ?_]
  · simp only [ZR, List.set_cons_zero, List.set_cons_succ, Option.map_some, if_true, if_false, List.cons_append, List.nil_append, List.append_nil, Nat.reduceEqDiff, Nat.reduceLT, Nat.reduceLeDiff, Nat.reduceAdd, List.length_cons, List.length_nil]
  · rfl
  · have hl1 : (shufB b pre).1.length = pre.length := (shuf_perm hb pre).length_eq
    have hpl : pre.length < 1000000 := by have := congrArg List.length e; simp at this; omega
    have hlt : ((shufB b pre).1.map g).length < lineB := by rw [List.length_map, hl1]; unfold lineB; omega
    have hok := shuf_ok hb pre
    have es : shufB b (pre ++ [a]) = shufS (shufB b pre) a := by unfold shufB; rw [List.foldl_append]; rfl
    rw [es]
    generalize shufB b pre = s at *
    have h1 : 0 < s.1.length + 1 := by omega
    have h2 : s.1.length + 1 < 1073741824 := by omega
    have h3 := tk_lt s.2 h1
    simp only [ZR, List.set_cons_zero, List.set_cons_succ, Option.map_some, if_true, if_false, List.cons_append, List.nil_append, List.append_nil, Nat.reduceEqDiff, Nat.reduceLT, Nat.reduceLeDiff, Nat.reduceAdd, List.length_cons, List.length_nil, FACTS, List.length_map, r_take _ _ _ hok h1 h2, hg, hgz, m_insert _ hlt (show (tk s.2 (s.1.length + 1)).1 < 4611686018427387904 by omega)]
    unfold shufS insAt
    simp only [List.map_append, List.map_cons, List.map_nil, List.map_take, List.map_drop]
theorem r_numbers (n : Nat) (b : Bx) (count many : Nat) (hb : b.ok) (hc : count ≤ 1000000) (hm : many < 30) : callN prog (n + 2) 32 [boxP b, .int (count : Int), .int (many : Int)] = .ret (.lst true (nsP (drawL (2 ^ many) count b).1)) [boxP (drawL (2 ^ many) count b).2] := by
  have h1 : 0 < 2 ^ many := Nat.two_pow_pos _
  have h2 : 2 ^ many < 1073741824 := Nat.lt_of_lt_of_le (Nat.pow_lt_pow_right (by decide) hm) (by decide)
  rw [k__law_numbers]
  simp only [d__law_numbers, ZR, List.set_cons_zero, List.set_cons_succ, Option.map_some, if_true, if_false, List.cons_append, List.nil_append, List.append_nil, Nat.reduceEqDiff, Nat.reduceLT, Nat.reduceLeDiff, Nat.reduceAdd, List.length_cons, List.length_nil, okR_nat (show count < 4611686018427387904 by omega), rngs_nat]
  rw [nsP_eq, comR_coll (fun s : Bx => [some (boxP s), some (.int (count : Int)), some (.int (many : Int)), none]) (fun n : Nat => PV.int (n : Int)) (fun (s : Bx) (_ : Nat) => some (.int ((tk s (2 ^ many)).1 : Int))) (fun s _ => (tk s (2 ^ many)).2) Bx.ok (List.range count) b ?_ hb ?_ fun s x hx hs => ?_]
  · obtain ⟨q1, q2⟩ := collA_draw (2 ^ many) b (List.range count)
    rw [q1, q2, List.length_range]
    simp only [ZR, List.set_cons_zero, List.set_cons_succ, Option.map_some, if_true, if_false, List.cons_append, List.nil_append, List.append_nil, Nat.reduceEqDiff, Nat.reduceLT, Nat.reduceLeDiff, Nat.reduceAdd, List.length_cons, List.length_nil]
  · rfl
  · rw [List.length_range]; unfold lineB; omega
  · refine ⟨?_, tk_ok hs _⟩
    unfold turnC
    simp only [ZR, List.set_cons_zero, List.set_cons_succ, Option.map_some, if_true, if_false, List.cons_append, List.nil_append, List.append_nil, Nat.reduceEqDiff, Nat.reduceLT, Nat.reduceLeDiff, Nat.reduceAdd, List.length_cons, List.length_nil, FACTS, b_shl1 (show many ≤ 1000000 by omega), r_take _ _ _ hs h1 h2]
theorem r_images (n : Nat) {x : PV} {xs : List Nat} (hx : IsNs x xs) (hl : xs.length ≤ 20) : callN prog (n + 1) 33 [x] = .ret (.lst false (nsP (imgs xs))) [] := by
  rw [k__law_images]
  simp only [d__law_images, ZR, List.set_cons_zero, List.set_cons_succ, Option.map_some, if_true, if_false, List.cons_append, List.nil_append, List.append_nil, Nat.reduceEqDiff, Nat.reduceLT, Nat.reduceLeDiff, Nat.reduceAdd, List.length_cons, List.length_nil, hx.frz, hx.fz, hx.items]
  rw [loopF_nsI (fun pre => [some x, some (.lst false (nsP (imgs pre))), none, none]) xs ?_ fun pre a suf e => ?_]
  · simp only [ZR, List.set_cons_zero, List.set_cons_succ, Option.map_some, if_true, if_false, List.cons_append, List.nil_append, List.append_nil, Nat.reduceEqDiff, Nat.reduceLT, Nat.reduceLeDiff, Nat.reduceAdd, List.length_cons, List.length_nil]
  · rfl
  · have hpl : pre.length ≤ 20 := by have := congrArg List.length e; simp at this; omega
    have hil : (imgs pre).length ≤ 1048576 := by
      rw [imgs_eq, List.length_map, List.length_range]
      exact Nat.le_trans (Nat.pow_le_pow_right (by decide) hpl) (by decide)
    have es : imgs (pre ++ [a]) = imgs pre ++ (imgs pre).map (· ^^^ a) := by unfold imgs; rw [List.foldl_append]; rfl
    rw [es]
    generalize imgs pre = f at *
    simp only [ZR, List.set_cons_zero, List.set_cons_succ, Option.map_some, if_true, if_false, List.cons_append, List.nil_append, List.append_nil, Nat.reduceEqDiff, Nat.reduceLT, Nat.reduceLeDiff, Nat.reduceAdd, List.length_cons, List.length_nil]
    rw [comR_ns (· ^^^ a) f (by unfold lineB; omega) fun y hy => ?_]
    · have hb := binop_ll false true (xs := nsP f) (ys := nsP (f.map (· ^^^ a))) (by rw [nsP_length, nsP_length, List.length_map]; unfold lineB; omega) (frzL_ns _) (frzL_ns _)
      simp only [ZR, List.set_cons_zero, List.set_cons_succ, Option.map_some, if_true, if_false, List.cons_append, List.nil_append, List.append_nil, Nat.reduceEqDiff, Nat.reduceLT, Nat.reduceLeDiff, Nat.reduceAdd, List.length_cons, List.length_nil, hb]
      rw [← nsP_append]
      simp only [ZR, List.set_cons_zero, List.set_cons_succ, Option.map_some, if_true, if_false, List.cons_append, List.nil_append, List.append_nil, Nat.reduceEqDiff, Nat.reduceLT, Nat.reduceLeDiff, Nat.reduceAdd, List.length_cons, List.length_nil]
    · unfold turnC
      simp only [ZR, List.set_cons_zero, List.set_cons_succ, Option.map_some, if_true, if_false, List.cons_append, List.nil_append, List.append_nil, Nat.reduceEqDiff, Nat.reduceLT, Nat.reduceLeDiff, Nat.reduceAdd, List.length_cons, List.length_nil]
theorem inL_ns (v : Nat) : ∀ xs : List Nat, inP.inL (.int (v : Int)) (nsP xs) = some (decide (v ∈ xs))
  | [] => by rw [nsP_nil]; rfl
  | x :: xs => by
    rw [nsP_cons]
    show (match scal (.int (x : Int)) (.int (v : Int)), inP.inL (.int (v : Int)) (nsP xs) with | some a, some b => some (a || b) | _, _ => none) = _
    rw [inL_ns v xs]
    show some (decide ((x : Int) = (v : Int)) || decide (v ∈ xs)) = _
    congr 1
    by_cases c : x = v
    · subst c; simp
    · have h1 : ¬ (x : Int) = v := by omega
      have h2 : ¬ v = x := fun e => c e.symm
      simp [h1, h2]
theorem inP_ns (o : Bool) (v : Nat) (xs : List Nat) : inP (.int (v : Int)) (.lst o (nsP xs)) = some (decide (v ∈ xs)) := by
  show (if flatP (.int (v : Int)) = true then inP.inL (.int (v : Int)) (nsP xs) else none) = _
  rw [if_pos (show flatP (.int (v : Int)) = true from rfl), inL_ns]
theorem spanL_len : ∀ (xs f : List Nat), (xs.foldl (fun f one => if one ∈ f then f else f ++ f.map (· ^^^ one)) f).length ≤ f.length * 2 ^ xs.length
  | [], f => by simp
  | x :: xs, f => by
    rw [List.foldl_cons, List.length_cons, Nat.pow_succ]
    refine Nat.le_trans (spanL_len xs _) ?_
    have : (if x ∈ f then f else f ++ f.map (· ^^^ x)).length ≤ f.length * 2 := by
      split
      · omega
      · simp; omega
    calc _ ≤ f.length * 2 * 2 ^ xs.length := Nat.mul_le_mul_right _ this
      _ = _ := by rw [Nat.mul_assoc, Nat.mul_comm 2]
theorem r_span (n : Nat) {x : PV} {xs : List Nat} (hx : IsNs x xs) (hl : xs.length ≤ 20) : callN prog (n + 1) 31 [x] = .ret (.lst false (nsP (spanL xs))) [] := by
  rw [k__law_span]
  simp only [d__law_span, ZR, List.set_cons_zero, List.set_cons_succ, Option.map_some, if_true, if_false, List.cons_append, List.nil_append, List.append_nil, Nat.reduceEqDiff, Nat.reduceLT, Nat.reduceLeDiff, Nat.reduceAdd, List.length_cons, List.length_nil, hx.frz, hx.fz, hx.items]
  rw [loopF_nsI (fun pre => [some x, some (.lst false (nsP (spanL pre))), none, none]) xs ?_ fun pre a suf e => ?_]
  · simp only [ZR, List.set_cons_zero, List.set_cons_succ, Option.map_some, if_true, if_false, List.cons_append, List.nil_append, List.append_nil, Nat.reduceEqDiff, Nat.reduceLT, Nat.reduceLeDiff, Nat.reduceAdd, List.length_cons, List.length_nil]
  · rfl
  · have hpl : pre.length ≤ 20 := by have := congrArg List.length e; simp at this; omega
    have hil : (spanL pre).length ≤ 1048576 := by
      have := spanL_len pre [0]
      refine Nat.le_trans this ?_
      rw [List.length_singleton, Nat.one_mul]
      exact Nat.le_trans (Nat.pow_le_pow_right (by decide) hpl) (by decide)
    have es : spanL (pre ++ [a]) = if a ∈ spanL pre then spanL pre else spanL pre ++ (spanL pre).map (· ^^^ a) := by unfold spanL; rw [List.foldl_append]; rfl
    rw [es]
    generalize spanL pre = f at *
    have hni : cmpop .notin (.int (a : Int)) (.lst false (nsP f)) = some (!decide (a ∈ f)) := by
      show (inP (.int (a : Int)) (.lst false (nsP f))).map (!·) = _
      rw [inP_ns]; rfl
    by_cases c : a ∈ f
    · simp only [ZR, List.set_cons_zero, List.set_cons_succ, Option.map_some, if_true, if_false, List.cons_append, List.nil_append, List.append_nil, Nat.reduceEqDiff, Nat.reduceLT, Nat.reduceLeDiff, Nat.reduceAdd, List.length_cons, List.length_nil, hni, c]
    · simp only [ZR, List.set_cons_zero, List.set_cons_succ, Option.map_some, if_true, if_false, List.cons_append, List.nil_append, List.append_nil, Nat.reduceEqDiff, Nat.reduceLT, Nat.reduceLeDiff, Nat.reduceAdd, List.length_cons, List.length_nil, hni, c]
      rw [comR_ns (· ^^^ a) f (by unfold lineB; omega) fun y hy => ?_]
      · have hb := binop_ll false true (xs := nsP f) (ys := nsP (f.map (· ^^^ a))) (by rw [nsP_length, nsP_length, List.length_map]; unfold lineB; omega) (frzL_ns _) (frzL_ns _)
        simp only [ZR, List.set_cons_zero, List.set_cons_succ, Option.map_some, if_true, if_false, List.cons_append, List.nil_append, List.append_nil, Nat.reduceEqDiff, Nat.reduceLT, Nat.reduceLeDiff, Nat.reduceAdd, List.length_cons, List.length_nil, hb]
        rw [← nsP_append]
        simp only [ZR, List.set_cons_zero, List.set_cons_succ, Option.map_some, if_true, if_false, List.cons_append, List.nil_append, List.append_nil, Nat.reduceEqDiff, Nat.reduceLT, Nat.reduceLeDiff, Nat.reduceAdd, List.length_cons, List.length_nil]
      · unfold turnC
        simp only [ZR, List.set_cons_zero, List.set_cons_succ, Option.map_some, if_true, if_false, List.cons_append, List.nil_append, List.append_nil, Nat.reduceEqDiff, Nat.reduceLT, Nat.reduceLeDiff, Nat.reduceAdd, List.length_cons, List.length_nil]

end K54
namespace K54
open PySem Z GF
/-! drawn lines, two spreads, read -/
theorem r_shuffled_n (n : Nat) (b : Bx) (xs : List Nat) (hb : b.ok) (hl : xs.length < 1000000) : callN prog (n + 2) 30 [boxP b, .lst false (nsP xs)] = .ret (.lst true (nsP (shufB b xs).1)) [boxP (shufB b xs).2] :=
  r_shuffled n b (fun n : Nat => PV.int (n : Int)) (by rw [frz_lf, frzL_ns]) (fz_lf _) rfl (fun a => frz_int _) hb hl
theorem r_lines (n : Nat) (b : Bx) (deep many : Nat) (hb : b.ok) (hm : many ≤ deep) (hd : deep ≤ 12) : callN prog (n + 3) 34 [boxP b, .int (deep : Int), .int (many : Int)] = .ret (.tup (nsP (linesB b deep many).1)) [boxP (linesB b deep many).2] := by
  have h0 := ln0_ok hb hm
  have h1 := ln1_ok h0
  have h2 := ln2_ok h1
  have hbd := drawL_ok (2 ^ many) (deep - many) hb
  rw [k__law_lines]
  simp only [d__law_lines, ZR, List.set_cons_zero, List.set_cons_succ, Option.map_some, if_true, if_false, List.cons_append, List.nil_append, List.append_nil, Nat.reduceEqDiff, Nat.reduceLT, Nat.reduceLeDiff, Nat.reduceAdd, List.length_cons, List.length_nil, FACTS, okR_nat (show many < 4611686018427387904 by omega), rngs_nat]
  rw [comR_ns (2 ^ ·) (List.range many) (by rw [List.length_range]; unfold lineB; omega) fun k hk => ?_]
  · simp only [ZR, List.set_cons_zero, List.set_cons_succ, Option.map_some, if_true, if_false, List.cons_append, List.nil_append, List.append_nil, Nat.reduceEqDiff, Nat.reduceLT, Nat.reduceLeDiff, Nat.reduceAdd, List.length_cons, List.length_nil, FACTS, b_sub hm, r_numbers _ _ _ _ hb (show deep - many ≤ 1000000 by omega) (show many < 30 by omega)]
    have hadd := binop_ll false true (xs := nsP ((List.range many).map (2 ^ ·))) (ys := nsP (drawL (2 ^ many) (deep - many) b).1) (by rw [nsP_length, nsP_length, List.length_map, List.length_range, drawL_len]; unfold lineB; omega) (frzL_ns _) (frzL_ns _)
    have hsl : ((List.range many).map (2 ^ ·) ++ (drawL (2 ^ many) (deep - many) b).1).length < 1000000 := by rw [List.length_append, List.length_map, List.length_range, drawL_len]; omega
    rw [← nsP_append] at hadd
    simp only [hadd, ZR, List.set_cons_zero, List.set_cons_succ, Option.map_some, if_true, if_false, List.cons_append, List.nil_append, List.append_nil, Nat.reduceEqDiff, Nat.reduceLT, Nat.reduceLeDiff, Nat.reduceAdd, List.length_cons, List.length_nil, FACTS, r_shuffled_n _ _ _ hbd hsl]
    rw [show shufB (drawL (2 ^ many) (deep - many) b).2 ((List.range many).map (2 ^ ·) ++ (drawL (2 ^ many) (deep - many) b).1) = ln0 b deep many from rfl]
    unfold linesB
    generalize ln0 b deep many = s0 at *
    have t7 := tk_lt s0.2 (show 0 < 7 by decide)
    have bt1 : (decide (1 < deep)).toNat ≤ 1 := by cases decide (1 < deep) <;> decide
    have m7 : (tk s0.2 7).1 * (decide (1 < deep)).toNat < 4611686018427387904 := Nat.lt_of_le_of_lt (Nat.mul_le_mul (Nat.le_of_lt t7) bt1) (by decide)
    simp only [r_take _ _ _ h0.ok (show 0 < 7 by decide) (show 7 < 1073741824 by decide), ZR, List.set_cons_zero, List.set_cons_succ, Option.map_some, if_true, if_false, List.cons_append, List.nil_append, List.append_nil, Nat.reduceEqDiff, Nat.reduceLT, Nat.reduceLeDiff, Nat.reduceAdd, List.length_cons, List.length_nil, b_mul (show (decide (1 < deep)).toNat < 18446744073709551616 by omega), okR_nat m7, rngs_nat]
    rw [loopF_ns (fun s : List Nat × Bx => [some (boxP s.2), some (.int (deep : Int)), some (.int (many : Int)), some (.lst true (nsP s.1)), none, none, none, none, none]) (fun s _ => rowS deep s) (LnOk deep many) (List.range ((tk s0.2 7).1 * (decide (1 < deep)).toNat)) (s0.1, (tk s0.2 7).2) ?_ ⟨h0.onto, h0.len, tk_ok h0.ok _⟩ fun s x hx hs => ?_]
    · rw [foldl_const, List.length_range]
      rw [show itF (rowS deep) ((tk s0.2 7).1 * (decide (1 < deep)).toNat) (s0.1, (tk s0.2 7).2) = ln1 s0 deep from rfl]
      generalize ln1 s0 deep = s1 at *
      have t4 := tk_lt s1.2 (show 0 < 4 by decide)
      have bt2 : (decide (1 < many)).toNat ≤ 1 := by cases decide (1 < many) <;> decide
      have m4 : (tk s1.2 4).1 * (decide (1 < many)).toNat < 4611686018427387904 := Nat.lt_of_le_of_lt (Nat.mul_le_mul (Nat.le_of_lt t4) bt2) (by decide)
      simp only [ZR, List.set_cons_zero, List.set_cons_succ, Option.map_some, if_true, if_false, List.cons_append, List.nil_append, List.append_nil, Nat.reduceEqDiff, Nat.reduceLT, Nat.reduceLeDiff, Nat.reduceAdd, List.length_cons, List.length_nil, FACTS, r_take _ _ _ h1.ok (show 0 < 4 by decide) (show 4 < 1073741824 by decide), b_mul (show (decide (1 < many)).toNat < 18446744073709551616 by omega), okR_nat m4, rngs_nat]
      rw [loopF_ns (fun s : List Nat × Bx => [some (boxP s.2), some (.int (deep : Int)), some (.int (many : Int)), some (.lst true (nsP s.1)), none, none, none, none, none]) (fun s _ => colS many s) (LnOk deep many) (List.range ((tk s1.2 4).1 * (decide (1 < many)).toNat)) (s1.1, (tk s1.2 4).2) ?_ ⟨h1.onto, h1.len, tk_ok h1.ok _⟩ fun s x hx hs => ?_]
      · rw [foldl_const, List.length_range]
        rw [show itF (colS many) ((tk s1.2 4).1 * (decide (1 < many)).toNat) (s1.1, (tk s1.2 4).2) = ln2 s1 many from rfl]
        simp only [ZR, List.set_cons_zero, List.set_cons_succ, Option.map_some, if_true, if_false, List.cons_append, List.nil_append, List.append_nil, Nat.reduceEqDiff, Nat.reduceLT, Nat.reduceLeDiff, Nat.reduceAdd, List.length_cons, List.length_nil, f_tuple_l _ (frzL_ns _)]
      · rfl
      · have c : 1 < many := Classical.byContradiction fun c => by
          rw [show (decide (1 < many)).toNat = 0 by simp [c], Nat.mul_zero] at hx
          exact absurd (List.mem_range.mp hx) (by omega)
        refine ⟨?_, hs.col c⟩
        have a1 := tk_lt s.2 (show 0 < many by omega)
        have a2 := tk_lt (tk s.2 many).2 (show 0 < many - 1 by omega)
        have hm' := Nat.mod_lt ((tk s.2 many).1 + 1 + (tk (tk s.2 many).2 (many - 1)).1) (show 0 < many by omega)
        simp only [ZR, List.set_cons_zero, List.set_cons_succ, Option.map_some, if_true, if_false, List.cons_append, List.nil_append, List.append_nil, Nat.reduceEqDiff, Nat.reduceLT, Nat.reduceLeDiff, Nat.reduceAdd, List.length_cons, List.length_nil, FACTS, r_take _ _ _ hs.ok (show 0 < many by omega) (show many < 1073741824 by omega), r_take _ _ _ (tk_ok hs.ok _) (show 0 < many - 1 by omega) (show many - 1 < 1073741824 by omega), b_sub (show 1 ≤ many by omega), b_mod (show 0 < many by omega)]
        rw [comR_ns (colf (tk s.2 many).1 (((tk s.2 many).1 + 1 + (tk (tk s.2 many).2 (many - 1)).1) % many)) s.1 (by rw [hs.len]; unfold lineB; omega) fun y hy => ?_]
        · simp only [ZR, List.set_cons_zero, List.set_cons_succ, Option.map_some, if_true, if_false, List.cons_append, List.nil_append, List.append_nil, Nat.reduceEqDiff, Nat.reduceLT, Nat.reduceLeDiff, Nat.reduceAdd, List.length_cons, List.length_nil]
          rfl
        · have h1' : (y >>> (tk s.2 many).1 &&& 1) < 18446744073709551616 := Nat.lt_of_le_of_lt Nat.and_le_right (by decide)
          unfold turnC
          simp only [ZR, List.set_cons_zero, List.set_cons_succ, Option.map_some, if_true, if_false, List.cons_append, List.nil_append, List.append_nil, Nat.reduceEqDiff, Nat.reduceLT, Nat.reduceLeDiff, Nat.reduceAdd, List.length_cons, List.length_nil, b_shl (show _ ∧ _ from ⟨(show ((tk s.2 many).1 + 1 + (tk (tk s.2 many).2 (many - 1)).1) % many ≤ 1000000 by omega), h1'⟩)]
          rfl
    · rfl
    · have c : 1 < deep := Classical.byContradiction fun c => by
        rw [show (decide (1 < deep)).toNat = 0 by simp [c], Nat.mul_zero] at hx
        exact absurd (List.mem_range.mp hx) (by omega)
      refine ⟨?_, hs.row c⟩
      have a1 := tk_lt s.2 (show 0 < deep by omega)
      have hm' := Nat.mod_lt ((tk s.2 deep).1 + 1 + (tk (tk s.2 deep).2 (deep - 1)).1) (show 0 < deep by omega)
      have g1 : (tk s.2 deep).1 < s.1.length := by rw [hs.len]; exact a1
      have g2 : ((tk s.2 deep).1 + 1 + (tk (tk s.2 deep).2 (deep - 1)).1) % deep < s.1.length := by rw [hs.len]; exact hm'
      have g3 : (tk s.2 deep).1 < (nsP s.1).length := by rw [nsP_length]; exact g1
      simp only [ZR, List.set_cons_zero, List.set_cons_succ, Option.map_some, if_true, if_false, List.cons_append, List.nil_append, List.append_nil, Nat.reduceEqDiff, Nat.reduceLT, Nat.reduceLeDiff, Nat.reduceAdd, List.length_cons, List.length_nil, FACTS, r_take _ _ _ hs.ok (show 0 < deep by omega) (show deep < 1073741824 by omega), r_take _ _ _ (tk_ok hs.ok _) (show 0 < deep - 1 by omega) (show deep - 1 < 1073741824 by omega), b_sub (show 1 ≤ deep by omega), b_mod (show 0 < deep by omega), getI_ns g1, getI_ns g2, seti_l _ g3, nsP_set]
      rfl
  · have hk := List.mem_range.mp hk
    unfold turnC
    simp only [ZR, List.set_cons_zero, List.set_cons_succ, Option.map_some, if_true, if_false, List.cons_append, List.nil_append, List.append_nil, Nat.reduceEqDiff, Nat.reduceLT, Nat.reduceLeDiff, Nat.reduceAdd, List.length_cons, List.length_nil, b_shl1 (show k ≤ 1000000 by omega)]

end K54
namespace K54
open PySem Z GF
abbrev two5 (t : Two) : PV := .tup [.int (t.deep : Int), .int (t.many : Int), .int (t.lanes : Int), .tup (nsP t.one), .tup (nsP t.two)]
theorem r_two (n : Nat) (b : Bx) (hb : b.ok) : callN prog (n + 4) 35 [boxP b] = .ret (two5 (twoS b).1) [boxP (twoS b).2] := by
  have hd1 : callN prog (n + 3) 29 [boxP b, .lst false [.int ((7 : Nat) : Int), .int ((5 : Nat) : Int), .int ((4 : Nat) : Int), .int ((3 : Nat) : Int), .int ((6 : Nat) : Int), .int ((2 : Nat) : Int), .int ((1 : Nat) : Int), .int ((0 : Nat) : Int)]] = .ret (.int ((ofN b deeps).1 : Int)) [boxP (ofN b deeps).2] :=
    r_of (n + 1) b (isNs_l deeps) (fun _ => rfl) (by decide) hb (by decide)
  have hd : (ofN b deeps).1 ≤ 7 := by
    have := ofN_mem b (xs := deeps) (by decide)
    unfold deeps at this
    simp at this
    unfold deeps
    omega
  have hdo : (ofN b deeps).2.ok := tk_ok hb _
  rw [k__law_two_spreads]
  unfold twoS
  simp only [d__law_two_spreads, ZR, List.set_cons_zero, List.set_cons_succ, Option.map_some, if_true, if_false, List.cons_append, List.nil_append, List.append_nil, Nat.reduceEqDiff, Nat.reduceLT, Nat.reduceLeDiff, Nat.reduceAdd, List.length_cons, List.length_nil, FACTS, hd1]
  generalize ofN b deeps = d at *
  have ht := tk_lt d.2 (show 0 < d.1 + 1 by omega)
  have hto : (tk d.2 (d.1 + 1)).2.ok := tk_ok hdo _
  have hs : binI .sub (d.1 : Int) ((1 : Nat) : Int) = some ((d.1 : Int) - ((1 : Nat) : Int)) := rfl
  simp only [ZR, List.set_cons_zero, List.set_cons_succ, Option.map_some, if_true, if_false, List.cons_append, List.nil_append, List.append_nil, Nat.reduceEqDiff, Nat.reduceLT, Nat.reduceLeDiff, Nat.reduceAdd, List.length_cons, List.length_nil, FACTS, hs, f_max2_sub, r_take _ _ _ hdo (show 0 < d.1 + 1 by omega) (show d.1 + 1 < 1073741824 by omega)]
  generalize tk d.2 (d.1 + 1) = t at *
  have hm : (ofN t.2 [d.1, d.1, d.1 - 1, t.1]).1 ≤ d.1 := by
    have := ofN_mem t.2 (xs := [d.1, d.1, d.1 - 1, t.1]) (by simp)
    simp only [List.mem_cons, List.not_mem_nil, or_false] at this
    omega
  have hm1 : callN prog (n + 3) 29 [boxP t.2, .lst false [.int (d.1 : Int), .int (d.1 : Int), .int ((d.1 - 1 : Nat) : Int), .int (t.1 : Int)]] = .ret (.int ((ofN t.2 [d.1, d.1, d.1 - 1, t.1]).1 : Int)) [boxP (ofN t.2 [d.1, d.1, d.1 - 1, t.1]).2] :=
    r_of (n + 1) t.2 (isNs_l [d.1, d.1, d.1 - 1, t.1]) (fun _ => rfl) (by simp) hto (by simp)
  have hmo : (ofN t.2 [d.1, d.1, d.1 - 1, t.1]).2.ok := tk_ok hto _
  simp only [hm1, ZR, List.set_cons_zero, List.set_cons_succ, Option.map_some, if_true, if_false, List.cons_append, List.nil_append, List.append_nil, Nat.reduceEqDiff, Nat.reduceLT, Nat.reduceLeDiff, Nat.reduceAdd, List.length_cons, List.length_nil, FACTS]
  generalize ofN t.2 [d.1, d.1, d.1 - 1, t.1] = m at *
  have ho := lines_ok hmo hm
  simp only [r_lines _ _ _ _ hmo hm (show d.1 ≤ 12 by omega), ZR, List.set_cons_zero, List.set_cons_succ, Option.map_some, if_true, if_false, List.cons_append, List.nil_append, List.append_nil, Nat.reduceEqDiff, Nat.reduceLT, Nat.reduceLeDiff, Nat.reduceAdd, List.length_cons, List.length_nil, FACTS]
  generalize linesB m.2 d.1 m.1 = o at *
  have hw : (tk o.2 4).2.ok := tk_ok ho.ok _
  simp only [r_take _ _ _ ho.ok (show 0 < 4 by decide) (show 4 < 1073741824 by decide), ZR, List.set_cons_zero, List.set_cons_succ, Option.map_some, if_true, if_false, List.cons_append, List.nil_append, List.append_nil, Nat.reduceEqDiff, Nat.reduceLT, Nat.reduceLeDiff, Nat.reduceAdd, List.length_cons, List.length_nil, FACTS]
  generalize tk o.2 4 = w at *
  have hu := lines_ok hw hm
  simp only [r_lines _ _ _ _ hw hm (show d.1 ≤ 12 by omega), ZR, List.set_cons_zero, List.set_cons_succ, Option.map_some, if_true, if_false, List.cons_append, List.nil_append, List.append_nil, Nat.reduceEqDiff, Nat.reduceLT, Nat.reduceLeDiff, Nat.reduceAdd, List.length_cons, List.length_nil, FACTS]
  generalize linesB w.2 d.1 m.1 = u at *
  by_cases c : w.1 = 0
  · have hol : o.1.length < 1000000 := by rw [ho.len]; omega
    simp only [c, ZR, List.set_cons_zero, List.set_cons_succ, Option.map_some, if_true, if_false, List.cons_append, List.nil_append, List.append_nil, Nat.reduceEqDiff, Nat.reduceLT, Nat.reduceLeDiff, Nat.reduceAdd, List.length_cons, List.length_nil, FACTS, f_list_t (frzL_ns o.1), r_shuffled_n _ _ _ hu.ok hol, f_tuple_l _ (frzL_ns _), r_take _ _ _ (shuf_ok hu.ok o.1) (show 0 < d.1 + 1 by omega) (show d.1 + 1 < 1073741824 by omega)]
  · by_cases c1 : w.1 = 1
    · by_cases c2 : 1 < d.1
      · have e1 : (d.1 : Int) - ((1 : Nat) : Int) = ((d.1 - 1 : Nat) : Int) := by omega
        have hk := tk_lt u.2 (show 0 < d.1 - 1 by omega)
        have hf1 : frzL ((nsP o.1).take (tk u.2 (d.1 - 1)).1) = true := by rw [nsP_take]; exact frzL_ns _
        have a1 := binop_tt (xs := nsP (o.1.take (tk u.2 (d.1 - 1)).1)) (ys := nsP ((o.1.drop (tk u.2 (d.1 - 1)).1).take 2).reverse) (by simp only [nsP_length, List.length_take, List.length_reverse, List.length_drop, ho.len]; unfold lineB; omega) (frzL_ns _) (frzL_ns _)
        rw [← nsP_append] at a1
        have a2 := binop_tt (xs := nsP (o.1.take (tk u.2 (d.1 - 1)).1 ++ ((o.1.drop (tk u.2 (d.1 - 1)).1).take 2).reverse)) (ys := nsP (o.1.drop ((tk u.2 (d.1 - 1)).1 + 2))) (by simp only [nsP_length, List.length_append, List.length_take, List.length_reverse, List.length_drop, ho.len]; unfold lineB; omega) (frzL_ns _) (frzL_ns _)
        rw [← nsP_append] at a2
        have a3 := rev_t (xs := nsP ((o.1.drop (tk u.2 (d.1 - 1)).1).take 2)) (frzL_ns _) (by simp only [nsP_length, List.length_take]; unfold lineB; omega)
        rw [nsP_rev] at a3
        simp only [c1, c2, ZR, List.set_cons_zero, List.set_cons_succ, Option.map_some, if_true, if_false, List.cons_append, List.nil_append, List.append_nil, Nat.reduceEqDiff, Nat.reduceLT, Nat.reduceLeDiff, Nat.reduceAdd, List.length_cons, List.length_nil, FACTS, Nat.one_ne_zero, b_sub (show 1 ≤ d.1 by omega), e1, r_take _ _ _ hu.ok (show 0 < d.1 - 1 by omega) (show d.1 - 1 < 1073741824 by omega), sl_to _ _ (frzL_ns o.1), sl_from _ _ (frzL_ns o.1), sl_mid _ _ _ (frzL_ns o.1), nsP_take, nsP_drop, Nat.add_sub_cancel_left, a3, a1, a2,
          r_take _ _ _ (tk_ok hu.ok (d.1 - 1)) (show 0 < d.1 + 1 by omega) (show d.1 + 1 < 1073741824 by omega), and_self]
        rfl
      · simp only [c1, c2, ZR, List.set_cons_zero, List.set_cons_succ, Option.map_some, if_true, if_false, List.cons_append, List.nil_append, List.append_nil, Nat.reduceEqDiff, Nat.reduceLT, Nat.reduceLeDiff, Nat.reduceAdd, List.length_cons, List.length_nil, FACTS, Nat.one_ne_zero, and_false, r_take _ _ _ hu.ok (show 0 < d.1 + 1 by omega) (show d.1 + 1 < 1073741824 by omega)]
    · simp only [c, c1, ZR, List.set_cons_zero, List.set_cons_succ, Option.map_some, if_true, if_false, List.cons_append, List.nil_append, List.append_nil, Nat.reduceEqDiff, Nat.reduceLT, Nat.reduceLeDiff, Nat.reduceAdd, List.length_cons, List.length_nil, FACTS, false_and, r_take _ _ _ hu.ok (show 0 < d.1 + 1 by omega) (show d.1 + 1 < 1073741824 by omega)]

end K54
namespace K54
open PySem Z GF
/-! the law of k54 -/
def reachK (im : List Nat) (lane : Nat) (sp : List Nat) (low : Nat) : List Nat := sp.foldl (fun ks sw => ((im.drop ((lane ^^^ sw) <<< low)).take (2 ^ low)).foldl addK ks) []
theorem reach_mem {im : List Nat} {lane low v : Nat} : ∀ {sp ks : List Nat}, v ∈ sp.foldl (fun ks sw => ((im.drop ((lane ^^^ sw) <<< low)).take (2 ^ low)).foldl addK ks) ks ↔ v ∈ ks ∨ ∃ sw ∈ sp, v ∈ (im.drop ((lane ^^^ sw) <<< low)).take (2 ^ low)
  | [], ks => by simp
  | s :: sp, ks => by
    rw [List.foldl_cons, reach_mem, addKs_mem]
    simp only [List.mem_cons, exists_eq_or_imp, or_assoc]
theorem r_reached (n : Nat) (im : List Nat) (lane : Nat) (sp : List Nat) (low : Nat) (h1 : sp.length ≤ 1000) (h2 : ∀ s ∈ sp, lane ^^^ s < 4096) (h3 : low ≤ 12) : callN prog (n + 1) 36 [.lst false (nsP im), .int (lane : Int), .lst false (nsP sp), .int (low : Int)] = .ret (dicP true (reachK im lane sp low)) [] := by
  have hp : 2 ^ low ≤ 4096 := Nat.le_trans (Nat.pow_le_pow_right (by decide) h3) (by decide)
  rw [k__law_reached]
  simp only [d__law_reached, ZR, List.set_cons_zero, List.set_cons_succ, Option.map_some, if_true, if_false, List.cons_append, List.nil_append, List.append_nil, Nat.reduceEqDiff, Nat.reduceLT, Nat.reduceLeDiff, Nat.reduceAdd, List.length_cons, List.length_nil]
  rw [loopF_nsI (fun pre => [some (.lst false (nsP im)), some (.int (lane : Int)), some (.lst false (nsP sp)), some (.int (low : Int)), some (dicP true (reachK im lane pre low)), none, none, none]) sp ?_ fun pre s suf e => ?_]
  · simp only [ZR, List.set_cons_zero, List.set_cons_succ, Option.map_some, if_true, if_false, List.cons_append, List.nil_append, List.append_nil, Nat.reduceEqDiff, Nat.reduceLT, Nat.reduceLeDiff, Nat.reduceAdd, List.length_cons, List.length_nil]
  · rfl
  · have hs := h2 s (by rw [e]; simp)
    have hpre : pre.length ≤ 1000 := by have := congrArg List.length e; simp at this; omega
    have hlen : ∀ pre : List Nat, (reachK im lane pre low).length ≤ pre.length * 4096 := by
      intro pre
      have aux : ∀ (pre ks : List Nat), (pre.foldl (fun ks sw => ((im.drop ((lane ^^^ sw) <<< low)).take (2 ^ low)).foldl addK ks) ks).length ≤ ks.length + pre.length * 4096 := by
        intro pre
        induction pre with
        | nil => intro ks; simp
        | cons p pre ih =>
          intro ks
          have h1 := ih (((im.drop ((lane ^^^ p) <<< low)).take (2 ^ low)).foldl addK ks)
          have h2 := addKs_len ((im.drop ((lane ^^^ p) <<< low)).take (2 ^ low)) ks
          have h3 : ((im.drop ((lane ^^^ p) <<< low)).take (2 ^ low)).length ≤ 2 ^ low := by rw [List.length_take]; omega
          rw [List.foldl_cons, List.length_cons]; omega
      unfold reachK
      simpa using aux pre []
    have hr := hlen pre
    have es : reachK im lane (pre ++ [s]) low = ((im.drop ((lane ^^^ s) <<< low)).take (2 ^ low)).foldl addK (reachK im lane pre low) := by unfold reachK; rw [List.foldl_append]; rfl
    rw [es]
    generalize reachK im lane pre low = ks at *
    simp only [ZR, List.set_cons_zero, List.set_cons_succ, Option.map_some, if_true, if_false, List.cons_append, List.nil_append, List.append_nil, Nat.reduceEqDiff, Nat.reduceLT, Nat.reduceLeDiff, Nat.reduceAdd, List.length_cons, List.length_nil, b_shl (show low ≤ 1000000 ∧ lane ^^^ s < 18446744073709551616 by omega), b_shl1 (show low ≤ 1000000 by omega), sl_midL _ _ _ _ (frzL_ns im), nsP_drop, nsP_take, Nat.add_sub_cancel_left]
    generalize hce : (im.drop ((lane ^^^ s) <<< low)).take (2 ^ low) = ce at *
    have hcl : ce.length ≤ 4096 := by rw [← hce, List.length_take]; omega
    rw [loopF_nsI (fun pr => [some (.lst false (nsP im)), some (.int (lane : Int)), some (.lst false (nsP sp)), some (.int (low : Int)), some (dicP true (pr.foldl addK ks)), some (.int (s : Int)), some (.int (((lane ^^^ s) <<< low : Nat) : Int)), none]) ce ?_ fun pr c sf e2 => ?_]
    · simp only [ZR, List.set_cons_zero, List.set_cons_succ, Option.map_some, if_true, if_false, List.cons_append, List.nil_append, List.append_nil, Nat.reduceEqDiff, Nat.reduceLT, Nat.reduceLeDiff, Nat.reduceAdd, List.length_cons, List.length_nil]
    · rfl
    · have hpr : pr.length ≤ 4096 := by have := congrArg List.length e2; simp at this; omega
      have hl := addKs_len pr ks
      have hlt : (pr.foldl addK ks).length < lineB := by unfold lineB; omega
      simp only [ZR, List.set_cons_zero, List.set_cons_succ, Option.map_some, if_true, if_false, List.cons_append, List.nil_append, List.append_nil, Nat.reduceEqDiff, Nat.reduceLT, Nat.reduceLeDiff, Nat.reduceAdd, List.length_cons, List.length_nil, seti_K _ _ hlt, List.foldl_append, List.foldl_cons, List.foldl_nil]
/-- from one lane the cells that are reached -/
theorem reach_iff {ls : List Nat} {lane low lanes v : Nat} {sp : List Nat} (hl : ls.length = low + lanes) (h1 : ∀ s ∈ sp, lane ^^^ s < 2 ^ lanes) : v ∈ reachK (imgs ls) lane sp low ↔ ∃ y, y < 2 ^ ls.length ∧ comb ls y = v ∧ ∃ s ∈ sp, y >>> low = lane ^^^ s := by
  unfold reachK
  rw [reach_mem]
  simp only [List.not_mem_nil, false_or]
  have key : ∀ s ∈ sp, v ∈ ((imgs ls).drop ((lane ^^^ s) <<< low)).take (2 ^ low) ↔ ∃ y, y < 2 ^ ls.length ∧ comb ls y = v ∧ y >>> low = lane ^^^ s := fun s hs => by
    have hlt := h1 s hs
    generalize lane ^^^ s = q at *
    have hb : q <<< low + 2 ^ low ≤ 2 ^ ls.length := by
      rw [Nat.shiftLeft_eq, hl, Nat.pow_add, Nat.mul_comm (2 ^ low)]
      calc q * 2 ^ low + 2 ^ low = (q + 1) * 2 ^ low := by rw [Nat.succ_mul]
        _ ≤ _ := Nat.mul_le_mul_right _ hlt
    rw [imgs_eq, ← List.map_drop, ← List.map_take, List.mem_map]
    have hm : ∀ y, y ∈ ((List.range (2 ^ ls.length)).drop (q <<< low)).take (2 ^ low) ↔ q <<< low ≤ y ∧ y < q <<< low + 2 ^ low := fun y => by
      rw [List.mem_iff_getElem?]
      constructor
      · rintro ⟨i, hi⟩
        rw [List.getElem?_take] at hi
        split at hi
        · rw [List.getElem?_drop, List.getElem?_range] at hi
          · injection hi with hi
            omega
          · exact Classical.byContradiction fun c => by
              rw [List.getElem?_eq_none (by simp; omega)] at hi; cases hi
        · cases hi
      · rintro ⟨a, b⟩
        refine ⟨y - q <<< low, ?_⟩
        rw [List.getElem?_take, if_pos (by omega), List.getElem?_drop, List.getElem?_range (by omega)]
        congr 1; omega
    constructor
    · rintro ⟨y, hy, e⟩
      have := (hm y).mp hy
      refine ⟨y, by omega, e, ?_⟩
      rw [Nat.shiftLeft_eq] at this
      rw [Nat.shiftRight_eq_div_pow]
      have hp := Nat.two_pow_pos low
      refine Nat.div_eq_of_lt_le (by omega) (by rw [Nat.succ_mul]; omega)
    · rintro ⟨y, h2, e, e2⟩
      refine ⟨y, (hm y).mpr ?_, e⟩
      rw [Nat.shiftRight_eq_div_pow] at e2
      rw [Nat.shiftLeft_eq, ← e2]
      have h3 := Nat.div_mul_le_self y (2 ^ low)
      have h4 := Nat.lt_div_mul_add (a := y) (b := 2 ^ low) (Nat.two_pow_pos low)
      omega
  constructor
  · rintro ⟨s, hs, hv⟩
    obtain ⟨y, a, b, c⟩ := (key s hs).mp hv
    exact ⟨y, a, b, s, hs, c⟩
  · rintro ⟨y, a, b, s, hs, c⟩
    exact ⟨s, hs, (key s hs).mpr ⟨y, a, b, c⟩⟩

theorem shl_shr (a k : Nat) : (a <<< k) >>> k = a := Nat.shiftLeft_shiftRight a k
theorem shl_lt {a k m : Nat} (h : a < 2 ^ m) : a <<< k < 2 ^ (k + m) := by
  rw [Nat.shiftLeft_eq, Nat.pow_add, Nat.mul_comm]
  exact Nat.mul_lt_mul_of_pos_left h (Nat.two_pow_pos k)
theorem wanted_there {ls : List Nat} {many low lanes lane ap : Nat} {places : List Nat} (o : Onto ls many) (hp : ∀ a ∈ places, a < many) (hl : ls.length = low + lanes) (hln : lane < 2 ^ lanes) (hap : ap ∈ spanL (places.map (2 ^ ·))) :
    (comb ls (lane <<< low) ^^^ ap) ∈ reachK (imgs ls) lane (spanL (gath ls many low places)) low := by
  have hg := gath_lt (low := low) o hp hl
  obtain ⟨y, h1, h2, h3⟩ := reach_all (low := low) o hp (spanL_mem.mp hap)
  refine (reach_iff hl fun s hs => Nat.xor_lt_two_pow hln ((spanL_mem.mp hs).lt hg)).mpr ⟨lane <<< low ^^^ y, ?_, by rw [(add_comb _).x, h2], y >>> low, spanL_mem.mpr h3, by rw [(add_shr low).x, shl_shr]⟩
  exact Nat.xor_lt_two_pow (by rw [hl]; exact shl_lt hln) h1
theorem fewer_not {ls : List Nat} {many low lanes lane k : Nat} {places : List Nat} (o : Onto ls many) (hp : ∀ a ∈ places, a < many) (hl : ls.length = low + lanes) (hln : lane < 2 ^ lanes) (hk : k < (gath ls many low places).length) :
    ¬ ∀ ap ∈ spanL (places.map (2 ^ ·)), (comb ls (lane <<< low) ^^^ ap) ∈ reachK (imgs ls) lane (spanL ((gath ls many low places).take k ++ (gath ls many low places).drop (k + 1))) low := fun h => by
  have hg := gath_lt (low := low) o hp hl
  have hsub : ∀ x ∈ (gath ls many low places).take k ++ (gath ls many low places).drop (k + 1), x < 2 ^ lanes := fun x hx => by
    rcases List.mem_append.mp hx with hx | hx
    · exact hg x (List.mem_of_mem_take hx)
    · exact hg x (List.mem_of_mem_drop hx)
  have e : gath ls many low places = (gath ls many low places).take k ++ (gath ls many low places)[k] :: (gath ls many low places).drop (k + 1) := by
    rw [← List.drop_eq_getElem_cons hk, List.take_append_drop]
  refine reach_less o hp e fun a ha => ?_
  have ha2 : 2 ^ a ∈ spanL (places.map (2 ^ ·)) := spanL_mem.mpr (.mem (List.mem_map_of_mem (f := (2 ^ ·)) ha))
  obtain ⟨y, h1, h2, s, hs, h3⟩ := (reach_iff hl fun s hs => Nat.xor_lt_two_pow hln ((spanL_mem.mp hs).lt hsub)).mp (h _ ha2)
  refine ⟨y ^^^ lane <<< low, Nat.xor_lt_two_pow h1 (by rw [hl]; exact shl_lt hln), ?_, ?_⟩
  · rw [(add_comb _).x, h2, Nat.xor_comm, xor_cancel']
  · rw [(add_shr low).x, shl_shr, h3, Nat.xor_comm lane s, xor_cancel]
    exact spanL_mem.mp hs
theorem spanL_len2 (xs : List Nat) : (spanL xs).length ≤ 2 ^ xs.length := by
  have := spanL_len xs [0]
  simpa [spanL] using this

end K54
namespace K54
open PySem Z GF
def after (b : Bx) : Bx := (keepB (List.range (twoS b).1.many) (twoS b).2).2
theorem counts_mono {ls : List Nat} {w low : Nat} {places : List Nat} : ∀ k, k < places.length → (gath ls w low (places.take k)).length ≤ (gath ls w low (places.take (k + 1))).length ∧ (gath ls w low (places.take (k + 1))).length ≤ (gath ls w low (places.take k)).length + 1 := fun k hk => by
  rw [List.take_succ_eq_append_getElem hk]
  rcases gath_count (lines := ls) (many := w) (low := low) (places.take k) places[k] with h | h <;> omega
theorem pair_mono {f : Nat → Nat} {m : Nat} (h : ∀ k, k < m → f k ≤ f (k + 1)) : ((List.range (m + 1)).map f).Pairwise (· ≤ ·) := by
  have mono : ∀ d k, k + d ≤ m → f k ≤ f (k + d) := by
    intro d
    induction d with
    | zero => intro k _; exact Nat.le_refl _
    | succ d ih => intro k hk; exact Nat.le_trans (ih k (by omega)) (h (k + d) (by omega))
  refine List.pairwise_map.mpr ?_
  refine List.Pairwise.imp_of_mem ?_ (List.pairwise_lt_range (n := m + 1))
  intro a b ha hb hab
  have := List.mem_range.mp hb
  have h2 := mono (b - a) a (by omega)
  rwa [show a + (b - a) = b by omega] at h2
theorem r_law (n : Nat) (ns : List Int) (h : ns.length ≤ 63) : callN prog (n + 12) 37 [.scr ns] = .ret (.bl true) [] := by
  have ok0 : Bx.ok ⟨ns, 0, 0, 41⟩ := by show (41 : Nat) < 2147483549; decide
  rw [k_law]
  simp only [d_law, ZR, List.set_cons_zero, List.set_cons_succ, Option.map_some, if_true, if_false, List.cons_append, List.nil_append, List.append_nil, Nat.reduceEqDiff, Nat.reduceLT, Nat.reduceLeDiff, Nat.reduceAdd, List.length_cons, List.length_nil, FACTS, r_box _ _ h, okR_nat (show 2 < 4611686018427387904 by decide), rngs_nat]
  rw [loopF_ns (fun b : Bx => [some (.scr ns), some (boxP b), none, none, none, none, none, none, none, none, none, none, none, none, none, none, none, none, none, none, none, none, none]) (fun b _ => after b) Bx.ok (List.range 2) ⟨ns, 0, 0, 41⟩ ?_ ok0 fun b x hx hb => ?_]
  · simp only [ZR, List.set_cons_zero, List.set_cons_succ, Option.map_some, if_true, if_false, List.cons_append, List.nil_append, List.append_nil, Nat.reduceEqDiff, Nat.reduceLT, Nat.reduceLeDiff, Nat.reduceAdd, List.length_cons, List.length_nil]
  · rfl
  · obtain ⟨ht, hto⟩ := two_ok hb
    have eaf : after b = (keepB (List.range (twoS b).1.many) (twoS b).2).2 := rfl
    rw [eaf]
    simp only [ZR, List.set_cons_zero, List.set_cons_succ, Option.map_some, if_true, if_false, List.cons_append, List.nil_append, List.append_nil, Nat.reduceEqDiff, Nat.reduceLT, Nat.reduceLeDiff, Nat.reduceAdd, List.length_cons, List.length_nil, FACTS, r_two _ _ hb]
    generalize twoS b = t2 at *
    obtain ⟨t, b2⟩ := t2
    simp only at ht hto ⊢
    obtain ⟨deep, many, lanes, one, two⟩ := t
    obtain ⟨h7, hmd, hld, ho, hol, ho2, hol2⟩ := ht
    simp only at h7 hmd hld ho hol ho2 hol2 ⊢
    have hlt := ho.1
    have hol12 : one.length ≤ 12 := by omega
    simp only [ZR, List.set_cons_zero, List.set_cons_succ, Option.map_some, if_true, if_false, List.cons_append, List.nil_append, List.append_nil, Nat.reduceEqDiff, Nat.reduceLT, Nat.reduceLeDiff, Nat.reduceAdd, List.length_cons, List.length_nil, FACTS, b_sub hld, g_Fold_init _ (isNs_t one) many (by omega) hol12 hlt, r_images _ (isNs_t one) (show one.length ≤ 20 by omega), okR_nat (show many < 4611686018427387904 by omega), rngs_nat]
    rw [comR_nsC (fun s : Bx => [some (.scr ns), some (boxP s), some (.int (x : Int)), some (.int ((deep - lanes : Nat) : Int)), none, none, none, none, none, none, some (.int (deep : Int)), some (.int (many : Int)), some (.int (lanes : Int)), some (.tup (nsP one)), some (.tup (nsP two)), some (foldO one many), some (.lst false (nsP (imgs one))), none, none, none, none, none, none])
      (fun (s : Bx) (x : Nat) => if (tk s 2).1 = 0 then some (.int (x : Int)) else none) (fun s _ => (tk s 2).2) Bx.ok (List.range many) b2 ?_ hto ?_ fun s x hx hs => ?_]
    · obtain ⟨q1, q2⟩ := collA_keep (List.range many) b2
      rw [q1, q2]
      have hsub := keepB_sub (List.range many) b2
      have hnd : (keepB (List.range many) b2).1.Nodup := hsub.nodup List.nodup_range
      have hpl : ∀ a ∈ (keepB (List.range many) b2).1, a < many := fun a ha => List.mem_range.mp (hsub.subset ha)
      have hlen : (keepB (List.range many) b2).1.length ≤ 7 := by have := hsub.length_le; rw [List.length_range] at this; omega
      refine ⟨?_, keepB_ok _ hto⟩
      generalize (keepB (List.range many) b2).2 = b3 at *
      generalize (keepB (List.range many) b2).1 = places at *
      have hw200 : ∀ x ∈ places.map (2 ^ ·), x < 2 ^ many := fun x hx => by
        obtain ⟨a, ha, rfl⟩ := List.mem_map.mp hx
        exact Nat.pow_lt_pow_right (by decide) (hpl a ha)
      have hlo : one.length - lanes = deep - lanes := by rw [hol]
      have hlan : lanes ≤ one.length := by omega
      have hg : ∀ (m : Nat) (pl : List Nat), pl.Nodup → (∀ a ∈ pl, a < many) → callN prog (m + 8) 26 [foldP one many, .lst false (nsP pl), .int (lanes : Int)] = .ret (.lst true (nsP (gath one many (deep - lanes) pl))) [] := fun m pl h1 h2 => by
        have h3 : pl.length ≤ 4000 := Nat.le_trans (nodup_le h1 h2) (by omega)
        have := r_gather m one many lanes (isNs_l pl) hol12 (by omega) ho hlan h2 h1 (f_lenset false h1 h3)
        rwa [hlo] at this
      simp only [ZR, List.set_cons_zero, List.set_cons_succ, Option.map_some, if_true, if_false, List.cons_append, List.nil_append, List.append_nil, Nat.reduceEqDiff, Nat.reduceLT, Nat.reduceLeDiff, Nat.reduceAdd, List.length_cons, List.length_nil, FACTS, hg _ _ hnd hpl]
      rw [comR_ns (2 ^ ·) places (by unfold lineB; omega) fun k hk => ?_]
      · have hl54 : one.length = (deep - lanes) + lanes := by omega
        have hfl := gath_lt (low := deep - lanes) ho hpl hl54
        have hfr : Red (gath one many (deep - lanes) places) := bas_red _
        have hflen : (gath one many (deep - lanes) places).length ≤ places.length := by have := bas_len (places.map fun at_ => stepA one many (deep - lanes) at_ >>> (deep - lanes)); rwa [List.length_map] at this
        have hflen2 : (gath one many (deep - lanes) places).length ≤ lanes := hfr.len hfl
        simp only [ZR, List.set_cons_zero, List.set_cons_succ, Option.map_some, if_true, if_false, List.cons_append, List.nil_append, List.append_nil, Nat.reduceEqDiff, Nat.reduceLT, Nat.reduceLeDiff, Nat.reduceAdd, List.length_cons, List.length_nil, FACTS, r_span _ (isNs_l (places.map (2 ^ ·))) (show (places.map (2 ^ ·)).length ≤ 20 by rw [List.length_map]; omega), r_span _ (isNs_l (gath one many (deep - lanes) places)) (show (gath one many (deep - lanes) places).length ≤ 20 by omega), b_shl1 (show lanes ≤ 1000000 by omega)]
        have hp2 : 2 ^ lanes ≤ 128 := Nat.le_trans (Nat.pow_le_pow_right (by decide) (show lanes ≤ 7 by omega)) (by decide)
        simp only [okR_nat (show 2 ^ lanes < 4611686018427387904 by omega), rngs_nat, ZR, List.set_cons_zero, List.set_cons_succ, Option.map_some, if_true, if_false, List.cons_append, List.nil_append, List.append_nil, Nat.reduceEqDiff, Nat.reduceLT, Nat.reduceLeDiff, Nat.reduceAdd, List.length_cons, List.length_nil]
        rw [loopF_ns (fun _ : Unit => [some (.scr ns), some (boxP b3), some (.int (x : Int)), some (.int ((deep - lanes : Nat) : Int)), some (.lst false (nsP places)), some (.lst false (nsP (gath one many (deep - lanes) places))),
          some (.lst false (nsP (spanL (places.map (2 ^ ·))))), some (.lst false (nsP (spanL (gath one many (deep - lanes) places)))), none, none, some (.int (deep : Int)), some (.int (many : Int)), some (.int (lanes : Int)), some (.tup (nsP one)), some (.tup (nsP two)), some (foldP one many), some (.lst false (nsP (imgs one))), none, none, none, none, none, none])
          (fun _ _ => ()) (fun _ => True) (List.range (2 ^ lanes)) () ?_ trivial fun _ ln hln _ => ?_]
        · have c1 : ¬ places.length < (gath one many (deep - lanes) places).length := by omega
          have c2 : ¬ lanes < (gath one many (deep - lanes) places).length := by omega
          simp only [ZR, List.set_cons_zero, List.set_cons_succ, Option.map_some, if_true, if_false, List.cons_append, List.nil_append, List.append_nil, Nat.reduceEqDiff, Nat.reduceLT, Nat.reduceLeDiff, Nat.reduceAdd, List.length_cons, List.length_nil, nsP_length, c1, c2, okR_nat (show places.length + 1 < 4611686018427387904 by omega), rngs_nat]
          rw [comR_ns (fun k => (gath one many (deep - lanes) (places.take k)).length) (List.range (places.length + 1)) (by rw [List.length_range]; unfold lineB; omega) fun k hk => ?_]
          · have hmono := counts_mono (ls := one) (w := many) (low := deep - lanes) (places := places)
            have hsorted := sortN_of_sorted (pair_mono (f := fun k => (gath one many (deep - lanes) (places.take k)).length) (m := places.length) fun k hk => (hmono k hk).1)
            simp only [ZR, List.set_cons_zero, List.set_cons_succ, Option.map_some, if_true, if_false, List.cons_append, List.nil_append, List.append_nil, Nat.reduceEqDiff, Nat.reduceLT, Nat.reduceLeDiff, Nat.reduceAdd, List.length_cons, List.length_nil, hsorted, nsP_length, okR_nat (show places.length < 4611686018427387904 by omega), rngs_nat]
            rw [comR_nsB (fun _ => false) (List.range places.length) (by rw [List.length_range]; unfold lineB; omega) fun k hk => ?_]
            · have hany : ((List.range places.length).any fun _ => false) = false := by
                generalize List.range places.length = q
                induction q <;> simp
              simp only [ZR, List.set_cons_zero, List.set_cons_succ, Option.map_some, if_true, if_false, List.cons_append, List.nil_append, List.append_nil, Nat.reduceEqDiff, Nat.reduceLT, Nat.reduceLeDiff, Nat.reduceAdd, List.length_cons, List.length_nil, f_any, hany]
            · have hk := List.mem_range.mp hk
              obtain ⟨m1, m2⟩ := hmono k hk
              have hcl : ((List.range (places.length + 1)).map fun k => (gath one many (deep - lanes) (places.take k)).length).length = places.length + 1 := by rw [List.length_map, List.length_range]
              have g1 : ((List.range (places.length + 1)).map fun k => (gath one many (deep - lanes) (places.take k)).length).getD k 0 = (gath one many (deep - lanes) (places.take k)).length := by
                rw [List.getD_eq_getElem?_getD, List.getElem?_map, List.getElem?_range (by omega)]; rfl
              have g2 : ((List.range (places.length + 1)).map fun k => (gath one many (deep - lanes) (places.take k)).length).getD (k + 1) 0 = (gath one many (deep - lanes) (places.take (k + 1))).length := by
                rw [List.getD_eq_getElem?_getD, List.getElem?_map, List.getElem?_range (by omega)]; rfl
              have c3 : ¬ 1 < (gath one many (deep - lanes) (places.take (k + 1))).length - (gath one many (deep - lanes) (places.take k)).length := by omega
              unfold turnC
              simp only [ZR, List.set_cons_zero, List.set_cons_succ, Option.map_some, if_true, if_false, List.cons_append, List.nil_append, List.append_nil, Nat.reduceEqDiff, Nat.reduceLT, Nat.reduceLeDiff, Nat.reduceAdd, List.length_cons, List.length_nil, getI_ns (show k + 1 < _ by rw [hcl]; omega), getI_ns (show k < _ by rw [hcl]; omega), g1, g2, b_sub m1, c3]
          · have htk : (places.take k).Nodup := hnd.sublist (List.take_sublist k places)
            have htp : ∀ a ∈ places.take k, a < many := fun a ha => hpl a (List.mem_of_mem_take ha)
            unfold turnC
            simp only [ZR, List.set_cons_zero, List.set_cons_succ, Option.map_some, if_true, if_false, List.cons_append, List.nil_append, List.append_nil, Nat.reduceEqDiff, Nat.reduceLT, Nat.reduceLeDiff, Nat.reduceAdd, List.length_cons, List.length_nil, FACTS, sl_toL _ _ _ (frzL_ns _), nsP_take, hg _ _ htk htp, nsP_length]
        · rfl
        · have hln := List.mem_range.mp hln
          refine ⟨?_, trivial⟩
          have hil : (imgs one).length = 2 ^ deep := by rw [imgs_eq, List.length_map, List.length_range, hol]
          have hst : ln <<< (deep - lanes) < (imgs one).length := by
            have := shl_lt (k := deep - lanes) hln
            rw [hil]; rwa [show deep - lanes + lanes = deep by omega] at this
          have hget : (imgs one).getD (ln <<< (deep - lanes)) 0 = comb one (ln <<< (deep - lanes)) := by
            rw [imgs_eq, List.getD_eq_getElem?_getD, List.getElem?_map, List.getElem?_range (by rw [hil] at hst; rw [hol]; exact hst)]; rfl
          have hsl : ∀ xs : List Nat, xs.length ≤ lanes → (spanL xs).length ≤ 128 := fun xs hx => Nat.le_trans (spanL_len2 xs) (Nat.le_trans (Nat.pow_le_pow_right (by decide) hx) hp2)
          have hsx : ∀ xs : List Nat, (∀ x ∈ xs, x < 2 ^ lanes) → ∀ s ∈ spanL xs, ln ^^^ s < 4096 := fun xs hx s hs => Nat.lt_of_lt_of_le (Nat.xor_lt_two_pow hln ((spanL_mem.mp hs).lt hx)) (by omega)
          simp only [ZR, List.set_cons_zero, List.set_cons_succ, Option.map_some, if_true, if_false, List.cons_append, List.nil_append, List.append_nil, Nat.reduceEqDiff, Nat.reduceLT, Nat.reduceLeDiff, Nat.reduceAdd, List.length_cons, List.length_nil, FACTS, r_reached _ _ _ _ _ (Nat.le_trans (hsl _ hflen2) (by decide)) (hsx _ hfl) (show deep - lanes ≤ 12 by omega), b_shl (show deep - lanes ≤ 1000000 ∧ ln < 18446744073709551616 by omega), getI_ns hst, hget]
          have hwl : (spanL (places.map (2 ^ ·))).length ≤ lineB := Nat.le_trans (spanL_len2 _) (by rw [List.length_map]; exact Nat.le_trans (Nat.pow_le_pow_right (by decide) hlen) (by decide))
          rw [comR_nsB (fun ap => decide ((comb one (ln <<< (deep - lanes)) ^^^ ap) ∈ reachK (imgs one) ln (spanL (gath one many (deep - lanes) places)) (deep - lanes))) _ hwl fun ap hap => ?_]
          · have hall : (spanL (places.map (2 ^ ·))).all (fun ap => decide ((comb one (ln <<< (deep - lanes)) ^^^ ap) ∈ reachK (imgs one) ln (spanL (gath one many (deep - lanes) places)) (deep - lanes))) = true := all_true fun ap hap => decide_eq_true (wanted_there ho hpl hl54 hln hap)
            have hfl4 : (gath one many (deep - lanes) places).length < 4611686018427387904 := by omega
            simp only [ZR, List.set_cons_zero, List.set_cons_succ, Option.map_some, if_true, if_false, List.cons_append, List.nil_append, List.append_nil, Nat.reduceEqDiff, Nat.reduceLT, Nat.reduceLeDiff, Nat.reduceAdd, List.length_cons, List.length_nil, f_all, hall, nsP_length, okR_nat hfl4, rngs_nat]
            rw [comR_nsP (fun k => .lst true (nsP ((gath one many (deep - lanes) places).take k ++ (gath one many (deep - lanes) places).drop (k + 1)))) _ (by rw [List.length_range]; unfold lineB; omega) fun k hk => ?_]
            · simp only [ZR, List.set_cons_zero, List.set_cons_succ, Option.map_some, if_true, if_false, List.cons_append, List.nil_append, List.append_nil, Nat.reduceEqDiff, Nat.reduceLT, Nat.reduceLeDiff, Nat.reduceAdd, List.length_cons, List.length_nil, fzL_map]
              rw [loopF_g (fun k => .lst false (nsP ((gath one many (deep - lanes) places).take k ++ (gath one many (deep - lanes) places).drop (k + 1)))) (fun _ : Unit => [some (.scr ns), some (boxP b3), some (.int (x : Int)), some (.int ((deep - lanes : Nat) : Int)), some (.lst false (nsP places)), some (.lst false (nsP (gath one many (deep - lanes) places))),
                some (.lst false (nsP (spanL (places.map (2 ^ ·))))), some (.lst false (nsP (spanL (gath one many (deep - lanes) places)))), some (.int (ln : Int)), none, some (.int (deep : Int)), some (.int (many : Int)), some (.int (lanes : Int)), some (.tup (nsP one)), some (.tup (nsP two)), some (foldP one many), some (.lst false (nsP (imgs one))), none, some (.int ((comb one (ln <<< (deep - lanes)) : Nat) : Int)), none, none, none, none])
                (fun _ _ => ()) (fun _ => True) (List.range (gath one many (deep - lanes) places).length) () ?_ trivial fun _ k hk _ => ?_]
              · simp only [ZR, List.set_cons_zero, List.set_cons_succ, Option.map_some, if_true, if_false, List.cons_append, List.nil_append, List.append_nil, Nat.reduceEqDiff, Nat.reduceLT, Nat.reduceLeDiff, Nat.reduceAdd, List.length_cons, List.length_nil]
              · rfl
              · have hk := List.mem_range.mp hk
                refine ⟨?_, trivial⟩
                have hfe : ((gath one many (deep - lanes) places).take k ++ (gath one many (deep - lanes) places).drop (k + 1)).length ≤ lanes := by simp; omega
                have hfe2 : ∀ x ∈ (gath one many (deep - lanes) places).take k ++ (gath one many (deep - lanes) places).drop (k + 1), x < 2 ^ lanes := fun x hx => by
                  rcases List.mem_append.mp hx with hx | hx
                  · exact hfl x (List.mem_of_mem_take hx)
                  · exact hfl x (List.mem_of_mem_drop hx)
                have hno := fewer_not ho hpl hl54 hln hk
                generalize (gath one many (deep - lanes) places).take k ++ (gath one many (deep - lanes) places).drop (k + 1) = fe at *
                simp only [ZR, List.set_cons_zero, List.set_cons_succ, Option.map_some, if_true, if_false, List.cons_append, List.nil_append, List.append_nil, Nat.reduceEqDiff, Nat.reduceLT, Nat.reduceLeDiff, Nat.reduceAdd, List.length_cons, List.length_nil, FACTS, r_span _ (isNs_l fe) (show fe.length ≤ 20 by omega), r_reached _ _ _ _ _ (Nat.le_trans (hsl _ hfe) (by decide)) (hsx _ hfe2) (show deep - lanes ≤ 12 by omega)]
                rw [comR_nsB (fun ap => decide ((comb one (ln <<< (deep - lanes)) ^^^ ap) ∈ reachK (imgs one) ln (spanL fe) (deep - lanes))) _ hwl fun ap hap => ?_]
                · have hall2 : (spanL (places.map (2 ^ ·))).all (fun ap => decide ((comb one (ln <<< (deep - lanes)) ^^^ ap) ∈ reachK (imgs one) ln (spanL fe) (deep - lanes))) = false := all_false fun hh => hno fun ap hap => of_decide_eq_true (hh ap hap)
                  simp only [ZR, List.set_cons_zero, List.set_cons_succ, Option.map_some, if_true, if_false, List.cons_append, List.nil_append, List.append_nil, Nat.reduceEqDiff, Nat.reduceLT, Nat.reduceLeDiff, Nat.reduceAdd, List.length_cons, List.length_nil, f_all, hall2]
                · unfold turnC
                  simp only [ZR, List.set_cons_zero, List.set_cons_succ, Option.map_some, if_true, if_false, List.cons_append, List.nil_append, List.append_nil, Nat.reduceEqDiff, Nat.reduceLT, Nat.reduceLeDiff, Nat.reduceAdd, List.length_cons, List.length_nil]
            · have hk := List.mem_range.mp hk
              have hadd := binop_ll true true (xs := nsP ((gath one many (deep - lanes) places).take k)) (ys := nsP ((gath one many (deep - lanes) places).drop (k + 1))) (by rw [nsP_length, nsP_length]; simp; unfold lineB; omega) (frzL_ns _) (frzL_ns _)
              rw [← nsP_append] at hadd
              unfold turnC
              simp only [ZR, List.set_cons_zero, List.set_cons_succ, Option.map_some, if_true, if_false, List.cons_append, List.nil_append, List.append_nil, Nat.reduceEqDiff, Nat.reduceLT, Nat.reduceLeDiff, Nat.reduceAdd, List.length_cons, List.length_nil, sl_toL _ _ _ (frzL_ns _), sl_fromL _ _ _ (frzL_ns _), nsP_take, nsP_drop, hadd]
          · unfold turnC
            simp only [ZR, List.set_cons_zero, List.set_cons_succ, Option.map_some, if_true, if_false, List.cons_append, List.nil_append, List.append_nil, Nat.reduceEqDiff, Nat.reduceLT, Nat.reduceLeDiff, Nat.reduceAdd, List.length_cons, List.length_nil]
      · unfold turnC
        simp only [ZR, List.set_cons_zero, List.set_cons_succ, Option.map_some, if_true, if_false, List.cons_append, List.nil_append, List.append_nil, Nat.reduceEqDiff, Nat.reduceLT, Nat.reduceLeDiff, Nat.reduceAdd, List.length_cons, List.length_nil, b_shl1 (show k ≤ 1000000 by have := hpl k hk; omega)]
    · rfl
    · rw [List.length_range]; unfold lineB; omega
    · refine ⟨?_, tk_ok hs _⟩
      unfold turnC
      simp only [ZR, List.set_cons_zero, List.set_cons_succ, Option.map_some, if_true, if_false, List.cons_append, List.nil_append, List.append_nil, Nat.reduceEqDiff, Nat.reduceLT, Nat.reduceLeDiff, Nat.reduceAdd, List.length_cons, List.length_nil, FACTS, r_take _ _ _ hs (show 0 < 2 by decide) (show 2 < 1073741824 by decide)]
      split <;> simp only [ZR, List.set_cons_zero, List.set_cons_succ, Option.map_some, if_true, if_false, List.cons_append, List.nil_append, List.append_nil, Nat.reduceEqDiff, Nat.reduceLT, Nat.reduceLeDiff, Nat.reduceAdd, List.length_cons, List.length_nil, *]


end K54
namespace K54
open PySem Z GF
theorem law_pure : ∀ ns : List Int, ns.length ≤ 63 → ∃ ms, callN prog depth 37 [.scr ns] = .ret (.bl true) ms := fun ns h => ⟨[], r_law 18 ns h⟩

end K54

open PySem PySem.W PyProof.Rows
set_option maxRecDepth 100000 in
set_option maxHeartbeats 0 in
theorem PySem.Challenge.cw_foldberth_k54_whole_gathers_reach_all_holds : PySem.Challenge.rw_foldberth_k54_whole_gathers_reach_all.Holds := by
  w_on; o_law; k_head; (case hw => w_witness2)
  k_fill
  refine Z.walk_z (l := PySem.Challenge.rw_foldberth_k54_whole_gathers_reach_all) (k := 2 * K54.depth) (x := ("_law_script" : Str)) rfl rfl ⟨rfl, by decide, by decide⟩ (fun w h Y => PySem.W.kIn_of Y) ?F
  case F =>
    intro w mg fa h KX G hmg
    refine' K54.facts KX G ?aC6 ?at1 ?lk1 ?co1 ?kp1 ?at2 ?lk2 ?co2 ?kp2 ?at3 ?lk3 ?co3 ?kp3 ?at4 ?lk4 ?co4 ?kp4 ?at5 ?lk5 ?co5 ?kp5 ?at6 ?lk6 ?co6 ?kp6 ?at7 ?lk7 ?co7 ?kp7 ?at8 ?fn8 ?lk8 ?co8 ?kp8 ?at13 ?fn13 ?lk13 ?co13 ?kp13 ?at14 ?fn14 ?lk14 ?co14 ?kp14 ?at15 ?fn15 ?lk15 ?co15 ?kp15 ?at16 ?fn16 ?lk16 ?co16 ?kp16 ?at17 ?fn17 ?lk17 ?co17 ?kp17 ?at22 ?fn22 ?lk22 ?co22 ?kp22 ?at23 ?fn23 ?lk23 ?co23 ?kp23 ?at24 ?lk24 ?co24 ?kp24 ?at25 ?lk25 ?co25 ?kp25 ?at26 ?lk26 ?co26 ?kp26 ?at27 ?lk27 ?co27 ?kp27 ?at28 ?lk28 ?co28 ?kp28 ?at29 ?lk29 ?co29 ?kp29 ?at30 ?lk30 ?co30 ?kp30 ?at31 ?lk31 ?co31 ?kp31 ?at32 ?lk32 ?co32 ?kp32 ?at33 ?lk33 ?co33 ?kp33 ?at34 ?lk34 ?co34 ?kp34 ?at35 ?lk35 ?co35 ?kp35 ?at36 ?lk36 ?co36 ?kp36 ?at37 ?lk37 ?co37 ?kp37 ?pg6 ?hd6 ?po6 ?sa6 ?mk6 ?kc6 ?no6_0 ?no6_1 ?z_len ?z_sorted ?z_sum ?z_max ?z_min ?z_abs ?z_int ?z_list ?z_tuple ?z_any ?z_all ?z_set ?z_isinstance ?z_bool ?z_str ?z_range ?z_enumerate ?z_zip ?gl0 K54.law_pure hmg
    (case aC6 => k_is)
    (case at1 => k_is)
    (case lk1 => k_is)
    (case co1 => k_is)
    (case kp1 => k_is)
    (case at2 => k_is)
    (case lk2 => k_is)
    (case co2 => k_is)
    (case kp2 => k_is)
    (case at3 => k_is)
    (case lk3 => k_is)
    (case co3 => k_is)
    (case kp3 => k_is)
    (case at4 => k_is)
    (case lk4 => k_is)
    (case co4 => k_is)
    (case kp4 => k_is)
    (case at5 => k_is)
    (case lk5 => k_is)
    (case co5 => k_is)
    (case kp5 => k_is)
    (case at6 => k_is)
    (case lk6 => k_is)
    (case co6 => k_is)
    (case kp6 => k_is)
    (case at7 => k_is)
    (case lk7 => k_is)
    (case co7 => k_is)
    (case kp7 => k_is)
    (case at8 => k_is)
    (case fn8 => k_is)
    (case lk8 => k_is)
    (case co8 => k_is)
    (case kp8 => k_is)
    (case at13 => k_is)
    (case fn13 => k_is)
    (case lk13 => k_is)
    (case co13 => k_is)
    (case kp13 => k_is)
    (case at14 => k_is)
    (case fn14 => k_is)
    (case lk14 => k_is)
    (case co14 => k_is)
    (case kp14 => k_is)
    (case at15 => k_is)
    (case fn15 => k_is)
    (case lk15 => k_is)
    (case co15 => k_is)
    (case kp15 => k_is)
    (case at16 => k_is)
    (case fn16 => k_is)
    (case lk16 => k_is)
    (case co16 => k_is)
    (case kp16 => k_is)
    (case at17 => k_is)
    (case fn17 => k_is)
    (case lk17 => k_is)
    (case co17 => k_is)
    (case kp17 => k_is)
    (case at22 => k_is)
    (case fn22 => k_is)
    (case lk22 => k_is)
    (case co22 => k_is)
    (case kp22 => k_is)
    (case at23 => k_is)
    (case fn23 => k_is)
    (case lk23 => k_is)
    (case co23 => k_is)
    (case kp23 => k_is)
    (case at24 => k_is)
    (case lk24 => k_is)
    (case co24 => k_is)
    (case kp24 => k_is)
    (case at25 => k_is)
    (case lk25 => k_is)
    (case co25 => k_is)
    (case kp25 => k_is)
    (case at26 => k_is)
    (case lk26 => k_is)
    (case co26 => k_is)
    (case kp26 => k_is)
    (case at27 => k_is)
    (case lk27 => k_is)
    (case co27 => k_is)
    (case kp27 => k_is)
    (case at28 => k_is)
    (case lk28 => k_is)
    (case co28 => k_is)
    (case kp28 => k_is)
    (case at29 => k_is)
    (case lk29 => k_is)
    (case co29 => k_is)
    (case kp29 => k_is)
    (case at30 => k_is)
    (case lk30 => k_is)
    (case co30 => k_is)
    (case kp30 => k_is)
    (case at31 => k_is)
    (case lk31 => k_is)
    (case co31 => k_is)
    (case kp31 => k_is)
    (case at32 => k_is)
    (case lk32 => k_is)
    (case co32 => k_is)
    (case kp32 => k_is)
    (case at33 => k_is)
    (case lk33 => k_is)
    (case co33 => k_is)
    (case kp33 => k_is)
    (case at34 => k_is)
    (case lk34 => k_is)
    (case co34 => k_is)
    (case kp34 => k_is)
    (case at35 => k_is)
    (case lk35 => k_is)
    (case co35 => k_is)
    (case kp35 => k_is)
    (case at36 => k_is)
    (case lk36 => k_is)
    (case co36 => k_is)
    (case kp36 => k_is)
    (case at37 => k_is)
    (case lk37 => k_is)
    (case co37 => k_is)
    (case kp37 => k_is)
    (case pg6 => k_is)
    (case hd6 => k_is)
    (case po6 => k_is)
    (case sa6 => k_is)
    (case mk6 => k_is)
    (case kc6 => k_is)
    (case no6_0 => k_is)
    (case no6_1 => k_is)
    (case z_len => k_is)
    (case z_sorted => k_is)
    (case z_sum => k_is)
    (case z_max => k_is)
    (case z_min => k_is)
    (case z_abs => k_is)
    (case z_int => k_is)
    (case z_list => k_is)
    (case z_tuple => k_is)
    (case z_any => k_is)
    (case z_all => k_is)
    (case z_set => k_is)
    (case z_isinstance => k_is)
    (case z_bool => k_is)
    (case z_str => k_is)
    (case z_range => k_is)
    (case z_enumerate => k_is)
    (case z_zip => k_is)
    (case gl0 => k_is)
