import PyProof.Rows.All
import Wide.All
import OpenK.AllK
import Wide.FinOn
import KE.KStateDown
import KE.KDictKeyed
import KE.KeyNested
import HandS.ForMost
import HandS.Walk
import HandS.Deep
import HandS.TupAny
import HandS.IsInst
import HandS.Style
import HandS.Flow
import HandS.Zip
import HandS.Wide
import HandS.Conv
import HandS.Defaults
import HandS.Ends
import HandS.Codes
import HandS.Head0
import HandS.Head1
import HandS.Head2
import HandS.HeadEnd
import HandS.HeadHook1
import HandS.HeadHook2
import HandS.HeadHook4
import PySem.Challenge.RW_atwhosecost_k19_whole_what_deeds_do_to_g
import HandS.SetKeys
import HandS.TupLen
import HandS.WordsDict
import KE.GoesEnum
import PySem.Syntax
set_option Elab.async false
/-! MiniPy: an own small evaluator. D: data; Store: cells that may change; E, C: expressions, blocks. -/
set_option linter.all false
namespace MP
open PySem (Str)

inductive D where
  | non
  | bl (b : Bool)
  | int (i : Int)
  | str (x : Str)
  | tup (xs : List D)
  | loc (n : Nat)
  deriving Inhabited

inductive Cell where
  | lst (xs : List D)
  | rol (xs : List D)
  | dct (kvs : List (D × D))
  | ins (c : Nat) (fs : List (Str × D))

abbrev Store := List Cell
abbrev Env := List (Option D)

inductive Out (α : Type) where
  | ok (a : α) (S : Store)
  | exc (c : Nat) (d : D) (S : Store)
  | no

@[reducible] def Out.bind {α β : Type} (x : Out α) (f : α → Store → Out β) : Out β :=
  match x with
  | .ok a S => f a S
  | .exc c d S => .exc c d S
  | .no => .no

/-! ### data -/
mutual
/-- no place of the store within -/
def D.flat : D → Bool
  | .tup xs => D.flats xs
  | .loc _ => false
  | _ => true
def D.flats : List D → Bool
  | [] => true
  | x :: r => D.flat x && D.flats r
end
mutual
/-- the same datum -/
def D.same : D → D → Bool
  | .non, .non => true
  | .bl a, .bl b => a == b
  | .int a, .int b => decide (a = b)
  | .str a, .str b => decide (a = b)
  | .tup xs, .tup ys => D.sames xs ys
  | .loc a, .loc b => a == b
  | _, _ => false
def D.sames : List D → List D → Bool
  | [], [] => true
  | x :: r, y :: s => D.same x y && D.sames r s
  | _, _ => false
end
def b2i (b : Bool) : Int := if b then 1 else 0
mutual
/-- Python's == of data without places -/
def D.eqv : D → D → Bool
  | .non, .non => true
  | .bl a, .bl b => a == b
  | .bl a, .int j => decide (b2i a = j)
  | .int i, .bl b => decide (i = b2i b)
  | .int a, .int b => decide (a = b)
  | .str a, .str b => decide (a = b)
  | .tup xs, .tup ys => D.eqvs xs ys
  | _, _ => false
def D.eqvs : List D → List D → Bool
  | [], [] => true
  | x :: r, y :: s => D.eqv x y && D.eqvs r s
  | _, _ => false
end
mutual
def D.depth : D → Nat
  | .tup xs => D.depths xs + 1
  | _ => 0
def D.depths : List D → Nat
  | [] => 0
  | x :: r => max (D.depth x) (D.depths r)
end
def strFine (x : Str) : Bool := x.cps.all (· < 0x110000)
mutual
/-- flat, its texts of signs -/
def D.lay : D → Bool
  | .tup xs => D.lays xs
  | .loc _ => false
  | .str x => strFine x
  | _ => true
def D.lays : List D → Bool
  | [] => true
  | x :: r => D.lay x && D.lays r
end
def D.fine (x : D) : Bool := x.lay && decide (x.depth ≤ 60)
def D.fines (xs : List D) : Bool := D.lays xs && decide (D.depths xs ≤ 60)
def Cell.flat : Cell → Bool
  | .lst xs => D.flats xs
  | .rol xs => D.flats xs
  | .dct kvs => D.flats (kvs.map (·.1)) && D.flats (kvs.map (·.2))
  | .ins _ fs => D.flats (fs.map (·.2))
def Cell.same : Cell → Cell → Bool
  | .lst xs, .lst ys => D.sames xs ys
  | .rol xs, .rol ys => D.sames xs ys
  | .dct xs, .dct ys => D.sames (xs.map (·.1)) (ys.map (·.1)) && D.sames (xs.map (·.2)) (ys.map (·.2))
  | .ins c fs, .ins d gs => c == d && decide (fs.map (·.1) = gs.map (·.1)) && D.sames (fs.map (·.2)) (gs.map (·.2))
  | _, _ => false
/-- what a call leaves behind of the store -/
def kept : Store → Store → Bool
  | [], _ => true
  | _ :: _, [] => false
  | c :: r, c' :: r' => (c'.flat || Cell.same c' c) && kept r r'
def gc (S : Store) (d : D) (S' : Store) : Store := if d.flat && kept S S' then S'.take S.length else S'

/-! ### operators by values -/
inductive Bop where
  | add | sub | mul | fdiv | mod | pow | xor
inductive Cop where
  | eq | ne | lt | le | gt | ge | isin | notin
inductive Ty where
  | int | bool | str | tuple | list | none
  deriving DecidableEq
/-- builtins of one argument, of two -/
inductive B1 where
  | len | abs | int | tuple | list | lrange | trange | min | max | sum | all | any | sorted | bool | str | dict
inductive B2 where
  | min | max
/-- methods -/
inductive Mt where
  | append | setdefault | pop0 | pop1 | get1 | get2 | extend | join
/-- what is walked -/
inductive Ik where
  | seq | enum | range1 | range2 | zip | rev | keys | vals | items
/-- targets of assignments by names -/
inductive T where
  | name (i : Nat)
  | tup (l : T)
  | nil
  | cons (a r : T)

inductive E where
  | var (i : Nat)
  | cst (d : D)
  | glob (g : Nat)
  | nil
  | cons (a r : E)
  | cat (a r : E)
  | tup (a : E)
  | lst (a : E)
  | dct (a : E)
  | op (o : Bop) (a b : E)
  | neg (a : E)
  | not (a : E)
  | and (a b : E)
  | or (a b : E)
  | cmp (o : Cop) (a b : E)
  | chain (o o' : Cop) (a b c : E)
  | isc (neg : Bool) (a : E) (d : D)
  | ite (c a b : E)
  | ix (a i : E)
  | slice (a lo hi : E)
  | call (f : Nat) (a : E)
  | bi1 (b : B1) (a : E)
  | bi2 (b : B2) (a c : E)
  | isi (a : E) (ts : List Ty)
  | meth (m : Mt) (o a : E)
  | comp (vs : List Nat) (t : T) (k : Ik) (a b : E) (c : E) (elt : E)

inductive C where
  | skip
  | seq (a b : C)
  | asg (t : T) (e : E)
  | par (vs : List Nat) (a : E)
  | sub (o i e : E)
  | aug (i : Nat) (o : Bop) (e : E)
  | ifc (c : E) (a b : C)
  | whl (c : E) (b : C)
  | forc (t : T) (k : Ik) (a b : E) (body : C)
  | ret (e : E)
  | brk
  | cnt
  | expr (e : E)

structure Fd where
  np : Nat
  n : Nat
  gc : Bool
  body : C
structure Prg where
  fn : Nat → Option Fd
  gl : Nat → Option D

/-- what an expression gives: a datum; a new list that nobody else holds -/
inductive R where
  | v (d : D)
  | tmp (xs : List D)
inductive Flow where
  | nxt (env : Env)
  | ret (d : D)
  | brk (env : Env)
  | cnt (env : Env)

@[reducible] def bindD {α : Type} (x : Out R) (f : D → Store → Out α) : Out α :=
  x.bind fun r S => match r with
    | .v d => f d S
    | .tmp xs => f (.loc S.length) (S ++ [.lst xs])
@[reducible] def bindL {α : Type} (x : Out R) (f : List D → Store → Out α) : Out α :=
  x.bind fun r S => match r with
    | .v _ => .no
    | .tmp xs => f xs S
/-- the items of a sequence -/
def seqOf (S : Store) : D → Option (List D)
  | .tup xs => some xs
  | .loc n => match S[n]? with
    | some (.lst xs) => some xs
    | some (.rol xs) => some xs
    | _ => none
  | _ => none
@[reducible] def itemsOf (S : Store) : R → Option (List D)
  | .v d => seqOf S d
  | .tmp xs => some xs

def line : Nat := 16777216
abbrev okV {α : Type} (d : α) (S : Store) : Out α := .ok d S
def ofOpt (o : Option D) (S : Store) : Out R := match o with
  | some d => .ok (.v d) S
  | none => .no

def truth (S : Store) : D → Option Bool
  | .non => some false
  | .bl b => some b
  | .int i => some (i != 0)
  | .str x => if x.length ≤ line then some ((x.length : Int) != 0) else none
  | .tup xs => some (!xs.isEmpty)
  | .loc n => match S[n]? with
    | some (.lst xs) => some (!xs.isEmpty)
    | some (.rol xs) => some (!xs.isEmpty)
    | some (.dct kvs) => if kvs.all (fun kv => match kv.1 with
        | .tup _ => false
        | _ => true) then some (!kvs.isEmpty) else none
    | _ => none

@[reducible] def bindT {α : Type} (x : Out R) (f : Bool → Store → Out α) : Out α :=
  bindD x fun d S => match truth S d with
    | some b => f b S
    | none => .no
def small64 (i : Int) : Bool := decide (-18446744073709551616 < i) && decide (i < 18446744073709551616)
def binop (o : Bop) (x y : D) (S : Store) : Out R := match o, x, y with
  | .add, .int i, .int j => .ok (.v (.int (i + j))) S
  | .sub, .int i, .int j => .ok (.v (.int (i - j))) S
  | .mul, .int i, .int j => if small64 i || small64 j then .ok (.v (.int (i * j))) S else .no
  | .fdiv, .int i, .int j => if decide (0 < j) && decide (j < 1073741824) then .ok (.v (.int (i / j))) S else .no
  | .mod, .int i, .int j => if decide (0 < j) then .ok (.v (.int (i % j))) S else .no
  | .pow, .int i, .int j => if decide (0 ≤ j) && decide (j ≤ 1000000) && decide (i.natAbs < 18446744073709551616) then .ok (.v (.int (i ^ j.toNat))) S else .no
  | .add, .str a, .str b => if a.length + b.length ≤ line then .ok (.v (.str (a ++ b))) S else .no
  | .add, .tup xs, .tup ys => if xs.length + ys.length ≤ line then .ok (.v (.tup (xs ++ ys))) S else .no
  | .add, .loc m, .loc n => match S[m]?, S[n]? with
    | some (.lst xs), some (.lst ys) => if xs.length + ys.length ≤ line then .ok (.tmp (xs ++ ys)) S else .no
    | _, _ => .no
  | _, _, _ => .no

/-- == of two data -/
def eqD (S : Store) : D → D → Option Bool
  | .loc m, .loc n => match S[m]?, S[n]? with
    | some (.lst xs), some (.lst ys) => if D.fines xs && D.fines ys then some (D.eqvs xs ys) else none
    | _, _ => none
  | .str a, .str b => some (decide (a = b))
  | x, y => if x.fine && y.fine then some (x.eqv y) else none
def anyEqv (x : D) (ys : List D) : Bool := ys.any fun y => y.eqv x
def findKey (k : D) : List (D × D) → Option D
  | [] => none
  | (j, v) :: r => if j.eqv k then some v else findKey k r
def putKey (k v : D) (kvs : List (D × D)) : List (D × D) :=
  if kvs.any (fun kv => kv.1.eqv k) then kvs.map (fun kv => if kv.1.eqv k then (kv.1, v) else kv) else kvs ++ [(k, v)]
/-- a key of a dict: an int or a text; a tuple -/
def D.key : D → Option Bool
  | .int _ => some false
  | .str _ => some false
  | .tup xs => if D.flats xs && decide (D.depths xs ≤ 6) then some true else none
  | _ => none
def keyFits (k : D) (kvs : List (D × D)) : Bool := match k.key with
  | none => false
  | some b => kvs.all fun kv => match kv.1.key with
    | some c => b == c
    | none => false
def isIn (S : Store) (x y : D) : Option Bool := match y with
  | .loc n => match S[n]? with
    | some (.dct kvs) => if keyFits x kvs then some (findKey x kvs).isSome else none
    | some (.lst ys) => if x.fine && D.fines ys then some (anyEqv x ys) else none
    | some (.rol ys) => if x.fine && D.fines ys then some (anyEqv x ys) else none
    | _ => none
  | .tup ys => if x.fine && D.fines ys then some (anyEqv x ys) else none
  | _ => none
def cmpop (o : Cop) (x y : D) (S : Store) : Option Bool := match o with
  | .eq => eqD S x y
  | .ne => (eqD S x y).map (!·)
  | .lt => match x, y with
    | .int i, .int j => some (decide (i < j))
    | _, _ => none
  | .le => match x, y with
    | .int i, .int j => some (decide (i ≤ j))
    | _, _ => none
  | .gt => match x, y with
    | .int i, .int j => some (decide (j < i))
    | _, _ => none
  | .ge => match x, y with
    | .int i, .int j => some (decide (j ≤ i))
    | _, _ => none
  | .isin => isIn S x y
  | .notin => (isIn S x y).map (!·)

/-- the place that an index means -/
def ixN (n : Nat) (i : Int) : Option Nat := if 0 ≤ i then (if i < n then some i.toNat else none) else if -(n : Int) ≤ i then some (i + n).toNat else none
def atI {α : Type} (xs : List α) (i : Int) : Option α := (ixN xs.length i).bind fun j => xs[j]?
def getIx (S : Store) : D → D → Option D
  | .tup xs, .int i => atI xs i
  | .loc n, k => match S[n]? with
    | some (.lst xs) => match k with
      | .int i => atI xs i
      | _ => none
    | some (.rol xs) => match k with
      | .int i => atI xs i
      | _ => none
    | some (.dct kvs) => if keyFits k kvs then findKey k kvs else none
    | _ => none
  | _, _ => none
def setIx (S : Store) (o i v : D) : Option Store := match o with
  | .loc n => match S[n]? with
    | some (.lst xs) => match i with
      | .int k => (ixN xs.length k).map fun j => S.set n (.lst (xs.set j v))
      | _ => none
    | some (.dct kvs) => if keyFits i kvs && decide (kvs.length < line) then some (S.set n (.dct (putKey i v kvs))) else none
    | _ => none
  | _ => none
/-- the ends of a slice -/
def sIx (n d : Nat) : Option Int → Nat
  | none => d
  | some v => if v < 0 then (v + (n : Int)).toNat else min v.toNat n
def cut (xs : List D) (lo hi : Option Int) : List D := (xs.drop (sIx xs.length 0 lo)).take (sIx xs.length xs.length hi - sIx xs.length 0 lo)
def partOf : D → Option (Option Int)
  | .non => some none
  | .int i => some (some i)
  | _ => none
def sliceOf (S : Store) (x : D) (lo hi : Option Int) : Out R := match x with
  | .tup xs => .ok (.v (.tup (cut xs lo hi))) S
  | .loc n => match S[n]? with
    | some (.lst xs) => .ok (.tmp (cut xs lo hi)) S
    | some (.rol xs) => .ok (.tmp (cut xs lo hi)) S
    | _ => .no
  | _ => .no

def rangeL (lo : Int) : Nat → List D
  | 0 => []
  | n + 1 => .int lo :: rangeL (lo + 1) n
def far : Int := 4611686018427387904
def bi1 (b : B1) (r : R) (S : Store) : Out R := match b with
  | .len => match r with
    | .v (.str x) => if x.length ≤ line then .ok (.v (.int x.length)) S else .no
    | .v (.loc n) => match S[n]? with
      | some (.lst xs) => .ok (.v (.int xs.length)) S
      | some (.rol xs) => .ok (.v (.int xs.length)) S
      | some (.dct kvs) => .ok (.v (.int kvs.length)) S
      | _ => .no
    | r => match itemsOf S r with
      | some xs => .ok (.v (.int xs.length)) S
      | none => .no
  | .abs => match r with
    | .v (.int i) => .ok (.v (.int (if i < 0 then -i else i))) S
    | _ => .no
  | .int => match r with
    | .v (.int i) => .ok (.v (.int i)) S
    | .v (.bl b) => .ok (.v (.int (b2i b))) S
    | _ => .no
  | .tuple => match itemsOf S r with
    | some xs => .ok (.v (.tup xs)) S
    | none => .no
  | .list => match itemsOf S r with
    | some xs => .ok (.tmp xs) S
    | none => .no
  | .lrange => match r with
    | .v (.int j) => if decide (-far ≤ j) && decide (j < far) && decide (j.toNat ≤ line) then .ok (.tmp (rangeL 0 j.toNat)) S else .no
    | _ => .no
  | .trange => match r with
    | .v (.int j) => if decide (-far ≤ j) && decide (j < far) && decide (j.toNat ≤ line) then .ok (.v (.tup (rangeL 0 j.toNat))) S else .no
    | _ => .no
  | _ => .no
def bi2 (b : B2) (x y : D) (S : Store) : Out R := match b, x, y with
  | .min, .int i, .int j => .ok (.v (.int (if j < i then j else i))) S
  | .max, .int i, .int j => .ok (.v (.int (if j > i then j else i))) S
  | _, _, _ => .no
def tyOf (S : Store) : D → Option Ty
  | .non => some .none
  | .bl _ => some .bool
  | .int _ => some .int
  | .str _ => some .str
  | .tup _ => some .tuple
  | .loc n => match S[n]? with
    | some (.lst _) => some .list
    | some (.rol _) => some .list
    | _ => none
def isTy : Ty → Ty → Bool
  | .bool, .int => true
  | a, b => decide (a = b)
def meth (m : Mt) (o : D) (as : List D) (S : Store) : Out R := match o with
  | .loc n => match m, S[n]?, as with
    | .append, some (.lst xs), [x] => if xs.length < line then .ok (.v .non) (S.set n (.lst (xs ++ [x]))) else .no
    | .pop0, some (.lst xs), [] => match xs[xs.length - 1]? with
      | some y => .ok (.v y) (S.set n (.lst xs.dropLast))
      | none => .no
    | .setdefault, some (.dct kvs), [k, v] => if keyFits k kvs && decide (kvs.length < line) then (match findKey k kvs with
        | some w => .ok (.v w) S
        | none => .ok (.v v) (S.set n (.dct (kvs ++ [(k, v)])))) else .no
    | .get1, some (.dct kvs), [k] => if keyFits k kvs then .ok (.v ((findKey k kvs).getD .non)) S else .no
    | .get2, some (.dct kvs), [k, d] => if keyFits k kvs then .ok (.v ((findKey k kvs).getD d)) S else .no
    | _, _, _ => .no
  | _ => .no

/-- what a method is asked of -/
def methOn (m : Mt) (x : D) (S : Store) : Bool := match x with
  | .loc n => match m, S[n]? with
    | .append, some (.lst _) => true
    | .pop0, some (.lst _) => true
    | .setdefault, some (.dct _) => true
    | .get1, some (.dct _) => true
    | .get2, some (.dct _) => true
    | _, _ => false
  | _ => false
/-! ### walks -/
/-- what must stand while it is walked -/
abbrev Guard := List (Nat × List D)
def guardOk (g : Guard) (S : Store) : Bool := g.all fun (n, xs) => match S[n]? with
  | some (.lst ys) => D.sames ys xs
  | _ => false
def guardOf (S : Store) : R → Guard
  | .v (.loc n) => match S[n]? with
    | some (.lst xs) => [(n, xs)]
    | _ => []
  | _ => []
def enumL (n : Nat) : List D → List D
  | [] => []
  | x :: r => .tup [.int n, x] :: enumL (n + 1) r
def zipL : List D → List D → List D
  | x :: r, y :: s => .tup [x, y] :: zipL r s
  | _, _ => []
def isTupR : R → Bool
  | .v (.tup _) => true
  | _ => false
def src (k : Ik) (x : R) (y : R) (S : Store) : Option (List D × Guard) := match k with
  | .seq => (itemsOf S x).map fun xs => (xs, guardOf S x)
  | .enum => (itemsOf S x).map fun xs => (enumL 0 xs, guardOf S x)
  | .range1 => match x with
    | .v (.int j) => if decide (-far ≤ j) && decide (j < far) then some (rangeL 0 j.toNat, []) else none
    | _ => none
  | .range2 => match x, y with
    | .v (.int i), .v (.int j) => if decide (-far ≤ i) && decide (i < far) && decide (-far ≤ j) && decide (j < far) then some (rangeL i (j - i).toNat, []) else none
    | _, _ => none
  | .zip => match itemsOf S x, itemsOf S y with
    | some xs, some ys => if isTupR x == isTupR y then some (zipL xs ys, guardOf S x ++ guardOf S y) else none
    | _, _ => none
  | _ => none

def setSlot (env : Env) (i : Nat) (d : D) : Env := env.set i (some d)
mutual
def T.put : T → D → Env → Option Env
  | .name i, d, env => some (setSlot env i d)
  | .tup l, .tup xs, env => T.puts l xs env
  | _, _, _ => none
def T.puts : T → List D → Env → Option Env
  | .nil, [], env => some env
  | .cons a r, x :: xs, env => match T.put a x env with
    | some env1 => T.puts r xs env1
    | none => none
  | _, _, _ => none
end
def wipe (env : Env) : List Nat → Env
  | [] => env
  | v :: vs => (wipe env vs).set v none

/-- the turns of a comprehension -/
def compL (g : Guard) (step : D → Store → Out (Option D)) : List D → Store → Out (List D)
  | [], S => if guardOk g S then .ok [] S else .no
  | x :: r, S => if guardOk g S then (step x S).bind fun o S1 => (compL g step r S1).bind fun ds S2 => match o with
      | some d => .ok (d :: ds) S2
      | none => .ok ds S2
    else .no
/-- the turns of a for -/
def forL (g : Guard) (t : T) (body : Env → Store → Out Flow) : List D → Env → Store → Out Flow
  | [], env, S => if guardOk g S then .ok (.nxt env) S else .no
  | x :: r, env, S => if guardOk g S then (match T.put t x env with
      | none => .no
      | some env1 => (body env1 S).bind fun f S1 => match f with
        | .nxt env2 => forL g t body r env2 S1
        | .cnt env2 => forL g t body r env2 S1
        | .brk env2 => .ok (.nxt env2) S1
        | .ret d => .ok (.ret d) S1)
    else .no
def whileN (c : Env → Store → Out Bool) (body : Env → Store → Out Flow) : Nat → Env → Store → Out Flow
  | 0, _, _ => .no
  | n + 1, env, S => (c env S).bind fun t S1 => match t with
    | false => .ok (.nxt env) S1
    | true => (body env S1).bind fun f S2 => match f with
      | .nxt env2 => whileN c body n env2 S2
      | .cnt env2 => whileN c body n env2 S2
      | .brk env2 => .ok (.nxt env2) S2
      | .ret d => .ok (.ret d) S2
def fuel : Nat := 1000000000

def compStep (vs : List Nat) (t : T) (fc fe : Env → Store → Out R) (env : Env) (x : D) (S1 : Store) : Out (Option D) := match T.put t x (wipe env vs) with
  | none => .no
  | some env1 => bindT (fc env1 S1) fun b S2 => match b with
    | false => .ok none S2
    | true => bindD (fe env1 S2) fun d S3 => .ok (some d) S3
def compRun (vs : List Nat) (t : T) (fc fe : Env → Store → Out R) (env : Env) (o : Option (List D × Guard)) (S : Store) : Out R := match o with
  | none => .no
  | some (xs, g) => (compL g (compStep vs t fc fe env) xs S).bind fun ds S1 => if ds.length ≤ line then .ok (.tmp ds) S1 else .no
section
variable (G : Nat → Option D) (cl : Nat → List D → Store → Out D)
def ev : E → Env → Store → Out R
  | .var i, env, S => match env[i]? with
    | some (some d) => .ok (.v d) S
    | _ => .no
  | .cst d, _, S => .ok (.v d) S
  | .glob g, _, S => match G g with
    | some d => .ok (.v d) S
    | none => .no
  | .nil, _, S => .ok (.tmp []) S
  | .cons a r, env, S => bindD (ev a env S) fun d S1 => bindL (ev r env S1) fun ds S2 => .ok (.tmp (d :: ds)) S2
  | .cat a r, env, S => bindL (ev a env S) fun xs S1 => bindL (ev r env S1) fun ys S2 => .ok (.tmp (xs ++ ys)) S2
  | .tup a, env, S => bindL (ev a env S) fun ds S1 => if ds.length ≤ line then .ok (.v (.tup ds)) S1 else .no
  | .lst a, env, S => bindL (ev a env S) fun ds S1 => if ds.length ≤ line then .ok (.tmp ds) S1 else .no
  | .dct a, env, S => bindL (ev a env S) fun ds S1 => match ds with
    | [] => .ok (.v (.loc S1.length)) (S1 ++ [.dct []])
    | [.int i, v] => .ok (.v (.loc S1.length)) (S1 ++ [.dct [(.int i, v)]])
    | _ => .no
  | .op o a b, env, S => bindD (ev a env S) fun x S1 => bindD (ev b env S1) fun y S2 => binop o x y S2
  | .neg a, env, S => bindD (ev a env S) fun x S1 => match x with
    | .int i => .ok (.v (.int (-i))) S1
    | _ => .no
  | .not a, env, S => bindT (ev a env S) fun b S1 => .ok (.v (.bl (!b))) S1
  | .and a b, env, S => bindD (ev a env S) fun x S1 => match truth S1 x with
    | some true => ev b env S1
    | some false => .ok (.v x) S1
    | none => .no
  | .or a b, env, S => bindD (ev a env S) fun x S1 => match truth S1 x with
    | some true => .ok (.v x) S1
    | some false => ev b env S1
    | none => .no
  | .cmp o a b, env, S => bindD (ev a env S) fun x S1 => bindD (ev b env S1) fun y S2 => match cmpop o x y S2 with
    | some t => .ok (.v (.bl t)) S2
    | none => .no
  | .chain o o' a b c, env, S => bindD (ev a env S) fun x S1 => bindD (ev b env S1) fun y S2 => match cmpop o x y S2 with
    | some true => bindD (ev c env S2) fun z S3 => (match cmpop o' y z S3 with
      | some t => .ok (.v (.bl t)) S3
      | none => .no)
    | some false => .ok (.v (.bl false)) S2
    | none => .no
  | .isc neg a d, env, S => bindD (ev a env S) fun x S1 => .ok (.v (.bl (D.same x d != neg))) S1
  | .ite c a b, env, S => bindT (ev c env S) fun t S1 => match t with
    | true => ev a env S1
    | false => ev b env S1
  | .ix a i, env, S => bindD (ev a env S) fun x S1 => bindD (ev i env S1) fun y S2 => ofOpt (getIx S2 x y) S2
  | .slice a lo hi, env, S => bindD (ev a env S) fun x S1 => bindD (ev lo env S1) fun l S2 => bindD (ev hi env S2) fun h S3 => match partOf l, partOf h with
    | some l, some h => sliceOf S3 x l h
    | _, _ => .no
  | .call f a, env, S => bindL (ev a env S) fun ds S1 => (cl f ds S1).bind fun d S2 => .ok (.v d) S2
  | .bi1 b a, env, S => (ev a env S).bind fun r S1 => bi1 b r S1
  | .bi2 b a c, env, S => bindD (ev a env S) fun x S1 => bindD (ev c env S1) fun y S2 => bi2 b x y S2
  | .isi a ts, env, S => bindD (ev a env S) fun x S1 => match tyOf S1 x with
    | some t => .ok (.v (.bl (ts.any (isTy t)))) S1
    | none => .no
  | .meth m o a, env, S => bindD (ev o env S) fun x S1 => if methOn m x S1 then bindL (ev a env S1) fun ds S2 => meth m x ds S2 else .no
  | .comp vs t k a b c elt, env, S => match k with
    | .seq | .enum | .range1 => (ev a env S).bind fun r S1 => compRun vs t (fun env S => ev c env S) (fun env S => ev elt env S) env (src k r (.v .non) S1) S1
    | _ => bindD (ev a env S) fun x S1 => (ev b env S1).bind fun r S2 => compRun vs t (fun env S => ev c env S) (fun env S => ev elt env S) env (src k (.v x) r S2) S2

def setAll : List Nat → List D → Env → Option Env
  | [], [], env => some env
  | i :: r, d :: ds, env => setAll r ds (setSlot env i d)
  | _, _, _ => none
@[reducible] def evD (e : E) (env : Env) (S : Store) : Out D := bindD (ev G cl e env S) fun d S1 => .ok d S1
def srcOf (k : Ik) (a b : E) (env : Env) (S : Store) : Out (List D × Guard) := match k with
  | .seq | .enum | .range1 => (ev G cl a env S).bind fun r S1 => (match src k r (.v .non) S1 with
    | some p => .ok p S1
    | none => .no)
  | _ => bindD (ev G cl a env S) fun x S1 => (ev G cl b env S1).bind fun r S2 => (match src k (.v x) r S2 with
    | some p => .ok p S2
    | none => .no)
def evC : C → Env → Store → Out Flow
  | .skip, env, S => .ok (.nxt env) S
  | .seq a b, env, S => (evC a env S).bind fun f S1 => match f with
    | .nxt env1 => evC b env1 S1
    | f => .ok f S1
  | .asg t e, env, S => bindD (ev G cl e env S) fun d S1 => match T.put t d env with
    | some env1 => .ok (.nxt env1) S1
    | none => .no
  | .par vs a, env, S => bindL (ev G cl a env S) fun ds S1 => match setAll vs ds env with
    | some env1 => .ok (.nxt env1) S1
    | none => .no
  | .sub o i e, env, S => bindD (ev G cl e env S) fun v S1 => bindD (ev G cl o env S1) fun x S2 => bindD (ev G cl i env S2) fun y S3 => match setIx S3 x y v with
    | some S4 => .ok (.nxt env) S4
    | none => .no
  | .aug i o e, env, S => match env[i]? with
    | some (some x) => bindD (ev G cl e env S) fun y S1 => (match o, x, y with
      | .add, .int a, .int b => .ok (.nxt (setSlot env i (.int (a + b)))) S1
      | .sub, .int a, .int b => .ok (.nxt (setSlot env i (.int (a - b)))) S1
      | _, _, _ => .no)
    | _ => .no
  | .ifc c a b, env, S => bindT (ev G cl c env S) fun t S1 => match t with
    | true => evC a env S1
    | false => evC b env S1
  | .whl c b, env, S => whileN (fun env S => bindT (ev G cl c env S) fun t S1 => .ok t S1) (fun env S => evC b env S) fuel env S
  | .forc t k a b body, env, S => (srcOf G cl k a b env S).bind fun p S1 => forL p.2 t (fun env S => evC body env S) p.1 env S1
  | .ret e, env, S => bindD (ev G cl e env S) fun d S1 => .ok (.ret d) S1
  | .brk, env, S => .ok (.brk env) S
  | .cnt, env, S => .ok (.cnt env) S
  | .expr e, env, S => (ev G cl e env S).bind fun _ S1 => .ok (.nxt env) S1
end
def start (n : Nat) (ds : List D) : Env := ds.map some ++ List.replicate (n - ds.length) none
/-- a call, at a depth -/
def run (P : Prg) : Nat → Nat → List D → Store → Out D
  | 0, _, _, _ => .no
  | k + 1, f, ds, S => match P.fn f with
    | none => .no
    | some F => if ds.length = F.np then (evC P.gl (run P k) F.body (start F.n ds) S).bind fun r S1 => (match r with
        | .ret d => .ok d (if F.gc then gc S d S1 else S1)
        | .nxt _ => .ok .non (if F.gc then gc S .non S1 else S1)
        | _ => .no)
      else .no
end MP

/-! From the row's own terms to the small syntax. -/
set_option linter.all false
namespace MP
open PySem L2

structure Cc where
  N : List Str
  sc : Scope
  fns : List (Str × Nat × List Str)
  gls : List (Str × Nat)
  kws : List (Str × Nat) := []
  blk : Option Scope := none

def idx (x : Str) : List Str → Nat → Option Nat
  | [], _ => none
  | y :: r, i => if x = y then some i else idx x r (i + 1)
def seen (sc : Scope) (x : Str) : Bool := match sc.names.lookup x with
  | some .local => true
  | some .cell => true
  | some .free => true
  | _ => false
def isGl (sc : Scope) (x : Str) : Bool := match sc.names.lookup x with
  | some .globalImplicit => true
  | _ => false
def slotOf (Γ : Cc) (x : Str) : Option Nat := if seen Γ.sc x && !(x == ("__debug__" : Str)) && !(x == ("__classdict__" : Str)) then idx x Γ.N 0 else none
/-- a name that is stored: local, or a cell of the def's own -/
def ownOf (Γ : Cc) (x : Str) : Option Nat := match Γ.sc.names.lookup x with
  | some .local => idx x Γ.N 0
  | some .cell => (match Γ.blk with
    | none => idx x Γ.N 0
    | some scope => if scope.names.lookup x == some .cell then idx x Γ.N 0 else none)
  | _ => none

def bopOf : Operator → Option Bop
  | .Add => some .add | .Sub => some .sub | .Mult => some .mul | .FloorDiv => some .fdiv | .Mod => some .mod | .Pow => some .pow
  | _ => none
def copOf : CmpOp → Option Cop
  | .Eq => some .eq | .NotEq => some .ne | .Lt => some .lt | .LtE => some .le | .Gt => some .gt | .GtE => some .ge | .In => some .isin | .NotIn => some .notin
  | _ => none
def cstOf : Const → Option D
  | .none => some .non
  | .bool b => some (.bl b)
  | .int i => some (.int i)
  | .str x => some (.str x)
  | _ => none
def isConst : Expr → Option D
  | .Constant c _ _ => cstOf c
  | _ => none
def b1Of (x : Str) : Option B1 :=
  if x = "len" then some .len else if x = "abs" then some .abs else if x = "int" then some .int else if x = "tuple" then some .tuple else if x = "list" then some .list
  else none
def b2Of (x : Str) : Option B2 := if x = "min" then some .min else if x = "max" then some .max else none
def tyOfName (x : Str) : Option Ty :=
  if x = "int" then some .int else if x = "bool" then some .bool else if x = "str" then some .str else if x = "tuple" then some .tuple else if x = "list" then some .list else none
def mtOf (m : Str) (n : Nat) : Option Mt :=
  if m = "append" ∧ n = 1 then some .append else if m = "setdefault" ∧ n = 2 then some .setdefault else if m = "pop" ∧ n = 0 then some .pop0
  else none
/-- an expression that isn't a call (for the base of an attribute) -/
def plainBase : Expr → Bool
  | .Name .. => true
  | .Subscript .. => true
  | _ => false
def noComp : Expr → Bool
  | .ListComp .. => false
  | .SetComp .. => false
  | .DictComp .. => false
  | _ => true

mutual
def cT (Γ : Cc) : Nat → Expr → Option T
  | 0, _ => none
  | n + 1, .Name x _ => (ownOf Γ x).map .name
  | n + 1, .Tuple es _ _ => (cTs Γ n es).map .tup
  | _ + 1, _ => none
def cTs (Γ : Cc) : Nat → List Expr → Option T
  | 0, _ => none
  | _ + 1, [] => some .nil
  | n + 1, e :: r => match cT Γ n e, cTs Γ n r with
    | some a, some b => some (.cons a b)
    | _, _ => none
end
def T.slots : T → List Nat
  | .name i => [i]
  | .tup l => l.slots
  | .nil => []
  | .cons a r => a.slots ++ r.slots
def blkOwn (N : List Str) : List (Str × NameKind) → List (Str × Nat)
  | [] => []
  | (x, k) :: r => match k with
    | .local => (match idx x N 0 with
      | some i => (x, i) :: blkOwn N r
      | none => blkOwn N r)
    | .cell => (match idx x N 0 with
      | some i => (x, i) :: blkOwn N r
      | none => blkOwn N r)
    | _ => blkOwn N r

def kwNames : List Keyword → Option (List Str)
  | [] => some []
  | ⟨some x, _, _⟩ :: r => (kwNames r).map (x :: ·)
  | ⟨none, _, _⟩ :: _ => none

mutual
def cE : Nat → Cc → Expr → Option E
  | 0, _, _ => none
  | n + 1, Γ, e => match e with
    | .Name x _ => (match slotOf Γ x with
      | some i => some (.var i)
      | none => if isGl Γ.sc x && !(x == ("__debug__" : Str)) then (Γ.gls.lookup x).map .glob else none)
    | .Constant c _ _ => (cstOf c).map .cst
    | .BinOp a o b _ => (match bopOf o, cE n Γ a, cE n Γ b with
      | some o, some a, some b => some (.op o a b)
      | _, _, _ => none)
    | .UnaryOp o a _ => (match o, cE n Γ a with
      | .Not, some a => some (.not a)
      | .USub, some a => some (.neg a)
      | _, _ => none)
    | .BoolOp o es pos => cB n Γ o es pos
    | .Compare a os bs _ => (match os, bs with
      | [o], [b] => (match o with
        | .Is => (match isConst b, cE n Γ a with
          | some (.int _), _ => none
          | some (.str _), _ => none
          | some d, some a => some (.isc false a d)
          | _, _ => none)
        | .IsNot => (match isConst b, cE n Γ a with
          | some (.int _), _ => none
          | some (.str _), _ => none
          | some d, some a => some (.isc true a d)
          | _, _ => none)
        | o => if behindInMarks o b then none else (match copOf o, cE n Γ a, cE n Γ b with
          | some o, some a, some b => some (.cmp o a b)
          | _, _, _ => none))
      | [o, o'], [b, c] => if lastMarks [o, o'] [b, c] then none else (match copOf o, copOf o', cE n Γ a, cE n Γ b, cE n Γ c with
          | some o, some o', some a, some b, some c => some (.chain o o' a b c)
          | _, _, _, _, _ => none)
      | _, _ => none)
    | .IfExp c a b _ => (match cE n Γ c, cE n Γ a, cE n Γ b with
      | some c, some a, some b => some (.ite c a b)
      | _, _, _ => none)
    | .Tuple es _ _ => (cA n Γ es).map .tup
    | .List es _ => (cA n Γ es).map .lst
    | .Dict ks vs _ => (match ks, vs with
      | [], [] => some (.dct .nil)
      | [some k], [v] => (match cE n Γ k, cE n Γ v with
        | some k, some v => some (.dct (.cons k (.cons v .nil)))
        | _, _ => none)
      | _, _ => none)
    | .Subscript a i _ => (match i with
      | .Slice lo hi st _ => (match st with
        | some _ => none
        | none => (match cE n Γ a, cO n Γ lo, cO n Γ hi with
          | some a, some lo, some hi => some (.slice a lo hi)
          | _, _, _ => none))
      | i => (match cE n Γ a, cE n Γ i with
        | some a, some i => some (.ix a i)
        | _, _ => none))
    | .ListComp elt gs scope _ => (match gs with
      | [⟨tg, it, ifs, 0⟩] =>
        let own := blkOwn Γ.N scope.names
        let Γ' : Cc := { Γ with sc := relS scope Γ.sc, blk := some scope }
        if blkC Γ.N Γ.sc scope own then
          (match cT Γ' n tg, cQ n Γ tg it, cI n Γ' ifs, cE n Γ' elt with
          | some t, some (k, a, b), some c, some e => if t.slots.all fun i => (own.map (·.2)).contains i then some (.comp (own.map (·.2)) t k a b c e) else none
          | _, _, _, _ => none)
        else none
      | _ => none)
    | .Call f es kws cpos => (match f with
      | .Name x _ => if isGl Γ.sc x && !(x == ("__debug__" : Str)) then
          (match Γ.fns.lookup x with
          | some (f, ps) => (match kws with
            | [] => (cA n Γ es).map (.call f)
            | kws => (match es with
              | [] => none
              | es => (match kwNames kws, cA n Γ es, cA n Γ (kws.map (·.value)) with
                | some ks, some a, some b => if ks = ps.drop es.length && decide (es.length ≤ ps.length) && Γ.kws.contains (x, es.length) then some (.call f (.cat a b)) else none
                | _, _, _ => none)))
          | none => if !kws.isEmpty then none else (match es with
            | [a] => (match a with
              | .Call (.Name y _) [r] [] _ => if isGl Γ.sc y && y == ("range" : Str) && (x == ("list" : Str) || x == ("tuple" : Str)) then
                    (match cE n Γ r with
                    | some r => some (.bi1 (if x == ("list" : Str) then .lrange else .trange) r)
                    | none => none)
                  else (match b1Of x, cE n Γ a with
                  | some b, some a => some (.bi1 b a)
                  | _, _ => none)
              | a => (match b1Of x, cE n Γ a with
                | some b, some a => some (.bi1 b a)
                | _, _ => none))
            | [a, b] => if x == ("isinstance" : Str) then (match b with
                | .Name y _ => if isGl Γ.sc y && !(y == ("__debug__" : Str)) then (match tyOfName y, cE n Γ a with
                  | some t, some a => some (.isi a [t])
                  | _, _ => none) else none
                | _ => none)
              else (match b2Of x, cE n Γ a, cE n Γ b with
              | some o, some a, some b => some (.bi2 o a b)
              | _, _, _ => none)
            | _ => none))
        else none
      | .Attribute o m apos => if plainBase o && (apos.endLine == cpos.line) && kws.isEmpty then
          (match mtOf m es.length, cE n Γ o, cA n Γ es with
          | some k, some o, some a => some (.meth k o a)
          | _, _, _ => none)
        else none
      | _ => none)
    | _ => none
/-- arguments -/
def cA : Nat → Cc → List Expr → Option E
  | 0, _, _ => none
  | _ + 1, _, [] => some .nil
  | n + 1, Γ, e :: r => match cE n Γ e, cA n Γ r with
    | some a, some b => some (.cons a b)
    | _, _ => none
/-- and, or -/
def cB : Nat → Cc → BoolOp → List Expr → Pos → Option E
  | 0, _, _, _, _ => none
  | n + 1, Γ, o, es, pos => match es with
    | [] => none
    | [e] => cE n Γ e
    | e :: r => match cE n Γ e, cB n Γ o r pos with
      | some a, some b => some (match o with
        | .And => .and a b
        | .Or => .or a b)
      | _, _ => none
/-- a part of a slice -/
def cO : Nat → Cc → Option Expr → Option E
  | 0, _, _ => none
  | _ + 1, _, none => some (.cst .non)
  | n + 1, Γ, some e => cE n Γ e
/-- the ifs of a comprehension -/
def cI : Nat → Cc → List Expr → Option E
  | 0, _, _ => none
  | _ + 1, _, [] => some (.cst (.bl true))
  | n + 1, Γ, [e] => cE n Γ e
  | _ + 1, _, _ => none
/-- what is walked -/
def cQ : Nat → Cc → Expr → Expr → Option (Ik × E × E)
  | 0, _, _, _ => none
  | n + 1, Γ, tg, it => match it with
    | .Call (.Name x _) es [] _ => if isGl Γ.sc x && (Γ.fns.lookup x).isNone && (x == ("enumerate" : Str) || x == ("range" : Str) || x == ("zip" : Str)) then
        (match es with
        | [a] => if x == ("enumerate" : Str) then (match tg with
              | .Tuple .. => (cE n Γ a).map fun a => (.enum, a, .nil)
              | _ => none)
            else if x == ("range" : Str) then (cE n Γ a).map fun a => (.range1, a, .nil) else none
        | [a, b] => if x == ("range" : Str) then (match cE n Γ a, cE n Γ b with
              | some a, some b => some (.range2, a, b)
              | _, _ => none)
            else if x == ("zip" : Str) then (match tg with
              | .Tuple .. => (match cE n Γ a, cE n Γ b with
                | some a, some b => some (.zip, a, b)
                | _, _ => none)
              | _ => none)
            else none
        | _ => none)
      else (cE n Γ it).map fun a => (.seq, a, .nil)
    | it => (cE n Γ it).map fun a => (.seq, a, .nil)
end

def nameIx (Γ : Cc) (line : Nat) : List Expr → Option (List Nat)
  | [] => some []
  | .Name x p :: r => if Γ.sc.names.lookup x = some .local && p.line == line then (match idx x Γ.N 0, nameIx Γ line r with
      | some i, some l => some (i :: l)
      | _, _ => none) else none
  | _ :: _ => none
def noStar : Expr → Bool
  | .Starred .. => false
  | _ => true
/-- a, b = x, y told without a pair -/
def swaps (Γ : Cc) (ts vs : List Expr) : Option (List Nat) :=
  if (ts.length == 2 || ts.length == 3) && vs.length == ts.length then
    (match nameIx Γ ((ts.head?.map (·.pos.line)).getD 0) ts with
    | some l => if decide l.Nodup && vs.all noStar && !vs.all (foldedForSure 8) && !vs.all (constantsAlone 8) then some l else none
    | none => none)
  else none
/-- a pair is made: swappedStores says none -/
def noSwap (Γ : Cc) : Expr → Expr → Bool
  | .Tuple ts _ _, .Tuple vs _ _ => !(ts.length == 2 || ts.length == 3) || vs.length != ts.length ||
      (vs.all noStar && (ts.any fun t => match t with
        | .Name x p => !(Γ.sc.names.lookup x == some .local && p.line == (ts.head?.map (·.pos.line)).getD 0)
        | _ => true)) || (vs.all noStar && vs.all (foldedForSure 8) && (ts.all fun t => match t with
        | .Name x _ => true
        | _ => false))
  | .List .., _ => false
  | _, _ => true

mutual
def cS : Nat → Cc → Stmt → Option C
  | 0, _, _ => none
  | n + 1, Γ, st => match st with
    | .Pass _ => some .skip
    | .Break _ => some .brk
    | .Continue _ => some .cnt
    | .Return v _ => (match v with
      | none => some (.ret (.cst .non))
      | some e => (cE n Γ e).map .ret)
    | .Expr e _ => if noComp e then (match e with
        | .Call .. => (cE n Γ e).map .expr
        | _ => none) else none
    | .If c a b _ => (match cE n Γ c, cSs n Γ a, cSs n Γ b with
      | some c, some a, some b => some (.ifc c a b)
      | _, _, _ => none)
    | .While c b els _ => (match els with
      | [] => (match cE n Γ c, cSs n Γ b with
        | some c, some b => some (.whl c b)
        | _, _ => none)
      | _ => none)
    | .For tg it b els _ => (match els with
      | [] => (match cT Γ n tg, cQ n Γ tg it, cSs n Γ b with
        | some t, some (k, a, c), some b => some (.forc t k a c b)
        | _, _, _ => none)
      | _ => none)
    | .AugAssign tg o e _ => (match tg with
      | .Name x _ => (match ownOf Γ x, bopOf o, cE n Γ e with
        | some i, some o, some e => some (.aug i o e)
        | _, _, _ => none)
      | _ => none)
    | .Assign tgs e pos => (match tgs with
      | [tg] => (match tg with
        | .Name x p => (match ownOf Γ x, cE n Γ e with
          | some i, some a => (match e with
            | .ListComp elt gs scope cp => if Γ.sc.names.lookup x = some .local then
                (if (p.line == cp.line) && !(scope.names.any fun (y, k) => y == x && (k == .local || k == .cell)) then some (.asg (.name i) a) else none)
              else some (.asg (.name i) a)
            | _ => if noComp e then some (.asg (.name i) a) else none)
          | _, _ => none)
        | .Tuple ts _ _ => (match e with
          | .Tuple vs _ _ => (match swaps Γ ts vs with
            | some l => (cA n Γ vs).map (.par l)
            | none => if noSwap Γ tg e then (match cT Γ n tg, cE n Γ e with
              | some t, some a => some (.asg t a)
              | _, _ => none) else none)
          | e => if noComp e then (match cT Γ n tg, cE n Γ e with
            | some t, some a => some (.asg t a)
            | _, _ => none) else none)
        | .Subscript o i _ => (match i with
          | .Slice .. => none
          | i => if noComp e then (match cE n Γ o, cE n Γ i, cE n Γ e with
            | some o, some i, some e => some (.sub o i e)
            | _, _, _ => none) else none)
        | _ => none)
      | _ => none)
    | _ => none
def cSs : Nat → Cc → List Stmt → Option C
  | 0, _, _ => none
  | _ + 1, _, [] => some .skip
  | n + 1, Γ, [s] => (match s with
    | .Pass _ => some .skip
    | s => cS n Γ s)
  | n + 1, Γ, s :: r => (match cS n Γ s, cSs n Γ r with
    | some a, some b => some (.seq a b)
    | _, _ => none)
end
end MP

/-! What a datum of the small syntax is in the heap. -/
set_option linter.all false
set_option autoImplicit false
namespace MP
open PySem PySem.Spec PyProof.Rows L2

/-- where one stands: the written part, the program, the world -/
structure Md where
  K : PySem.W.Frag
  prog : Program
  w : World
end MP
abbrev L2.Cx.md (X : L2.Cx) : MP.Md := ⟨X.K, X.prog, X.w⟩
namespace MP
open PySem PySem.Spec PyProof.Rows L2
section
variable (K : Md)
mutual
def Rep (ι : List Addr) (H : Hp) : D → V → Prop
  | .non, v => v = .non
  | .bl b, v => v = .bl b
  | .int i, v => v = .int i
  | .str x, v => v = .str x
  | .loc n, v => ∃ a, v = .ref a ∧ ι[n]? = some a
  | .tup ds, v => ∃ a vs, v = .ref a ∧ SqT K.K H a vs ∧ Reps ι H ds vs
def Reps (ι : List Addr) (H : Hp) : List D → List V → Prop
  | [], vs => vs = []
  | d :: ds, vs => ∃ v r, vs = v :: r ∧ Rep ι H d v ∧ Reps ι H ds r
end
structure Ext (ι : List Addr) (H : Hp) (ι' : List Addr) (H' : Hp) : Prop where
  pre : ∀ (n : Nat) (a : Addr), ι[n]? = some a → ι'[n]? = some a
  tup : ∀ (a : Addr) (xs : List V), SqT K.K H a xs → SqT K.K H' a xs
variable {K}
theorem Ext.refl (ι : List Addr) (H : Hp) : Ext K ι H ι H := ⟨fun _ _ h => h, fun _ _ h => h⟩
theorem Ext.trans {ι ι1 ι2 : List Addr} {H H1 H2 : Hp} (x : Ext K ι H ι1 H1) (y : Ext K ι1 H1 ι2 H2) : Ext K ι H ι2 H2 :=
  ⟨fun n a h => y.pre n a (x.pre n a h), fun a xs h => y.tup a xs (x.tup a xs h)⟩
mutual
theorem Rep.mono {ι ι' : List Addr} {H H' : Hp} (e : Ext K ι H ι' H') : ∀ {d : D} {v : V}, Rep K ι H d v → Rep K ι' H' d v
  | .non, _, h => by simpa [Rep] using h
  | .bl _, _, h => by simpa [Rep] using h
  | .int _, _, h => by simpa [Rep] using h
  | .str _, _, h => by simpa [Rep] using h
  | .loc n, _, h => by
    simp only [Rep] at h ⊢
    obtain ⟨a, e1, e2⟩ := h
    exact ⟨a, e1, e.pre n a e2⟩
  | .tup ds, _, h => by
    simp only [Rep] at h ⊢
    obtain ⟨a, vs, e1, e2, e3⟩ := h
    exact ⟨a, vs, e1, e.tup a vs e2, Reps.mono e e3⟩
theorem Reps.mono {ι ι' : List Addr} {H H' : Hp} (e : Ext K ι H ι' H') : ∀ {ds : List D} {vs : List V}, Reps K ι H ds vs → Reps K ι' H' ds vs
  | [], _, h => by simpa [Reps] using h
  | d :: ds, _, h => by
    simp only [Reps] at h ⊢
    obtain ⟨v, r, e1, e2, e3⟩ := h
    exact ⟨v, r, e1, Rep.mono e e2, Reps.mono e e3⟩
end
theorem Reps.len {ι : List Addr} {H : Hp} : ∀ {ds : List D} {vs : List V}, Reps K ι H ds vs → vs.length = ds.length
  | [], _, h => by simp only [Reps] at h; simp [h]
  | d :: ds, _, h => by
    simp only [Reps] at h
    obtain ⟨v, r, e1, _, e3⟩ := h
    simp [e1, Reps.len e3]
theorem Reps.app {ι : List Addr} {H : Hp} : ∀ {xs ys : List D} {us vs : List V}, Reps K ι H xs us → Reps K ι H ys vs → Reps K ι H (xs ++ ys) (us ++ vs)
  | [], _, _, _, h, h' => by simp only [Reps] at h; subst h; simpa using h'
  | d :: ds, ys, _, vs, h, h' => by
    simp only [Reps] at h
    obtain ⟨v, r, e1, e2, e3⟩ := h
    subst e1
    simp only [List.cons_append, Reps]
    exact ⟨v, r ++ vs, rfl, e2, Reps.app e3 h'⟩
theorem Reps.nil (ι : List Addr) (H : Hp) : Reps K ι H [] [] := by simp [Reps]
theorem Reps.cons {ι : List Addr} {H : Hp} {d : D} {v : V} {ds : List D} {vs : List V} (h : Rep K ι H d v) (h' : Reps K ι H ds vs) : Reps K ι H (d :: ds) (v :: vs) := by
  simp only [Reps]; exact ⟨v, vs, rfl, h, h'⟩
theorem Reps.get {ι : List Addr} {H : Hp} : ∀ {ds : List D} {vs : List V} {i : Nat} {d : D}, Reps K ι H ds vs → ds[i]? = some d → ∃ v, vs[i]? = some v ∧ Rep K ι H d v
  | [], _, _, _, _, e => by simp at e
  | x :: r, _, 0, d, h, e => by
    simp only [Reps] at h
    obtain ⟨v, r', e1, e2, e3⟩ := h
    subst e1
    simp at e
    subst e
    exact ⟨v, rfl, e2⟩
  | x :: r, _, i + 1, d, h, e => by
    simp only [Reps] at h
    obtain ⟨v, r', e1, e2, e3⟩ := h
    subst e1
    simpa using Reps.get (i := i) (d := d) e3 (by simpa using e)
theorem Reps.take {ι : List Addr} {H : Hp} : ∀ (n : Nat) {ds : List D} {vs : List V}, Reps K ι H ds vs → Reps K ι H (ds.take n) (vs.take n)
  | 0, _, _, _ => by simp [Reps]
  | n + 1, [], _, h => by simp only [Reps] at h; subst h; simp [Reps]
  | n + 1, d :: ds, _, h => by
    simp only [Reps] at h
    obtain ⟨v, r, e1, e2, e3⟩ := h
    subst e1
    simp only [List.take_succ_cons]
    exact Reps.cons e2 (Reps.take n e3)
theorem Reps.drop {ι : List Addr} {H : Hp} : ∀ (n : Nat) {ds : List D} {vs : List V}, Reps K ι H ds vs → Reps K ι H (ds.drop n) (vs.drop n)
  | 0, _, _, h => by simpa using h
  | n + 1, [], _, h => by simp only [Reps] at h; subst h; simp [Reps]
  | n + 1, d :: ds, _, h => by
    simp only [Reps] at h
    obtain ⟨v, r, e1, e2, e3⟩ := h
    subst e1
    simpa using Reps.drop n e3
theorem Reps.set {ι : List Addr} {H : Hp} {d : D} {v : V} (hd : Rep K ι H d v) : ∀ (n : Nat) {ds : List D} {vs : List V}, Reps K ι H ds vs → Reps K ι H (ds.set n d) (vs.set n v)
  | _, [], _, h => by simp only [Reps] at h; subst h; simp [Reps]
  | 0, x :: ds, _, h => by
    simp only [Reps] at h
    obtain ⟨u, r, e1, e2, e3⟩ := h
    subst e1
    simp only [List.set_cons_zero]
    exact Reps.cons hd e3
  | n + 1, x :: ds, _, h => by
    simp only [Reps] at h
    obtain ⟨u, r, e1, e2, e3⟩ := h
    subst e1
    simp only [List.set_cons_succ]
    exact Reps.cons e2 (Reps.set hd n e3)
theorem Reps.dropLast {ι : List Addr} {H : Hp} {ds : List D} {vs : List V} (h : Reps K ι H ds vs) : Reps K ι H ds.dropLast vs.dropLast := by
  rw [List.dropLast_eq_take, List.dropLast_eq_take, Reps.len h]
  exact Reps.take _ h
theorem Reps.nth {ι : List Addr} {H : Hp} : ∀ {ds : List D} {vs : List V} {i : Nat} {v : V}, Reps K ι H ds vs → vs[i]? = some v → ∃ d, ds[i]? = some d ∧ Rep K ι H d v
  | [], _, _, _, h, e => by simp only [Reps] at h; subst h; simp at e
  | x :: r, _, 0, v, h, e => by
    simp only [Reps] at h
    obtain ⟨u, r', e1, e2, e3⟩ := h
    subst e1
    simp at e
    subst e
    exact ⟨x, rfl, e2⟩
  | x :: r, _, i + 1, v, h, e => by
    simp only [Reps] at h
    obtain ⟨u, r', e1, e2, e3⟩ := h
    subst e1
    simpa using Reps.nth (i := i) (v := v) e3 (by simpa using e)

/-! ### cells -/
theorem SqT.upd' {H : Hp} {a p : Addr} {xs : List V} {o : HO} (h : SqT K.K H a xs) (hp : H p = none ∨ Mut (H p)) : SqT K.K (upd H p o) a xs := by
  rcases h with (h | ⟨o', h⟩) | h
  · refine .inl (.inl ?_)
    rw [upd_ne]; · exact h
    rintro rfl
    rcases hp with z | z
    · rw [h] at z; cases z
    · rw [h] at z; exact z
  · refine .inl (.inr ⟨o', ?_⟩)
    rw [upd_ne]; · exact h
    rintro rfl
    rcases hp with z | z
    · rw [h] at z; cases z
    · rw [h] at z; exact z
  · exact .inr h
theorem Ext.upd' (ι : List Addr) {H : Hp} {p : Addr} {o : HO} (hp : H p = none ∨ Mut (H p)) : Ext K ι H ι (upd H p o) :=
  ⟨fun _ _ h => h, fun _ _ h => SqT.upd' h hp⟩
/-- a dict's key and value -/
def keyV : D → Option Key
  | .int i => some (.inl i)
  | .str x => some (.inr x)
  | _ => none
mutual
/-- the key that a datum is -/
def nk : D → NestedKey
  | .non => .none
  | .bl b => .num (b2i b)
  | .int i => .num i
  | .str x => .text x
  | .tup xs => .tup (nks xs)
  | .loc _ => .none
def nks : List D → List NestedKey
  | [] => []
  | x :: r => nk x :: nks r
end
/-- the entries of a dict, as they stand -/
def DEnt (a : Addr) (L : List DictEntry) (h : Heap) : Prop := ∃ o es ep, h.get? a = some o ∧ o.ExactDict ∧ o.data = .dict es ep ∧ es.toList = L
variable (K)
def RepT (ι : List Addr) (H : Hp) (kvs : List (D × D)) (xs : List (NestedKey × Addr × Value)) : Prop :=
  Paired (fun (p : D × D) (q : NestedKey × Addr × Value) => (p.1.key = some true ∧ nk p.1 = q.1 ∧ Rep K ι H p.1 (.ref q.2.1)) ∧ ∃ v, RelV v q.2.2 ∧ Rep K ι H p.2 v) kvs xs
def RepD (ι : List Addr) (H : Hp) (kvs : List (D × D)) (a : Addr) : Prop :=
  (∃ kvs', H a = some (.dK kvs') ∧ Paired (fun (p : D × D) (q : Key × V) => keyV p.1 = some q.1 ∧ Rep K ι H p.2 q.2) kvs kvs') ∨
  ∃ xs, H a = some (.ext (DEnt a (xs.map (entryOfKey (nestedKind K.prog K.w))))) ∧ (a == sysModules) = false ∧ (xs.map (·.1)).Nodup ∧ (kvs.length ≤ sizeLine ∧ kvs ≠ []) ∧ RepT K ι H kvs xs
variable {K}
theorem RepT.mono {ι ι' : List Addr} {H H' : Hp} {kvs : List (D × D)} {xs : List (NestedKey × Addr × Value)} (h : RepT K ι H kvs xs) (e : Ext K ι H ι' H') : RepT K ι' H' kvs xs :=
  L2.Paired.mapP h fun p q z => ⟨⟨z.1.1, z.1.2.1, z.1.2.2.mono e⟩, let ⟨v, z1, z2⟩ := z.2; ⟨v, z1, z2.mono e⟩⟩
theorem RepD.mono {ι ι' : List Addr} {H H' : Hp} {kvs : List (D × D)} {a : Addr} (h : RepD K ι H kvs a) (e : Ext K ι H ι' H') (k : H' a = H a) : RepD K ι' H' kvs a := by
  rcases h with ⟨vs, h1, h2⟩ | ⟨xs, h1, h2, h3, h4, h5⟩
  · exact .inl ⟨vs, by rw [k]; exact h1, L2.Paired.mapP h2 fun _ _ z => ⟨z.1, z.2.mono e⟩⟩
  · exact .inr ⟨xs, by rw [k]; exact h1, h2, h3, h4, h5.mono e⟩
variable (K)
def RepC (ι : List Addr) (H : Hp) : Cell → Addr → Prop
  | .lst xs, a => ∃ vs, H a = some (.lst vs) ∧ Reps K ι H xs vs
  | .rol xs, a => (∃ o vs, H a = some (.frz o (.lst vs)) ∧ Reps K ι H xs vs) ∨ ∃ vs, (∀ H', SqL K.K H' a vs) ∧ ∀ ι' H', Reps K ι' H' xs vs
  | .dct kvs, a => RepD K ι H kvs a
  | .ins _ _, _ => False
def isW : Cell → Bool
  | .rol _ => false
  | _ => true
structure RelS (ι : List Addr) (S : Store) (H : Hp) : Prop where
  len : ι.length = S.length
  cell : ∀ (n : Nat) (c : Cell) (a : Addr), S[n]? = some c → ι[n]? = some a → RepC K ι H c a
  inj : ∀ (m n : Nat) (a : Addr) (c d : Cell), ι[m]? = some a → ι[n]? = some a → S[m]? = some c → S[n]? = some d → isW c = true → isW d = true → m = n
/-- nobody in the store is at p -/
def Fresh (ι : List Addr) (S : Store) (p : Addr) : Prop := ∀ (n : Nat) (a : Addr) (c : Cell), ι[n]? = some a → S[n]? = some c → isW c = true → a ≠ p
structure Ex (ι : List Addr) (S : Store) (H : Hp) (ι' : List Addr) (S' : Store) (H' : Hp) : Prop where
  ext : Ext K ι H ι' H'
  frame : ∀ b, H b ≠ none → Fresh ι S b → H' b = H b ∧ Fresh ι' S' b
  was : ∀ b, H b ≠ none → H' b ≠ none
variable {K}
theorem Ex.refl (ι : List Addr) (S : Store) (H : Hp) : Ex K ι S H ι S H := ⟨Ext.refl ι H, fun _ _ f => ⟨rfl, f⟩, fun _ h => h⟩
theorem upd_was {H : Hp} {p b : Addr} {o : HO} (h : H b ≠ none) : upd H p o b ≠ none := by
  by_cases e : b = p
  · subst e; rw [upd_same]; simp
  · rw [upd_ne e]; exact h
theorem Ex.trans {ι ι1 ι2 : List Addr} {S S1 S2 : Store} {H H1 H2 : Hp} (x : Ex K ι S H ι1 S1 H1) (y : Ex K ι1 S1 H1 ι2 S2 H2) : Ex K ι S H ι2 S2 H2 :=
  ⟨x.ext.trans y.ext, fun b h f => by
    obtain ⟨e1, f1⟩ := x.frame b h f
    obtain ⟨e2, f2⟩ := y.frame b (by rw [e1]; exact h) f1
    exact ⟨e2.trans e1, f2⟩, fun b h => y.was b (x.was b h)⟩
theorem Ex.new {ι : List Addr} {S : Store} {H : Hp} {p : Addr} {o : HO} (hp : H p = none) : Ex K ι S H ι S (upd H p o) :=
  ⟨Ext.upd' ι (.inl hp), fun b h f => ⟨upd_ne (by rintro rfl; exact h hp), f⟩, fun _ h => upd_was h⟩
theorem Paired.mono' {α β : Type} {F G : α → β → Prop} {l₁ : List α} {l₂ : List β} (h : Paired F l₁ l₂) (f : ∀ a b, F a b → G a b) : Paired G l₁ l₂ := L2.Paired.mapP h f
theorem RepC.mono {ι ι' : List Addr} {H H' : Hp} {c : Cell} {a : Addr} (h : RepC K ι H c a) (e : Ext K ι H ι' H') (k : (∃ vs, ∀ H', SqL K.K H' a vs) ∨ H' a = H a) : RepC K ι' H' c a ∨ ∃ vs, ∀ H', SqL K.K H' a vs := by
  rcases k with k | k
  · exact .inr k
  refine .inl ?_
  cases c with
  | lst xs =>
    obtain ⟨vs, h1, h2⟩ := h
    exact ⟨vs, by rw [k]; exact h1, h2.mono e⟩
  | rol xs =>
    rcases h with ⟨o, vs, h1, h2⟩ | h
    · exact .inl ⟨o, vs, by rw [k]; exact h1, h2.mono e⟩
    · exact .inr h
  | dct kvs => exact RepD.mono h e k
  | ins _ _ => exact h.elim
/-- a cell that may be written stands in H and may be changed there -/
theorem RepC.mut {ι : List Addr} {H : Hp} {c : Cell} {a : Addr} (h : RepC K ι H c a) (w : isW c = true) : Mut (H a) := by
  cases c with
  | lst xs => obtain ⟨vs, h1, _⟩ := h; rw [h1]; trivial
  | rol xs => simp [isW] at w
  | dct kvs =>
    rcases h with ⟨vs, h1, _⟩ | ⟨xs, h1, _⟩
    · rw [h1]; trivial
    · rw [h1]; trivial
  | ins _ _ => exact h.elim
/-- a cell elsewhere -/
theorem RepC.other {ι ι' : List Addr} {H : Hp} {c : Cell} {a p : Addr} {o : HO} (h : RepC K ι H c a) (e : Ext K ι H ι' (upd H p o)) (hp : H p = none ∨ Mut (H p)) (hn : isW c = true → a ≠ p) : RepC K ι' (upd H p o) c a := by
  cases c with
  | lst xs =>
    obtain ⟨vs, h1, h2⟩ := h
    exact ⟨vs, by rw [upd_ne (hn rfl)]; exact h1, h2.mono e⟩
  | rol xs =>
    rcases h with ⟨o', vs, h1, h2⟩ | h
    · refine .inl ⟨o', vs, ?_, h2.mono e⟩
      rw [upd_ne]; · exact h1
      rintro rfl
      rcases hp with z | z
      · rw [h1] at z; cases z
      · rw [h1] at z; exact z
    · exact .inr h
  | dct kvs => exact RepD.mono h e (upd_ne (hn rfl))
  | ins _ _ => exact h.elim
theorem RepC.grow {ι ι' : List Addr} {H : Hp} {c : Cell} {a : Addr} (h : RepC K ι H c a) (e : Ext K ι H ι' H) : RepC K ι' H c a := by
  cases c with
  | lst xs => obtain ⟨vs, h1, h2⟩ := h; exact ⟨vs, h1, h2.mono e⟩
  | rol xs =>
    rcases h with ⟨o', vs, h1, h2⟩ | h
    · exact .inl ⟨o', vs, h1, h2.mono e⟩
    · exact .inr h
  | dct kvs => exact RepD.mono h e rfl
  | ins _ _ => exact h.elim
theorem RelS.fresh {ι : List Addr} {S : Store} {H : Hp} {p : Addr} (r : RelS K ι S H) (hp : H p = none) : Fresh ι S p := fun n a c h1 h2 w z => by
  have m := (r.cell n c a h2 h1).mut w
  rw [z, hp] at m
  exact m
/-- something new elsewhere -/
theorem RelS.new {ι : List Addr} {S : Store} {H : Hp} {p : Addr} {o : HO} (r : RelS K ι S H) (hp : H p = none) : RelS K ι S (upd H p o) :=
  ⟨r.len, fun n c a h1 h2 => (r.cell n c a h1 h2).other (Ext.upd' ι (.inl hp)) (.inl hp) fun w => r.fresh hp n a c h2 h1 w, r.inj⟩
/-- what stands at p is a new cell -/
theorem RelS.mat {ι : List Addr} {S : Store} {H : Hp} {p : Addr} {c : Cell} (r : RelS K ι S H) (hf : Fresh ι S p) (hc : RepC K ι H c p) :
    RelS K (ι ++ [p]) (S ++ [c]) H ∧ (∀ (S0 : Store) (ι0 : List Addr) (H0 : Hp), H0 p = none → Ex K ι0 S0 H0 ι S H → Ex K ι0 S0 H0 (ι ++ [p]) (S ++ [c]) H) ∧ Ext K ι H (ι ++ [p]) H := by
  have e : Ext K ι H (ι ++ [p]) H := ⟨fun n a h => by
    have hl : n < ι.length := (List.getElem?_eq_some_iff.mp h).1
    rw [List.getElem?_append_left hl]; exact h, fun _ _ h => h⟩
  refine ⟨⟨by simp [r.len], fun n d a h1 h2 => ?_, fun m n a d d' h1 h2 h3 h4 w1 w2 => ?_⟩, fun S0 ι0 H0 hn0 x => ⟨x.ext.trans e, fun b hb fb => ⟨(x.frame b hb fb).1, fun k z q g1 g2 w => ?_⟩, x.was⟩, e⟩
  rotate_left 2
  · by_cases hk : k < S.length
    · rw [List.getElem?_append_left hk] at g2
      rw [List.getElem?_append_left (by rw [r.len]; exact hk)] at g1
      exact (x.frame b hb fb).2 k z q g1 g2 w
    · have hk' : k = S.length := by
        have := (List.getElem?_eq_some_iff.mp g2).1
        simp at this
        omega
      subst hk'
      rw [← r.len, List.getElem?_append_right (Nat.le_refl _)] at g1
      simp at g1
      subst g1
      rintro rfl
      exact hb hn0
  · by_cases hn : n < S.length
    · rw [List.getElem?_append_left hn] at h1
      rw [List.getElem?_append_left (by rw [r.len]; exact hn)] at h2
      exact (r.cell n d a h1 h2).grow e
    · have hn' : n = S.length := by
        have := (List.getElem?_eq_some_iff.mp h1).1
        simp at this
        omega
      subst hn'
      rw [List.getElem?_append_right (Nat.le_refl _)] at h1
      rw [← r.len, List.getElem?_append_right (Nat.le_refl _)] at h2
      simp at h1 h2
      subst h1 h2
      exact hc.grow e
  · have side : ∀ (k : Nat) (z : Addr) (q : Cell), (ι ++ [p])[k]? = some z → (S ++ [c])[k]? = some q → isW q = true → (k < S.length ∧ ι[k]? = some z ∧ S[k]? = some q) ∨ (k = S.length ∧ z = p) := fun k z q g1 g2 w => by
      by_cases hk : k < S.length
      · rw [List.getElem?_append_left hk] at g2
        rw [List.getElem?_append_left (by rw [r.len]; exact hk)] at g1
        exact .inl ⟨hk, g1, g2⟩
      · have hk' : k = S.length := by
          have := (List.getElem?_eq_some_iff.mp g2).1
          simp at this
          omega
        subst hk'
        rw [← r.len, List.getElem?_append_right (Nat.le_refl _)] at g1
        simp at g1
        exact .inr ⟨rfl, g1.symm⟩
    rcases side m a d h1 h3 w1 with ⟨_, g1, g2⟩ | ⟨g1, g2⟩
    · rcases side n a d' h2 h4 w2 with ⟨_, g3, g4⟩ | ⟨g3, g4⟩
      · exact r.inj m n a d d' g1 g3 g2 g4 w1 w2
      · exact absurd g4 (hf m a d g1 g2 w1)
    · rcases side n a d' h2 h4 w2 with ⟨_, g3, g4⟩ | ⟨g3, g4⟩
      · exact absurd g2 (hf n a d' g3 g4 w2)
      · omega
/-- a cell is written -/
theorem RelS.write {ι : List Addr} {S : Store} {H : Hp} {n : Nat} {a : Addr} {c c' : Cell} {o : HO} (r : RelS K ι S H) (h1 : S[n]? = some c) (h2 : ι[n]? = some a) (w : isW c = true) (w' : isW c' = true)
    (hc : ∀ H', Ext K ι H ι H' → H' a = some o → RepC K ι H' c' a) : RelS K ι (S.set n c') (upd H a o) ∧ Ex K ι S H ι (S.set n c') (upd H a o) := by
  have m := (r.cell n c a h1 h2).mut w
  have e : Ext K ι H ι (upd H a o) := Ext.upd' ι (.inr m)
  have side : ∀ (k : Nat) (q : Cell), (S.set n c')[k]? = some q → isW q = true → ∃ q', S[k]? = some q' ∧ isW q' = true := fun k q g w => by
    by_cases hk : k = n
    · subst hk; exact ⟨c, h1, ‹isW c = true›⟩
    · rw [List.getElem?_set_ne (Ne.symm hk)] at g
      exact ⟨q, g, w⟩
  refine ⟨⟨by simp [r.len], fun k d b g1 g2 => ?_, fun k l b d d' g1 g2 g3 g4 w1 w2 => ?_⟩, e, fun b hb fb => ⟨upd_ne (Ne.symm (fb n a c h2 h1 w)), fun k z q g1 g2 wq => ?_⟩, fun _ h => upd_was h⟩
  rotate_left 2
  · obtain ⟨q', q1, q2⟩ := side k q g2 wq
    exact fb k z q' g1 q1 q2
  · by_cases hk : k = n
    · subst hk
      have hl : k < S.length := (List.getElem?_eq_some_iff.mp h1).1
      rw [List.getElem?_set_self hl] at g1
      cases g1
      rw [h2] at g2; cases g2
      exact hc _ e upd_same
    · rw [List.getElem?_set_ne (Ne.symm hk)] at g1
      refine (r.cell k d b g1 g2).other e (.inr m) fun wd => ?_
      rintro rfl
      exact hk (r.inj k n b d c g2 h2 g1 h1 wd w)
  · obtain ⟨q, q1, q2⟩ := side k d g3 w1
    obtain ⟨q', q3, q4⟩ := side l d' g4 w2
    exact r.inj k l b q q' g1 g2 q1 q3 q2 q4

/-! ### what is read -/
theorem RelS.at {ι : List Addr} {S : Store} {H : Hp} {n : Nat} {c : Cell} {v : V} (r : RelS K ι S H) (h : Rep K ι H (.loc n) v) (hc : S[n]? = some c) : ∃ a, v = .ref a ∧ ι[n]? = some a ∧ RepC K ι H c a := by
  simp only [Rep] at h
  obtain ⟨a, e1, e2⟩ := h
  exact ⟨a, e1, e2, r.cell n c a hc e2⟩
theorem RepC.rol {ι : List Addr} {H : Hp} {xs : List D} {a : Addr} (h : RepC K ι H (.rol xs) a) : ∃ vs, SqL K.K H a vs ∧ Reps K ι H xs vs := by
  rcases h with ⟨o, vs, h1, h2⟩ | ⟨vs, h1, h2⟩
  · exact ⟨vs, .inl (.inr ⟨o, h1⟩), h2⟩
  · exact ⟨vs, h1 H, h2 ι H⟩
theorem RelS.seq {ι : List Addr} {S : Store} {H : Hp} {d : D} {v : V} {xs : List D} (r : RelS K ι S H) (h : Rep K ι H d v) (hs : seqOf S d = some xs) :
    ∃ a vs, v = .ref a ∧ (SqL K.K H a vs ∨ SqT K.K H a vs) ∧ Reps K ι H xs vs := by
  cases d with
  | tup ds =>
    simp only [seqOf, Option.some.injEq] at hs
    subst hs
    simp only [Rep] at h
    obtain ⟨a, vs, e1, e2, e3⟩ := h
    exact ⟨a, vs, e1, .inr e2, e3⟩
  | loc n =>
    simp only [seqOf] at hs
    split at hs
    · rename_i ys g
      cases hs
      obtain ⟨a, e1, e2, vs, e3, e4⟩ := r.at h g
      exact ⟨a, vs, e1, .inl (SqL.of e3), e4⟩
    · rename_i ys g
      cases hs
      obtain ⟨a, e1, e2, e3⟩ := r.at h g
      obtain ⟨vs, e4, e5⟩ := e3.rol
      exact ⟨a, vs, e1, .inl e4, e5⟩
    · cases hs
  | _ => simp [seqOf] at hs
variable (K)
def RepR (ι : List Addr) (S : Store) (H : Hp) : R → V → Prop
  | .v d, v => Rep K ι H d v
  | .tmp xs, v => ∃ p vs, v = .ref p ∧ H p = some (.lst vs) ∧ Reps K ι H xs vs ∧ Fresh ι S p
variable {K}
theorem RelS.items {ι : List Addr} {S : Store} {H : Hp} {x : R} {v : V} {xs : List D} (r : RelS K ι S H) (h : RepR K ι S H x v) (hs : itemsOf S x = some xs) :
    ∃ a vs, v = .ref a ∧ (SqL K.K H a vs ∨ SqT K.K H a vs) ∧ Reps K ι H xs vs := by
  cases x with
  | v d => exact r.seq h hs
  | tmp ys =>
    simp only [itemsOf, Option.some.injEq] at hs
    subst hs
    obtain ⟨p, vs, e1, e2, e3, _⟩ := h
    exact ⟨p, vs, e1, .inl (SqL.of e2), e3⟩
end

/-! ### ends -/
/-- a new list stands where nothing stood -/
def NewR (H : Hp) : R → V → Prop
  | .v _, _ => True
  | .tmp _, v => ∀ p, v = .ref p → H p = none
def Okk {α : Type} (o : Out α) (Φ : α → Store → Prop) : Prop := match o with
  | .ok a S => Φ a S
  | _ => False
theorem okk_bind {α β : Type} {x : Out α} {f : α → Store → Out β} {Φ : β → Store → Prop} (h : Okk (x.bind f) Φ) : Okk x fun a S => Okk (f a S) Φ := by
  cases x with
  | ok a S => exact h
  | exc c d S => exact h
  | no => exact h
theorem okk_imp {α : Type} {o : Out α} {Φ Ψ : α → Store → Prop} (h : Okk o Φ) (f : ∀ a S, Φ a S → Ψ a S) : Okk o Ψ := by
  cases o with
  | ok a S => exact f a S h
  | exc c d S => exact h
  | no => exact h
end MP

/-! The operators, builtins, methods by values. -/
set_option linter.all false
set_option autoImplicit false
namespace MP
open PySem PySem.Spec PyProof.Rows L2

theorem line_eq : line = sizeLine := by decide
section
variable (K : Md)
def Post (ι : List Addr) (S : Store) (H : Hp) (Q : VK) : R → Store → Prop := fun r S' => ∀ ι' H' v, Ex K ι S H ι' S' H' → RelS K ι' S' H' → RepR K ι' S' H' r v → NewR H r v → Q v H'
def PostB (ι : List Addr) (S : Store) (H : Hp) (Q : Bool → Hp → Prop) : Bool → Store → Prop := fun b S' => ∀ ι' H', Ex K ι S H ι' S' H' → RelS K ι' S' H' → Q b H'
def PostA (ι : List Addr) (S : Store) (H : Hp) (Q : List V → Hp → Prop) : R → Store → Prop := fun r S' => ∃ ds, r = .tmp ds ∧ ∀ ι' H' vs, Ex K ι S H ι' S' H' → RelS K ι' S' H' → Reps K ι' H' ds vs → Q vs H'
variable {K}
theorem NewR.shift {ι ι1 : List Addr} {S S1 : Store} {H H1 : Hp} {r : R} {v : V} (e : Ex K ι S H ι1 S1 H1) (n : NewR H1 r v) : NewR H r v := by
  cases r with
  | v d => trivial
  | tmp xs =>
    intro p hp
    cases q : H p with
    | none => rfl
    | some o => exact absurd (n p hp) (e.was p (by rw [q]; simp))
theorem Post.shift {ι ι1 : List Addr} {S S1 : Store} {H H1 : Hp} {Q : VK} {r : R} {S' : Store} (h : Post K ι S H Q r S') (e : Ex K ι S H ι1 S1 H1) : Post K ι1 S1 H1 Q r S' :=
  fun ι' H' v e' r' x n => h ι' H' v (e.trans e') r' x (n.shift e)
theorem PostB.shift {ι ι1 : List Addr} {S S1 : Store} {H H1 : Hp} {Q : Bool → Hp → Prop} {r : Bool} {S' : Store} (h : PostB K ι S H Q r S') (e : Ex K ι S H ι1 S1 H1) : PostB K ι1 S1 H1 Q r S' :=
  fun ι' H' e' => h ι' H' (e.trans e')
theorem PostA.shift {ι ι1 : List Addr} {S S1 : Store} {H H1 : Hp} {Q : List V → Hp → Prop} {r : R} {S' : Store} (h : PostA K ι S H Q r S') (e : Ex K ι S H ι1 S1 H1) : PostA K ι1 S1 H1 Q r S' :=
  let ⟨ds, z, h⟩ := h
  ⟨ds, z, fun ι' H' v e' => h ι' H' v (e.trans e')⟩
theorem Post.now {ι : List Addr} {H : Hp} {Q : VK} {d : D} {S : Store} {v : V} (h : Post K ι S H Q (.v d) S) (r : RelS K ι S H) (x : Rep K ι H d v) : Q v H :=
  h ι H v (Ex.refl ι S H) r x trivial
/-- a new list -/
theorem Post.newL {ι : List Addr} {H : Hp} {Q : VK} {xs : List D} {vs : List V} {S : Store} {p : Addr} (h : Post K ι S H Q (.tmp xs) S) (r : RelS K ι S H) (x : Reps K ι H xs vs) (hp : H p = none) : Q (.ref p) (upd H p (.lst vs)) := by
  have e : Ex K ι S H ι S (upd H p (.lst vs)) := Ex.new hp
  exact h ι _ _ e (r.new hp) ⟨p, vs, rfl, upd_same, x.mono e.ext, r.fresh hp⟩ fun q hq => by cases hq; exact hp
theorem Post.newT {ι : List Addr} {H : Hp} {Q : VK} {xs : List D} {vs : List V} {S : Store} {p : Addr} (h : Post K ι S H Q (.v (.tup xs)) S) (r : RelS K ι S H) (x : Reps K ι H xs vs) (hp : H p = none) : Q (.ref p) (upd H p (.tup vs)) := by
  have e : Ex K ι S H ι S (upd H p (.tup vs)) := Ex.new hp
  refine h ι _ _ e (r.new hp) ?_ trivial
  simp only [RepR, Rep]
  exact ⟨p, vs, rfl, SqT.of upd_same, x.mono e.ext⟩
theorem Post.oldT {ι : List Addr} {H : Hp} {Q : VK} {xs : List D} {vs : List V} {S : Store} {p : Addr} (h : Post K ι S H Q (.v (.tup xs)) S) (r : RelS K ι S H) (x : Reps K ι H xs vs) (hp : SqT K.K H p vs) : Q (.ref p) H := by
  refine h.now r ?_
  simp only [Rep]
  exact ⟨p, vs, rfl, hp, x⟩

/-- an operator by values, in the small syntax -/
def rB (K : Md) (f : D → D → Store → Out R) : R2 := fun x y H Q => ∃ ι S dx dy, RelS K ι S H ∧ Rep K ι H dx x ∧ Rep K ι H dy y ∧ Okk (f dx dy S) (Post K ι S H Q)
variable {X : Cx}

theorem small64_ok {i : Int} (h : small64 i = true) : -(2 ^ 64) < i ∧ i < 2 ^ 64 := by
  simp only [small64, Bool.and_eq_true, decide_eq_true_eq] at h
  exact ⟨by have : (2:Int)^64 = 18446744073709551616 := by decide
            omega, by have : (2:Int)^64 = 18446744073709551616 := by decide
                      omega⟩

theorem op_ok (o : Bop) (op : Operator) (ho : bopOf op = some o) : OpR X (binaryOp op) (rB X.md (binop o)) := by
  intro pins s σ H x y v u Q I rx ry ⟨ι, S, dx, dy, r, hx, hy, h⟩
  cases op <;> simp [bopOf] at ho <;> subst ho
  · -- add
    cases dx <;> cases dy <;> simp only [binop, Okk] at h <;> try exact h.elim
    · rename_i i j
      simp only [Rep] at hx hy
      exact op_add pins s σ H x y v u Q I rx ry ⟨i, j, hx, hy, h.now r (by simp [Rep])⟩
    · rename_i a b
      simp only [Rep] at hx hy
      split at h <;> rename_i g
      · split at g
        · cases g
          rename_i hl
          exact op_add_str pins s σ H x y v u Q I rx ry ⟨a, b, hx, hy, by rw [← line_eq]; exact hl, h.now r (by simp [Rep])⟩
        · cases g
      · exact h.elim
    · rename_i xs ys
      simp only [Rep] at hx hy
      obtain ⟨a, us, e1, e2, e3⟩ := hx
      obtain ⟨b, ws, f1, f2, f3⟩ := hy
      split at h <;> rename_i g
      · split at g
        · cases g
          rename_i hl
          refine op_catA pins s σ H x y v u Q I rx ry ⟨a, b, us, ws, e1, f1, e2, f2, by rw [e3.len, f3.len, ← line_eq]; exact hl, fun z => ?_, fun z1 z2 => ?_, fun z1 z2 p hp => ?_⟩
          · subst z
            have : xs = [] := by
              have := e3.len
              simp at this
              exact List.eq_nil_of_length_eq_zero this.symm
            subst this
            exact h.oldT r (by simpa using f3) f2
          · subst z2
            have : ys = [] := by
              have := f3.len
              simp at this
              exact List.eq_nil_of_length_eq_zero this.symm
            subst this
            exact h.oldT r (by simpa using e3) e2
          · exact h.newT r (e3.app f3) hp
        · cases g
      · exact h.elim
    · rename_i m n
      split at h <;> rename_i g
      · split at g
        · rename_i xs ys g1 g2
          split at g
          · cases g
            rename_i hl
            obtain ⟨a, e1, e2, us, e3, e4⟩ := r.at hx g1
            obtain ⟨b, f1, f2, ws, f3, f4⟩ := r.at hy g2
            exact op_cat pins s σ H x y v u Q I rx ry ⟨a, b, us, ws, e1, f1, e3, f3, by rw [e4.len, f4.len, ← line_eq]; exact hl, fun p hp => h.newL r (e4.app f4) hp⟩
          · cases g
        · cases g
      · exact h.elim
  · -- sub
    cases dx <;> cases dy <;> simp only [binop, Okk] at h <;> try exact h.elim
    rename_i i j
    simp only [Rep] at hx hy
    exact op_sub pins s σ H x y v u Q I rx ry ⟨i, j, hx, hy, h.now r (by simp [Rep])⟩
  · -- mul
    cases dx <;> cases dy <;> simp only [binop, Okk] at h <;> try exact h.elim
    rename_i i j
    simp only [Rep] at hx hy
    split at h <;> rename_i g
    · split at g
      · cases g
        rename_i hl
        have c : CMul i j := by
          rcases Bool.or_eq_true_iff.mp hl with z | z
          · exact .inl (small64_ok z)
          · exact .inr (small64_ok z)
        exact op_mul pins s σ H x y v u Q I rx ry ⟨i, j, hx, hy, c, h.now r (by simp [Rep])⟩
      · cases g
    · exact h.elim
  · -- mod
    cases dx <;> cases dy <;> simp only [binop, Okk] at h <;> try exact h.elim
    rename_i i j
    simp only [Rep] at hx hy
    split at h <;> rename_i g
    · split at g
      · cases g
        rename_i hl
        exact op_mod pins s σ H x y v u Q I rx ry ⟨i, j, hx, hy, of_decide_eq_true hl, h.now r (by simp [Rep])⟩
      · cases g
    · exact h.elim
  · -- pow
    cases dx <;> cases dy <;> simp only [binop, Okk] at h <;> try exact h.elim
    rename_i i j
    simp only [Rep] at hx hy
    split at h <;> rename_i g
    · split at g
      · cases g
        rename_i hl
        simp only [Bool.and_eq_true, decide_eq_true_eq] at hl
        have : (2:Nat)^64 = 18446744073709551616 := by decide
        exact op_pow pins s σ H x y v u Q I rx ry ⟨i, j, hx, hy, ⟨hl.1.1, hl.1.2, by rw [this]; exact hl.2⟩, h.now r (by simp [Rep])⟩
      · cases g
    · exact h.elim
  · -- fdiv
    cases dx <;> cases dy <;> simp only [binop, Okk] at h <;> try exact h.elim
    rename_i i j
    simp only [Rep] at hx hy
    split at h <;> rename_i g
    · split at g
      · cases g
        rename_i hl
        simp only [Bool.and_eq_true, decide_eq_true_eq] at hl
        exact op_fdiv pins s σ H x y v u Q I rx ry ⟨i, j, hx, hy, ⟨hl.1, hl.2⟩, h.now r (by simp [Rep])⟩
      · cases g
    · exact h.elim
end
end MP

/-! Comparisons, truth, indices, slices by values. -/
set_option linter.all false
set_option autoImplicit false
namespace MP
open PySem PySem.Spec PyProof.Rows L2

mutual
def D.py : D → PyData
  | .non => .none
  | .bl b => .bool b
  | .int i => .int i
  | .str x => .str x
  | .tup xs => .tuple (D.pys xs)
  | .loc _ => .none
def D.pys : List D → List PyData
  | [] => []
  | x :: r => D.py x :: D.pys r
end
mutual
theorem py_lay : ∀ {d : D}, d.lay = true → (D.py d).canLay0 = true
  | .non, _ => rfl
  | .bl _, _ => rfl
  | .int _, _ => rfl
  | .str x, h => by simpa [D.py, PyData.canLay0, D.lay, strFine, PyData.strOk] using h
  | .tup xs, h => by
    simp only [D.lay] at h
    simpa [D.py, PyData.canLay0] using pys_lay h
  | .loc _, h => by simp [D.lay] at h
theorem pys_lay : ∀ {xs : List D}, D.lays xs = true → PyData.canLayAll0 (D.pys xs) = true
  | [], _ => rfl
  | x :: r, h => by
    simp only [D.lays, Bool.and_eq_true] at h
    simp [D.pys, PyData.canLayAll0, py_lay h.1, pys_lay h.2]
end
mutual
theorem py_depth : ∀ (d : D), (D.py d).depth = d.depth
  | .non => rfl
  | .bl _ => rfl
  | .int _ => rfl
  | .str _ => rfl
  | .tup xs => by simp [D.py, PyData.depth, D.depth, pys_depth xs]
  | .loc _ => rfl
theorem pys_depth : ∀ (xs : List D), PyData.depthAll (D.pys xs) = D.depths xs
  | [] => rfl
  | x :: r => by simp [D.pys, PyData.depthAll, D.depths, py_depth x, pys_depth r]
end
mutual
theorem py_eqv : ∀ {x y : D}, x.lay = true → y.lay = true → PyData.eqv (D.py x) (D.py y) = D.eqv x y
  | .tup xs, y, h, h' => by
    cases y <;> simp only [D.py, PyData.eqv, D.eqv]
    · simp only [D.lay] at h h'
      exact pys_eqv h h'
  | .loc _, _, h, _ => by simp [D.lay] at h
  | .non, y, h, h' => by cases y <;> simp_all [D.py, PyData.eqv, D.eqv, D.lay]
  | .bl b, y, h, h' => by
    cases y
    case int j => cases b <;> simp [D.py, PyData.eqv, D.eqv, b2i, Bool.beq_eq_decide_eq]
    all_goals simp_all [D.py, PyData.eqv, D.eqv, D.lay, b2i, Bool.beq_eq_decide_eq]
  | .int i, y, h, h' => by
    cases y
    case bl b => cases b <;> simp [D.py, PyData.eqv, D.eqv, b2i, Bool.beq_eq_decide_eq]
    all_goals simp_all [D.py, PyData.eqv, D.eqv, D.lay, b2i, Bool.beq_eq_decide_eq]
  | .str s, y, h, h' => by
    cases y <;> simp_all [D.py, PyData.eqv, D.eqv, D.lay, Bool.beq_eq_decide_eq]
theorem pys_eqv : ∀ {xs ys : List D}, D.lays xs = true → D.lays ys = true → PyData.eqvAll (D.pys xs) (D.pys ys) = D.eqvs xs ys
  | [], ys, _, _ => by cases ys <;> simp [D.pys, PyData.eqvAll, D.eqvs]
  | x :: r, ys, h, h' => by
    cases ys with
    | nil => simp [D.pys, PyData.eqvAll, D.eqvs]
    | cons y s =>
      simp only [D.lays, Bool.and_eq_true] at h h'
      simp only [D.pys, PyData.eqvAll, D.eqvs, py_eqv h.1 h'.1, pys_eqv h.2 h'.2]
end
section
variable {K : Md}
mutual
theorem rep_dp {ι : List Addr} {H : Hp} : ∀ {d : D} {v : V}, d.lay = true → Rep K ι H d v → Dp K.K H v (D.py d)
  | .non, _, _, h => by simp only [Rep] at h; subst h; exact .non
  | .bl b, _, _, h => by simp only [Rep] at h; subst h; exact .bl b
  | .int i, _, _, h => by simp only [Rep] at h; subst h; exact .int i
  | .str x, _, _, h => by simp only [Rep] at h; subst h; exact .str x
  | .loc _, _, l, _ => by simp [D.lay] at l
  | .tup xs, _, l, h => by
    simp only [Rep] at h
    obtain ⟨a, vs, e1, e2, e3⟩ := h
    subst e1
    simp only [D.lay] at l
    exact .tup e2 (reps_dp l e3)
theorem reps_dp {ι : List Addr} {H : Hp} : ∀ {ds : List D} {vs : List V}, D.lays ds = true → Reps K ι H ds vs → DpAll K.K H vs (D.pys ds)
  | [], _, _, h => by simp only [Reps] at h; subst h; exact .nil
  | d :: ds, _, l, h => by
    simp only [Reps] at h
    obtain ⟨v, r, e1, e2, e3⟩ := h
    subst e1
    simp only [D.lays, Bool.and_eq_true] at l
    exact .cons (rep_dp l.1 e2) (reps_dp l.2 e3)
end
theorem fine_shaped {d : D} (h : d.fine = true) : d.lay = true ∧ SeqAt.shaped (D.py d) = true := by
  simp only [D.fine, Bool.and_eq_true, decide_eq_true_eq] at h
  refine ⟨h.1, ?_⟩
  simp only [SeqAt.shaped, Bool.and_eq_true, decide_eq_true_eq, py_depth]
  exact ⟨py_lay h.1, by omega⟩
theorem fines_shaped {xs : List D} (h : D.fines xs = true) : D.lays xs = true ∧ SeqAt.shaped (.list (D.pys xs)) = true := by
  simp only [D.fines, Bool.and_eq_true, decide_eq_true_eq] at h
  refine ⟨h.1, ?_⟩
  simp only [SeqAt.shaped, Bool.and_eq_true, decide_eq_true_eq, PyData.depth, pys_depth]
  exact ⟨by simpa [PyData.canLay0] using pys_lay h.1, by omega⟩
theorem fines_shapedT {xs : List D} (h : D.fines xs = true) : SeqAt.shaped (.tuple (D.pys xs)) = true := by
  simp only [D.fines, Bool.and_eq_true, decide_eq_true_eq] at h
  simp only [SeqAt.shaped, Bool.and_eq_true, decide_eq_true_eq, PyData.depth, pys_depth]
  exact ⟨by simpa [PyData.canLay0] using pys_lay h.1, by omega⟩

def rC (K : Md) (f : D → D → Store → Option Bool) : R2 := fun x y H Q => ∃ ι S dx dy b, RelS K ι S H ∧ Rep K ι H dx x ∧ Rep K ι H dy y ∧ f dx dy S = some b ∧ Q (.bl b) H
variable {X : Cx}
/-- == and !=: what both want -/
theorem eqD_cases {ι : List Addr} {H : Hp} {S : Store} {dx dy : D} {x y : V} {b : Bool} (r : RelS K ι S H) (hx : Rep K ι H dx x) (hy : Rep K ι H dy y) (h : eqD S dx dy = some b) :
    (∃ s t, x = .str s ∧ y = .str t ∧ b = decide (s = t)) ∨ ∃ d e, Dp K.K H x d ∧ Dp K.K H y e ∧ SeqAt.shaped d = true ∧ SeqAt.shaped e = true ∧ b = PyData.eqv d e := by
  unfold eqD at h
  split at h
  · rename_i m n
    split at h
    · rename_i xs ys g1 g2
      split at h
      · rename_i g
        cases h
        simp only [Bool.and_eq_true] at g
        obtain ⟨a, e1, e2, us, e3, e4⟩ := r.at hx g1
        obtain ⟨c, f1, f2, ws, f3, f4⟩ := r.at hy g2
        subst e1 f1
        have s1 := fines_shaped g.1
        have s2 := fines_shaped g.2
        exact .inr ⟨_, _, .lst (SqL.of e3) (reps_dp s1.1 e4), .lst (SqL.of f3) (reps_dp s2.1 f4), s1.2, s2.2, by simp [PyData.eqv, pys_eqv s1.1 s2.1]⟩
      · cases h
    · cases h
  · cases h
    simp only [Rep] at hx hy
    exact .inl ⟨_, _, hx, hy, rfl⟩
  · split at h
    · rename_i g
      cases h
      simp only [Bool.and_eq_true] at g
      have s1 := fine_shaped g.1
      have s2 := fine_shaped g.2
      exact .inr ⟨_, _, rep_dp s1.1 hx, rep_dp s2.1 hy, s1.2, s2.2, (py_eqv s1.1 s2.1).symm⟩
    · cases h
theorem eq_ok (hu : X.A.units + 64 < cLine) : OpR X (compareOp .Eq) (rC X.md (cmpop .eq)) := by
  intro pins s σ H x y v u Q I rx ry ⟨ι, S, dx, dy, b, r, hx, hy, h, q⟩
  rcases eqD_cases r hx hy h with ⟨s', t, e1, e2, e3⟩ | ⟨d, e, h1, h2, h3, h4, h5⟩
  · subst e1 e2 e3
    refine op_eq pins s σ H _ _ v u Q I rx ry ⟨rfl, ?_⟩
    have : decide (V.str s' = V.str t) = decide (s' = t) := by by_cases e : s' = t <;> simp [e]
    rw [this]; exact q
  · exact op_eqD hu pins s σ H x y v u Q I rx ry ⟨d, e, h1, h2, h3, h4, by rw [← h5]; exact q⟩
theorem ne_ok (hu : X.A.units + 64 < cLine) : OpR X (compareOp .NotEq) (rC X.md (cmpop .ne)) := by
  intro pins s σ H x y v u Q I rx ry ⟨ι, S, dx, dy, b, r, hx, hy, h, q⟩
  simp only [cmpop, Option.map_eq_some_iff] at h
  obtain ⟨b', h, rfl⟩ := h
  rcases eqD_cases r hx hy h with ⟨s', t, e1, e2, e3⟩ | ⟨d, e, h1, h2, h3, h4, h5⟩
  · subst e1 e2 e3
    refine op_ne pins s σ H _ _ v u Q I rx ry ⟨rfl, ?_⟩
    have : decide (V.str s' = V.str t) = decide (s' = t) := by by_cases e : s' = t <;> simp [e]
    rw [this]; exact q
  · exact op_neD hu pins s σ H x y v u Q I rx ry ⟨d, e, h1, h2, h3, h4, by rw [← h5]; exact q⟩
theorem any_eqvs {x : D} (hx : x.lay = true) : ∀ {ys : List D}, D.lays ys = true → ((D.pys ys).any fun z => PyData.eqv z (D.py x)) = anyEqv x ys
  | [], _ => rfl
  | y :: r, h => by
    simp only [D.lays, Bool.and_eq_true] at h
    have := any_eqvs hx h.2
    simp only [anyEqv] at this
    simp only [D.pys, List.any_cons, anyEqv, py_eqv h.1 hx, this]
/-- in a dict -/
theorem keyV_rel {k : D} {j : Key} {v : V} {ι : List Addr} {H : Hp} (h : keyV k = some j) (r : Rep K ι H k v) : v = kV j := by
  cases k <;> simp [keyV] at h <;> subst h <;> simpa [Rep, kV] using r
theorem keyV_inj {k l : D} {j i : Key} (h : keyV k = some j) (h' : keyV l = some i) : k.eqv l = decide (j = i) := by
  cases k <;> simp [keyV] at h <;> subst h <;> cases l <;> simp [keyV] at h' <;> subst h' <;> simp [D.eqv]
theorem find_val {ι : List Addr} {H : Hp} {k : D} {j : Key} (hk : keyV k = some j) : ∀ {kvs : List (D × D)} {kvs' : List (Key × V)},
    Paired (fun (p : D × D) (q : Key × V) => keyV p.1 = some q.1 ∧ Rep K ι H p.2 q.2) kvs kvs' →
    (findKey k kvs = none ∧ valV kvs' j = none) ∨ ∃ d v, findKey k kvs = some d ∧ valV kvs' j = some v ∧ Rep K ι H d v
  | _, _, .nil => .inl ⟨rfl, rfl⟩
  | (a, d) :: r, (b, v) :: r', .cons h t => by
    obtain ⟨h1, h2⟩ := h
    have e := keyV_inj h1 hk
    by_cases z : b = j
    · refine .inr ⟨d, v, ?_, ?_, h2⟩
      · simp [findKey, e, z]
      · exact valV_pos z
    · have e' : a.eqv k = false := by rw [e]; simpa using z
      rcases find_val hk t with ⟨g1, g2⟩ | ⟨d', v', g1, g2, g3⟩
      · exact .inl ⟨by simp [findKey, e', g1], by rw [valV_neg (p := (b, v)) z]; exact g2⟩
      · exact .inr ⟨d', v', by simp [findKey, e', g1], by rw [valV_neg (p := (b, v)) z]; exact g2, g3⟩
end
end MP

/-! Dicts by values. -/
set_option linter.all false
set_option autoImplicit false
namespace MP
open PySem PySem.Spec PyProof.Rows L2

mutual
theorem nk_eqv : ∀ {x y : D}, x.flat = true → y.flat = true → x.eqv y = NestedKey.beq (nk x) (nk y)
  | .tup xs, y, h, h' => by
    cases y <;> simp only [nk, NestedKey.beq, D.eqv]
    · simp only [D.flat] at h h'
      exact nks_eqv h h'
  | .loc _, _, h, _ => by simp [D.flat] at h
  | .non, y, h, h' => by cases y <;> simp_all [nk, NestedKey.beq, D.eqv, D.flat]
  | .bl b, y, h, h' => by
    cases y
    case bl c => cases b <;> cases c <;> simp [nk, NestedKey.beq, D.eqv, b2i]
    all_goals simp_all [nk, NestedKey.beq, D.eqv, D.flat]
  | .int i, y, h, h' => by cases y <;> simp_all [nk, NestedKey.beq, D.eqv, D.flat]
  | .str s, y, h, h' => by cases y <;> simp_all [nk, NestedKey.beq, D.eqv, D.flat]
theorem nks_eqv : ∀ {xs ys : List D}, D.flats xs = true → D.flats ys = true → D.eqvs xs ys = NestedKey.beqAll (nks xs) (nks ys)
  | [], ys, _, _ => by cases ys <;> simp [nks, NestedKey.beqAll, D.eqvs]
  | x :: r, ys, h, h' => by
    cases ys with
    | nil => simp [nks, NestedKey.beqAll, D.eqvs]
    | cons y s =>
      simp only [D.flats, Bool.and_eq_true] at h h'
      simp only [nks, NestedKey.beqAll, D.eqvs, nk_eqv h.1 h'.1, nks_eqv h.2 h'.2]
end
theorem nk_dec {x y : D} (h : x.flat = true) (h' : y.flat = true) : x.eqv y = decide (nk x = nk y) := by rw [nk_eqv h h', NestedKey.decide_eq]
mutual
theorem nk_depth : ∀ (d : D), (nk d).depth = d.depth
  | .non => rfl
  | .bl _ => rfl
  | .int _ => rfl
  | .str _ => rfl
  | .tup xs => by simp [nk, NestedKey.depth, D.depth, nks_depth xs]
  | .loc _ => rfl
theorem nks_depth : ∀ (xs : List D), NestedKey.depthAll (nks xs) = D.depths xs
  | [] => rfl
  | x :: r => by simp [nks, NestedKey.depthAll, D.depths, nk_depth x, nks_depth r]
end
theorem key_tup {k : D} (h : k.key = some true) : k.flat = true ∧ (nk k).depth ≤ 8 := by
  cases k <;> simp [D.key] at h
  rename_i xs
  refine ⟨by simpa [D.flat] using h.1, ?_⟩
  rw [nk_depth]
  simp [D.depth]
  omega
section
variable {X : Cx} {pins : List (Addr × Obj)} {σ : L2.St} {H : Hp} {s : Shared} {ι : List Addr}
mutual
theorem nested_of (I : Inv X pins σ H s) : ∀ {d : D} {v : V} {u : Value}, d.flat = true → Rep X.md ι H d v → RelV v u → NestedIs s.heap (nk d) u
  | .non, _, _, _, h, r => by simp only [Rep] at h; subst h; cases r; exact .none
  | .bl b, _, _, _, h, r => by simp only [Rep] at h; subst h; cases r; exact .bool rfl
  | .int i, _, _, _, h, r => by simp only [Rep] at h; subst h; obtain ⟨t, rfl⟩ := r; exact .int _ _
  | .str x, _, _, _, h, r => by simp only [Rep] at h; subst h; obtain ⟨t, rfl⟩ := r; exact .text _ _
  | .loc _, _, _, l, _, _ => by simp [D.flat] at l
  | .tup xs, _, _, l, h, r => by
    simp only [Rep] at h
    obtain ⟨a, vs, e1, e2, e3⟩ := h
    subst e1
    cases r
    simp only [D.flat] at l
    obtain ⟨its, rv, ⟨o, h1, h2, n, h3⟩, _⟩ := I.tuple e2
    exact .tup h1 h2 h3 (by simpa using nesteds_of I l e3 rv)
theorem nesteds_of (I : Inv X pins σ H s) : ∀ {ds : List D} {vs : List V} {us : List Value}, D.flats ds = true → Reps X.md ι H ds vs → Vals vs us → NestedAll s.heap (nks ds) us
  | [], _, _, _, h, r => by simp only [Reps] at h; subst h; cases r; exact .nil
  | d :: ds, _, _, l, h, r => by
    simp only [Reps] at h
    obtain ⟨v, w, e1, e2, e3⟩ := h
    subst e1
    simp only [D.flats, Bool.and_eq_true] at l
    cases r with
    | cons q t => exact .cons (nested_of I l.1 e2 q) (nesteds_of I l.2 e3 t)
end
abbrev nkd (X : Cx) := nestedKind X.prog X.w
theorem fits_all {k : D} {kvs : List (D × D)} {b : Bool} (h : keyFits k kvs = true) (hk : k.key = some b) : ∀ kv ∈ kvs, kv.1.key = some b := by
  intro kv hm
  simp only [keyFits, hk, List.all_eq_true] at h
  have := h kv hm
  cases q : kv.1.key with
  | none => rw [q] at this; cases this
  | some c =>
    rw [q] at this
    simp at this
    rw [this]
theorem keyV_key {k : D} {j : Key} (h : keyV k = some j) : k.key = some false := by cases k <;> simp [keyV] at h <;> rfl
theorem key_keyV {k : D} (h : k.key = some false) : ∃ j, keyV k = some j := by
  cases k <;> simp [D.key] at h
  · exact ⟨_, rfl⟩
  · exact ⟨_, rfl⟩
/-- a dict whose keys are tuples, or that is empty, asked by a tuple -/
theorem tup_dict (I : Inv X pins σ H s) {kvs : List (D × D)} {a : Addr} {k : D} (hd : RepD X.md ι H kvs a) (hf : keyFits k kvs = true) (hk : k.key = some true) :
    (a == sysModules) = false ∧ Mut (H a) ∧ ∃ xs, s.heap.DictOfH (nkd X) a xs ∧ RepT X.md ι H kvs xs ∧ kvs.length ≤ sizeLine := by
  have fa := fits_all hf hk
  rcases hd with ⟨kvs', h1, h2⟩ | ⟨xs, h1, h2, h3, h4, h5⟩
  · cases h2 with
    | cons r t =>
      have := fa _ List.mem_cons_self
      rw [keyV_key r.1] at this
      cases this
    | nil =>
      obtain ⟨_, z, vs, kv, o, es, ep, e1, e2, e3, _, e5, _⟩ := dk_of I.hok h1
      cases kv
      refine ⟨z, by rw [h1]; trivial, [], ⟨o, es, ep, e1, e2, e3, ?_, (fun _ hx => by cases hx), by simp⟩, .nil, by simp⟩
      cases q : es.toList with
      | nil => rfl
      | cons e r => rw [q] at e5; cases e5
  · obtain ⟨⟨o, es, ep, e1, e2, e3, e4⟩, _⟩ := I.hok a _ h1
    refine ⟨h2, by rw [h1]; trivial, xs, ⟨o, es, ep, e1, e2, e3, e4, fun x hx => ?_, h3⟩, h5, h4.1⟩
    have go : ∀ {kvs : List (D × D)} {xs : List (NestedKey × Addr × Value)}, RepT X.md ι H kvs xs → ∀ x ∈ xs, (nkd X).is s.heap x.1 x.2.1 := by
      intro kvs xs r
      induction r with
      | nil => intro x hx; cases hx
      | cons q t ih =>
        intro x hx
        rcases List.mem_cons.mp hx with rfl | hx
        · obtain ⟨⟨z1, z2, z3⟩, _⟩ := q
          have kt := key_tup z1
          rw [← z2]
          exact ⟨nested_of I kt.1 z3 rfl, kt.2⟩
        · exact ih x hx
    exact go h5 x hx
theorem find_valT {k : D} (hk : k.key = some true) : ∀ {kvs : List (D × D)} {xs : List (NestedKey × Addr × Value)}, RepT X.md ι H kvs xs →
    (findKey k kvs = none ∧ atKey xs (nk k) = none) ∨ ∃ d v b u, findKey k kvs = some d ∧ atKey xs (nk k) = some (b, u) ∧ RelV v u ∧ Rep X.md ι H d v
  | _, _, .nil => .inl ⟨rfl, rfl⟩
  | (a, d) :: r, (n, b, u) :: r', .cons h t => by
    obtain ⟨⟨h1, h2, h3⟩, v, h4, h5⟩ := h
    have e := nk_dec (key_tup h1).1 (key_tup hk).1
    dsimp only at h2 e
    by_cases z : n = nk k
    · refine .inr ⟨d, v, b, u, ?_, ?_, h4, h5⟩
      · simp [findKey, e, h2, z]
      · simp [atKey, z]
    · have e' : a.eqv k = false := by rw [e, h2]; simpa using z
      rcases find_valT hk t with ⟨g1, g2⟩ | ⟨d', v', b', u', g1, g2, g3, g4⟩
      · exact .inl ⟨by simp [findKey, e', g1], by simpa [atKey, z] using g2⟩
      · exact .inr ⟨d', v', b', u', by simp [findKey, e', g1], by simpa [atKey, z] using g2, g3, g4⟩
theorem any_find (k : D) : ∀ kvs : List (D × D), (kvs.any fun kv => kv.1.eqv k) = (findKey k kvs).isSome
  | [] => rfl
  | (j, v) :: r => by
    by_cases h : j.eqv k = true
    · simp [findKey, h]
    · have h' : j.eqv k = false := by simpa using h
      simp [findKey, h', any_find k r]
theorem putT {k d : D} {v : V} {u : Value} {b : Addr} (hk : k.key = some true) (rk : Rep X.md ι H k (.ref b)) (rv : RelV v u) (rd : Rep X.md ι H d v) {kvs : List (D × D)} {xs : List (NestedKey × Addr × Value)}
    (h : RepT X.md ι H kvs xs) : RepT X.md ι H (putKey k d kvs) (storedH xs (nk k) b u) := by
  unfold putKey storedH
  rw [any_find]
  rcases find_valT hk h with ⟨g1, g2⟩ | ⟨d', v', b', u', g1, g2, _⟩
  · rw [g1, g2]
    have go : ∀ {kvs : List (D × D)} {xs : List (NestedKey × Addr × Value)}, RepT X.md ι H kvs xs → RepT X.md ι H (kvs ++ [(k, d)]) (xs ++ [(nk k, b, u)]) := by
      intro kvs xs r
      induction r with
      | nil => exact .cons ⟨⟨hk, rfl, rk⟩, v, rv, rd⟩ .nil
      | cons q t ih => exact .cons q ih
    exact go h
  · rw [g1, g2]
    have go : ∀ {kvs : List (D × D)} {xs : List (NestedKey × Addr × Value)}, RepT X.md ι H kvs xs →
        RepT X.md ι H (kvs.map fun kv => if kv.1.eqv k then (kv.1, d) else kv) (xs.map (putAt (nk k) u)) := by
      intro kvs xs r
      induction r with
      | nil => exact .nil
      | @cons p q l1 l2 z t ih =>
        refine .cons ?_ ih
        obtain ⟨⟨z1, z2, z3⟩, w, z4, z5⟩ := z
        have e := nk_dec (key_tup z1).1 (key_tup hk).1
        by_cases y : q.1 = nk k
        · have e' : p.1.eqv k = true := by rw [e, z2]; simpa using y
          simp only [e', if_true, putAt, y]
          exact ⟨⟨z1, z2.trans y, z3⟩, v, rv, rd⟩
        · have e' : p.1.eqv k = false := by rw [e, z2]; simpa using y
          simp only [e', putAt, y, if_false]
          exact ⟨⟨z1, z2, z3⟩, w, z4, z5⟩
    exact go h
theorem RepT.len {kvs : List (D × D)} {xs : List (NestedKey × Addr × Value)} (h : RepT X.md ι H kvs xs) : xs.length = kvs.length := (Paired.length h).symm
/-- a dict is written -/
theorem ext_write (I : Inv X pins σ H s) {a : Addr} {xs : List (NestedKey × Addr × Value)} {h' : Heap} {t' : Nat} (mu : Mut (H a)) (hs : Heap.SameBut a s.heap h') (dd : h'.DictOfH (nkd X) a xs) :
    Inv X pins σ (upd H a (.ext (DEnt a (xs.map (entryOfKey (nkd X)))))) { s with heap := h', toks := t' } := by
  obtain ⟨o, es, ep, e1, e2, e3, e4, _⟩ := dd
  refine d_write I mu hs ⟨o, e1⟩ ⟨⟨o, es, ep, e1, e2, e3, e4⟩, ⟨o, e1⟩, fun h1 h2 ⟨o, es, ep, g1, g2⟩ k => ⟨o, es, ep, k _ g1, g2⟩⟩
/-- scalars -/
theorem putS {k d : D} {j : Key} {v : V} (hk : keyV k = some j) (rd : Rep X.md ι H d v) {kvs : List (D × D)} {kvs' : List (Key × V)}
    (h : Paired (fun (p : D × D) (q : Key × V) => keyV p.1 = some q.1 ∧ Rep X.md ι H p.2 q.2) kvs kvs') : Paired (fun (p : D × D) (q : Key × V) => keyV p.1 = some q.1 ∧ Rep X.md ι H p.2 q.2) (putKey k d kvs) (putK kvs' j v) := by
  unfold putKey putK
  rw [any_find, valV_any]
  rcases find_val hk h with ⟨g1, g2⟩ | ⟨d', v', g1, g2, _⟩
  · rw [g1, g2]
    have go : ∀ {kvs : List (D × D)} {kvs' : List (Key × V)}, Paired (fun (p : D × D) (q : Key × V) => keyV p.1 = some q.1 ∧ Rep X.md ι H p.2 q.2) kvs kvs' → Paired (fun (p : D × D) (q : Key × V) => keyV p.1 = some q.1 ∧ Rep X.md ι H p.2 q.2) (kvs ++ [(k, d)]) (kvs' ++ [(j, v)]) := by
      intro kvs xs r
      induction r with
      | nil => exact .cons ⟨hk, rd⟩ .nil
      | cons q t ih => exact .cons q ih
    exact go h
  · rw [g1, g2]
    have go : ∀ {kvs : List (D × D)} {kvs' : List (Key × V)}, Paired (fun (p : D × D) (q : Key × V) => keyV p.1 = some q.1 ∧ Rep X.md ι H p.2 q.2) kvs kvs' →
        Paired (fun (p : D × D) (q : Key × V) => keyV p.1 = some q.1 ∧ Rep X.md ι H p.2 q.2) (kvs.map fun kv => if kv.1.eqv k then (kv.1, d) else kv) (kvs'.map fun kv => if kv.1 = j then (kv.1, v) else kv) := by
      intro kvs xs r
      induction r with
      | nil => exact .nil
      | @cons p q l1 l2 z t ih =>
        refine .cons ?_ ih
        have e := keyV_inj z.1 hk
        by_cases y : q.1 = j
        · have e' : p.1.eqv k = true := by rw [e]; simpa using y
          simp only [e', if_true, y]
          exact ⟨by rw [← y]; exact z.1, rd⟩
        · have e' : p.1.eqv k = false := by rw [e]; simpa using y
          simp only [e', y, if_false]
          exact z
    exact go h
end
end MP

/-! Indices, tests, builtins, methods by values. -/
set_option linter.all false
set_option autoImplicit false
namespace MP
open PySem PySem.Spec PyProof.Rows L2
section
variable {X : Cx} {pins : List (Addr × Obj)} {σ : L2.St} {H : Hp} {s : Shared} {ι : List Addr} {S : Store}

theorem tail_dict {prog : Program} {w : World} {A : Around} {E : Value → Shared → Prop} {value slice : Expr} {o i : Value} {Q : Value → Shared → Prop} (hT : s.TypeIs o "dict")
    (hs : subscripted slice false o i = operate [o, i] (getItem o i)) (h : wpAny (model prog w) A (getItem o i) Q E s) : wpAny (model prog w) A (subscriptTail value slice o i) Q E s := by
  unfold subscriptTail
  refine wpAny_bind ?_
  rw [getitemInPython_of_ne hT.not_modules]
  refine wpAny_bind (wpAny_specialOf hT PySem.F.slot_dict_getitem.lookup ?_)
  have fin : wpAny (model prog w) A (subscripted slice false o i) (fun r s₃ => wpAny (model prog w) A (letTemporaryGo value o r >>= fun _ => pure r) Q E s₃) E s := by
    rw [hs]
    exact wpAny_operating (wpAny_mono h (fun r s₃ h₃ => wpAny_bind (wpAny_letTemporaryGo (wpAny_pure h₃))) fun _ _ x => x)
  first
    | exact wpAny_pure (wpAny_bind fin)
    | exact wpAny_bind (wpAny_pure (wpAny_bind fin))
    | exact wpAny_bind fin

theorem d_type (I : Inv X pins σ H s) {kvs : List (D × D)} {a : Addr} (hd : RepD X.md ι H kvs a) : s.TypeIs (.ref a) "dict" ∧ ∀ b, Value.ref a = .ref b → ∃ ob, s.heap.get? b = some ob ∧ ob.dict = none := by
  rcases hd with ⟨kvs', h1, _⟩ | ⟨xs, h1, _⟩
  · obtain ⟨_, _, vs, _, o, es, ep, e1, e2, _⟩ := dk_of I.hok h1
    exact ⟨⟨o, e1, e2.1⟩, fun b e => by injection e with e; subst e; exact ⟨o, e1, e2.2.1⟩⟩
  · obtain ⟨⟨o, es, ep, e1, e2, _⟩, _⟩ := I.hok a _ h1
    exact ⟨⟨o, e1, e2.1⟩, fun b e => by injection e with e; subst e; exact ⟨o, e1, e2.2.1⟩⟩

section
variable {kvs : List (D × D)} {a : Addr} {k : D} {y : V} {u : Value}
theorem key_ref (hk : k.key = some true) (ry : Rep X.md ι H k y) (ru : RelV y u) : ∃ b, y = .ref b ∧ u = .ref b := by
  cases k <;> simp [D.key] at hk
  simp only [Rep] at ry
  obtain ⟨b, vs, e, _⟩ := ry
  subst e
  exact ⟨b, rfl, ru⟩
theorem fits_key (hf : keyFits k kvs = true) : k.key = some true ∨ k.key = some false := by
  unfold keyFits at hf
  cases q : k.key with
  | none => rw [q] at hf; cases hf
  | some b => cases b with
    | true => exact .inl rfl
    | false => exact .inr rfl
/-- asked by a scalar: a dict of ints and texts -/
theorem sca_dict (hd : RepD X.md ι H kvs a) (hf : keyFits k kvs = true) (hk : k.key = some false) :
    ∃ kvs', H a = some (.dK kvs') ∧ Paired (fun (p : D × D) (q : Key × V) => keyV p.1 = some q.1 ∧ Rep X.md ι H p.2 q.2) kvs kvs' := by
  have fa := fits_all hf hk
  rcases hd with h | ⟨xs, h1, h2, h3, h4, h5⟩
  · exact h
  · cases h5 with
    | nil => exact absurd rfl h4.2
    | cons q t =>
      have := fa _ List.mem_cons_self
      rw [q.1.1] at this
      cases this
theorem room9 {A : Around} (hu : A.units + 65 < cLine) : (nkd X).room A.in1 := by
  show A.in1.units + 8 < cLine
  simp only [Around.in1_units]
  omega
/-- k in d -/
theorem dict_in (hu : X.A.units + 65 < cLine) {E : Value → Shared → Prop} {Q : Value → Shared → Prop} (I : Inv X pins σ H s) (hd : RepD X.md ι H kvs a) (hf : keyFits k kvs = true) (ry : Rep X.md ι H k y) (ru : RelV y u)
    (h : ∀ s', Inv X pins σ H s' → Q (.bool (findKey k kvs).isSome) s') : wpAny (model X.prog X.w) X.A (compareOp .In u (.ref a)) Q E s := by
  rcases fits_key hf with hk | hk
  · obtain ⟨b, rfl, rfl⟩ := key_ref hk ry ru
    obtain ⟨h1, h2, xs, h3, h4, h5⟩ := tup_dict I hd hf hk
    have kt := key_tup hk
    refine wpAny_in_heap (knd := nkd X) (k := nk k) (room9 hu) ⟨nested_of I kt.1 ry rfl, kt.2⟩ h1 h3 ?_
    have e : (atKey xs (nk k)).isSome = (findKey k kvs).isSome := by
      rcases find_valT hk h4 with ⟨g1, g2⟩ | ⟨d, v, b', u', g1, g2, _⟩
      · rw [g1, g2]; rfl
      · rw [g1, g2]; rfl
    rw [e]
    exact h _ (I.tok _)
  · obtain ⟨kvs', h1, h2⟩ := sca_dict hd hf hk
    obtain ⟨j, hj⟩ := key_keyV hk
    have e := keyV_rel hj ry
    subst e
    refine d_in (by omega) I (DGet.k h1) ru fun s' I' => ?_
    have e : (valV kvs' j).isSome = (findKey k kvs).isSome := by
      rcases find_val hj h2 with ⟨g1, g2⟩ | ⟨d, v, g1, g2, _⟩
      · rw [g1, g2]; rfl
      · rw [g1, g2]; rfl
    rw [e]
    exact h s' I'
theorem dict_notIn (hu : X.A.units + 65 < cLine) {E : Value → Shared → Prop} {Q : Value → Shared → Prop} (I : Inv X pins σ H s) (hd : RepD X.md ι H kvs a) (hf : keyFits k kvs = true) (ry : Rep X.md ι H k y) (ru : RelV y u)
    (h : ∀ s', Inv X pins σ H s' → Q (.bool (!(findKey k kvs).isSome)) s') : wpAny (model X.prog X.w) X.A (compareOp .NotIn u (.ref a)) Q E s := by
  rcases fits_key hf with hk | hk
  · obtain ⟨b, rfl, rfl⟩ := key_ref hk ry ru
    obtain ⟨h1, h2, xs, h3, h4, h5⟩ := tup_dict I hd hf hk
    have kt := key_tup hk
    refine notIn_keyed (knd := nkd X) (k := nk k) (room9 hu) ⟨nested_of I kt.1 ry rfl, kt.2⟩ h1 ⟨xs, h3, rfl⟩ ?_
    have e : (valueAt (pairsH xs) (nk k)).isSome = (findKey k kvs).isSome := by
      rw [valueAt_pairsH]
      rcases find_valT hk h4 with ⟨g1, g2⟩ | ⟨d, v, b', u', g1, g2, _⟩
      · rw [g1, g2]; rfl
      · rw [g1, g2]; rfl
    rw [e]
    exact h _ (I.tok _)
  · obtain ⟨kvs', h1, h2⟩ := sca_dict hd hf hk
    obtain ⟨j, hj⟩ := key_keyV hk
    have e := keyV_rel hj ry
    subst e
    refine d_notIn (by omega) I (DGet.k h1) ru fun s' I' => ?_
    have e : (valV kvs' j).isSome = (findKey k kvs).isSome := by
      rcases find_val hj h2 with ⟨g1, g2⟩ | ⟨d, v, g1, g2, _⟩
      · rw [g1, g2]; rfl
      · rw [g1, g2]; rfl
    rw [e]
    exact h s' I'
/-- d[k] -/
theorem dict_get (hu : X.A.units + 65 < cLine) {E : Value → Shared → Prop} {Q : Value → Shared → Prop} {d : D} (I : Inv X pins σ H s) (hd : RepD X.md ι H kvs a) (hf : keyFits k kvs = true) (hv : findKey k kvs = some d) (ry : Rep X.md ι H k y) (ru : RelV y u)
    (h : ∀ v w s', Inv X pins σ H s' → Rep X.md ι H d v → RelV v w → Q w s') : wpAny (model X.prog X.w) X.A (getItem (.ref a) u) Q E s := by
  rcases fits_key hf with hk | hk
  · obtain ⟨b, rfl, rfl⟩ := key_ref hk ry ru
    obtain ⟨h1, h2, xs, h3, h4, h5⟩ := tup_dict I hd hf hk
    have kt := key_tup hk
    rcases find_valT hk h4 with ⟨g1, g2⟩ | ⟨d', v, b', u', g1, g2, g3, g4⟩
    · rw [hv] at g1; cases g1
    · rw [hv] at g1; cases g1
      exact wpAny_getItem_heap (knd := nkd X) (k := nk k) (room9 hu) ⟨nested_of I kt.1 ry rfl, kt.2⟩ h3 g2 (h v u' _ (I.tok _) g4 g3)
  · obtain ⟨kvs', h1, h2⟩ := sca_dict hd hf hk
    obtain ⟨j, hj⟩ := key_keyV hk
    have e := keyV_rel hj ry
    subst e
    rcases find_val hj h2 with ⟨g1, g2⟩ | ⟨d', v, g1, g2, g3⟩
    · rw [hv] at g1; cases g1
    · rw [hv] at g1; cases g1
      exact d_getItem (by omega) I (by rw [← g2]; exact DGet.k h1) ru fun w' s' I' r' => h v w' s' I' g3 r'
/-- d[k] = v; what the store is then -/
theorem dict_set (hu : X.A.units + 65 < cLine) {E : Value → Shared → Prop} {Q : Unit → Shared → Prop} {d : D} {v : V} {w : Value} {n : Nat} (I : Inv X pins σ H s) (r : RelS X.md ι S H) (hS : S[n]? = some (.dct kvs)) (hι : ι[n]? = some a)
    (hf : keyFits k kvs = true) (hl : kvs.length < line) (ry : Rep X.md ι H k y) (ru : RelV y u) (rd : Rep X.md ι H d v) (rw' : RelV v w)
    (h : ∀ s' H', Inv X pins σ H' s' → RelS X.md ι (S.set n (.dct (putKey k d kvs))) H' → Ex X.md ι S H ι (S.set n (.dct (putKey k d kvs))) H' → Q () s') : wpAny (model X.prog X.w) X.A (setItem (.ref a) u w) Q E s := by
  have hd : RepD X.md ι H kvs a := r.cell n _ a hS hι
  have hl' : kvs.length < sizeLine := by rw [← line_eq]; exact hl
  rcases fits_key hf with hk | hk
  · obtain ⟨b, rfl, rfl⟩ := key_ref hk ry ru
    obtain ⟨h1, h2, xs, h3, h4, h5⟩ := tup_dict I hd hf hk
    have kt := key_tup hk
    have hle : (putKey k d kvs).length ≤ sizeLine := by
      unfold putKey
      split
      · simpa using h5
      · simp; omega
    refine wpAny_setItem_heap (knd := nkd X) (k := nk k) (room9 hu) ⟨nested_of I kt.1 ry rfl, kt.2⟩ h3 (fun h' dd hs => ?_) (by rw [h4.len]; exact h5)
    have I' := ext_write (t' := s.toks + (nkd X).draws (nk k)) I h2 hs dd
    have hnd : ((storedH xs (nk k) b w).map (·.1)).Nodup := by obtain ⟨_, _, _, _, _, _, _, _, z⟩ := dd; exact z
    have wr := r.write (c' := .dct (putKey k d kvs)) hS hι rfl rfl (o := .ext (DEnt a ((storedH xs (nk k) b w).map (entryOfKey (nkd X))))) fun H' e hH => .inr ⟨storedH xs (nk k) b w, hH, h1, hnd, ⟨hle, by unfold putKey; split <;> simp; rintro rfl; simp at *⟩, (putT hk ry rw' rd h4).mono e⟩
    exact h _ _ I' wr.1 wr.2
  · obtain ⟨kvs', h1, h2⟩ := sca_dict hd hf hk
    obtain ⟨j, hj⟩ := key_keyV hk
    have e := keyV_rel hj ry
    subst e
    have hlen : kvs'.length < sizeLine := by rw [← Paired.length h2]; exact hl'
    refine d_setItem (by omega) I (DPut.k h1 hlen) ru rw' fun s' I' => ?_
    have wr := r.write (c' := .dct (putKey k d kvs)) hS hι rfl rfl (o := .dK (putK kvs' j v)) fun H' e hH => .inl ⟨_, hH, L2.Paired.mapP (putS hj rd h2) fun _ _ z => ⟨z.1, z.2.mono e⟩⟩
    exact h _ _ I' wr.1 wr.2
/-- d.setdefault(k, v) -/
theorem dict_setd (hu : X.A.units + 65 < cLine) {E : Value → Shared → Prop} {Q : Value → Shared → Prop} {d : D} {v : V} {w : Value} {n : Nat} (I : Inv X pins σ H s) (r : RelS X.md ι S H) (hS : S[n]? = some (.dct kvs)) (hι : ι[n]? = some a)
    (hf : keyFits k kvs = true) (hl : kvs.length < line) (ry : Rep X.md ι H k y) (ru : RelV y u) (rd : Rep X.md ι H d v) (rw' : RelV v w)
    (h1 : ∀ d' v' w' s', findKey k kvs = some d' → Inv X pins σ H s' → Rep X.md ι H d' v' → RelV v' w' → Q w' s')
    (h2 : findKey k kvs = none → ∀ w' s' H', Inv X pins σ H' s' → RelV v w' → RelS X.md ι (S.set n (.dct (kvs ++ [(k, d)]))) H' → Ex X.md ι S H ι (S.set n (.dct (kvs ++ [(k, d)]))) H' → Q w' s') :
    wpAny (model X.prog X.w) X.A (call (.builtin "dict.setdefault") [.ref a, u, w]) Q E s := by
  have hd : RepD X.md ι H kvs a := r.cell n _ a hS hι
  have hl' : kvs.length < sizeLine := by rw [← line_eq]; exact hl
  have put_new : findKey k kvs = none → putKey k d kvs = kvs ++ [(k, d)] := fun g => by unfold putKey; rw [any_find, g]; rfl
  rcases fits_key hf with hk | hk
  · obtain ⟨b, rfl, rfl⟩ := key_ref hk ry ru
    obtain ⟨g1, g2, xs, g3, g4, g5⟩ := tup_dict I hd hf hk
    have kt := key_tup hk
    refine call_setdefault_heap (knd := nkd X) (k := nk k) (room9 hu) ⟨nested_of I kt.1 ry rfl, kt.2⟩ g1 g3 (fun p hp => ?_) (fun hn h' dd hs => ?_) (by rw [g4.len]; exact g5)
    · rcases find_valT hk g4 with ⟨z1, z2⟩ | ⟨d', v', b', u', z1, z2, z3, z4⟩
      · rw [hp] at z2; cases z2
      · rw [hp] at z2; cases z2
        exact h1 d' v' u' _ z1 (I.tok _) z4 z3
    · have hnone : findKey k kvs = none := by
        rcases find_valT hk g4 with ⟨z1, z2⟩ | ⟨d', v', b', u', z1, z2, z3, z4⟩
        · exact z1
        · rw [hn] at z2; cases z2
      have I' := ext_write (t' := s.toks + (nkd X).draws (nk k)) I g2 hs dd
      have hnd : ((storedH xs (nk k) b w).map (·.1)).Nodup := by obtain ⟨_, _, _, _, _, _, _, _, z⟩ := dd; exact z
      have wr := r.write (c' := .dct (kvs ++ [(k, d)])) hS hι rfl rfl (o := .ext (DEnt a ((storedH xs (nk k) b w).map (entryOfKey (nkd X))))) fun H' e hH => .inr ⟨storedH xs (nk k) b w, hH, g1, hnd, ⟨by simp; omega, by simp⟩, by
        have := (putT hk ry rw' rd g4).mono e
        rw [put_new hnone] at this
        exact this⟩
      exact h2 hnone w _ _ I' rw' wr.1 wr.2
  · obtain ⟨kvs', g1, g2⟩ := sca_dict hd hf hk
    obtain ⟨j, hj⟩ := key_keyV hk
    have e := keyV_rel hj ry
    subst e
    have hlen : kvs'.length < sizeLine := by rw [← Paired.length g2]; exact hl'
    refine d_setd I g1 ru rw' hlen (fun v0 hv w' s' I' r' => ?_) fun hv w' s' I' r' => ?_
    · rcases find_val hj g2 with ⟨z1, z2⟩ | ⟨d', v', z1, z2, z3⟩
      · rw [hv] at z2; cases z2
      · rw [hv] at z2; cases z2
        exact h1 d' _ w' s' z1 I' z3 r'
    · have hnone : findKey k kvs = none := by
        rcases find_val hj g2 with ⟨z1, z2⟩ | ⟨d', v', z1, z2, z3⟩
        · exact z1
        · rw [hv] at z2; cases z2
      have wr := r.write (c' := .dct (kvs ++ [(k, d)])) hS hι rfl rfl (o := .dK (putK kvs' j v)) fun H' e hH => .inl ⟨_, hH, by
        have := putS (X := X) hj rd g2
        rw [put_new hnone] at this
        exact L2.Paired.mapP this fun _ _ z => ⟨z.1, z.2.mono e⟩⟩
      exact h2 hnone w' _ _ I' r' wr.1 wr.2
end
end
end MP

/-! Comparisons, tests, indices, slices, builtins, methods: the rules by values. -/
set_option linter.all false
set_option autoImplicit false
namespace MP
open PySem PySem.Spec PyProof.Rows L2
section
variable {X : Cx} {pins : List (Addr × Obj)} {σ : L2.St} {H : Hp} {s : Shared} {ι : List Addr} {S : Store}

theorem seq_in (hu : X.A.units + 65 < cLine) {x y : V} {v u : Value} {dx : D} {ys : List D} {a : Addr} {vs : List V} {Q : VK} (I : Inv X pins σ H s) (rx : RelV x v) (ry : RelV y u) (hx : Rep X.md ι H dx x) (e : y = .ref a)
    (hs : SqL X.K H a vs ∨ SqT X.K H a vs) (hr : Reps X.md ι H ys vs) (hf : dx.fine = true) (hfs : D.fines ys = true) (q : Q (.bl (anyEqv dx ys)) H) :
    wpAny (model X.prog X.w) X.A (compareOp .In v u) (EP X pins σ Q) X.xe s := by
  subst e
  have f1 := fine_shaped hf
  have f2 := fines_shaped hfs
  rcases hs with hs | hs
  · exact op_inD hu pins s σ H x _ v u Q I rx ry ⟨_, _, rep_dp f1.1 hx, .lst hs (reps_dp f2.1 hr), f1.2, f2.2, by rw [any_eqvs f1.1 f2.1]; exact q⟩
  · obtain ⟨as, r1⟩ := Dp.reads I _ x v (rep_dp f1.1 hx) rx
    obtain ⟨bs, r2⟩ := Dp.reads I (.tuple (D.pys ys)) _ u (.tup hs (reps_dp f2.1 hr)) ry
    exact SeqAt.in_tuple_reads r2 r1 (pys_lay f2.1) (py_lay f1.1) (room_in_shaped f1.2 hu) (by rw [any_eqvs f1.1 f2.1]; exact ⟨.bl _, H, I, rfl, q⟩)
theorem seq_notIn (hu : X.A.units + 65 < cLine) {x y : V} {v u : Value} {dx : D} {ys : List D} {a : Addr} {vs : List V} {Q : VK} (I : Inv X pins σ H s) (rx : RelV x v) (ry : RelV y u) (hx : Rep X.md ι H dx x) (e : y = .ref a)
    (hs : SqL X.K H a vs ∨ SqT X.K H a vs) (hr : Reps X.md ι H ys vs) (hf : dx.fine = true) (hfs : D.fines ys = true) (q : Q (.bl (!anyEqv dx ys)) H) :
    wpAny (model X.prog X.w) X.A (compareOp .NotIn v u) (EP X pins σ Q) X.xe s := by
  subst e
  have f1 := fine_shaped hf
  have f2 := fines_shaped hfs
  rcases hs with hs | hs
  · exact op_notInD hu pins s σ H x _ v u Q I rx ry ⟨_, _, rep_dp f1.1 hx, .lst hs (reps_dp f2.1 hr), f1.2, f2.2, by rw [any_eqvs f1.1 f2.1]; exact q⟩
  · obtain ⟨as, r1⟩ := Dp.reads I _ x v (rep_dp f1.1 hx) rx
    obtain ⟨bs, r2⟩ := Dp.reads I (.tuple (D.pys ys)) _ u (.tup hs (reps_dp f2.1 hr)) ry
    exact SeqAt.notIn_tuple_reads r2 r1 (pys_lay f2.1) (py_lay f1.1) (room_in_shaped f1.2 hu) (by rw [any_eqvs f1.1 f2.1]; exact ⟨.bl _, H, I, rfl, q⟩)
/-- in: the cases -/
theorem isIn_cases {dx dy : D} {y : V} {b : Bool} (r : RelS X.md ι S H) (hy : Rep X.md ι H dy y) (h : isIn S dx dy = some b) :
    (∃ n kvs a, dy = .loc n ∧ S[n]? = some (.dct kvs) ∧ y = .ref a ∧ ι[n]? = some a ∧ keyFits dx kvs = true ∧ b = (findKey dx kvs).isSome) ∨
    ∃ ys a vs, y = .ref a ∧ (SqL X.K H a vs ∨ SqT X.K H a vs) ∧ Reps X.md ι H ys vs ∧ dx.fine = true ∧ D.fines ys = true ∧ b = anyEqv dx ys := by
  unfold isIn at h
  split at h
  · rename_i n
    split at h
    · rename_i kvs g
      split at h
      · rename_i hf
        cases h
        obtain ⟨a, e1, e2, _⟩ := r.at hy g
        exact .inl ⟨n, kvs, a, rfl, g, e1, e2, hf, rfl⟩
      · cases h
    · rename_i ys g
      split at h
      · rename_i hf
        cases h
        simp only [Bool.and_eq_true] at hf
        obtain ⟨a, vs, e1, e2, e3⟩ := r.seq (xs := ys) hy (by simp [seqOf, g])
        exact .inr ⟨ys, a, vs, e1, e2, e3, hf.1, hf.2, rfl⟩
      · cases h
    · rename_i ys g
      split at h
      · rename_i hf
        cases h
        simp only [Bool.and_eq_true] at hf
        obtain ⟨a, vs, e1, e2, e3⟩ := r.seq (xs := ys) hy (by simp [seqOf, g])
        exact .inr ⟨ys, a, vs, e1, e2, e3, hf.1, hf.2, rfl⟩
      · cases h
    · cases h
  · rename_i ys
    split at h
    · rename_i hf
      cases h
      simp only [Bool.and_eq_true] at hf
      obtain ⟨a, vs, e1, e2, e3⟩ := r.seq (xs := ys) hy (by simp [seqOf])
      exact .inr ⟨ys, a, vs, e1, e2, e3, hf.1, hf.2, rfl⟩
    · cases h
  · cases h
theorem in_ok (hu : X.A.units + 65 < cLine) : OpR X (compareOp .In) (rC X.md (cmpop .isin)) := by
  intro pins s σ H x y v u Q I rx ry ⟨ι, S, dx, dy, b, r, hx, hy, h, q⟩
  rcases isIn_cases r hy h with ⟨n, kvs, a, e1, e2, e3, e4, e5, e6⟩ | ⟨ys, a, vs, e1, e2, e3, e4, e5, e6⟩
  · subst e3 e6
    cases ry
    exact dict_in hu I (r.cell n _ a e2 e4) e5 hx rx fun s' I' => ⟨.bl _, H, I', rfl, q⟩
  · subst e6
    exact seq_in hu I rx ry hx e1 e2 e3 e4 e5 q
theorem notIn_ok (hu : X.A.units + 65 < cLine) : OpR X (compareOp .NotIn) (rC X.md (cmpop .notin)) := by
  intro pins s σ H x y v u Q I rx ry ⟨ι, S, dx, dy, b, r, hx, hy, h, q⟩
  simp only [cmpop, Option.map_eq_some_iff] at h
  obtain ⟨b', h, rfl⟩ := h
  rcases isIn_cases r hy h with ⟨n, kvs, a, e1, e2, e3, e4, e5, e6⟩ | ⟨ys, a, vs, e1, e2, e3, e4, e5, e6⟩
  · subst e3 e6
    cases ry
    exact dict_notIn hu I (r.cell n _ a e2 e4) e5 hx rx fun s' I' => ⟨.bl _, H, I', rfl, q⟩
  · subst e6
    exact seq_notIn hu I rx ry hx e1 e2 e3 e4 e5 q
theorem cmp_ok (hu : X.A.units + 65 < cLine) (o : Cop) (op : CmpOp) (ho : copOf op = some o) : OpR X (compareOp op) (rC X.md (cmpop o)) := by
  cases op <;> simp [copOf] at ho <;> subst ho
  · exact eq_ok (by omega)
  · exact ne_ok (by omega)
  · intro pins s σ H x y v u Q I rx ry ⟨ι, S, dx, dy, b, r, hx, hy, h, q⟩
    simp only [cmpop] at h
    split at h <;> cases h
    simp only [Rep] at hx hy
    exact op_lt pins s σ H x y v u Q I rx ry ⟨_, _, hx, hy, q⟩
  · intro pins s σ H x y v u Q I rx ry ⟨ι, S, dx, dy, b, r, hx, hy, h, q⟩
    simp only [cmpop] at h
    split at h <;> cases h
    simp only [Rep] at hx hy
    exact op_le pins s σ H x y v u Q I rx ry ⟨_, _, hx, hy, q⟩
  · intro pins s σ H x y v u Q I rx ry ⟨ι, S, dx, dy, b, r, hx, hy, h, q⟩
    simp only [cmpop] at h
    split at h <;> cases h
    simp only [Rep] at hx hy
    exact op_gt pins s σ H x y v u Q I rx ry ⟨_, _, hx, hy, q⟩
  · intro pins s σ H x y v u Q I rx ry ⟨ι, S, dx, dy, b, r, hx, hy, h, q⟩
    simp only [cmpop] at h
    split at h <;> cases h
    simp only [Rep] at hx hy
    exact op_ge pins s σ H x y v u Q I rx ry ⟨_, _, hx, hy, q⟩
  · exact in_ok hu
  · exact notIn_ok hu
/-- the truth of a value -/
theorem truth_ok {d : D} {x : V} {b : Bool} (r : RelS X.md ι S H) (h : Rep X.md ι H d x) (e : truth S d = some b) : TruV X.K x H b := by
  cases d with
  | non => simp only [Rep] at h; subst h; simpa [TruV, truth] using e.symm
  | bl k => simp only [Rep] at h; subst h; simpa [TruV, truth] using e.symm
  | int i => simp only [Rep] at h; subst h; simpa [TruV, truth] using e.symm
  | str z =>
    simp only [Rep] at h; subst h
    simp only [truth] at e
    split at e
    · cases e
      rename_i hl
      exact ⟨by rw [← line_eq]; exact hl, rfl⟩
    · cases e
  | tup ds =>
    simp only [Rep] at h
    obtain ⟨a, vs, e1, e2, e3⟩ := h
    subst e1
    simp only [truth, Option.some.injEq] at e
    refine .inr (.inl ⟨vs, e2, ?_⟩)
    rw [← e]
    cases ds <;> simp only [Reps] at e3
    · subst e3; rfl
    · obtain ⟨v, w, e3, _⟩ := e3
      subst e3; rfl
  | loc n =>
    have isE : ∀ {ds : List D} {vs : List V}, Reps X.md ι H ds vs → (!ds.isEmpty) = !vs.isEmpty := by
      intro ds vs e3
      cases ds <;> simp only [Reps] at e3
      · subst e3; rfl
      · obtain ⟨v, w, e3, _⟩ := e3
        subst e3; rfl
    simp only [truth] at e
    split at e
    · rename_i xs g
      cases e
      obtain ⟨a, e1, _, vs, e3, e4⟩ := r.at h g
      subst e1
      exact .inl ⟨vs, SqL.of e3, isE e4⟩
    · rename_i xs g
      cases e
      obtain ⟨a, e1, _, e3⟩ := r.at h g
      subst e1
      obtain ⟨vs, e4, e5⟩ := e3.rol
      exact .inl ⟨vs, e4, isE e5⟩
    · rename_i kvs g
      split at e
      · cases e
        rename_i hs
        obtain ⟨a, e1, _, e3⟩ := r.at h g
        subst e1
        rcases e3 with ⟨kvs', h1, h2⟩ | ⟨xs, h1, h2, h3, h4, h5⟩
        · refine .inr (.inr ⟨kvs', h1, ?_⟩)
          cases h2 <;> rfl
        · cases h5 with
          | nil => exact absurd rfl h4.2
          | cons q t =>
            rw [List.all_cons, Bool.and_eq_true] at hs
            have := q.1.1
            unfold D.key at this
            split at this <;> simp_all
      · cases e
    · cases e
/-- is, is not, of None, True, False -/
theorem is_cst {prog : Program} {w : World} {A : Around} {E : Value → Shared → Prop} {Q : Value → Shared → Prop} {x : V} {v : Value} {b : Bool} (rx : RelV x v) (h : Q (.bool (decide (x = .bl b))) s) :
    wpAny (model prog w) A (compareOp .Is v (.bool b)) Q E s := by
  cases x
  case bl c => cases rx; refine wpAny_pure ?_; show Q (.bool (Value.bool c == Value.bool b)) s; have e : (Value.bool c == Value.bool b) = decide (V.bl c = V.bl b) := by cases c <;> cases b <;> rfl
               rw [e]; exact h
  case non => cases rx; exact wpAny_pure h
  case int i => obtain ⟨t, rfl⟩ := rx; exact wpAny_pure h
  case str i => obtain ⟨t, rfl⟩ := rx; exact wpAny_pure h
  case byt i => obtain ⟨t, rfl⟩ := rx; exact wpAny_pure h
  case flt i => obtain ⟨t, rfl⟩ := rx; exact wpAny_pure h
  case ref a => cases rx; exact wpAny_pure h
  case ty n => cases rx; exact wpAny_pure h
theorem isnot_cst {prog : Program} {w : World} {A : Around} {E : Value → Shared → Prop} {Q : Value → Shared → Prop} {x : V} {v : Value} {b : Bool} (rx : RelV x v) (h : Q (.bool (!decide (x = .bl b))) s) :
    wpAny (model prog w) A (compareOp .IsNot v (.bool b)) Q E s := by
  cases x
  case bl c => cases rx; refine wpAny_pure ?_; show Q (.bool (!(Value.bool c == Value.bool b))) s; have e : (Value.bool c == Value.bool b) = decide (V.bl c = V.bl b) := by cases c <;> cases b <;> rfl
               rw [e]; exact h
  case non => cases rx; exact wpAny_pure h
  case int i => obtain ⟨t, rfl⟩ := rx; exact wpAny_pure h
  case str i => obtain ⟨t, rfl⟩ := rx; exact wpAny_pure h
  case byt i => obtain ⟨t, rfl⟩ := rx; exact wpAny_pure h
  case flt i => obtain ⟨t, rfl⟩ := rx; exact wpAny_pure h
  case ref a => cases rx; exact wpAny_pure h
  case ty n => cases rx; exact wpAny_pure h
theorem same_non {d : D} {x : V} (h : Rep X.md ι H d x) : decide (x = .non) = D.same d .non := by
  cases d <;> simp only [Rep] at h
  case tup => obtain ⟨a, vs, e, _⟩ := h; subst e; rfl
  case loc => obtain ⟨a, e, _⟩ := h; subst e; rfl
  all_goals subst h; rfl
theorem same_bl {d : D} {x : V} {b : Bool} (h : Rep X.md ι H d x) : decide (x = .bl b) = D.same d (.bl b) := by
  cases d <;> simp only [Rep] at h
  case tup => obtain ⟨a, vs, e, _⟩ := h; subst e; rfl
  case loc => obtain ⟨a, e, _⟩ := h; subst e; rfl
  case bl c => subst h; cases b <;> cases c <;> rfl
  all_goals subst h; rfl
/-- what is with None, True, False gives -/
def rIsc (K : Md) (neg : Bool) (d : D) : R2 := fun x y H Q => ∃ ι dx, Rep K ι H dx x ∧ ((d = .non ∧ y = .non) ∨ ∃ b, d = .bl b ∧ y = .bl b) ∧ Q (.bl (D.same dx d != neg)) H
theorem isc_ok (d : D) : OpR X (compareOp .Is) (rIsc X.md false d) := by
  intro pins s σ H x y v u Q I rx ry ⟨ι, dx, hx, hy, q⟩
  have e0 : (D.same dx d != false) = D.same dx d := by cases D.same dx d <;> rfl
  rw [e0] at q
  rcases hy with ⟨rfl, rfl⟩ | ⟨b, rfl, rfl⟩
  · exact op_isN pins s σ H x _ v u Q I rx ry ⟨rfl, by rw [same_non hx]; exact q⟩
  · cases ry
    exact is_cst rx ⟨.bl _, H, I, rfl, by rw [same_bl hx]; exact q⟩
theorem isnc_ok (d : D) : OpR X (compareOp .IsNot) (rIsc X.md true d) := by
  intro pins s σ H x y v u Q I rx ry ⟨ι, dx, hx, hy, q⟩
  have e0 : (D.same dx d != true) = !D.same dx d := by cases D.same dx d <;> rfl
  rw [e0] at q
  rcases hy with ⟨rfl, rfl⟩ | ⟨b, rfl, rfl⟩
  · exact op_notN pins s σ H x _ v u Q I rx ry ⟨rfl, by rw [same_non hx]; exact q⟩
  · cases ry
    exact isnot_cst rx ⟨.bl _, H, I, rfl, by rw [same_bl hx]; exact q⟩
end
end MP

/-! Indices, slices, builtins, methods: the rules by values. -/
set_option linter.all false
set_option autoImplicit false
namespace MP
open PySem PySem.Spec PyProof.Rows L2
section
variable {X : Cx} {pins : List (Addr × Obj)} {σ : L2.St} {H : Hp} {s : Shared} {ι : List Addr} {S : Store}

theorem ixN_eq (n : Nat) (i : Int) : ixN n i = L2.ixN n i := rfl
theorem reps_at {ds : List D} {vs : List V} {i : Int} {d : D} (h : Reps X.md ι H ds vs) (e : atI ds i = some d) : ∃ v, L2.atI vs i = some v ∧ Rep X.md ι H d v := by
  unfold atI at e
  obtain ⟨j, e1, e2⟩ := Option.bind_eq_some_iff.mp e
  obtain ⟨v, e3, e4⟩ := h.get e2
  refine ⟨v, ?_, e4⟩
  unfold L2.atI
  rw [h.len, ← ixN_eq, e1]
  exact e3
def rIx' (K : Md) : R2 := fun x y H Q => ∃ ι S dx dy d, RelS K ι S H ∧ Rep K ι H dx x ∧ Rep K ι H dy y ∧ getIx S dx dy = some d ∧ ∀ v, Rep K ι H d v → Q v H
theorem ix_ok (hu : X.A.units + 65 < cLine) : IxR X (rIx' X.md) := by
  intro value slice pins s σ H x y v u Q I rx ry ⟨ι, S, dx, dy, d, r, hx, hy, h, q⟩ hs
  unfold getIx at h
  split at h
  · rename_i xs i
    simp only [Rep] at hx hy
    obtain ⟨a, vs, e1, e2, e3⟩ := hx
    obtain ⟨w, g1, g2⟩ := reps_at e3 h
    exact ix_tup value slice pins s σ H x y v u Q I rx ry ⟨a, vs, i, w, e1, hy, e2, g1, q w g2⟩ hs
  · rename_i n k
    split at h
    · rename_i xs g
      split at h
      · rename_i i
        simp only [Rep] at hy
        obtain ⟨a, e1, _, vs, e3, e4⟩ := r.at hx g
        obtain ⟨w, g1, g2⟩ := reps_at e4 h
        exact ix_list value slice pins s σ H x y v u Q I rx ry ⟨a, vs, i, w, e1, hy, SqL.of e3, g1, q w g2⟩ hs
      · cases h
    · rename_i xs g
      split at h
      · rename_i i
        simp only [Rep] at hy
        obtain ⟨a, e1, _, e3⟩ := r.at hx g
        obtain ⟨vs, e4, e5⟩ := e3.rol
        obtain ⟨w, g1, g2⟩ := reps_at e5 h
        exact ix_list value slice pins s σ H x y v u Q I rx ry ⟨a, vs, i, w, e1, hy, e4, g1, q w g2⟩ hs
      · cases h
    · rename_i kvs g
      split at h
      · rename_i hf
        obtain ⟨a, e1, e2, e3⟩ := r.at hx g
        subst e1
        cases rx
        exact tail_dict (d_type I e3).1 hs (dict_get hu I e3 hf h hy ry fun w z s' I' g1 g2 => ⟨w, H, I', g2, q w g1⟩)
      · cases h
    · cases h
  · cases h
/-- o[i] = v -/
def tSetIx (K : Md) : TSet := fun o i v H Q => ∃ ι S dx dy dv S', RelS K ι S H ∧ Rep K ι H dx o ∧ Rep K ι H dy i ∧ Rep K ι H dv v ∧ setIx S dx dy dv = some S' ∧ ∀ H', Ex K ι S H ι S' H' → RelS K ι S' H' → Q H'
theorem set_ok (hu : X.A.units + 65 < cLine) : PSet X (tSetIx X.md) := by
  intro pins s σ H o i v ov iv u Q I ro ri rv ⟨ι, S, dx, dy, dv, S', r, hx, hy, hv, h, q⟩
  unfold setIx at h
  split at h
  · rename_i n
    split at h
    · rename_i xs g
      split at h
      · rename_i k
        obtain ⟨j, h1, h2⟩ := Option.map_eq_some_iff.mp h
        subst h2
        simp only [Rep] at hy
        obtain ⟨a, e1, e2, vs, e3, e4⟩ := r.at hx g
        have wr := r.write (c' := .lst (xs.set j dv)) g e2 rfl rfl (o := .lst (vs.set j v)) fun H' e hH => ⟨_, hH, (Reps.set hv j e4).mono e⟩
        exact set_list pins s σ H o i v ov iv u Q I ro ri rv ⟨a, vs, k, j, e1, hy, e3, by rw [e4.len, ← ixN_eq]; exact h1, q _ wr.2 wr.1⟩
      · cases h
    · rename_i kvs g
      split at h
      · cases h
        rename_i hf
        simp only [Bool.and_eq_true, decide_eq_true_eq] at hf
        obtain ⟨a, e1, e2, e3⟩ := r.at hx g
        subst e1
        cases ro
        exact dict_set hu I r g e2 hf.1 hf.2 hy ri hv rv fun s' H' I' r' e' => ⟨H', I', q H' e' r'⟩
      · cases h
    · cases h
  · cases h

/-! ### slices -/
theorem sIx_eq (n d : Nat) (o : Option Int) : sIx n d o = HT.sIx n d o := by cases o <;> rfl
theorem reps_cut {ds : List D} {vs : List V} (h : Reps X.md ι H ds vs) (lo hi : Option Int) : Reps X.md ι H (cut ds lo hi) (cutV vs lo hi) := by
  unfold cut cutV
  rw [h.len, ← sIx_eq, ← sIx_eq]
  exact (h.drop _).take _
def rSl' (K : Md) : V → Option Int → Option Int → Hp → VK → Prop := fun x lo hi H Q => ∃ ι S dx, RelS K ι S H ∧ Rep K ι H dx x ∧ Okk (sliceOf S dx lo hi) (Post K ι S H Q)
theorem sl_ok : SlR X (rSl' X.md) := by
  intro pins s σ H x v vl vu lo hi sl Q I rx hs pl pu ⟨ι, S, dx, r, hx, h⟩
  unfold sliceOf at h
  split at h
  · rename_i xs
    simp only [Rep] at hx
    obtain ⟨a, vs, e1, e2, e3⟩ := hx
    refine sl_tupA pins s σ H x v vl vu lo hi sl Q I rx hs pl pu ⟨a, vs, e1, e2, fun hw => ?_, fun _ p hp => h.newT r (reps_cut e3 lo hi) hp⟩
    have e : cutV vs lo hi = vs := by unfold cutV; rw [hw.1, hw.2]; simp
    refine Post.oldT (vs := cutV vs lo hi) h r (reps_cut e3 lo hi) ?_
    rw [e]; exact e2
  · split at h
    · rename_i g
      obtain ⟨a, e1, _, vs, e3, e4⟩ := r.at hx g
      exact sl_list pins s σ H x v vl vu lo hi sl Q I rx hs pl pu ⟨a, vs, e1, SqL.of e3, fun p hp => h.newL r (reps_cut e4 lo hi) hp⟩
    · rename_i g
      obtain ⟨a, e1, _, e3⟩ := r.at hx g
      obtain ⟨vs, e4, e5⟩ := e3.rol
      exact sl_list pins s σ H x v vl vu lo hi sl Q I rx hs pl pu ⟨a, vs, e1, e4, fun p hp => h.newL r (reps_cut e5 lo hi) hp⟩
    · exact h.elim
  · exact h.elim

/-! ### builtins -/
def rB1 (K : Md) (b : B1) : List V → Hp → VK → Prop := fun xs H Q => ∃ ι S x v, xs = [v] ∧ RelS K ι S H ∧ RepR K ι S H x v ∧ Okk (bi1 b x S) (Post K ι S H Q)
theorem len_ok : CallR X (.builtin "len") (rB1 X.md .len) := by
  intro pins s σ H xs us Q I rs ⟨ι, S, x, v, e0, r, hx, h⟩
  subst e0
  have seq : ∀ {zs : List D} {a : Addr} {vs : List V}, v = .ref a → (SqL X.K H a vs ∨ SqT X.K H a vs) → Reps X.md ι H zs vs → Post X.md ι S H Q (.v (.int zs.length)) S → wpAny (model X.prog X.w) X.A (PySem.call (.builtin "len") us) (EP X pins σ Q) X.xe s := by
    intro zs a vs e1 e2 e3 q
    subst e1
    exact call_len_seq pins s σ H _ us Q I rs ⟨a, vs, rfl, e2, by rw [e3.len]; exact q.now r (by simp [Rep])⟩
  simp only [bi1] at h
  split at h
  · rename_i z
    simp only [RepR, Rep] at hx
    split at h
    · rename_i hl
      exact call_len_str pins s σ H _ us Q I rs ⟨z, by rw [hx], by rw [← line_eq]; exact hl, h.now r (by simp [Rep])⟩
    · exact h.elim
  · rename_i n
    simp only [RepR] at hx
    split at h
    · rename_i g
      obtain ⟨a, e1, _, vs, e3, e4⟩ := r.at hx g
      exact seq e1 (.inl (SqL.of e3)) e4 h
    · rename_i g
      obtain ⟨a, e1, _, e3⟩ := r.at hx g
      obtain ⟨vs, e4, e5⟩ := e3.rol
      exact seq e1 (.inl e4) e5 h
    · rename_i kvs g
      obtain ⟨a, e1, _, e3⟩ := r.at hx g
      subst e1
      rcases e3 with ⟨kvs', h1, h2⟩ | ⟨ys, h1, h2, h3, h4, h5⟩
      · exact call_lenD pins s σ H _ us Q I rs ⟨a, kvs', rfl, h1, by rw [← Paired.length h2]; exact h.now r (by simp [Rep])⟩
      · obtain ⟨u, rfl, ru⟩ := vals1 rs
        cases ru
        obtain ⟨k0, hk0⟩ : ∃ k : D, k.key = some true ∧ keyFits k kvs = true := by
          cases h5 with
          | nil => exact absurd rfl h4.2
          | @cons p q l1 l2 z t =>
            refine ⟨p.1, z.1.1, ?_⟩
            simp only [keyFits, z.1.1, List.all_eq_true]
            intro kv hm
            have all : ∀ {l1 : List (D × D)} {l2 : List (NestedKey × Addr × Value)}, RepT X.md ι H l1 l2 → ∀ kv ∈ l1, kv.1.key = some true := by
              intro l1 l2 rr
              induction rr with
              | nil => intro kv hm; cases hm
              | cons q t ih =>
                intro kv hm
                rcases List.mem_cons.mp hm with rfl | hm
                · exact q.1.1
                · exact ih kv hm
            rcases List.mem_cons.mp hm with rfl | hm
            · rw [z.1.1]; rfl
            · rw [all t kv hm]; rfl
        obtain ⟨g1, g2, zs, g3, g4, g5⟩ := tup_dict I (.inr ⟨ys, h1, h2, h3, h4, h5⟩) hk0.2 hk0.1
        have e : zs.length = kvs.length := g4.len
        have l63 := line63
        refine call_len_dictH g1 g3 (by omega) ⟨.int zs.length, H, (I.tok _).tok _, ⟨_, rfl⟩, ?_⟩
        rw [e]
        exact h.now r (by simp [Rep])
    · exact h.elim
  · rename_i n1 n2
    split at h
    · rename_i zs g
      obtain ⟨a, vs, e1, e2, e3⟩ := r.items hx g
      exact seq e1 e2 e3 h
    · exact h.elim
theorem abs_ok : CallR X (.builtin "abs") (rB1 X.md .abs) := by
  intro pins s σ H xs us Q I rs ⟨ι, S, x, v, e0, r, hx, h⟩
  simp only [bi1] at h
  split at h
  · rename_i i
    simp only [RepR, Rep] at hx
    exact call_abs pins s σ H xs us Q I rs ⟨i, by rw [e0, hx], h.now r (by simp [Rep])⟩
  · exact h.elim
theorem int_ok : CallR X (.type "int") (rB1 X.md .int) := by
  intro pins s σ H xs us Q I rs ⟨ι, S, x, v, e0, r, hx, h⟩
  simp only [bi1] at h
  split at h
  · rename_i i
    simp only [RepR, Rep] at hx
    exact call_int1 pins s σ H xs us Q I rs (.inl ⟨i, by rw [e0, hx], h.now r (by simp [Rep])⟩)
  · rename_i b
    simp only [RepR, Rep] at hx
    exact call_int1 pins s σ H xs us Q I rs (.inr ⟨b, by rw [e0, hx], h.now r (by simp [Rep, b2i])⟩)
  · exact h.elim
theorem tuple_ok : CallR X (.type "tuple") (rB1 X.md .tuple) := by
  intro pins s σ H xs us Q I rs ⟨ι, S, x, v, e0, r, hx, h⟩
  simp only [bi1] at h
  split at h
  · rename_i zs g
    obtain ⟨a, vs, e1, e2, e3⟩ := r.items hx g
    refine call_tuple_of pins s σ H xs us Q I rs ⟨a, vs, by rw [e0, e1], ?_⟩
    rcases e2 with e2 | e2
    · exact .inl ⟨e2, fun p hp => h.newT r e3 hp⟩
    · exact .inr ⟨e2, h.oldT r e3 e2⟩
  · exact h.elim
theorem list_ok : CallR X (.type "list") (rB1 X.md .list) := by
  intro pins s σ H xs us Q I rs ⟨ι, S, x, v, e0, r, hx, h⟩
  simp only [bi1] at h
  split at h
  · rename_i zs g
    obtain ⟨a, vs, e1, e2, e3⟩ := r.items hx g
    exact call_list_of pins s σ H xs us Q I rs ⟨a, vs, by rw [e0, e1], e2, fun p hp => h.newL r e3 hp⟩
  · exact h.elim
def rB2 (K : Md) (b : B2) : List V → Hp → VK → Prop := fun xs H Q => ∃ ι S x y v w, xs = [v, w] ∧ RelS K ι S H ∧ Rep K ι H x v ∧ Rep K ι H y w ∧ Okk (bi2 b x y S) (Post K ι S H Q)
theorem min_ok (hc : X.calm = true) : CallR X (.builtin "min") (rB2 X.md .min) := by
  intro pins s σ H xs us Q I rs ⟨ι, S, x, y, v, w, e0, r, hx, hy, h⟩
  cases x <;> cases y <;> simp only [bi2, Okk] at h <;> try exact h.elim
  rename_i i j
  simp only [Rep] at hx hy
  exact call_min2 hc pins s σ H _ us Q I rs ⟨i, j, by rw [e0, hx, hy], h.now r (by simp [Rep])⟩
theorem max_ok (hc : X.calm = true) : CallR X (.builtin "max") (rB2 X.md .max) := by
  intro pins s σ H xs us Q I rs ⟨ι, S, x, y, v, w, e0, r, hx, hy, h⟩
  cases x <;> cases y <;> simp only [bi2, Okk] at h <;> try exact h.elim
  rename_i i j
  simp only [Rep] at hx hy
  exact call_max2 hc pins s σ H _ us Q I rs ⟨i, j, by rw [e0, hx, hy], h.now r (by simp [Rep])⟩
/-! ### isinstance -/
def tyName : Ty → String
  | .int => "int" | .bool => "bool" | .str => "str" | .tuple => "tuple" | .list => "list" | .none => "NoneType"
theorem kit_all (a b : Ty) (hb : b ≠ .none) : kitB (tyName a) (tyName b) = some (isTy a b) := by
  cases b <;> first | exact absurd rfl hb | (cases a <;> decide +kernel)
theorem tyX_of {d : D} {x : V} {t : Ty} (r : RelS X.md ι S H) (h : Rep X.md ι H d x) (e : tyOf S d = some t) : TyX X.K H x (.type (tyName t)) := by
  cases d with
  | non => simp only [Rep] at h; subst h; cases e; exact .base .non
  | bl b => simp only [Rep] at h; subst h; cases e; exact .base (.bl b)
  | int i => simp only [Rep] at h; subst h; cases e; exact .base (.int i)
  | str z => simp only [Rep] at h; subst h; cases e; exact .base (.str z)
  | tup ds =>
    simp only [Rep] at h
    obtain ⟨a, vs, e1, e2, e3⟩ := h
    subst e1
    cases e
    rcases e2 with (e2 | ⟨o, e2⟩) | ⟨o, its, n, e2, e4, _⟩
    · exact .base (.tup e2)
    · exact .fTuple e2
    · exact .kTuple e2 e4
  | loc n =>
    simp only [tyOf] at e
    have go : ∀ {a : Addr} {vs : List V}, SqL X.K H a vs → TyX X.K H (.ref a) (.type "list") := fun {a vs} e2 => by
      rcases e2 with (e2 | ⟨o, e2⟩) | ⟨o, its, n, e2, e4, _⟩
      · exact .base (.lst e2)
      · exact .base (.frz e2)
      · exact .kList e2 e4
    split at e
    · rename_i g
      cases e
      obtain ⟨a, e1, _, vs, e3, e4⟩ := r.at h g
      subst e1
      exact go (SqL.of e3)
    · rename_i g
      cases e
      obtain ⟨a, e1, _, e3⟩ := r.at h g
      subst e1
      obtain ⟨vs, e4, e5⟩ := e3.rol
      exact go e4
    · cases e
def rIsi' (K : Md) (t : Ty) : List V → Hp → VK → Prop := fun xs H Q => ∃ ι S d x k, xs = [x, .ty (tyName t)] ∧ RelS K ι S H ∧ Rep K ι H d x ∧ tyOf S d = some k ∧ Q (.bl (isTy k t)) H
theorem isi_ok (t : Ty) (ht : t ≠ .none) : CallR X (.builtin "isinstance") (rIsi' X.md t) := by
  intro pins s σ H xs us Q I rs ⟨ι, S, d, x, k, e0, r, hx, h, q⟩
  exact call_isi pins s σ H xs us Q I rs ⟨x, .ty (tyName t), _, _, _, e0, .ty _, tyX_of r hx h, kit_ty (kit_all k t ht), q⟩

/-! ### methods -/
def rM (K : Md) (m : Mt) : V → List V → Hp → VK → Prop := fun x xs H Q => ∃ ι S d ds, RelS K ι S H ∧ Rep K ι H d x ∧ Reps K ι H ds xs ∧ Okk (meth m d ds S) (Post K ι S H Q)
theorem append_ok : MtR X "list.append" (rM X.md .append) := by
  intro pins s σ H x xs v us Q I rx rs ⟨ι, S, d, ds, r, hx, hs, h⟩
  unfold meth at h
  split at h
  · rename_i n
    split at h <;> try contradiction
    rename_i ys y0 e9 g
    split at h
    · rename_i hl
      obtain ⟨a, e1, e2, vs, e3, e4⟩ := r.at hx g
      simp only [Reps] at hs
      obtain ⟨y, _, e5, e6, e7⟩ := hs
      subst e7
      have wr := r.write (c' := .lst (ys ++ [y0])) g e2 rfl rfl (o := .lst (vs ++ [y])) fun H' e hH => ⟨_, hH, ((e4.mono e).app (Reps.cons (e6.mono e) (Reps.nil ι H')))⟩
      exact mt_append pins s σ H x xs v us Q I rx rs ⟨a, vs, y, e1, e5, e3, by rw [e4.len, ← line_eq]; exact hl, h ι _ _ wr.2 wr.1 (by simp [RepR, Rep]) trivial⟩
    · exact h.elim
  · exact h.elim
theorem pop0_ok : MtR X "list.pop" (rM X.md .pop0) := by
  intro pins s σ H x xs v us Q I rx rs ⟨ι, S, d, ds, r, hx, hs, h⟩
  unfold meth at h
  split at h
  · rename_i n
    split at h <;> try contradiction
    rename_i ys e1 g
    split at h
    · rename_i y hy
      obtain ⟨a, e1, e2, vs, e3, e4⟩ := r.at hx g
      simp only [Reps] at hs
      obtain ⟨w, g1, g2⟩ := e4.get hy
      have wr := r.write (c' := .lst ys.dropLast) g e2 rfl rfl (o := .lst vs.dropLast) fun H' e hH => ⟨_, hH, (e4.mono e).dropLast⟩
      exact mt_pop pins s σ H x xs v us Q I rx rs ⟨a, vs, w, e1, hs, e3, by rw [e4.len]; exact g1, h ι _ _ wr.2 wr.1 (g2.mono wr.2.ext) trivial⟩
    · exact h.elim
  · exact h.elim
theorem setdefault_ok (hu : X.A.units + 65 < cLine) : MtR X "dict.setdefault" (rM X.md .setdefault) := by
  intro pins s σ H x xs v us Q I rx rs ⟨ι, S, d, ds, r, hx, hs, h⟩
  unfold meth at h
  split at h
  · rename_i n
    split at h <;> try contradiction
    rename_i kvs k dv e1 g
    split at h
    · rename_i hf
      simp only [Bool.and_eq_true, decide_eq_true_eq] at hf
      obtain ⟨a, e1, e2, e3⟩ := r.at hx g
      simp only [Reps] at hs
      obtain ⟨y, _, e5, e6, z, _, e7, e8, e9⟩ := hs
      subst e9 e7 e5 e1
      obtain ⟨u1, u2, rfl, ru1, ru2⟩ := vals2 rs
      cases rx
      refine dict_setd hu I r g e2 hf.1 hf.2 e6 ru1 e8 ru2 (fun d' v' w' s' hk I' q1 q2 => ?_) fun hk w' s' H' I' r1 r2 e' => ?_
      · rw [hk] at h
        exact ⟨v', H, I', q2, h.now r q1⟩
      · rw [hk] at h
        exact ⟨z, H', I', r1, h ι H' z e' r2 (e8.mono e'.ext) trivial⟩
    · exact h.elim
  · exact h.elim
end
end MP

/-! The context; names, targets. -/
set_option linter.all false
set_option autoImplicit false
namespace MP
open PySem PySem.Spec PyProof.Rows L2

section
variable (K : Md)
structure RelE (ι : List Addr) (H : Hp) (env : Env) (σ : L2.St) : Prop where
  len : env.length = σ.length
  at_ : ∀ (i : Nat) (d : D), env[i]? = some (some d) → ∃ v, σ[i]? = some (some v) ∧ Rep K ι H d v
variable {K}
theorem RelE.mono {ι ι' : List Addr} {H H' : Hp} {env : Env} {σ : L2.St} (r : RelE K ι H env σ) (e : Ext K ι H ι' H') : RelE K ι' H' env σ :=
  ⟨r.len, fun i d h => let ⟨v, h1, h2⟩ := r.at_ i d h; ⟨v, h1, h2.mono e⟩⟩
theorem RelE.set {ι : List Addr} {H : Hp} {env : Env} {σ : L2.St} {d : D} {v : V} (r : RelE K ι H env σ) (i : Nat) (h : Rep K ι H d v) : RelE K ι H (setSlot env i d) (σ.set i (some v)) := by
  refine ⟨by simp [setSlot, r.len], fun j d' e => ?_⟩
  by_cases hj : j = i
  · subst hj
    unfold setSlot at e
    have hl : j < env.length := by
      have := (List.getElem?_eq_some_iff.mp e).1
      simpa using this
    rw [List.getElem?_set_self hl] at e
    cases e
    exact ⟨v, by rw [List.getElem?_set_self (by rw [← r.len]; exact hl)], h⟩
  · unfold setSlot at e
    rw [List.getElem?_set_ne (Ne.symm hj)] at e
    obtain ⟨w, h1, h2⟩ := r.at_ j d' e
    exact ⟨w, by rw [List.getElem?_set_ne (Ne.symm hj)]; exact h1, h2⟩
theorem wipe_len (env : Env) : ∀ vs : List Nat, (wipe env vs).length = env.length
  | [] => rfl
  | v :: vs => by simp [wipe, wipe_len env vs]
theorem RelE.wipe {ι : List Addr} {H : Hp} {env : Env} {σ : L2.St} (r : RelE K ι H env σ) : ∀ vs : List Nat, RelE K ι H (MP.wipe env vs) (L2.wipe σ vs)
  | [] => r
  | v :: vs => by
    have ih := RelE.wipe r vs
    refine ⟨by simp [MP.wipe, L2.wipe, ih.len], fun j d e => ?_⟩
    by_cases hj : j = v
    · subst hj
      simp only [MP.wipe] at e
      have hl : j < (MP.wipe env vs).length := by
        have := (List.getElem?_eq_some_iff.mp e).1
        simpa using this
      rw [List.getElem?_set_self hl] at e
      cases e
    · simp only [MP.wipe] at e
      rw [List.getElem?_set_ne (Ne.symm hj)] at e
      obtain ⟨w, h1, h2⟩ := ih.at_ j d e
      exact ⟨w, by simp only [L2.wipe]; rw [List.getElem?_set_ne (Ne.symm hj)]; exact h1, h2⟩
end

/-! ### the context -/
def blts : List Str := ["len", "abs", "int", "tuple", "list", "min", "max", "isinstance", "range", "enumerate", "zip", "bool", "str"]
def spF (K : Md) (P : Prg) (k f : Nat) (ps : List Str) : Sp := fun vs H Q _ => ∃ ι S ds, RelS K ι S H ∧ Reps K ι H ds vs ∧ vs.length = ps.length ∧
  Okk (run P k f ds S) (fun d S' => ∀ ι' H' v, Ex K ι S H ι' S' H' → RelS K ι' S' H' → Rep K ι' H' d v → Q v H')
structure Gs (P : Prg) (X : Cx) (fns : List (Str × Nat × List Str)) (gls kws : List (Str × Nat)) (k : Nat) : Prop where
  fn : ∀ x f ps, fns.lookup x = some (f, ps) → ∃ a fd, X.mg x = some (.ref a) ∧ PySem.W.keepIn X.K (.ref a) = true ∧ Binds X.K fd ps [] ∧
    (∀ n, (x, n) ∈ kws → KBn X.K fd ps n (ps.drop n) (fun us ws => us ++ ws) (fun vs zs => vs ++ zs)) ∧ FnOk X.prog X.w X.K X.mg X.base CX0 k a fd ps (spF X.md P k f ps) ∧ ∀ F, P.fn f = some F → F.np = ps.length
  gl : ∀ x g, gls.lookup x = some g → ∃ u v d, X.mg x = some u ∧ RelV v u ∧ P.gl g = some d ∧ ∀ ι H, Rep X.md ι H d v
  bl : ∀ x ∈ blts, X.mg x = none
structure Co (P : Prg) (X : Cx) (Γ : Cc) (k : Nat) : Prop where
  gs : Gs P X Γ.fns Γ.gls Γ.kws k
  N : X.N = Γ.N
  sc : X.env.scope = Γ.sc
  calm : X.calm = true
  nd : X.N.Nodup
  room : Room k X.A
  fnk : ∀ x i, ownOf Γ x = some i → X.fn x = true ∨ X.env.scope.names.lookup x = some .local

theorem idx_get {x : Str} : ∀ {N : List Str} {j i : Nat}, idx x N j = some i → j ≤ i ∧ N[i - j]? = some x
  | [], _, _, h => by simp [idx] at h
  | y :: r, j, i, h => by
    unfold idx at h
    split at h
    · rename_i e
      cases h
      subst e
      simp
    · obtain ⟨h1, h2⟩ := idx_get h
      refine ⟨by omega, ?_⟩
      have e : i - j = (i - (j + 1)) + 1 := by omega
      rw [e]
      simpa using h2
theorem idx0 {x : Str} {N : List Str} {i : Nat} (h : idx x N 0 = some i) : N[i]? = some x := by
  have := (idx_get h).2
  simpa using this
section
variable {P : Prg} {X : Cx} {Γ : Cc} {k : Nat}
theorem Co.own (c : Co P X Γ k) {x : Str} {i : Nat} (h : ownOf Γ x = some i) : X.N[i]? = some x ∧ Loc X.env.scope x := by
  unfold ownOf at h
  rw [← c.sc] at h
  split at h
  · rename_i e
    exact ⟨by rw [c.N]; exact idx0 h, .inl e⟩
  · rename_i e
    split at h
    · exact ⟨by rw [c.N]; exact idx0 h, .inr e⟩
    · split at h
      · exact ⟨by rw [c.N]; exact idx0 h, .inr e⟩
      · cases h
  · cases h
theorem Co.slot (c : Co P X Γ k) {x : Str} {i : Nat} (h : slotOf Γ x = some i) : X.N[i]? = some x ∧ Vis X.env.scope x ∧ (x == ("__debug__" : Str)) = false ∧ (x == ("__classdict__" : Str)) = false := by
  unfold slotOf at h
  split at h
  · rename_i g
    simp only [Bool.and_eq_true, Bool.not_eq_true'] at g
    refine ⟨by rw [c.N]; exact idx0 h, ?_, g.1.2, g.2⟩
    have g1 := g.1.1
    unfold seen at g1
    rw [← c.sc] at g1
    split at g1
    · rename_i e; exact .inl e
    · rename_i e; exact .inr (.inl e)
    · rename_i e; exact .inr (.inr e)
    · cases g1
  · cases h
theorem Co.glob (c : Co P X Γ k) {x : Str} (h : isGl Γ.sc x = true) : Gl X x := by
  unfold isGl at h
  rw [← c.sc] at h
  split at h
  · rename_i e; exact e
  · cases h
theorem Co.hu (c : Co P X Γ k) : X.A.units + 65 < cLine := by
  have := c.room.un
  omega

/-! ### targets -/
def tG (K : Md) (t : T) : TG := fun v σ H Q => ∃ ι env d env', RelE K ι H env σ ∧ Rep K ι H d v ∧ T.put t d env = some env' ∧
  ∀ σ', RelE K ι H env' σ' → (∀ j, j ∉ t.slots → σ'[j]? = σ[j]?) → Q σ' H
def tGs (K : Md) (t : T) : TGs := fun vs σ H Q => ∃ ι env ds env', RelE K ι H env σ ∧ Reps K ι H ds vs ∧ T.puts t ds env = some env' ∧
  ∀ σ', RelE K ι H env' σ' → (∀ j, j ∉ t.slots → σ'[j]? = σ[j]?) → Q σ' H
theorem PG.weak {tg : Expr} {t t' : TG} (h : PG X tg t) (w : ∀ v σ H Q, t' v σ H Q → t v σ H Q) : PG X tg t' := ⟨fun pins s σ H v u Q I r q => h.run pins s σ H v u Q I r (w _ _ _ _ q)⟩
theorem PGs.weak {tg : List Expr} {t t' : TGs} (h : PGs X tg t) (w : ∀ v σ H Q, t' v σ H Q → t v σ H Q) : PGs X tg t' := ⟨fun pins s σ H v u Q I r q => h.run pins s σ H v u Q I r (w _ _ _ _ q)⟩
theorem each_len : ∀ (es : List Expr) (env : PySem.Env), (assignEach es env).length = es.length
  | [], _ => rfl
  | e :: r, env => by cases e <;> exact congrArg (· + 1) (each_len r env)
theorem cTs_len : ∀ {n : Nat} {es : List Expr} {t : T} {ds : List D} {env env' : Env}, cTs Γ n es = some t → T.puts t ds env = some env' → ds.length = es.length
  | 0, _, _, _, _, _, h, _ => by simp [cTs] at h
  | n + 1, [], t, ds, env, env', h, h' => by
    simp only [cTs, Option.some.injEq] at h
    subst h
    cases ds with
    | nil => rfl
    | cons => simp [T.puts] at h'
  | n + 1, e :: r, t, ds, env, env', h, h' => by
    simp only [cTs] at h
    split at h
    · rename_i a b h1 h2
      cases h
      cases ds with
      | nil => simp [T.puts] at h'
      | cons d ds =>
        simp only [T.puts] at h'
        split at h'
        · rename_i env1 g
          simp [cTs_len h2 h']
        · cases h'
    · cases h
theorem cT_nostar {n : Nat} {e : Expr} {t : T} (h : cT Γ n e = some t) : ∀ env, assignEach [e] env = [(false, assign e env)] := by
  intro env
  cases n with
  | zero => simp [cT] at h
  | succ n => cases e <;> first | rfl | simp [cT] at h
theorem assignEach_cons {n : Nat} {e : Expr} {t : T} (h : cT Γ n e = some t) (es : List Expr) (env : PySem.Env) : assignEach (e :: es) env = (false, assign e env) :: assignEach es env := by
  cases n with
  | zero => simp [cT] at h
  | succ n => cases e <;> first | rfl | simp [cT] at h
theorem cTs_find : ∀ {n : Nat} {es : List Expr} {t : T} (env : PySem.Env), cTs Γ n es = some t → (assignEach es env).findIdx? (·.1) = none
  | 0, _, _, _, h => by simp [cTs] at h
  | n + 1, [], _, _, _ => rfl
  | n + 1, e :: r, t, env, h => by
    simp only [cTs] at h
    split at h
    · rename_i a b h1 h2
      cases h
      rw [assignEach_cons h1, List.findIdx?_cons]
      simp [cTs_find env h2]
    · cases h
mutual
theorem tg_ok (c : Co P X Γ k) : ∀ {n : Nat} {e : Expr} {t : T}, cT Γ n e = some t → PG X e (tG X.md t)
  | 0, _, _, h => by simp [cT] at h
  | n + 1, .Name x _, t, h => by
    simp only [cT, Option.map_eq_some_iff] at h
    obtain ⟨i, h1, rfl⟩ := h
    obtain ⟨g1, g2⟩ := c.own h1
    refine PG.weak (pg_name c.nd g1 g2 (c.fnk x i h1)) fun v σ H Q ⟨ι, env, d, env', re, hd, hp, q⟩ => ?_
    simp only [T.put, Option.some.injEq] at hp
    subst hp
    exact q _ (re.set i hd) fun j hj => by
      simp only [T.slots, List.mem_singleton] at hj
      rw [List.getElem?_set_ne (Ne.symm hj)]
  | n + 1, .Tuple es k' pos, t, h => by
    simp only [cT, Option.map_eq_some_iff] at h
    obtain ⟨l, h1, rfl⟩ := h
    refine PG.weak (pg_tup c.calm (tgs_ok c h1) rfl (cTs_find _ h1)) fun v σ H Q ⟨ι, env, d, env', re, hd, hp, q⟩ => ?_
    cases d <;> simp only [T.put] at hp <;> try cases hp
    rename_i ds
    simp only [Rep] at hd
    obtain ⟨a, vs, e1, e2, e3⟩ := hd
    exact ⟨a, vs, e1, e2, by rw [e3.len, each_len]; exact cTs_len h1 hp, ι, env, ds, env', re, e3, hp, q⟩
  | n + 1, .BoolOp .., t, h | n + 1, .NamedExpr .., t, h | n + 1, .BinOp .., t, h | n + 1, .UnaryOp .., t, h | n + 1, .Lambda .., t, h | n + 1, .IfExp .., t, h | n + 1, .Dict .., t, h
  | n + 1, .Set .., t, h | n + 1, .ListComp .., t, h | n + 1, .SetComp .., t, h | n + 1, .DictComp .., t, h | n + 1, .GeneratorExp .., t, h | n + 1, .Await .., t, h | n + 1, .Yield .., t, h | n + 1, .YieldFrom .., t, h
  | n + 1, .Compare .., t, h | n + 1, .Call .., t, h | n + 1, .FormattedValue .., t, h | n + 1, .JoinedStr .., t, h | n + 1, .Constant .., t, h | n + 1, .Attribute .., t, h | n + 1, .Subscript .., t, h
  | n + 1, .Starred .., t, h | n + 1, .List .., t, h | n + 1, .Slice .., t, h => by simp [cT] at h
theorem tgs_ok (c : Co P X Γ k) : ∀ {n : Nat} {es : List Expr} {t : T}, cTs Γ n es = some t → PGs X es (tGs X.md t)
  | 0, _, _, h => by simp [cTs] at h
  | n + 1, [], t, h => by
    simp only [cTs, Option.some.injEq] at h
    subst h
    refine PGs.weak pgs_nil fun vs σ H Q ⟨ι, env, ds, env', re, hd, hp, q⟩ => ?_
    cases ds with
    | cons => simp [T.puts] at hp
    | nil =>
      simp only [T.puts, Option.some.injEq] at hp
      subst hp
      simp only [Reps] at hd
      exact ⟨hd, q σ re fun _ _ => rfl⟩
  | n + 1, e :: r, t, h => by
    simp only [cTs] at h
    split at h
    · rename_i a b h1 h2
      cases h
      refine PGs.weak (pgs_cons (tg_ok c h1) (tgs_ok c h2) (by rw [assignEach_cons h1]; rfl)) fun vs σ H Q ⟨ι, env, ds, env', re, hd, hp, q⟩ => ?_
      cases ds with
      | nil => simp [T.puts] at hp
      | cons d ds =>
        simp only [T.puts] at hp
        split at hp
        · rename_i env1 g
          simp only [Reps] at hd
          obtain ⟨v, w, e1, e2, e3⟩ := hd
          refine ⟨v, w, e1, ι, env, d, env1, re, e2, g, fun σ1 re1 k1 => ⟨ι, env1, ds, env', re1, e3, hp, fun σ2 re2 k2 => q σ2 re2 fun j hj => ?_⟩⟩
          simp only [T.slots, List.mem_append, not_or] at hj
          rw [k2 j hj.2, k1 j hj.1]
        · cases hp
    · cases h
end
end
end MP

/-! enumerate of a tuple in a for. -/
set_option linter.all false
set_option autoImplicit false
set_option maxRecDepth 100000
namespace MP
open PySem PySem.Spec PyProof.Rows L2
open AutoSeq1 (wpAny_loadPart')

set_option maxHeartbeats 1000000 in
theorem meets_enumT (t : Addr) (ot : Obj) (items : Array Value) (n : Nat) (hc : ot.cls = .type "tuple") (hd : ot.data = .seq items n) :
    Meets (Builtin.«enumerate.__new__» ⟨[.type "enumerate", .ref t], []⟩) (fun _ R s => s.heap.get? t = some ot ∧
      R (.ok (.ret (.ref (s.heap.push { cls := .type "tuple_iterator", data := .fields #[.ref t, .int 0 0] }).objs.size)))
        { s with heap := (s.heap.push { cls := .type "tuple_iterator", data := .fields #[.ref t, .int 0 0] }).push { cls := .type "enumerate", data := .fields #[.none, .bool false, .ref s.heap.objs.size, rawInt 0, .none, .none] } }) :=
  .of_wp fun prog w A R s h => by
    obtain ⟨hp, g, d, tk, os⟩ := s
    obtain ⟨hl, h⟩ := h
    have hsub := sub_enumerate
    have hT : Heap.IsTuple (Shared.heap ⟨hp, g, d, tk, os⟩) t items := ⟨ot, hl, hc, n, hd⟩
    wp_walk using wpAny_loadPart' hl
    refine wpAny_stack_any fun st => wpAny_pure ?_
    split
    · rename_i c _ _ _ _ _
      cases (c == Value.type "enumerate")
      · wp_walk using wpAny_loadPart' hl, wpAny_pyIter_tuple hT
        exact ⟨_, rfl, h⟩
      · wp_walk using wpAny_loadPart' hl, wpAny_pyIter_tuple hT
        exact ⟨_, rfl, h⟩
    · wp_walk using wpAny_loadPart' hl, wpAny_pyIter_tuple hT
      exact ⟨_, rfl, h⟩
section
variable {prog : Program} {w : World} {A : Around} {E : Value → Shared → Prop} {s : Shared}
theorem call_enumT {t : Addr} {items : Array Value} {Q : Value → Shared → Prop} (hT : s.heap.IsTuple t items)
    (h : ∀ h', IsEnum h' (s.heap.objs.size + 1) s.heap.objs.size 0 .none → h'.IsTupleIter s.heap.objs.size t 0 →
      (∀ b o, s.heap.get? b = some o → h'.get? b = some o) → Q (.ref (s.heap.objs.size + 1)) { s with heap := h' }) :
    wpAny (model prog w) A (call (.type "enumerate") [.ref t]) Q E s := by
  obtain ⟨ot, ho, hc, n, hd⟩ := hT
  refine callType_new F.called_enumerate (by decide) (F.typeCall_enumerate_1 _) (F.newCall_enumerate_1 _) (fun obj => F.args_object_init_2 obj _) F.entry_enumerate_new (meets_enumT t ot items n hc hd) ⟨ho, ?_⟩
  have hz : (s.heap.push { cls := .type "tuple_iterator", data := .fields #[.ref t, .int 0 0] }).objs.size = s.heap.objs.size + 1 := Heap.size_push ..
  show _ ∧ _
  rw [hz]
  have he := Heap.get?_push_size (s.heap.push { cls := .type "tuple_iterator", data := .fields #[.ref t, .int 0 0] }) (o := { cls := .type "enumerate", data := .fields #[.none, .bool false, .ref s.heap.objs.size, rawInt 0, .none, .none] }) rfl
  rw [hz] at he
  exact ⟨⟨_, he, rfl⟩, h _ he ⟨_, Heap.get?_push_of_some _ (Heap.get?_push_size _ rfl), rfl, rfl⟩ fun b o x => Heap.get?_push_of_some _ (Heap.get?_push_of_some _ x)⟩
end
/-- number and item of the tuple at a, in new pairs -/
def IteT (K : PySem.W.Frag) (a : Addr) : It :=
  ⟨fun i H => ∃ (xs : List V) (x : V), SqT K H a xs ∧ xs[i]? = some x, fun i H v H' => ∃ T x, v = .ref T ∧ H T = none ∧ H' = upd H T (.tup [.int (i : Nat), x]) ∧ ∀ xs, SqT K H a xs → xs[i]? = some x, fun i H => ∃ xs : List V, SqT K H a xs ∧ xs.length = i⟩
theorem turn_enumT {P : Program} {w : World} {K : PySem.W.Frag} {elts : List Expr} {kk : Nat} {tpos : Pos} (a e it : Addr) :
    Turn P w K (.Tuple elts kk tpos) (IteT K a) [e, it] e (fun i h => (∃ old, IsEnum h e it ((i : Nat) : Int) old) ∧ h.IsTupleIter it a i ∧ e ≠ it ∧ a ≠ it ∧ e ≠ a) where
  mem := by simp
  obj := fun i h st b hb => by
    obtain ⟨⟨old, he⟩, ⟨o, ho, hc, hd⟩, _⟩ := st
    simp only [List.mem_cons, List.not_mem_nil, or_false] at hb
    rcases hb with rfl | rfl
    · exact ⟨_, he, fun v q => nomatch q⟩
    · exact ⟨o, ho, fun v q => by rw [hd] at q; cases q⟩
  keep := fun i h h' st k => by
    obtain ⟨⟨old, he⟩, ⟨o, ho, hc, hd⟩, r⟩ := st
    exact ⟨⟨old, k e (by simp) _ he⟩, ⟨o, k it (by simp) _ ho, hc, hd⟩, r⟩
  item := by
    intro X hP hw hK hc i pins s σ H E I hf st hg
    subst hP hw hK
    obtain ⟨⟨old, he⟩, hit, hne, hai, hea⟩ := st
    obtain ⟨xs, x, hq, hx⟩ := hg
    obtain ⟨its, rv, p, hz⟩ := I.tuple hq
    obtain ⟨u, hu, ru⟩ := rv.get hx
    have hel : e < s.heap.objs.size := Heap.lt_size he
    have hil : it < s.heap.objs.size := by obtain ⟨_, q, _⟩ := hit; exact Heap.lt_size q
    have hlt : i < its.toArray.size := by
      have := (List.getElem?_eq_some_iff.mp hu).1
      simpa using this
    have Dr := Draws.tuple (prog := X.prog) (w := X.w) (A := X.A.in1) (show X.A.in1.handled = none from I.ok.hd hc) it a hai its.toArray
    refine wpAny_pyNext_enum_itemD Dr he ⟨hit, p⟩ hlt hne (by simp [hne, hea]) fun y h' tk hy ho hs' hT hsz hk => ?_
    have ey : y = u := by
      have : its.toArray[i]? = some u := by simpa using hu
      rw [this] at hy
      exact (Option.some.inj hy).symm
    subst ey
    refine ⟨_, rfl, wpAny_letOwnedTupleGo_enum (s := { s with heap := h', toks := tk + 1 }) ho fun h'' he' sb => ?_⟩
    have hT2 : h''.get? s.heap.objs.size = some { cls := .type "tuple", data := .seq #[.int i tk, y] } := (sb.2 _ (Nat.ne_of_gt hel)).trans hT
    have new : ObjOk X.prog X.w (upd H s.heap.objs.size (.tup [.int (i : Nat), x])) h'' s.heap.objs.size (.tup [.int (i : Nat), x]) :=
      ⟨by show 2 ≤ sizeLine; decide, [.int i tk, y], .cons ⟨_, rfl⟩ (.cons ru .nil), ⟨_, hT2, rfl, _, rfl⟩⟩
    have I1 : Inv X pins σ (upd H s.heap.objs.size (.tup [.int (i : Nat), x])) { s with heap := h'', toks := tk + 1 } :=
      I.turnedNew (ch := [e, it]) (fun b ob hb q => (sb.2 b (fun z => hb (by simp [z]))).trans (hk b ob (fun z => hb (by simp [z])) (fun z => hb (by simp [z])) q)) hf (Nat.le_refl _) new
    obtain ⟨o2, g1, g2, g3⟩ := hs'.1
    refine ⟨.ref s.heap.objs.size, _, I1, rfl, ⟨_, x, rfl, I.hok.fresh (Nat.le_refl _), rfl, fun ys hy => by rw [I.tuple_inj hy hq]; exact hx⟩, ⟨⟨y, ?_⟩, ⟨o2, (sb.2 it (Ne.symm hne)).trans g1, g2, g3⟩, hne, hai, hea⟩, fun b hb => ?_⟩
    · have e1 : ((i + 1 : Nat) : Int) = (i : Int) + 1 := by omega
      rw [e1]; exact he'
    · have hb' : b < s.heap.objs.size := by
        simp only [List.mem_cons, List.not_mem_nil, or_false] at hb
        rcases hb with rfl | rfl
        · exact hel
        · exact hil
      rw [upd_ne (Nat.ne_of_lt hb')]
      exact (hf b hb).1
  done := by
    intro X hP hw hK hc i pins s σ H E I hf st hg
    subst hP hw hK
    obtain ⟨⟨old, he⟩, hit, hne, hai, hea⟩ := st
    obtain ⟨xs, hq, hx⟩ := hg
    obtain ⟨its, rv, p, hz⟩ := I.tuple hq
    obtain ⟨f0, f1, f2, f3, f4, f5⟩ := hf it (by simp)
    have hl := rv.length
    have Dr := Draws.tuple (prog := X.prog) (w := X.w) (A := X.A.in1) (show X.A.in1.handled = none from I.ok.hd hc) it a hai its.toArray
    have hend : ∀ h', Heap.ExtBut it s.heap h' → ((none : Option Value) = none ∧ Inv X pins σ H { s with heap := h' }) := fun h' eb => ⟨rfl, I.turned (t' := s.toks) (fun b o hb q => eb b o hb q) f0 f1 f3 f4 f5⟩
    have en : i = its.toArray.size := by simp; omega
    subst en
    exact wpAny_pyNext_enum_endD Dr he ⟨hit, p⟩ hend
  self := fun A i s Q E st h => let ⟨⟨_, he⟩, _⟩ := st; wpAny_pyIter_enum he h
def iEnumT (K : PySem.W.Frag) (ta : TA) : TI := fun σ H R => ta σ H fun vs H1 => ∃ a, vs = [.ref a] ∧ ((∃ xs, SqL K H1 a xs ∧ R (Ite K a) H1) ∨ ∃ xs, SqT K H1 a xs ∧ R (IteT K a) H1)
theorem pi_enumT {X : Cx} {e : Expr} {ta : TA} {p pos tpos : Pos} {elts : List Expr} {kk : Nat} (hg : Gl X "enumerate") (hm : X.mg "enumerate" = none) (ha : PA X [e] ta) (hs : starEach [e] X.env = [(false, eval e X.env)]) :
    PI X (.Tuple elts kk tpos) (.Call (.Name "enumerate" p) [e] [] pos) (iEnumT X.K ta) := by
  refine ⟨fun pins s σ H R I h => ?_⟩
  refine Call_ (ld_blt I hg hm boot_enumerate (PyProof.Rows.callWith_type1 (thn (ha.run pos pins s σ H _ I h) fun us s1 ⟨vs, H1, I1, r1, q1⟩ => ?_) hs rfl))
  obtain ⟨a, ex, q⟩ := q1
  subst ex
  have two : ∀ b ∈ [s1.heap.objs.size + 1, s1.heap.objs.size], s1.heap.objs.size ≤ b := fun b hb => by
    simp only [List.mem_cons, List.not_mem_nil, or_false] at hb
    omega
  cases r1 with
  | cons r rr =>
    cases rr
    cases r
    rcases q with ⟨xs, hq, q⟩ | ⟨xs, hq, q⟩
    · obtain ⟨its, rv, p', hz⟩ := I1.list hq
      refine call_enumerate_list p'.isList fun h' he hit hsz hk => wpAny_pyIter_enum he ?_
      have I2 : Inv X pins σ H1 { s1 with heap := h' } := I1.kept (t' := s1.toks) hk
      exact ⟨s1.heap.objs.size + 1, [s1.heap.objs.size + 1, s1.heap.objs.size], _, _, H1, rfl, I2, turn_enum a (s1.heap.objs.size + 1) s1.heap.objs.size, ⟨⟨.none, he⟩, hit, Nat.succ_ne_self _⟩, fun b hb => I1.fpOk (two b hb) (I1.hok.fresh (two b hb)), q⟩
    · obtain ⟨its, rv, p', hz⟩ := I1.tuple hq
      have hal : a < s1.heap.objs.size := p'.lt
      refine call_enumT (items := its.toArray) p' fun h' he hit hk => wpAny_pyIter_enum he ?_
      have I2 : Inv X pins σ H1 { s1 with heap := h' } := I1.kept (t' := s1.toks) hk
      exact ⟨s1.heap.objs.size + 1, [s1.heap.objs.size + 1, s1.heap.objs.size], _, _, H1, rfl, I2, turn_enumT a (s1.heap.objs.size + 1) s1.heap.objs.size, ⟨⟨.none, he⟩, hit, Nat.succ_ne_self _, Nat.ne_of_lt hal, Nat.ne_of_gt (Nat.lt_succ_of_lt hal)⟩, fun b hb => I1.fpOk (two b hb) (I1.hok.fresh (two b hb)), q⟩
end MP

/-! The rules of expressions. -/
set_option linter.all false
set_option autoImplicit false
namespace MP
open PySem PySem.Spec PyProof.Rows L2

section
variable {X : Cx}
theorem PEweak {e : Expr} {t t' : TE} (h : PE X e t) (w : ∀ σ H Q, t' σ H Q → t σ H Q) : PE X e t' := ⟨fun pins s σ H Q I q => h.run pins s σ H Q I (w _ _ _ q)⟩
theorem PTweak {e : Expr} {t t' : TT} (h : PT X e t) (w : ∀ σ H Q, t' σ H Q → t σ H Q) : PT X e t' := ⟨fun pins s σ H Q I q => h.run pins s σ H Q I (w _ _ _ q)⟩
theorem PWweak {e : Expr} {t t' : TT} (h : PW X e t) (w : ∀ σ H Q, t' σ H Q → t σ H Q) : PW X e t' := ⟨fun wh pins s σ H Q I q => h.run wh pins s σ H Q I (w _ _ _ q)⟩
theorem PAweak {e : List Expr} {t t' : TA} (h : PA X e t) (w : ∀ σ H Q, t' σ H Q → t σ H Q) : PA X e t' := ⟨fun pos pins s σ H Q I q => h.run pos pins s σ H Q I (w _ _ _ q)⟩
theorem POweak {e : Option Expr} {t t' : TO} (h : PO X e t) (w : ∀ σ H Q, t' σ H Q → t σ H Q) : PO X e t' := ⟨fun pins s σ H Q I q => h.run pins s σ H Q I (w _ _ _ q)⟩
theorem PTsweak {e : List Expr} {t t' : TT} (h : PTs X e t) (w : ∀ σ H Q, t' σ H Q → t σ H Q) : PTs X e t' := ⟨fun pins s σ H Q I q => h.run pins s σ H Q I (w _ _ _ q)⟩
theorem PIweak {tg e : Expr} {t t' : TI} (h : PI X tg e t) (w : ∀ σ H Q, t' σ H Q → t σ H Q) : PI X tg e t' := ⟨fun pins s σ H Q I q => h.run pins s σ H Q I (w _ _ _ q)⟩
theorem PSweak {st : Stmt} {t t' : TS} (h : PS X st t) (w : ∀ D σ H, t' D σ H → t D σ H) : PS X st t' := ⟨fun pins s σ H D I q => h.run pins s σ H D I (w _ _ _ q)⟩
theorem PSsweak {st : List Stmt} {t t' : TS} (h : PSs X st t) (w : ∀ D σ H, t' D σ H → t D σ H) : PSs X st t' := ⟨fun pins s σ H D I q => h.run pins s σ H D I (w _ _ _ q)⟩
theorem PKweak {e : List Keyword} {t t' : TA} (h : PK X e t) (w : ∀ σ H Q, t' σ H Q → t σ H Q) : PK X e t' := ⟨fun pos pins s σ H Q I q => h.run pos pins s σ H Q I (w _ _ _ q)⟩
end

section
variable {α β : Type}
theorem bindL_bindD (x : Out R) (f : D → Store → Out R) (g : List D → Store → Out α) : bindL (bindD x f) g = bindD x fun d S => bindL (f d S) g := by
  cases x with
  | ok r S => cases r <;> rfl
  | exc c d S => rfl
  | no => rfl
theorem bindL_bindL (x : Out R) (f : List D → Store → Out R) (g : List D → Store → Out α) : bindL (bindL x f) g = bindL x fun d S => bindL (f d S) g := by
  cases x with
  | ok r S => cases r <;> rfl
  | exc c d S => rfl
  | no => rfl
theorem bindD_bindL (x : Out R) (f : List D → Store → Out R) (g : D → Store → Out α) : bindD (bindL x f) g = bindL x fun d S => bindD (f d S) g := by
  cases x with
  | ok r S => cases r <;> rfl
  | exc c d S => rfl
  | no => rfl
theorem bindD_bindD (x : Out R) (f : D → Store → Out R) (g : D → Store → Out α) : bindD (bindD x f) g = bindD x fun d S => bindD (f d S) g := by
  cases x with
  | ok r S => cases r <;> rfl
  | exc c d S => rfl
  | no => rfl
theorem bindT_bindD (x : Out R) (f : D → Store → Out R) (g : Bool → Store → Out α) : bindT (bindD x f) g = bindD x fun d S => bindT (f d S) g := by
  cases x with
  | ok r S => cases r <;> rfl
  | exc c d S => rfl
  | no => rfl
theorem bind_bind (x : Out R) (f : R → Store → Out R) (g : R → Store → Out α) : (x.bind f).bind g = x.bind fun d S => (f d S).bind g := by
  cases x <;> rfl
theorem bindT_bind (x : Out R) (f : R → Store → Out R) (g : Bool → Store → Out α) : bindT (x.bind f) g = x.bind fun d S => bindT (f d S) g := by
  cases x <;> rfl
theorem bindT_T (d : D) (S : Store) (g : Bool → Store → Out α) : bindT (.ok (.v d) S) g = match truth S d with
    | some b => g b S
    | none => .no := rfl
theorem bindT_bl (b : Bool) (S : Store) (g : Bool → Store → Out α) : bindT (.ok (.v (.bl b)) S) g = g b S := rfl
end
theorem okk_ex {α : Type} {o : Out α} {Φ : α → Store → Prop} (h : Okk o Φ) : ∃ a S, o = .ok a S ∧ Φ a S := by
  cases o with
  | ok a S => exact ⟨a, S, rfl, h⟩
  | exc c d S => exact h.elim
  | no => exact h.elim

section
variable (K : Md) (P : Prg) (k : Nat)
def tE (e : E) : TE := fun σ H Q => ∃ ι env S, RelS K ι S H ∧ RelE K ι H env σ ∧ Okk (ev P.gl (run P k) e env S) (Post K ι S H Q)
def tT (e : E) : TT := fun σ H Q => ∃ ι env S, RelS K ι S H ∧ RelE K ι H env σ ∧ Okk (bindT (ev P.gl (run P k) e env S) fun b S1 => .ok b S1) (PostB K ι S H Q)
def tA (e : E) : TA := fun σ H Q => ∃ ι env S, RelS K ι S H ∧ RelE K ι H env σ ∧ Okk (ev P.gl (run P k) e env S) (PostA K ι S H Q)
def tO (e : E) : TO := fun σ H Q => ∃ ι env S, RelS K ι S H ∧ RelE K ι H env σ ∧ Okk (bindD (ev P.gl (run P k) e env S) fun d S1 => match partOf d with
  | some o => .ok o S1
  | none => .no) (fun o S' => ∀ ι' H', Ex K ι S H ι' S' H' → RelS K ι' S' H' → Q o H')
variable {K P k}
variable {α : Type} {e : E} {env : Env} {S : Store} {ι : List Addr} {H : Hp} {σ : L2.St} {Φ : α → Store → Prop}
theorem getR {f : R → Store → Out α} {Q : VK} (r : RelS K ι S H) (re : RelE K ι H env σ) (h : Okk ((ev P.gl (run P k) e env S).bind f) Φ)
    (kk : ∀ ι1 S1 H1 x v, Ex K ι S H ι1 S1 H1 → RelS K ι1 S1 H1 → RelE K ι1 H1 env σ → RepR K ι1 S1 H1 x v → NewR H x v → Okk (f x S1) Φ → Q v H1) : tE K P k e σ H Q :=
  ⟨ι, env, S, r, re, okk_imp (okk_bind h) fun x S1 h1 ι1 H1 v e1 r1 z n => kk ι1 S1 H1 x v e1 r1 (re.mono e1.ext) z n h1⟩
theorem getD {f : D → Store → Out α} {Q : VK} (r : RelS K ι S H) (re : RelE K ι H env σ) (h : Okk (bindD (ev P.gl (run P k) e env S) f) Φ)
    (kk : ∀ ι1 S1 H1 d v, Ex K ι S H ι1 S1 H1 → RelS K ι1 S1 H1 → RelE K ι1 H1 env σ → Rep K ι1 H1 d v → Okk (f d S1) Φ → Q v H1) : tE K P k e σ H Q := by
  refine getR r re h fun ι1 S1 H1 x v e1 r1 re1 z n h1 => ?_
  cases x with
  | v d => exact kk ι1 S1 H1 d v e1 r1 re1 z h1
  | tmp xs =>
    obtain ⟨p, vs, rfl, g1, g2, g3⟩ := z
    obtain ⟨r2, e2, e3⟩ := r1.mat (c := .lst xs) g3 ⟨vs, g1, g2⟩
    have e4 := e2 S ι H (n p rfl) e1
    exact kk (ι1 ++ [p]) (S1 ++ [.lst xs]) H1 (.loc S1.length) _ e4 r2 (re.mono e4.ext) (by simp only [Rep]; exact ⟨p, rfl, by rw [← r1.len]; simp⟩) h1
theorem getL {f : List D → Store → Out α} {Q : List V → Hp → Prop} (r : RelS K ι S H) (re : RelE K ι H env σ) (h : Okk (bindL (ev P.gl (run P k) e env S) f) Φ)
    (kk : ∀ ι1 S1 H1 ds vs, Ex K ι S H ι1 S1 H1 → RelS K ι1 S1 H1 → RelE K ι1 H1 env σ → Reps K ι1 H1 ds vs → Okk (f ds S1) Φ → Q vs H1) : tA K P k e σ H Q := by
  refine ⟨ι, env, S, r, re, okk_imp (okk_bind h) fun x S1 h1 => ?_⟩
  cases x with
  | v d => exact h1.elim
  | tmp xs => exact ⟨xs, rfl, fun ι1 H1 vs e1 r1 z => kk ι1 S1 H1 xs vs e1 r1 (re.mono e1.ext) z h1⟩
theorem okk_T {x : Out R} {f : Bool → Store → Out α} (h : Okk (bindT x f) Φ) : Okk (bindT x fun b S1 => .ok b S1) fun b S1 => Okk (f b S1) Φ := by
  cases x with
  | ok a S1 =>
    cases a with
    | v d =>
      show Okk (match truth S1 d with
        | some b => Out.ok b S1
        | none => .no) _
      replace h : Okk (match truth S1 d with
        | some b => f b S1
        | none => .no) Φ := h
      revert h
      cases truth S1 d with
      | none => exact fun h => h.elim
      | some b => exact fun h => h
    | tmp xs =>
      show Okk (match truth (S1 ++ [.lst xs]) (.loc S1.length) with
        | some b => Out.ok b (S1 ++ [.lst xs])
        | none => .no) _
      replace h : Okk (match truth (S1 ++ [.lst xs]) (.loc S1.length) with
        | some b => f b (S1 ++ [.lst xs])
        | none => .no) Φ := h
      revert h
      cases truth (S1 ++ [.lst xs]) (.loc S1.length) with
      | none => exact fun h => h.elim
      | some b => exact fun h => h
  | exc c d S => exact h.elim
  | no => exact h.elim
theorem getT {f : Bool → Store → Out α} {Q : Bool → Hp → Prop} (r : RelS K ι S H) (re : RelE K ι H env σ) (h : Okk (bindT (ev P.gl (run P k) e env S) f) Φ)
    (kk : ∀ ι1 S1 H1 b, Ex K ι S H ι1 S1 H1 → RelS K ι1 S1 H1 → RelE K ι1 H1 env σ → Okk (f b S1) Φ → Q b H1) : tT K P k e σ H Q :=
  ⟨ι, env, S, r, re, okk_imp (okk_T h) fun b S1 h1 ι1 H1 e1 r1 => kk ι1 S1 H1 b e1 r1 (re.mono e1.ext) h1⟩
end

section
variable {P : Prg} {X : Cx} {Γ : Cc} {k : Nat}
theorem star_of {n : Nat} {e : Expr} {e' : E} (h : cE n Γ e = some e') (es : List Expr) (env : PySem.Env) : starEach (e :: es) env = (false, eval e env) :: starEach es env := by
  cases n with
  | zero => simp [cE] at h
  | succ n => cases e <;> first | rfl | simp [cE] at h
theorem plain_of : ∀ {n : Nat} {es : List Expr} {e' : E} (env : PySem.Env) (pos : Pos), cA n Γ es = some e' → (backTo pos (starEach es env)).any (·.1) = false
  | 0, _, _, _, _, h => by simp [cA] at h
  | n + 1, [], _, _, _, _ => rfl
  | n + 1, e :: r, e', env, pos, h => by
    simp only [cA] at h
    split at h
    · rename_i a b h1 h2
      rw [star_of h1]
      simpa [backTo] using plain_of env pos h2
    · cases h
theorem few_of : ∀ {n : Nat} {es : List Expr} {e' : E} (env : PySem.Env) (pos : Pos), cA n Γ es = some e' → (backTo pos (starEach es env)).all (fun x => !x.1) = true
  | 0, _, _, _, _, h => by simp [cA] at h
  | n + 1, [], _, _, _, _ => rfl
  | n + 1, e :: r, e', env, pos, h => by
    simp only [cA] at h
    split at h
    · rename_i a b h1 h2
      rw [star_of h1]
      simpa [backTo] using few_of env pos h2
    · cases h

abbrev sE (P : Prg) (X : Cx) (k : Nat) (e : Expr) (e' : E) : Prop := PE X e (tE X.md P k e')
abbrev sT (P : Prg) (X : Cx) (k : Nat) (e : Expr) (e' : E) : Prop := PT X e (tT X.md P k e')
abbrev sA (P : Prg) (X : Cx) (k : Nat) (e : List Expr) (e' : E) : Prop := PA X e (tA X.md P k e')
abbrev sO (P : Prg) (X : Cx) (k : Nat) (e : Option Expr) (e' : E) : Prop := PO X e (tO X.md P k e')

/-! ### names, constants -/
theorem r_var {x : Str} {i : Nat} {pos : Pos} (c : Co P X Γ k) (h : slotOf Γ x = some i) : sE P X k (.Name x pos) (.var i) := by
  obtain ⟨h1, h2, h3, h4⟩ := c.slot h
  refine PEweak (pe_var h1 h2 h3 h4) fun σ H Q ⟨ι, env, S, r, re, h⟩ => ?_
  simp only [ev] at h
  split at h
  · rename_i d g
    obtain ⟨v, e1, e2⟩ := re.at_ i d g
    exact ⟨v, e1, Post.now h r e2⟩
  · exact h.elim
theorem r_glob {x : Str} {g : Nat} {pos : Pos} (c : Co P X Γ k) (hg : isGl Γ.sc x = true) (hd : (x == ("__debug__" : Str)) = false) (h : Γ.gls.lookup x = some g) : sE P X k (.Name x pos) (.glob g) := by
  obtain ⟨u, v, d, h1, h2, h3, h4⟩ := c.gs.gl x g h
  refine PEweak (pe_glob (c.glob hg) h1 h2 hd) fun σ H Q ⟨ι, env, S, r, re, h⟩ => ?_
  simp only [ev, h3] at h
  exact Post.now h r (h4 ι H)
theorem r_cst {c : Const} {d : D} {j : _} {pos : Pos} (h : cstOf c = some d) : sE P X k (.Constant c j pos) (.cst d) := by
  cases c <;> simp only [cstOf, Option.some.injEq] at h <;> try cases h
  · exact PEweak pe_non fun σ H Q ⟨ι, env, S, r, re, h⟩ => by simp only [ev] at h; exact Post.now h r (by simp [Rep])
  · exact PEweak pe_bl fun σ H Q ⟨ι, env, S, r, re, h⟩ => by simp only [ev] at h; exact Post.now h r (by simp [Rep])
  · exact PEweak pe_int fun σ H Q ⟨ι, env, S, r, re, h⟩ => by simp only [ev] at h; exact Post.now h r (by simp [Rep])
  · exact PEweak pe_str fun σ H Q ⟨ι, env, S, r, re, h⟩ => by simp only [ev] at h; exact Post.now h r (by simp [Rep])

/-! ### arguments, displays -/
theorem r_nilA : sA P X k [] .nil := PAweak pa_nil fun σ H Q ⟨ι, env, S, r, re, h⟩ => by
  simp only [ev] at h
  obtain ⟨ds, e, h⟩ := h
  cases e
  exact h ι H [] (Ex.refl ι S H) r (by simp [Reps])
theorem r_consA {e : Expr} {es : List Expr} {a b : E} (hs : starEach (e :: es) X.env = (false, eval e X.env) :: starEach es X.env) (h1 : sE P X k e a) (h2 : sA P X k es b) : sA P X k (e :: es) (.cons a b) :=
  PAweak (pa_cons h1 h2 hs) fun σ H Q ⟨ι, env, S, r, re, h⟩ => by
    simp only [ev] at h
    refine getD r re h fun ι1 S1 H1 d v e1 r1 re1 z1 h => ?_
    refine getL r1 re1 h fun ι2 S2 H2 ds vs e2 r2 re2 z2 h => ?_
    obtain ⟨xs, e, h⟩ := h
    cases e
    exact h ι2 H2 _ (e1.trans e2) r2 (Reps.cons (z1.mono e2.ext) z2)
theorem r_tup {es : List Expr} {a : E} {x1 : _} {pos : Pos} (h : sA P X k es a) : sE P X k (.Tuple es x1 pos) (.tup a) :=
  PEweak (pe_tup h) fun σ H Q ⟨ι, env, S, r, re, h⟩ => by
    simp only [ev] at h
    refine getL r re h fun ι1 S1 H1 ds vs e1 r1 re1 z1 h => ?_
    split at h <;> rename_i g
    · exact ⟨by rw [z1.len, ← line_eq]; exact g, fun p hp => Post.newT (Post.shift h e1) r1 z1 hp⟩
    · exact h.elim
theorem r_lst {es : List Expr} {a : E} {pos : Pos} (h : sA P X k es a) : sE P X k (.List es pos) (.lst a) :=
  PEweak (pe_lst h) fun σ H Q ⟨ι, env, S, r, re, h⟩ => by
    simp only [ev] at h
    refine getL r re h fun ι1 S1 H1 ds vs e1 r1 re1 z1 h => ?_
    split at h <;> rename_i g
    · exact ⟨by rw [z1.len, ← line_eq]; exact g, fun p hp => Post.newL (Post.shift h e1) r1 z1 hp⟩
    · exact h.elim
theorem newD {ι : List Addr} {S : Store} {H H0 : Hp} {ι0 : List Addr} {S0 : Store} {K : Md} {Q : VK} {kvs : List (D × D)} {ws : List (Key × V)} {p : Addr} (h : Post K ι0 S0 H0 Q (.v (.loc S.length)) (S ++ [.dct kvs])) (e : Ex K ι0 S0 H0 ι S H) (r : RelS K ι S H)
    (hp0 : H0 p = none) (hf : Fresh ι S p) (hm : H p = some (.dK ws)) (hz : Paired (fun (p : D × D) (q : Key × V) => keyV p.1 = some q.1 ∧ Rep K ι H p.2 q.2) kvs ws) : Q (.ref p) H := by
  obtain ⟨r2, e2, e3⟩ := r.mat (c := .dct kvs) hf (.inl ⟨ws, hm, hz⟩)
  exact h (ι ++ [p]) H _ (e2 S0 ι0 H0 hp0 e) r2 (by simp only [RepR, Rep]; exact ⟨p, rfl, by rw [← r.len]; simp⟩) trivial
theorem r_dct0 {pos : Pos} : sE P X k (.Dict [] [] pos) (.dct .nil) :=
  PEweak pe_dnewK fun σ H Q ⟨ι, env, S, r, re, h⟩ p hp => by
    simp only [ev, bindL, Out.bind] at h
    exact newD h (Ex.new hp) (r.new hp) hp (r.fresh hp) upd_same .nil
theorem r_dct1 {x y : Expr} {a b : E} {pos : Pos} (h1 : sE P X k x a) (h2 : sE P X k y b) : sE P X k (.Dict [some x] [y] pos) (.dct (.cons a (.cons b .nil))) :=
  PEweak (pe_disp (pps_cons h1 h2 pps_nil) rfl rfl (by simp) (by simp)) fun σ H Q ⟨ι, env, S, r, re, h⟩ p hp => by
    have e0 : Ex X.md ι S H ι S (upd H p (.dK [])) := Ex.new hp
    have r0 := r.new (o := .dK []) hp
    have f0 := r.fresh hp
    simp only [ev, bindL_bindD, bindL_bindL] at h
    refine getD r0 (re.mono e0.ext) h fun ι1 S1 H1 d v e1 r1 re1 z1 h => ?_
    refine getD r1 re1 h fun ι2 S2 H2 d2 v2 e2 r2 re2 z2 h => ?_
    have e12 := e1.trans e2
    have fr := e12.frame p (by rw [upd_same]; simp) f0
    rw [upd_same] at fr
    simp only [bindL, Out.bind] at h
    cases d with
    | int i =>
      simp only [Rep] at z1
      subst z1
      refine ⟨fr.1, [(.inl i, v2)], rfl, by simp, ?_⟩
      have mt : H2 p = none ∨ Mut (H2 p) := .inr (by rw [fr.1]; trivial)
      have e3 : Ex X.md ι S H ι2 S2 (upd H2 p (.dK [(.inl i, v2)])) := by
        refine ⟨(e0.trans e12).ext.trans (Ext.upd' ι2 mt), fun b hb fb => ?_, fun b hb => upd_was ((e0.trans e12).was b hb)⟩
        have := (e0.trans e12).frame b hb fb
        rw [upd_ne (by rintro rfl; exact hb hp)]
        exact this
      have r3 : RelS X.md ι2 S2 (upd H2 p (.dK [(.inl i, v2)])) := ⟨r2.len, fun n c a g1 g2 => (r2.cell n c a g1 g2).other (Ext.upd' ι2 mt) mt fun w => fr.2 n a c g2 g1 w, r2.inj⟩
      exact newD h e3 r3 hp fr.2 upd_same (.cons ⟨rfl, z2.mono (Ext.upd' ι2 mt)⟩ .nil)
    | _ => exact h.elim

/-! ### operators -/
theorem r_op {x y : Expr} {o : Operator} {o' : Bop} {a b : E} {pos : Pos} (ho : bopOf o = some o') (h1 : sE P X k x a) (h2 : sE P X k y b) : sE P X k (.BinOp x o y pos) (.op o' a b) :=
  PEweak (pe_op (op_ok o' o ho) h1 h2) fun σ H Q ⟨ι, env, S, r, re, h⟩ => by
    simp only [ev] at h
    refine getD r re h fun ι1 S1 H1 d v e1 r1 re1 z1 h => ?_
    refine getD r1 re1 h fun ι2 S2 H2 d2 v2 e2 r2 re2 z2 h => ?_
    exact ⟨ι2, S2, d, d2, r2, z1.mono e2.ext, z2, okk_imp h fun _ _ p => Post.shift p (e1.trans e2)⟩
theorem r_neg {x : Expr} {a : E} {pos : Pos} (h1 : sE P X k x a) : sE P X k (.UnaryOp .USub x pos) (.neg a) :=
  PEweak (pe_un un_neg h1) fun σ H Q ⟨ι, env, S, r, re, h⟩ => by
    simp only [ev] at h
    refine getD r re h fun ι1 S1 H1 d v e1 r1 re1 z1 h => ?_
    cases d <;> try exact h.elim
    simp only [Rep] at z1
    exact ⟨_, z1, Post.now (Post.shift h e1) r1 (by simp [Rep])⟩
theorem t_not {x : Expr} {a : E} {pos : Pos} (h1 : sT P X k x a) : sT P X k (.UnaryOp .Not x pos) (.not a) :=
  PTweak (pt_not h1) fun σ H Q ⟨ι, env, S, r, re, h⟩ => by
    simp only [ev] at h
    rw [show (bindT (bindT (ev P.gl (run P k) a env S) fun b S1 => .ok (.v (.bl (!b))) S1) fun b S1 => Out.ok b S1) = bindT (ev P.gl (run P k) a env S) fun b S1 => .ok (!b) S1 from by
      rw [bindT_bindD]
      congr 1
      funext d S1
      cases truth S1 d <;> rfl] at h
    refine getT r re h fun ι1 S1 H1 b e1 r1 re1 h => ?_
    exact h ι1 H1 e1 r1
end
end MP

/-! The rules of expressions, second part. -/
set_option linter.all false
set_option autoImplicit false
namespace MP
open PySem PySem.Spec PyProof.Rows L2

section
variable {P : Prg} {X : Cx} {Γ : Cc} {k : Nat}

theorem bindT_bindT {α : Type} (x : Out R) (f : Bool → Store → Out R) (g : Bool → Store → Out α) : bindT (bindT x f) g = bindT x fun d S => bindT (f d S) g := by
  rw [bindT_bindD]
  congr 1
  funext d S1
  cases truth S1 d <;> rfl
theorem r_not {x : Expr} {a : E} {pos : Pos} (h1 : sE P X k x a) : sE P X k (.UnaryOp .Not x pos) (.not a) :=
  PEweak (pe_notT h1) fun σ H Q ⟨ι, env, S, r, re, h⟩ => by
    simp only [ev] at h
    refine getD (f := fun d S => match truth S d with
      | some b => .ok (R.v (.bl (!b))) S
      | none => .no) r re h fun ι1 S1 H1 d v e1 r1 re1 z1 h => ?_
    split at h <;> rename_i g
    · exact ⟨_, truth_ok r1 z1 g, Post.now (Post.shift h e1) r1 (by simp [Rep])⟩
    · exact h.elim
theorem t_plain {x : Expr} {a : E} (h1 : sE P X k x a) (he : ∀ whole, isTrue x X.env whole = (do let v ← whole; standAt x.pos; holding [v] (truthy v))) : sT P X k x a :=
  PTweak (pt_truth h1 he) fun σ H Q ⟨ι, env, S, r, re, h⟩ => by
    refine getD (f := fun d S => match truth S d with
      | some b => .ok b S
      | none => .no) r re h fun ι1 S1 H1 d v e1 r1 re1 z1 h => ?_
    split at h <;> rename_i g
    · exact ⟨_, truth_ok r1 z1 g, (PostB.shift h e1) ι1 H1 (Ex.refl ..) r1⟩
    · exact h.elim
theorem r_and {x y : Expr} {rest : List Expr} {a b : E} {pos : Pos} (h1 : sE P X k x a) (h2 : sE P X k (.BoolOp .And (y :: rest) pos) b) : sE P X k (.BoolOp .And (x :: y :: rest) pos) (.and a b) :=
  PEweak (pe_andT h1 h2) fun σ H Q ⟨ι, env, S, r, re, h⟩ => by
    simp only [ev] at h
    refine getD r re h fun ι1 S1 H1 d v e1 r1 re1 z1 h => ?_
    split at h <;> rename_i g
    · exact ⟨_, truth_ok r1 z1 g, by rw [if_pos rfl]; exact ⟨ι1, env, S1, r1, re1, okk_imp h fun _ _ p => Post.shift p e1⟩⟩
    · exact ⟨_, truth_ok r1 z1 g, by rw [if_neg (by simp)]; exact Post.now (Post.shift h e1) r1 z1⟩
    · exact h.elim
theorem r_or {x y : Expr} {rest : List Expr} {a b : E} {pos : Pos} (h1 : sE P X k x a) (h2 : sE P X k (.BoolOp .Or (y :: rest) pos) b) : sE P X k (.BoolOp .Or (x :: y :: rest) pos) (.or a b) :=
  PEweak (pe_orT h1 h2) fun σ H Q ⟨ι, env, S, r, re, h⟩ => by
    simp only [ev] at h
    refine getD r re h fun ι1 S1 H1 d v e1 r1 re1 z1 h => ?_
    split at h <;> rename_i g
    · exact ⟨_, truth_ok r1 z1 g, by rw [if_pos rfl]; exact Post.now (Post.shift h e1) r1 z1⟩
    · exact ⟨_, truth_ok r1 z1 g, by rw [if_neg (by simp)]; exact ⟨ι1, env, S1, r1, re1, okk_imp h fun _ _ p => Post.shift p e1⟩⟩
    · exact h.elim
theorem bindT_and {α : Type} (G : Nat → Option D) (cl : Nat → List D → Store → Out D) (a b : E) (env : Env) (S : Store) (g : Bool → Store → Out α) : bindT (ev G cl (.and a b) env S) g = bindT (ev G cl a env S) fun t S1 => match t with
    | true => bindT (ev G cl b env S1) g
    | false => g false S1 := by
  simp only [ev]
  rw [bindT_bindD]
  congr 1
  funext d S1
  cases e : truth S1 d with
  | none => rfl
  | some t =>
    cases t
    · show bindT (.ok (.v d) S1) g = _
      rw [bindT_T, e]
    · rfl
theorem bindT_or {α : Type} (G : Nat → Option D) (cl : Nat → List D → Store → Out D) (a b : E) (env : Env) (S : Store) (g : Bool → Store → Out α) : bindT (ev G cl (.or a b) env S) g = bindT (ev G cl a env S) fun t S1 => match t with
    | true => g true S1
    | false => bindT (ev G cl b env S1) g := by
  simp only [ev]
  rw [bindT_bindD]
  congr 1
  funext d S1
  cases e : truth S1 d with
  | none => rfl
  | some t =>
    cases t
    · rfl
    · show bindT (.ok (.v d) S1) g = _
      rw [bindT_T, e]
abbrev sW (P : Prg) (X : Cx) (k : Nat) (e : Expr) (e' : E) : Prop := PW X e (tT X.md P k e')
theorem w_and {x y : Expr} {rest : List Expr} {a b : E} {pos : Pos} (h1 : sT P X k x a) (h2 : sW P X k (.BoolOp .And (y :: rest) pos) b) : sW P X k (.BoolOp .And (x :: y :: rest) pos) (.and a b) :=
  PWweak (pw_and h1 h2) fun σ H Q ⟨ι, env, S, r, re, h⟩ => by
    rw [bindT_and] at h
    refine getT r re h fun ι1 S1 H1 t e1 r1 re1 h => ?_
    cases t with
    | true => rw [if_pos rfl]; exact ⟨ι1, env, S1, r1, re1, okk_imp h fun _ _ p => PostB.shift p e1⟩
    | false => rw [if_neg (by simp)]; exact h ι1 H1 e1 r1
theorem w_or {x y : Expr} {rest : List Expr} {a b : E} {pos : Pos} (h1 : sT P X k x a) (h2 : sW P X k (.BoolOp .Or (y :: rest) pos) b) : sW P X k (.BoolOp .Or (x :: y :: rest) pos) (.or a b) :=
  PWweak (pw_or h1 h2) fun σ H Q ⟨ι, env, S, r, re, h⟩ => by
    rw [bindT_or] at h
    refine getT r re h fun ι1 S1 H1 t e1 r1 re1 h => ?_
    cases t with
    | true => rw [if_pos rfl]; exact h ι1 H1 e1 r1
    | false => rw [if_neg (by simp)]; exact ⟨ι1, env, S1, r1, re1, okk_imp h fun _ _ p => PostB.shift p e1⟩

/-! ### comparisons -/
theorem tc_cmp {x y : Expr} {o' : Cop} {a b : E} (σ : L2.St) (H : Hp) (Q : VK) (h : tE X.md P k (.cmp o' a b) σ H Q) : tOp (rC X.md (cmpop o')) (tE X.md P k a) (tE X.md P k b) σ H Q := by
  obtain ⟨ι, env, S, r, re, h⟩ := h
  simp only [ev] at h
  refine getD r re h fun ι1 S1 H1 d v e1 r1 re1 z1 h => ?_
  refine getD r1 re1 h fun ι2 S2 H2 d2 v2 e2 r2 re2 z2 h => ?_
  split at h <;> rename_i g
  · exact ⟨ι2, S2, d, d2, _, r2, z1.mono e2.ext, z2, g, Post.now (Post.shift h (e1.trans e2)) r2 (by simp [Rep])⟩
  · exact h.elim
theorem tT_test {e : E} {te : TE} (w : ∀ σ H Q, tE X.md P k e σ H Q → te σ H Q) (hb : ∀ env S r S1, ev P.gl (run P k) e env S = .ok r S1 → ∃ b, r = .v (.bl b)) (σ : L2.St) (H : Hp) (Q : Bool → Hp → Prop) (h : tT X.md P k e σ H Q) : tTest te σ H Q := by
  obtain ⟨ι, env, S, r, re, h⟩ := h
  refine w σ H _ ⟨ι, env, S, r, re, ?_⟩
  cases q : ev P.gl (run P k) e env S with
  | exc c d S => rw [q] at h; exact h.elim
  | no => rw [q] at h; exact h.elim
  | ok x S1 =>
    rw [q] at h
    obtain ⟨b, rfl⟩ := hb env S x S1 q
    intro ι' H' v e1 r1 z _
    simp only [RepR, Rep] at z
    exact ⟨b, z, h ι' H' e1 r1⟩
theorem ev_bl_cmp (o' : Cop) (a b : E) (env : Env) (S : Store) (r : R) (S1 : Store) (h : ev P.gl (run P k) (.cmp o' a b) env S = .ok r S1) : ∃ t, r = .v (.bl t) := by
  simp only [ev] at h
  obtain ⟨x, S2, e, h⟩ : ∃ x S2, True ∧ (bindD (ev P.gl (run P k) b env S2) fun y S2 => match cmpop o' x y S2 with
    | some t => .ok (.v (.bl t)) S2
    | none => .no) = .ok r S1 := by
    revert h
    cases ev P.gl (run P k) a env S with
    | exc c d S => intro h; cases h
    | no => intro h; cases h
    | ok q S2 => cases q <;> exact fun h => ⟨_, _, trivial, h⟩
  obtain ⟨y, S3, h⟩ : ∃ y S3, (match cmpop o' x y S3 with
    | some t => Out.ok (R.v (.bl t)) S3
    | none => .no) = .ok r S1 := by
    revert h
    cases ev P.gl (run P k) b env S2 with
    | exc c d S => intro h; cases h
    | no => intro h; cases h
    | ok q S2 => cases q <;> exact fun h => ⟨_, _, h⟩
  split at h
  · cases h; exact ⟨_, rfl⟩
  · cases h
theorem r_cmp {x y : Expr} {o : CmpOp} {o' : Cop} {a b : E} {pos : Pos} (c : Co P X Γ k) (ho : copOf o = some o') (hm : behindInMarks o y = false) (h1 : sE P X k x a) (h2 : sE P X k y b) : sE P X k (.Compare x [o] [y] pos) (.cmp o' a b) :=
  PEweak (pe_cmpR (cmp_ok c.hu o' o ho) h1 h2 hm) fun σ H Q h => tc_cmp (x := x) (y := y) σ H Q h
theorem t_cmp {x y : Expr} {o : CmpOp} {o' : Cop} {a b : E} {pos : Pos} (c : Co P X Γ k) (ho : copOf o = some o') (hm : behindInMarks o y = false) (h1 : sE P X k x a) (h2 : sE P X k y b) : sT P X k (.Compare x [o] [y] pos) (.cmp o' a b) :=
  PTweak (pt_cmpR (cmp_ok c.hu o' o ho) h1 h2 hm) (tT_test (fun σ H Q h => tc_cmp (x := x) (y := y) σ H Q h) (ev_bl_cmp o' a b))
theorem tc_chain {o1 o2 : Cop} {a b d : E} (σ : L2.St) (H : Hp) (Q : VK) (h : tE X.md P k (.chain o1 o2 a b d) σ H Q) : tChain (rC X.md (cmpop o1)) (rC X.md (cmpop o2)) (tE X.md P k a) (tE X.md P k b) (tE X.md P k d) σ H Q := by
  obtain ⟨ι, env, S, r, re, h⟩ := h
  simp only [ev] at h
  refine getD r re h fun ι1 S1 H1 d1 v e1 r1 re1 z1 h => ?_
  refine getD r1 re1 h fun ι2 S2 H2 d2 v2 e2 r2 re2 z2 h => ?_
  have e12 := e1.trans e2
  split at h <;> rename_i g
  · refine ⟨ι2, S2, d1, d2, _, r2, z1.mono e2.ext, z2, g, true, rfl, ?_⟩
    rw [if_pos rfl]
    refine getD r2 re2 h fun ι3 S3 H3 d3 v3 e3 r3 re3 z3 h => ?_
    split at h <;> rename_i g'
    · exact ⟨ι3, S3, d2, d3, _, r3, z2.mono e3.ext, z3, g', Post.now (Post.shift h (e12.trans e3)) r3 (by simp [Rep])⟩
    · exact h.elim
  · refine ⟨ι2, S2, d1, d2, _, r2, z1.mono e2.ext, z2, g, false, rfl, ?_⟩
    rw [if_neg (by simp)]
    exact Post.now (Post.shift h e12) r2 (by simp [Rep])
  · exact h.elim
theorem ok_bindD {α : Type} {x : Out R} {f : D → Store → Out α} {r : α} {S1 : Store} (h : bindD x f = .ok r S1) : ∃ d S2, f d S2 = .ok r S1 := by
  revert h
  cases x with
  | exc c d S => intro h; cases h
  | no => intro h; cases h
  | ok q S2 => cases q <;> exact fun h => ⟨_, _, h⟩
theorem ev_bl_chain (o1 o2 : Cop) (a b d : E) (env : Env) (S : Store) (r : R) (S1 : Store) (h : ev P.gl (run P k) (.chain o1 o2 a b d) env S = .ok r S1) : ∃ t, r = .v (.bl t) := by
  simp only [ev] at h
  obtain ⟨x, S2, h⟩ := ok_bindD h
  obtain ⟨y, S3, h⟩ := ok_bindD h
  split at h
  · obtain ⟨z, S4, h⟩ := ok_bindD h
    split at h
    · cases h; exact ⟨_, rfl⟩
    · cases h
  · cases h; exact ⟨_, rfl⟩
  · cases h
theorem r_chain {x y z : Expr} {o o2 : CmpOp} {p p2 : Cop} {a b d : E} {pos : Pos} (c : Co P X Γ k) (ho : copOf o = some p) (ho2 : copOf o2 = some p2) (hm : lastMarks [o, o2] [y, z] = false) (h1 : sE P X k x a) (h2 : sE P X k y b) (h3 : sE P X k z d) :
    sE P X k (.Compare x [o, o2] [y, z] pos) (.chain p p2 a b d) :=
  PEweak (pe_chain (cmp_ok c.hu p o ho) (cmp_ok c.hu p2 o2 ho2) h1 h2 h3 hm) fun σ H Q h => tc_chain σ H Q h
theorem t_chain {x y z : Expr} {o o2 : CmpOp} {p p2 : Cop} {a b d : E} {pos : Pos} (c : Co P X Γ k) (ho : copOf o = some p) (ho2 : copOf o2 = some p2) (hm : lastMarks [o, o2] [y, z] = false) (h1 : sE P X k x a) (h2 : sE P X k y b) (h3 : sE P X k z d) :
    sT P X k (.Compare x [o, o2] [y, z] pos) (.chain p p2 a b d) :=
  PTweak (pt_chain (cmp_ok c.hu p o ho) (cmp_ok c.hu p2 o2 ho2) h1 h2 h3 hm) (tT_test (fun σ H Q h => tc_chain σ H Q h) (ev_bl_chain p p2 a b d))
/-- x is None, x is True .. -/
theorem tc_isc {a : E} {neg : Bool} {d : D} {y : V} (hd : (d = .non ∧ y = .non) ∨ ∃ b, d = .bl b ∧ y = .bl b) (σ : L2.St) (H : Hp) (Q : VK) (h : tE X.md P k (.isc neg a d) σ H Q) : tOp (rIsc X.md neg d) (tE X.md P k a) (tC y) σ H Q := by
  obtain ⟨ι, env, S, r, re, h⟩ := h
  simp only [ev] at h
  exact getD r re h fun ι1 S1 H1 d1 v e1 r1 re1 z1 h => ⟨ι1, d1, z1, hd, Post.now (Post.shift h e1) r1 (by simp [Rep])⟩
theorem ev_bl_isc (neg : Bool) (a : E) (d : D) (env : Env) (S : Store) (r : R) (S1 : Store) (h : ev P.gl (run P k) (.isc neg a d) env S = .ok r S1) : ∃ t, r = .v (.bl t) := by
  simp only [ev] at h
  obtain ⟨x, S2, h⟩ := ok_bindD h
  cases h; exact ⟨_, rfl⟩
theorem const_cases {y : Expr} {d : D} (h : isConst y = some d) (hi : ∀ i, d ≠ .int i) (hs : ∀ i, d ≠ .str i) : ∃ v, ((d = .non ∧ v = .non) ∨ ∃ b, d = .bl b ∧ v = .bl b) ∧ PE X y (tC v) ∧ behindInMarks .Is y = false ∧ behindInMarks .IsNot y = false := by
  cases y <;> simp only [isConst] at h <;> try cases h
  rename_i c j pos
  cases c <;> simp only [cstOf, Option.some.injEq] at h <;> try cases h
  · exact ⟨.non, .inl ⟨rfl, rfl⟩, pe_non, rfl, rfl⟩
  · exact ⟨.bl _, .inr ⟨_, rfl, rfl⟩, pe_bl, rfl, rfl⟩
  · exact absurd rfl (hi _)
  · exact absurd rfl (hs _)
theorem r_is {x y : Expr} {a : E} {d : D} {pos : Pos} (h : isConst y = some d) (hi : ∀ i, d ≠ .int i) (hs : ∀ i, d ≠ .str i) (h1 : sE P X k x a) : sE P X k (.Compare x [.Is] [y] pos) (.isc false a d) := by
  obtain ⟨v, g1, g2, g3, g4⟩ := const_cases (X := X) h hi hs
  exact PEweak (pe_cmpR (isc_ok d) h1 g2 g3) fun σ H Q h => tc_isc g1 σ H Q h
theorem t_is {x y : Expr} {a : E} {d : D} {pos : Pos} (h : isConst y = some d) (hi : ∀ i, d ≠ .int i) (hs : ∀ i, d ≠ .str i) (h1 : sE P X k x a) : sT P X k (.Compare x [.Is] [y] pos) (.isc false a d) := by
  obtain ⟨v, g1, g2, g3, g4⟩ := const_cases (X := X) h hi hs
  exact PTweak (pt_cmpR (isc_ok d) h1 g2 g3) (tT_test (fun σ H Q h => tc_isc g1 σ H Q h) (ev_bl_isc _ a d))
theorem r_isnt {x y : Expr} {a : E} {d : D} {pos : Pos} (h : isConst y = some d) (hi : ∀ i, d ≠ .int i) (hs : ∀ i, d ≠ .str i) (h1 : sE P X k x a) : sE P X k (.Compare x [.IsNot] [y] pos) (.isc true a d) := by
  obtain ⟨v, g1, g2, g3, g4⟩ := const_cases (X := X) h hi hs
  exact PEweak (pe_cmpR (isnc_ok d) h1 g2 g4) fun σ H Q h => tc_isc g1 σ H Q h
theorem t_isnt {x y : Expr} {a : E} {d : D} {pos : Pos} (h : isConst y = some d) (hi : ∀ i, d ≠ .int i) (hs : ∀ i, d ≠ .str i) (h1 : sE P X k x a) : sT P X k (.Compare x [.IsNot] [y] pos) (.isc true a d) := by
  obtain ⟨v, g1, g2, g3, g4⟩ := const_cases (X := X) h hi hs
  exact PTweak (pt_cmpR (isnc_ok d) h1 g2 g4) (tT_test (fun σ H Q h => tc_isc g1 σ H Q h) (ev_bl_isc _ a d))

/-! ### a if c else b -/
theorem r_ite {c x y : Expr} {c' a b : E} {pos : Pos} (h0 : sT P X k c c') (h1 : sE P X k x a) (h2 : sE P X k y b) : sE P X k (.IfExp c x y pos) (.ite c' a b) :=
  PEweak (pe_ifExp h0 h1 h2) fun σ H Q ⟨ι, env, S, r, re, h⟩ => by
    simp only [ev] at h
    refine getT r re h fun ι1 S1 H1 t e1 r1 re1 h => ?_
    cases t with
    | true => rw [if_pos rfl]; exact ⟨ι1, env, S1, r1, re1, okk_imp h fun _ _ p => Post.shift p e1⟩
    | false => rw [if_neg (by simp)]; exact ⟨ι1, env, S1, r1, re1, okk_imp h fun _ _ p => Post.shift p e1⟩
theorem pt_ifExp {c x y : Expr} {pos : Pos} {tc ta tb : TT} (h0 : PT X c tc) (h1 : PT X x ta) (h2 : PT X y tb) : PT X (.IfExp c x y pos) (fun σ H Q => tc σ H fun t H1 => if t = true then ta σ H1 Q else tb σ H1 Q) := by
  refine ⟨fun pins s σ H Q I h => ?_⟩
  show wpAny _ _ (do if ← isTrue c X.env (eval c X.env) then isTrue x X.env (eval x X.env) else isTrue y X.env (eval y X.env)) _ _ _
  refine wpAny_bind (thn (h0.run pins s σ H _ I h) fun d s1 ⟨H1, I1, q1⟩ => ?_)
  cases d with
  | true => exact h1.run pins s1 σ H1 Q I1 q1
  | false => exact h2.run pins s1 σ H1 Q I1 q1
theorem t_ite {c x y : Expr} {c' a b : E} {pos : Pos} (h0 : sT P X k c c') (h1 : sT P X k x a) (h2 : sT P X k y b) : sT P X k (.IfExp c x y pos) (.ite c' a b) :=
  PTweak (pt_ifExp h0 h1 h2) fun σ H Q ⟨ι, env, S, r, re, h⟩ => by
    simp only [ev] at h
    rw [bindT_bindT] at h
    refine getT r re h fun ι1 S1 H1 t e1 r1 re1 h => ?_
    cases t with
    | true => rw [if_pos rfl]; exact ⟨ι1, env, S1, r1, re1, okk_imp h fun _ _ p => PostB.shift p e1⟩
    | false => rw [if_neg (by simp)]; exact ⟨ι1, env, S1, r1, re1, okk_imp h fun _ _ p => PostB.shift p e1⟩

/-! ### a[i], a[lo:hi] -/
theorem r_ix {x y : Expr} {a b : E} {pos : Pos} (c : Co P X Γ k) (hs : PlainIx y) (h1 : sE P X k x a) (h2 : sE P X k y b) : sE P X k (.Subscript x y pos) (.ix a b) :=
  PEweak (pe_ix (ix_ok c.hu) h1 h2 hs) fun σ H Q ⟨ι, env, S, r, re, h⟩ => by
    simp only [ev] at h
    refine getD r re h fun ι1 S1 H1 d v e1 r1 re1 z1 h => ?_
    refine getD r1 re1 h fun ι2 S2 H2 d2 v2 e2 r2 re2 z2 h => ?_
    cases g : getIx S2 d d2 with
    | none => rw [g] at h; exact h.elim
    | some d3 =>
      rw [g] at h
      exact ⟨ι2, S2, d, d2, d3, r2, z1.mono e2.ext, z2, g, fun v z => Post.now (Post.shift h (e1.trans e2)) r2 z⟩
theorem o_none : sO P X k none (.cst .non) := POweak po_none fun σ H Q ⟨ι, env, S, r, re, h⟩ => by
  simp only [ev] at h
  exact h ι H (Ex.refl ..) r
theorem o_some {x : Expr} {a : E} (h1 : sE P X k x a) : sO P X k (some x) a := by
  refine ⟨fun pins s σ H Q I ⟨ι, env, S, r, re, h⟩ => ?_⟩
  rw [evalPart_some]
  refine thn (h1.run pins s σ H (fun x H1 => ∃ o, ((x = .non ∧ o = none) ∨ ∃ i, x = .int i ∧ o = some i) ∧ Q o H1) I (getD r re h fun ι1 S1 H1 d v e1 r1 re1 z1 h => ?_)) fun u s1 ⟨x, H1, I1, rr, o, ho, q⟩ => ?_
  · cases d <;> simp only [partOf] at h <;> try exact h.elim
    · simp only [Rep] at z1
      exact ⟨none, .inl ⟨z1, rfl⟩, h ι1 H1 e1 r1⟩
    · simp only [Rep] at z1
      exact ⟨some _, .inr ⟨_, z1, rfl⟩, h ι1 H1 e1 r1⟩
  · rcases ho with ⟨rfl, rfl⟩ | ⟨i, rfl, rfl⟩
    · cases rr
      exact ⟨none, H1, I1, .none, q⟩
    · obtain ⟨t, rfl⟩ := rr
      exact ⟨some i, H1, I1, .int i t, q⟩
theorem r_slice {x : Expr} {lo hi : Option Expr} {a l u : E} {pos p2 : Pos} (h1 : sE P X k x a) (h2 : sO P X k lo l) (h3 : sO P X k hi u) : sE P X k (.Subscript x (.Slice lo hi none p2) pos) (.slice a l u) :=
  PEweak (pe_slice sl_ok h1 h2 h3) fun σ H Q ⟨ι, env, S, r, re, h⟩ => by
    simp only [ev] at h
    refine getD r re h fun ι1 S1 H1 d v e1 r1 re1 z1 h => ?_
    have h' : Okk ((bindD (ev P.gl (run P k) l env S1) fun d S1 => match partOf d with
        | some o => .ok o S1
        | none => .no).bind fun lo S2 => (bindD (ev P.gl (run P k) u env S2) fun d S1 => match partOf d with
        | some o => .ok o S1
        | none => .no).bind fun hi S3 => sliceOf S3 d lo hi) (Post X.md ι S H Q) := by
      revert h
      cases ev P.gl (run P k) l env S1 with
      | exc c d S => exact fun h => h.elim
      | no => exact fun h => h.elim
      | ok q S2 =>
        cases q with
        | tmp xs =>
          simp only [bindD, Out.bind, partOf]
          cases ev P.gl (run P k) u env (S2 ++ [Cell.lst xs]) with
          | exc c d S => exact fun h => h
          | no => exact fun h => h
          | ok q S3 => cases q <;> exact fun h => h
        | v d1 =>
          simp only [bindD, Out.bind]
          cases e1 : partOf d1 with
          | none =>
            cases ev P.gl (run P k) u env S2 with
            | exc c d S => exact fun h => h
            | no => exact fun h => h
            | ok q S3 => cases q <;> exact fun h => h
          | some o =>
            simp only
            cases ev P.gl (run P k) u env S2 with
            | exc c d S => exact fun h => h
            | no => exact fun h => h
            | ok q S3 =>
              cases q with
              | v d2 => cases e2 : partOf d2 <;> exact fun h => by simpa [e2] using h
              | tmp xs => exact fun h => h
    refine ⟨ι1, env, S1, r1, re1, okk_imp (okk_bind h') fun lo S2 h => fun ι2 H2 e2 r2 => ?_⟩
    refine ⟨ι2, env, S2, r2, re1.mono e2.ext, okk_imp (okk_bind h) fun hi S3 h => fun ι3 H3 e3 r3 => ?_⟩
    exact ⟨ι3, S3, d, r3, (z1.mono e2.ext).mono e3.ext, okk_imp h fun _ _ p => Post.shift p ((e1.trans e2).trans e3)⟩
end
end MP

/-! The rules of calls and methods. -/
set_option linter.all false
set_option autoImplicit false
namespace MP
open PySem PySem.Spec PyProof.Rows L2

section
variable {K : Md} {P : Prg} {k : Nat} {α : Type} {e : E} {env : Env} {S : Store} {ι : List Addr} {H : Hp} {σ : L2.St} {Φ : α → Store → Prop}
theorem dummy : True := trivial
theorem getL' {f : List D → Store → Out α} {Q : List V → Hp → Prop} (r : RelS K ι S H) (re : RelE K ι H env σ) (h : Okk (bindL (ev P.gl (run P k) e env S) f) Φ)
    (kk : ∀ ι1 S1 H1 ds vs, ev P.gl (run P k) e env S = .ok (.tmp ds) S1 → Ex K ι S H ι1 S1 H1 → RelS K ι1 S1 H1 → RelE K ι1 H1 env σ → Reps K ι1 H1 ds vs → Okk (f ds S1) Φ → Q vs H1) : tA K P k e σ H Q := by
  obtain ⟨x, S1, q, h1⟩ := okk_ex (okk_bind h)
  refine ⟨ι, env, S, r, re, ?_⟩
  rw [q]
  cases x with
  | v d => exact h1.elim
  | tmp xs => exact ⟨xs, rfl, fun ι1 H1 vs e1 r1 z => kk ι1 S1 H1 xs vs q e1 r1 (re.mono e1.ext) z h1⟩
end
theorem ev_call (G : Nat → Option D) (cl : Nat → List D → Store → Out D) (f : Nat) (a : E) (env : Env) (S : Store) : ev G cl (.call f a) env S = bindL (ev G cl a env S) fun ds S1 => (cl f ds S1).bind fun d S2 => .ok (.v d) S2 := rfl
theorem ev_cat (G : Nat → Option D) (cl : Nat → List D → Store → Out D) (a r : E) (env : Env) (S : Store) : ev G cl (.cat a r) env S = bindL (ev G cl a env S) fun xs S1 => bindL (ev G cl r env S1) fun ys S2 => .ok (.tmp (xs ++ ys)) S2 := rfl
theorem ev_meth (G : Nat → Option D) (cl : Nat → List D → Store → Out D) (m : Mt) (o a : E) (env : Env) (S : Store) : ev G cl (.meth m o a) env S = bindD (ev G cl o env S) fun x S1 => if methOn m x S1 then bindL (ev G cl a env S1) fun ds S2 => meth m x ds S2 else .no := rfl
theorem ok_bindL {α : Type} {x : Out R} {f : List D → Store → Out α} {r : α} {S1 : Store} (h : bindL x f = .ok r S1) : ∃ ds S2, x = .ok (.tmp ds) S2 ∧ f ds S2 = .ok r S1 := by
  revert h
  cases x with
  | exc c d S => intro h; cases h
  | no => intro h; cases h
  | ok q S2 =>
    cases q with
    | v d => intro h; cases h
    | tmp ds => exact fun h => ⟨ds, S2, rfl, h⟩
theorem evA_len {Γ : Cc} {G : Nat → Option D} {cl : Nat → List D → Store → Out D} : ∀ {n : Nat} {es : List Expr} {a : E} {env : Env} {S : Store} {ds : List D} {S' : Store}, cA n Γ es = some a → ev G cl a env S = .ok (.tmp ds) S' → ds.length = es.length
  | 0, _, _, _, _, _, _, h, _ => by simp [cA] at h
  | n + 1, [], _, _, _, _, _, h, h' => by
    simp only [cA, Option.some.injEq] at h
    subst h
    simp only [ev, Out.ok.injEq, R.tmp.injEq] at h'
    simp [← h'.1]
  | n + 1, e :: r, _, _, _, _, _, h, h' => by
    simp only [cA] at h
    split at h
    · rename_i a b h1 h2
      cases h
      simp only [ev] at h'
      obtain ⟨d, S2, h'⟩ := ok_bindD h'
      obtain ⟨xs, S3, h3, h'⟩ := ok_bindL h'
      cases h'
      simp [evA_len h2 h3]
    · cases h

section
variable {P : Prg} {X : Cx} {Γ : Cc} {k : Nat}
theorem run_len {f : Nat} {ds : List D} {S : Store} {Φ : D → Store → Prop} {n : Nat} (h : Okk (run P k f ds S) Φ) (hn : ∀ F, P.fn f = some F → F.np = n) : ds.length = n := by
  cases k with
  | zero => exact h.elim
  | succ k =>
    simp only [run] at h
    split at h
    · exact h.elim
    · rename_i F g
      split at h
      · rename_i e
        rw [e]; exact hn F g
      · exact h.elim
theorem spF_of {f : Nat} {ps : List Str} {ι ι1 : List Addr} {S S1 : Store} {H H1 : Hp} {Q : VK} {ds : List D} {vs : List V} (hn : ∀ F, P.fn f = some F → F.np = ps.length)
    (h : Okk ((run P k f ds S1).bind fun d S2 => .ok (R.v d) S2) (Post X.md ι S H Q)) (e1 : Ex X.md ι S H ι1 S1 H1) (r1 : RelS X.md ι1 S1 H1) (z : Reps X.md ι1 H1 ds vs) : spF X.md P k f ps vs H1 Q E0 := by
  have h := okk_bind h
  refine ⟨ι1, S1, ds, r1, z, by rw [z.len]; exact run_len h hn, okk_imp h fun d S2 p ι2 H2 v e2 r2 y => ?_⟩
  have p : Post X.md ι S H Q (.v d) S2 := p
  exact p ι2 H2 v (e1.trans e2) r2 y trivial
theorem r_call {x : Str} {f : Nat} {ps : List Str} {p pos : Pos} {n : Nat} {es : List Expr} {a : E} (c : Co P X Γ k) (hg : isGl Γ.sc x = true) (hd : (x == ("__debug__" : Str)) = false) (hf : Γ.fns.lookup x = some (f, ps)) (ha : cA n Γ es = some a) (h1 : sA P X k es a) :
    sE P X k (.Call (.Name x p) es [] pos) (.call f a) := by
  obtain ⟨ad, fd, g1, g2, g3, g4, g5, g6⟩ := c.gs.fn x f ps hf
  cases es with
  | nil =>
    refine PEweak (pe_call0 g5 c.room (c.glob hg) g1 g2 g3 .nil pass0 hd) fun σ H Q ⟨ι, env, S, r, re, h⟩ => ?_
    simp only [ev] at h
    obtain ⟨x, S1, q, h⟩ := okk_ex (okk_bind h)
    cases x with
    | v d => exact h.elim
    | tmp ds =>
      have hl := evA_len ha q
      have : ds = [] := List.eq_nil_of_length_eq_zero hl
      subst this
      cases n with
      | zero => simp [cA] at ha
      | succ n =>
        simp only [cA, Option.some.injEq] at ha
        subst ha
        simp only [ev, Out.ok.injEq, R.tmp.injEq] at q
        obtain ⟨_, rfl⟩ := q
        exact spF_of g6 h (Ex.refl ..) r (by simp [Reps])
  | cons e es =>
    cases n with
    | zero => simp [cA] at ha
    | succ n =>
      simp only [cA] at ha
      split at ha
      · rename_i a1 b1 q1 q2
        cases ha
        refine PEweak (pe_call g5 c.room (c.glob hg) g1 g2 g3 .nil pass0 h1 hd (star_of q1 es X.env) (plain_of X.env pos q2)) fun σ H Q ⟨ι, env, S, r, re, h⟩ => ?_
        rw [ev_call] at h
        refine getL r re h fun ι1 S1 H1 ds vs e1 r1 re1 z1 h => ?_
        rw [List.append_nil]
        exact spF_of g6 h e1 r1 z1
      · cases ha
abbrev sK (P : Prg) (X : Cx) (k : Nat) (e : List Keyword) (e' : E) : Prop := PK X e (tA X.md P k e')
theorem k_nil : sK P X k [] .nil := PKweak pk_nil fun σ H Q ⟨ι, env, S, r, re, h⟩ => by
  simp only [ev] at h
  obtain ⟨ds, e, h⟩ := h
  cases e
  exact h ι H [] (Ex.refl ι S H) r (by simp [Reps])
theorem k_cons {nm : Option Str} {kp : Pos} {e : Expr} {es : List Keyword} {a b : E} (h1 : sE P X k e a) (h2 : sK P X k es b) : sK P X k (⟨nm, e, kp⟩ :: es) (.cons a b) :=
  PKweak (pk_cons h1 h2) fun σ H Q ⟨ι, env, S, r, re, h⟩ => by
    simp only [ev] at h
    refine getD r re h fun ι1 S1 H1 d v e1 r1 re1 z1 h => ?_
    refine getL r1 re1 h fun ι2 S2 H2 ds vs e2 r2 re2 z2 h => ?_
    obtain ⟨xs, e, h⟩ := h
    cases e
    exact h ι2 H2 _ (e1.trans e2) r2 (Reps.cons (z1.mono e2.ext) z2)
theorem kw_facts : ∀ {kws : List Keyword} {ks : List Str} (env : PySem.Env) (pos : Pos), kwNames kws = some ks → (backToKw pos (keywordEach kws env)).all (·.1.isSome) = true ∧ (backToKw pos (keywordEach kws env)).filterMap (·.1) = ks ∧ (backToKw pos (keywordEach kws env)).any (·.1.isNone) = false
  | [], ks, env, pos, h => by
    simp only [kwNames, Option.some.injEq] at h
    subst h
    exact ⟨rfl, rfl, rfl⟩
  | ⟨some x, v, p⟩ :: r, ks, env, pos, h => by
    simp only [kwNames, Option.map_eq_some_iff] at h
    obtain ⟨l, h1, rfl⟩ := h
    obtain ⟨g1, g2, g3⟩ := kw_facts env pos h1
    refine ⟨?_, ?_, ?_⟩
    · simpa [keywordEach, backToKw] using g1
    · simpa [keywordEach, backToKw] using g2
    · simpa [keywordEach, backToKw] using g3
  | ⟨none, _, _⟩ :: _, _, _, _, h => by simp [kwNames] at h
theorem r_callK {x : Str} {f : Nat} {ps ks : List Str} {p pos : Pos} {n m : Nat} {e : Expr} {es : List Expr} {kws : List Keyword} {a b : E} (c : Co P X Γ k) (hg : isGl Γ.sc x = true) (hd : (x == ("__debug__" : Str)) = false) (hf : Γ.fns.lookup x = some (f, ps))
    (hk : kwNames kws = some ks) (ha : cA n Γ (e :: es) = some a) (hb : cA m Γ (kws.map (·.value)) = some b) (hks : ks = ps.drop (e :: es).length) (hl : (e :: es).length ≤ ps.length) (hkw : (x, (e :: es).length) ∈ Γ.kws) (h1 : sA P X k (e :: es) a) (h2 : sK P X k kws b) :
    sE P X k (.Call (.Name x p) (e :: es) kws pos) (.call f (.cat a b)) := by
  obtain ⟨ad, fd, g1, g2, g3, g4, g5, g6⟩ := c.gs.fn x f ps hf
  obtain ⟨q1, q2, q3⟩ := kw_facts X.env pos hk
  have hkl : ks.length = kws.length := by
    have : ∀ (kws : List Keyword) (ks : List Str), kwNames kws = some ks → ks.length = kws.length := by
      intro kws
      induction kws with
      | nil => intro ks h; simp only [kwNames, Option.some.injEq] at h; subst h; rfl
      | cons y r ih =>
        intro ks h
        obtain ⟨nm, v, p⟩ := y
        cases nm with
        | none => simp [kwNames] at h
        | some x =>
          simp only [kwNames, Option.map_eq_some_iff] at h
          obtain ⟨l, h1, rfl⟩ := h
          simp [ih l h1]
    exact this kws ks hk
  have hst : starEach (e :: es) X.env = (false, eval e X.env) :: starEach es X.env := by
    cases n with
    | zero => simp [cA] at ha
    | succ n =>
      simp only [cA] at ha
      split at ha
      · rename_i a1 b1 q1 q2
        exact star_of q1 es X.env
      · cases ha
  refine PEweak (pe_callN (n := (e :: es).length) (ks := ks) g5 c.room (c.glob hg) g1 g2 (hks ▸ g4 _ hkw) pass0 h1 h2 q1 q2 hd hst (by rw [plain_of X.env pos ha, q3]; rfl)) fun σ H Q ⟨ι, env, S, r, re, h⟩ => ?_
  rw [ev_call, ev_cat, bindL_bindL] at h
  refine getL' r re h fun ι1 S1 H1 ds vs y1 e1 r1 re1 z1 h => ?_
  rw [bindL_bindL] at h
  refine getL' r1 re1 h fun ι2 S2 H2 ds2 vs2 y2 e2 r2 re2 z2 h => ?_
  refine ⟨by rw [z1.len]; exact evA_len ha y1, by rw [z2.len, evA_len hb y2, hkl]; simp, ?_⟩
  exact spF_of g6 h (e1.trans e2) r2 ((z1.mono e2.ext).app z2)

/-! ### builtins -/
theorem b1Of_cases {x : Str} {b : B1} (h : b1Of x = some b) : (x = "len" ∧ b = .len) ∨ (x = "abs" ∧ b = .abs) ∨ (x = "int" ∧ b = .int) ∨ (x = "tuple" ∧ b = .tuple) ∨ (x = "list" ∧ b = .list) := by
  unfold b1Of at h
  repeat' split at h
  all_goals first
    | contradiction
    | (rename_i e; cases h; simp [e])
theorem r_bi1 {x : Str} {b : B1} {e : Expr} {a : E} {p pos : Pos} (c : Co P X Γ k) (hg : isGl Γ.sc x = true) (hb : b1Of x = some b) (hs : starEach [e] X.env = (false, eval e X.env) :: starEach [] X.env) (h1 : sE P X k e a) :
    sE P X k (.Call (.Name x p) [e] [] pos) (.bi1 b a) := by
  have w : ∀ σ H Q, tE X.md P k (.bi1 b a) σ H Q → tCB (rB1 X.md b) (tCons (tE X.md P k a) tNil) σ H Q := fun σ H Q ⟨ι, env, S, r, re, h⟩ => by
    simp only [ev] at h
    exact getR r re h fun ι1 S1 H1 y v e1 r1 re1 z n h => ⟨ι1, S1, y, v, rfl, r1, z, okk_imp h fun _ _ p => Post.shift p e1⟩
  have ha := pa_cons h1 (pa_nil (X := X)) hs
  rcases b1Of_cases hb with ⟨rfl, rfl⟩ | ⟨rfl, rfl⟩ | ⟨rfl, rfl⟩ | ⟨rfl, rfl⟩ | ⟨rfl, rfl⟩
  · exact PEweak (pe_callB len_ok (c.glob hg) (c.gs.bl _ (by decide)) PySem.boot_len ha (by decide) (by decide) hs rfl) w
  · exact PEweak (pe_callB abs_ok (c.glob hg) (c.gs.bl _ (by decide)) boot_abs ha (by decide) (by decide) hs rfl) w
  · exact PEweak (pe_callTy int_ok (c.glob hg) (c.gs.bl _ (by decide)) PyProof.Rows.boot_int ha (by decide) (by decide) hs rfl) w
  · exact PEweak (pe_callTy tuple_ok (c.glob hg) (c.gs.bl _ (by decide)) PyProof.Rows.boot_tuple ha (by decide) (by decide) hs rfl) w
  · exact PEweak (pe_callTy list_ok (c.glob hg) (c.gs.bl _ (by decide)) PyProof.Rows.boot_list ha (by decide) (by decide) hs rfl) w
theorem b2Of_cases {x : Str} {b : B2} (h : b2Of x = some b) : (x = "min" ∧ b = .min) ∨ (x = "max" ∧ b = .max) := by
  unfold b2Of at h
  repeat' split at h
  all_goals first
    | contradiction
    | (rename_i e; cases h; simp [e])
theorem r_bi2 {x : Str} {b : B2} {e e2 : Expr} {a a2 : E} {p pos : Pos} (c : Co P X Γ k) (hg : isGl Γ.sc x = true) (hb : b2Of x = some b) (hs : starEach [e, e2] X.env = (false, eval e X.env) :: starEach [e2] X.env) (hs2 : starEach [e2] X.env = (false, eval e2 X.env) :: starEach [] X.env)
    (h1 : sE P X k e a) (h2 : sE P X k e2 a2) : sE P X k (.Call (.Name x p) [e, e2] [] pos) (.bi2 b a a2) := by
  have w : ∀ σ H Q, tE X.md P k (.bi2 b a a2) σ H Q → tCB (rB2 X.md b) (tCons (tE X.md P k a) (tCons (tE X.md P k a2) tNil)) σ H Q := fun σ H Q ⟨ι, env, S, r, re, h⟩ => by
    simp only [ev] at h
    refine getD r re h fun ι1 S1 H1 d v e1 r1 re1 z h => getD r1 re1 h fun ι2 S2 H2 d2 v2 e2 r2 re2 z2 h => ?_
    exact ⟨ι2, S2, d, d2, v, v2, rfl, r2, z.mono e2.ext, z2, okk_imp h fun _ _ p => Post.shift p (e1.trans e2)⟩
  have ha := pa_cons h1 (pa_cons h2 (pa_nil (X := X)) hs2) hs
  have hpl : (backTo pos (starEach [e2] X.env)).any (·.1) = false := by rw [hs2]; rfl
  rcases b2Of_cases hb with ⟨rfl, rfl⟩ | ⟨rfl, rfl⟩
  · exact PEweak (pe_callB (min_ok c.calm) (c.glob hg) (c.gs.bl _ (by decide)) boot_min ha (by decide) (by decide) hs hpl) w
  · exact PEweak (pe_callB (max_ok c.calm) (c.glob hg) (c.gs.bl _ (by decide)) boot_max ha (by decide) (by decide) hs hpl) w
theorem ty_cases {y : Str} {t : Ty} (h : tyOfName y = some t) : t ≠ .none ∧ y ∈ blts ∧ bootBuiltins y = some (.type (tyName t)) ∧ y ≠ "__name__" := by
  unfold tyOfName at h
  repeat' split at h
  all_goals first
    | contradiction
    | (rename_i e; cases h; subst e; exact ⟨by decide, by decide, by first | exact PyProof.Rows.boot_int | exact PyProof.Rows.boot_bool | exact PyProof.Rows.boot_str | exact PyProof.Rows.boot_tuple | exact PyProof.Rows.boot_list, by decide⟩)
theorem r_isi {y : Str} {t : Ty} {e : Expr} {a : E} {p py pos : Pos} (c : Co P X Γ k) (hg : isGl Γ.sc "isinstance" = true) (hgy : isGl Γ.sc y = true) (hdy : (y == ("__debug__" : Str)) = false) (ht : tyOfName y = some t)
    (hs : ∀ es, starEach (e :: es) X.env = (false, eval e X.env) :: starEach es X.env) (h1 : sE P X k e a) : sE P X k (.Call (.Name "isinstance" p) [e, .Name y py] [] pos) (.isi a [t]) := by
  obtain ⟨g1, g2, g3, g4⟩ := ty_cases ht
  have hb : PE X (.Name y py) (tC (.ty (tyName t))) := pe_bltn (u := .type (tyName t)) (c.glob hgy) (c.gs.bl _ g2) g3 rfl g4 hdy
  refine PEweak (pe_callB (isi_ok t g1) (c.glob hg) (c.gs.bl _ (by decide)) boot_isinstance (pa_cons h1 (pa_cons hb pa_nil rfl) (hs _)) (by decide) (by decide) (hs _) rfl) fun σ H Q ⟨ι, env, S, r, re, h⟩ => ?_
  simp only [ev] at h
  refine getD r re h fun ι1 S1 H1 d v e1 r1 re1 z h => ?_
  split at h <;> rename_i g
  · rename_i t'
    refine ⟨ι1, S1, d, v, t', rfl, r1, z, g, ?_⟩
    exact Post.now (v := .bl (isTy t' t)) (Post.shift h e1) r1 (by simp [Rep])
  · exact h.elim
theorem rg_reps {K : Md} (ι : List Addr) (H : Hp) : ∀ (n : Nat) (lo : Int), Reps K ι H (rangeL lo n) ((List.range n).map fun i => V.int (lo + (i : Nat)))
  | 0, lo => by simp [rangeL, Reps]
  | n + 1, lo => by
    rw [List.range_succ_eq_map, List.map_cons, List.map_map]
    have := rg_reps (K := K) ι H n (lo + 1)
    simp only [rangeL]
    refine Reps.cons (by simp [Rep]) ?_
    have e : ((fun i : Nat => V.int (lo + (i : Nat))) ∘ Nat.succ) = fun i : Nat => V.int (lo + 1 + (i : Nat)) := by
      funext i
      simp only [Function.comp, Nat.succ_eq_add_one, V.int.injEq]
      omega
    rw [e]
    exact this
theorem r_rg {x : Str} {e : Expr} {a : E} {p p2 pos pos2 : Pos} (c : Co P X Γ k) (hx : x = "list" ∨ x = "tuple") (hg : isGl Γ.sc x = true) (hgr : isGl Γ.sc "range" = true) (hs : starEach [e] X.env = (false, eval e X.env) :: starEach [] X.env) (h1 : sE P X k e a) :
    sE P X k (.Call (.Name x p) [.Call (.Name "range" p2) [e] [] pos2] [] pos) (.bi1 (if x == ("list" : Str) then .lrange else .trange) a) := by
  have pr := prg_1 (p := p2) (pos := pos2) (c.glob hgr) (c.gs.bl _ (by decide)) h1 hs
  have far2 : (2:Int)^62 = far := by decide
  rcases hx with rfl | rfl
  · refine PEweak (pe_listRg c.calm (c.glob hg) (c.gs.bl _ (by decide)) pr rfl) fun σ H Q ⟨ι, env, S, r, re, h⟩ => ?_
    simp only [ev] at h
    refine getR r re h fun ι1 S1 H1 y v e1 r1 re1 z n h => ?_
    replace h : Okk (bi1 .lrange y S1) _ := h
    cases y with
    | tmp xs => exact h.elim
    | v d =>
      cases d <;> try exact h.elim
      rename_i j
      simp only [RepR, Rep] at z
      simp only [bi1] at h
      split at h <;> rename_i g
      · simp only [Bool.and_eq_true, decide_eq_true_eq] at g
        refine ⟨j, z, ⟨by decide, by decide, by omega, by omega, ?_⟩, fun q hq => Post.newL (Post.shift h e1) r1 ?_ hq⟩
        · have := g.2; simp only [line] at this; omega
        · have := rg_reps (K := X.md) ι1 H1 j.toNat 0
          unfold rgV
          simpa using this
      · exact h.elim
  · refine PEweak (pe_tupRg c.calm (c.glob hg) (c.gs.bl _ (by decide)) pr rfl) fun σ H Q ⟨ι, env, S, r, re, h⟩ => ?_
    simp only [ev] at h
    refine getR r re h fun ι1 S1 H1 y v e1 r1 re1 z n h => ?_
    replace h : Okk (bi1 .trange y S1) _ := h
    cases y with
    | tmp xs => exact h.elim
    | v d =>
      cases d <;> try exact h.elim
      rename_i j
      simp only [RepR, Rep] at z
      simp only [bi1] at h
      split at h <;> rename_i g
      · simp only [Bool.and_eq_true, decide_eq_true_eq] at g
        refine ⟨j, z, ⟨by decide, by decide, by omega, by omega, ?_⟩, fun q hq => Post.newT (Post.shift h e1) r1 ?_ hq⟩
        · have := g.2; simp only [line] at this; omega
        · have := rg_reps (K := X.md) ι1 H1 j.toNat 0
          unfold rgV
          simpa using this
      · exact h.elim

/-! ### methods -/
def tMt (T : V → Hp → Prop) (r : V → List V → Hp → VK → Prop) (to : TE) (t : TA) : TE := fun σ H Q => to σ H fun x H1 => T x H1 ∧ t σ H1 fun xs H2 => r x xs H2 Q
def TyP (X : Cx) (T : String) (ty : V → Hp → Prop) : Prop := ∀ (pins : List (Addr × Obj)) (σ : L2.St) (H : Hp) (s : Shared) (x : V) (v : Value), Inv X pins σ H s → RelV x v → ty x H → s.TypeIs v T ∧ ∀ a, v = .ref a → ∃ ob, s.heap.get? a = some ob ∧ ob.dict = none
theorem pe_bmT {o e : Expr} {es : List Expr} {to : TE} {t : TA} {name : Str} {apos cpos : Pos} {T id : String} {r : V → List V → Hp → VK → Prop} {ty : V → Hp → Prop} (hT : TyP X T ty) (pa : PlainAttrs T) (slot : Slot T name id) (hty : typeOf (.builtin id) = pure (.type "method_descriptor")) (hm : MtR X id r) (ho : PE X o to) (ha : PA X (e :: es) t)
    (hbase : attributeBase o name X.env (eval o X.env) = eval o X.env)
    (hfew : ((backTo cpos (starEach (e :: es) X.env)).all (fun x => !x.1) && (backToKw cpos (keywordEach [] X.env)).all (fun x => x.1.isSome)
      && decide ((e :: es).length + ([] : List Keyword).length + (if ([] : List Keyword).isEmpty then 0 else 1) < 30)) = true)
    (hline : (apos.endLine == cpos.line) = true) (hs : starEach (e :: es) X.env = (false, eval e X.env) :: starEach es X.env) (hplain : (backTo cpos (starEach es X.env)).any (·.1) = false) :
    PE X (.Call (.Attribute o name apos) (e :: es) [] cpos) (tMt ty r to t) := by
  refine ⟨fun pins s σ H Q I h => ?_⟩
  refine wpAny_Call_method_late hbase hfew hline rfl (thn (ho.run pins s σ H _ I h) fun v s1 ⟨x, H1, I1, r1, y, q1⟩ => ?_)
  obtain ⟨h1, h2⟩ := hT pins σ H1 s1 x v I1 r1 y
  refine ⟨T, id, pa, slot, hty, h1, h2, ?_⟩
  have hA := ha.run cpos pins s1 σ H1 _ I1 q1
  rw [hs] at hA ⊢
  refine Calls.callWith_builtin (by show (false || (backTo cpos (starEach es X.env)).any (·.1)) = false; rw [hplain]; rfl) (Calls.evalArgs_plain (thn hA fun us s2 ⟨vs, H2, I2, r2, q2⟩ => hm pins s2 σ H2 x vs v us Q I2 r1 r2 q2))
theorem pe_bmT0 {o : Expr} {to : TE} {name : Str} {apos cpos : Pos} {T id : String} {r : V → List V → Hp → VK → Prop} {ty : V → Hp → Prop} (hT : TyP X T ty) (pa : PlainAttrs T) (slot : Slot T name id) (hty : typeOf (.builtin id) = pure (.type "method_descriptor")) (hm : MtR X id r) (ho : PE X o to)
    (hbase : attributeBase o name X.env (eval o X.env) = eval o X.env) (hline : (apos.endLine == cpos.line) = true) : PE X (.Call (.Attribute o name apos) [] [] cpos) (tMt ty r to tNil) := by
  refine ⟨fun pins s σ H Q I h => ?_⟩
  refine wpAny_Call_method0_late hbase hline (thn (ho.run pins s σ H _ I h) fun v s1 ⟨x, H1, I1, r1, y, q1⟩ => ?_)
  obtain ⟨h1, h2⟩ := hT pins σ H1 s1 x v I1 r1 y
  exact ⟨T, id, pa, slot, hty, h1, h2, Calls.callWith_builtin rfl (PySem.evalArgs_none (hm pins s1 σ H1 x [] v [] Q I1 r1 .nil q1))⟩
/-- of the type that a method is asked of -/
def tyM (K : Md) (m : Mt) : V → Hp → Prop := fun x H => ∃ ι S d, RelS K ι S H ∧ Rep K ι H d x ∧ methOn m d S = true
theorem tyM_l {m : Mt} (hm : m = .append ∨ m = .pop0) : TyP X "list" (tyM X.md m) := by
  intro pins σ H s x v I rx ⟨ι, S, d, r, z, h⟩
  cases d <;> simp only [methOn] at h <;> try cases h
  rename_i n
  split at h <;> rename_i g
  · obtain ⟨a, e1, e2, vs, e3, e4⟩ := r.at z g
    subst e1
    exact tyV_is I rx (.inl ⟨rfl, vs, SqL.of e3⟩)
  · obtain ⟨a, e1, e2, vs, e3, e4⟩ := r.at z g
    subst e1
    exact tyV_is I rx (.inl ⟨rfl, vs, SqL.of e3⟩)
  all_goals first | contradiction | (rcases hm with h | h <;> contradiction)
theorem tyM_d : TyP X "dict" (tyM X.md .setdefault) := by
  intro pins σ H s x v I rx ⟨ι, S, d, r, z, h⟩
  cases d <;> simp only [methOn] at h <;> try cases h
  rename_i n
  split at h
  all_goals first
    | contradiction
    | (obtain ⟨a, e1, e2, e3⟩ := r.at z (by assumption)
       subst e1
       cases rx
       exact d_type I e3)
theorem mt_cases {m : Str} {n : Nat} {k : Mt} (h : mtOf m n = some k) : (m = "append" ∧ n = 1 ∧ k = .append) ∨ (m = "setdefault" ∧ n = 2 ∧ k = .setdefault) ∨ (m = "pop" ∧ n = 0 ∧ k = .pop0) := by
  unfold mtOf at h
  repeat' split at h
  all_goals first
    | contradiction
    | (rename_i e; cases h; simp [e])
theorem base_of {o : Expr} (h : plainBase o = true) (name : Str) (env : PySem.Env) : attributeBase o name env (eval o env) = eval o env := by
  cases o <;> simp only [plainBase] at h <;> try cases h
  all_goals rfl
theorem r_meth {m : Str} {t : Mt} {o : Expr} {es : List Expr} {apos cpos : Pos} {n : Nat} {a b : E} (c : Co P X Γ k) (hb : plainBase o = true) (hl : (apos.endLine == cpos.line) = true) (hm : mtOf m es.length = some t) (ha : cA n Γ es = some b) (h1 : sE P X k o a) (h2 : sA P X k es b) :
    sE P X k (.Call (.Attribute o m apos) es [] cpos) (.meth t a b) := by
  have w : ∀ {tb : TA}, (∀ σ H Q, tA X.md P k b σ H Q → tb σ H Q) → ∀ σ H Q, tE X.md P k (.meth t a b) σ H Q → tMt (tyM X.md t) (rM X.md t) (tE X.md P k a) tb σ H Q := fun wb σ H Q ⟨ι, env, S, r, re, h⟩ => by
    rw [ev_meth] at h
    refine getD r re h fun ι1 S1 H1 d v e1 r1 re1 z1 h => ?_
    split at h <;> rename_i g
    · refine ⟨⟨ι1, S1, d, r1, z1, g⟩, wb _ _ _ (getL r1 re1 h fun ι2 S2 H2 ds vs e2 r2 re2 z2 h => ?_)⟩
      exact ⟨ι2, S2, d, ds, r2, z1.mono e2.ext, z2, okk_imp h fun _ _ p => Post.shift p (e1.trans e2)⟩
    · exact h.elim
  have hst : ∀ e r, es = e :: r → starEach (e :: r) X.env = (false, eval e X.env) :: starEach r X.env ∧ (backTo cpos (starEach r X.env)).any (·.1) = false := fun e r he => by
    subst he
    cases n with
    | zero => simp [cA] at ha
    | succ n =>
      simp only [cA] at ha
      split at ha
      · rename_i a1 b1 q1 q2
        exact ⟨star_of q1 r X.env, plain_of X.env cpos q2⟩
      · cases ha
  have hfe := few_of X.env cpos ha
  rcases mt_cases hm with ⟨rfl, hn, rfl⟩ | ⟨rfl, hn, rfl⟩ | ⟨rfl, hn, rfl⟩
  · obtain ⟨e, rfl⟩ : ∃ e, es = [e] := by
      cases es with
      | nil => cases hn
      | cons e r => cases r with
        | nil => exact ⟨e, rfl⟩
        | cons => cases hn
    obtain ⟨g1, g2⟩ := hst e [] rfl
    exact PEweak (pe_bmT (tyM_l (.inl rfl)) F.plainAttrs_list F.slot_list_append F.type_list_append append_ok h1 h2 (base_of hb _ _) (by rw [hfe]; rfl) hl g1 g2) (w fun _ _ _ h => h)
  · obtain ⟨e, e2, rfl⟩ : ∃ e e2, es = [e, e2] := by
      cases es with
      | nil => cases hn
      | cons e r => cases r with
        | nil => cases hn
        | cons e2 r => cases r with
          | nil => exact ⟨e, e2, rfl⟩
          | cons => cases hn
    obtain ⟨g1, g2⟩ := hst e [e2] rfl
    exact PEweak (pe_bmT tyM_d F.plainAttrs_dict F.slot_dict_setdefault F.type_dict_setdefault (setdefault_ok c.hu) h1 h2 (base_of hb _ _) (by rw [hfe]; rfl) hl g1 g2) (w fun _ _ _ h => h)
  · have : es = [] := List.eq_nil_of_length_eq_zero hn
    subst this
    refine PEweak (pe_bmT0 (tyM_l (.inr rfl)) F.plainAttrs_list F.slot_list_pop F.type_list_pop pop0_ok h1 (base_of hb _ _) hl) (w fun σ H Q h => ?_)
    cases n with
    | zero => simp [cA] at ha
    | succ n =>
      simp only [cA, Option.some.injEq] at ha
      subst ha
      obtain ⟨ι, env, S, r, re, h⟩ := h
      simp only [ev] at h
      obtain ⟨ds, e, h⟩ := h
      cases e
      exact h ι H [] (Ex.refl ι S H) r (by simp [Reps])
end
end MP

/-! Walks: sources, comprehensions. -/
set_option linter.all false
set_option autoImplicit false
namespace MP
open PySem PySem.Spec PyProof.Rows L2

mutual
theorem same_eq : ∀ {x y : D}, D.same x y = true → x = y
  | .non, .non, _ => rfl
  | .bl a, .bl b, h => by simp only [D.same, beq_iff_eq] at h; rw [h]
  | .int a, .int b, h => by simp only [D.same, decide_eq_true_eq] at h; rw [h]
  | .str a, .str b, h => by simp only [D.same, decide_eq_true_eq] at h; rw [h]
  | .tup xs, .tup ys, h => by simp only [D.same] at h; rw [sames_eq h]
  | .loc a, .loc b, h => by simp only [D.same, beq_iff_eq] at h; rw [h]
  | .non, .bl _, h | .non, .int _, h | .non, .str _, h | .non, .tup _, h | .non, .loc _, h => by simp [D.same] at h
  | .bl _, .non, h | .bl _, .int _, h | .bl _, .str _, h | .bl _, .tup _, h | .bl _, .loc _, h => by simp [D.same] at h
  | .int _, .non, h | .int _, .bl _, h | .int _, .str _, h | .int _, .tup _, h | .int _, .loc _, h => by simp [D.same] at h
  | .str _, .non, h | .str _, .bl _, h | .str _, .int _, h | .str _, .tup _, h | .str _, .loc _, h => by simp [D.same] at h
  | .tup _, .non, h | .tup _, .bl _, h | .tup _, .int _, h | .tup _, .str _, h | .tup _, .loc _, h => by simp [D.same] at h
  | .loc _, .non, h | .loc _, .bl _, h | .loc _, .int _, h | .loc _, .str _, h | .loc _, .tup _, h => by simp [D.same] at h
theorem sames_eq : ∀ {xs ys : List D}, D.sames xs ys = true → xs = ys
  | [], [], _ => rfl
  | x :: r, y :: s, h => by
    simp only [D.sames, Bool.and_eq_true] at h
    rw [same_eq h.1, sames_eq h.2]
  | [], _ :: _, h => by simp [D.sames] at h
  | _ :: _, [], h => by simp [D.sames] at h
end

section
variable {K : Md}
theorem over {ι0 ι : List Addr} {S0 S : Store} {H0 H : Hp} {p : Addr} {o : HO} (e : Ex K ι0 S0 H0 ι S H) (r : RelS K ι S H) (h0 : H0 p = none) (hm : Mut (H p)) (hf : Fresh ι S p) : Ex K ι0 S0 H0 ι S (upd H p o) ∧ RelS K ι S (upd H p o) :=
  ⟨⟨e.ext.trans (Ext.upd' ι (.inr hm)), fun b hb fb => by
    have := e.frame b hb fb
    rw [upd_ne (by rintro rfl; exact hb h0)]
    exact this, fun b hb => upd_was (e.was b hb)⟩,
   ⟨r.len, fun n c a g1 g2 => (r.cell n c a g1 g2).other (Ext.upd' ι (.inr hm)) (.inr hm) fun w => hf n a c g2 g1 w, r.inj⟩⟩

/-- what a walk finds, whatever is done meanwhile -/
structure Src (K : Md) (J : It) (xs : List D) (g : Guard) (ι : List Addr) (S : Store) (H : Hp) : Prop where
  go : ∀ ι' S' H' i, Ex K ι S H ι' S' H' → RelS K ι' S' H' → guardOk g S' = true → i < xs.length →
    J.go i H' ∧ ∀ v H'', J.yld i H' v H'' → Ex K ι' S' H' ι' S' H'' ∧ RelS K ι' S' H'' ∧ ∃ d, xs[i]? = some d ∧ Rep K ι' H'' d v
  stop : ∀ ι' S' H', Ex K ι S H ι' S' H' → RelS K ι' S' H' → guardOk g S' = true → J.stop xs.length H'
def Later (K : Md) (g : Guard) (ι : List Addr) (S : Store) (H : Hp) (F : List Addr → Store → Hp → Prop) : Prop := ∀ ι' S' H', Ex K ι S H ι' S' H' → RelS K ι' S' H' → guardOk g S' = true → F ι' S' H'
theorem items_keep {ι : List Addr} {S : Store} {H : Hp} {x : R} {v : V} {xs : List D} (r : RelS K ι S H) (h : RepR K ι S H x v) (hs : itemsOf S x = some xs) : ∃ a, v = .ref a ∧
    ((isTupR x = true ∧ (∃ vs, SqT K.K H a vs) ∧ Later K (guardOf S x) ι S H fun ι' _ H' => ∃ vs, SqT K.K H' a vs ∧ Reps K ι' H' xs vs) ∨
     (isTupR x = false ∧ (∃ vs, SqL K.K H a vs) ∧ Later K (guardOf S x) ι S H fun ι' _ H' => ∃ vs, SqL K.K H' a vs ∧ Reps K ι' H' xs vs)) := by
  cases x with
  | tmp ys =>
    simp only [itemsOf, Option.some.injEq] at hs
    subst hs
    obtain ⟨p, vs, e1, e2, e3, e4⟩ := h
    refine ⟨p, e1, .inr ⟨rfl, ⟨vs, SqL.of e2⟩, fun ι' S' H' e r' _ => ⟨vs, SqL.of ?_, e3.mono e.ext⟩⟩⟩
    rw [(e.frame p (by rw [e2]; simp) e4).1, e2]
  | v d =>
    cases d <;> simp only [itemsOf, seqOf] at hs <;> try cases hs
    · simp only [RepR, Rep] at h
      obtain ⟨a, vs, e1, e2, e3⟩ := h
      exact ⟨a, e1, .inl ⟨rfl, ⟨vs, e2⟩, fun ι' S' H' e r' _ => ⟨vs, e.ext.tup a vs e2, e3.mono e.ext⟩⟩⟩
    · rename_i n
      split at hs <;> rename_i g
      · cases hs
        obtain ⟨a, e1, e2, vs, e3, e4⟩ := r.at h g
        refine ⟨a, e1, .inr ⟨rfl, ⟨vs, SqL.of e3⟩, fun ι' S' H' e r' gk => ?_⟩⟩
        simp only [guardOf, g, guardOk, List.all_cons, List.all_nil, Bool.and_true] at gk
        split at gk
        · rename_i ys' g'
          have := sames_eq gk
          subst this
          obtain ⟨vs', h1, h2⟩ := r'.cell n _ a g' (e.ext.pre n a e2)
          exact ⟨vs', SqL.of h1, h2⟩
        · cases gk
      · cases hs
        obtain ⟨a, e1, e2, e3⟩ := r.at h g
        refine ⟨a, e1, .inr ⟨rfl, ?_, fun ι' S' H' e r' gk => ?_⟩⟩
        · rcases e3 with ⟨o, vs, h1, h2⟩ | ⟨vs, h1, h2⟩
          · exact ⟨vs, .inl (.inr ⟨o, h1⟩)⟩
          · exact ⟨vs, h1 H⟩
        rcases e3 with ⟨o, vs, h1, h2⟩ | ⟨vs, h1, h2⟩
        · have hf : Fresh ι S a := fun n' a' c g1 g2 w z => by
            have m := (r.cell n' c a' g2 g1).mut w
            rw [z, h1] at m
            exact m
          exact ⟨vs, .inl (.inr ⟨o, by rw [(e.frame a (by rw [h1]; simp) hf).1]; exact h1⟩), h2.mono e.ext⟩
        · exact ⟨vs, h1 H', h2 ι' H'⟩
      · cases hs

theorem enumL_get : ∀ (xs : List D) (n i : Nat), (enumL n xs)[i]? = (xs[i]?).map fun d => .tup [.int ((n + i : Nat) : Int), d]
  | [], _, _ => by simp [enumL]
  | x :: r, n, 0 => by simp [enumL]
  | x :: r, n, i + 1 => by
    simp only [enumL, List.getElem?_cons_succ]
    rw [enumL_get r (n + 1) i]
    have : n + 1 + i = n + (i + 1) := by omega
    rw [this]
theorem enumL_len : ∀ (xs : List D) (n : Nat), (enumL n xs).length = xs.length
  | [], _ => rfl
  | x :: r, n => by simp [enumL, enumL_len r]
theorem zipL_len : ∀ (xs ys : List D), (zipL xs ys).length = min xs.length ys.length
  | x :: r, y :: s => by simp only [zipL, List.length_cons, zipL_len r s]; omega
  | [], _ => by simp [zipL]
  | _ :: _, [] => by simp [zipL]
theorem zipL_get : ∀ (xs ys : List D) (i : Nat) (x y : D), xs[i]? = some x → ys[i]? = some y → (zipL xs ys)[i]? = some (.tup [x, y])
  | x :: r, y :: s, 0, _, _, h1, h2 => by simp at h1 h2; subst h1 h2; rfl
  | x :: r, y :: s, i + 1, _, _, h1, h2 => by simp only [zipL, List.getElem?_cons_succ] at *; exact zipL_get r s i _ _ h1 h2
  | [], _, _, _, _, h1, _ => by simp at h1
  | _ :: _, [], _, _, _, _, h2 => by simp at h2
theorem rangeL_len : ∀ (n : Nat) (lo : Int), (rangeL lo n).length = n
  | 0, _ => rfl
  | n + 1, lo => by simp [rangeL, rangeL_len n]
theorem rangeL_get : ∀ (n : Nat) (lo : Int) (i : Nat), i < n → (rangeL lo n)[i]? = some (.int (lo + i))
  | n + 1, lo, 0, _ => by simp [rangeL]
  | n + 1, lo, i + 1, h => by
    simp only [rangeL, List.getElem?_cons_succ]
    rw [rangeL_get n (lo + 1) i (by omega)]
    congr 2
    omega
theorem reps_some {ι : List Addr} {H : Hp} {ds : List D} {vs : List V} {i : Nat} (h : Reps K ι H ds vs) (hi : i < ds.length) : ∃ d v, ds[i]? = some d ∧ vs[i]? = some v ∧ Rep K ι H d v := by
  obtain ⟨v, e1, e2⟩ := h.get (i := i) (d := ds[i]) (by simp [hi])
  exact ⟨ds[i], v, by simp [hi], e1, e2⟩
theorem src_l {ι : List Addr} {S : Store} {H : Hp} {xs : List D} {g : Guard} {a : Addr} (h : Later K g ι S H fun ι' _ H' => ∃ vs, SqL K.K H' a vs ∧ Reps K ι' H' xs vs) : Src K (Itl K.K a) xs g ι S H where
  go := fun ι' S' H' i e r gk hi => by
    obtain ⟨vs, h1, h2⟩ := h ι' S' H' e r gk
    obtain ⟨d, v, e1, e2, e3⟩ := reps_some h2 hi
    exact ⟨⟨vs, v, h1, e2⟩, fun v' H'' ⟨q1, q2⟩ => by
      subst q1
      have := q2 vs h1
      rw [e2] at this
      cases this
      exact ⟨Ex.refl .., r, d, e1, e3⟩⟩
  stop := fun ι' S' H' e r gk => by
    obtain ⟨vs, h1, h2⟩ := h ι' S' H' e r gk
    exact ⟨vs, h1, by rw [h2.len]; exact Nat.le_refl _⟩
theorem src_t {ι : List Addr} {S : Store} {H : Hp} {xs : List D} {g : Guard} {a : Addr} (h : Later K g ι S H fun ι' _ H' => ∃ vs, SqT K.K H' a vs ∧ Reps K ι' H' xs vs) : Src K (Itt K.K a) xs g ι S H where
  go := fun ι' S' H' i e r gk hi => by
    obtain ⟨vs, h1, h2⟩ := h ι' S' H' e r gk
    obtain ⟨d, v, e1, e2, e3⟩ := reps_some h2 hi
    exact ⟨⟨vs, v, h1, e2⟩, fun v' H'' ⟨q1, q2⟩ => by
      subst q1
      have := q2 vs h1
      rw [e2] at this
      cases this
      exact ⟨Ex.refl .., r, d, e1, e3⟩⟩
  stop := fun ι' S' H' e r gk => by
    obtain ⟨vs, h1, h2⟩ := h ι' S' H' e r gk
    exact ⟨vs, h1, by rw [h2.len]; exact Nat.le_refl _⟩
theorem pair_new {ι : List Addr} {S : Store} {H : Hp} {T : Addr} {d1 d2 : D} {v1 v2 : V} (r : RelS K ι S H) (hT : H T = none) (h1 : Rep K ι H d1 v1) (h2 : Rep K ι H d2 v2) :
    Ex K ι S H ι S (upd H T (.tup [v1, v2])) ∧ RelS K ι S (upd H T (.tup [v1, v2])) ∧ Rep K ι (upd H T (.tup [v1, v2])) (.tup [d1, d2]) (.ref T) := by
  have e : Ex K ι S H ι S (upd H T (.tup [v1, v2])) := Ex.new hT
  refine ⟨e, r.new hT, ?_⟩
  simp only [Rep]
  exact ⟨T, [v1, v2], rfl, SqT.of upd_same, Reps.cons (h1.mono e.ext) (Reps.cons (h2.mono e.ext) (by simp [Reps]))⟩
theorem src_e {ι : List Addr} {S : Store} {H : Hp} {xs : List D} {g : Guard} {a : Addr} (h : Later K g ι S H fun ι' _ H' => ∃ vs, SqL K.K H' a vs ∧ Reps K ι' H' xs vs) : Src K (Ite K.K a) (enumL 0 xs) g ι S H where
  go := fun ι' S' H' i e r gk hi => by
    obtain ⟨vs, h1, h2⟩ := h ι' S' H' e r gk
    rw [enumL_len] at hi
    obtain ⟨d, v, e1, e2, e3⟩ := reps_some h2 hi
    exact ⟨⟨vs, v, h1, e2⟩, fun v' H'' ⟨T, x, q1, q2, q3, q4⟩ => by
      subst q1 q3
      have := q4 vs h1
      rw [e2] at this
      cases this
      obtain ⟨w1, w2, w3⟩ := pair_new (d1 := .int ((0 + i : Nat) : Int)) (v1 := .int (i : Nat)) r q2 (by simp [Rep]) e3
      exact ⟨w1, w2, _, by rw [enumL_get, e1]; rfl, w3⟩⟩
  stop := fun ι' S' H' e r gk => by
    obtain ⟨vs, h1, h2⟩ := h ι' S' H' e r gk
    exact ⟨vs, h1, by rw [h2.len, enumL_len]; exact Nat.le_refl _⟩
theorem src_eT {ι : List Addr} {S : Store} {H : Hp} {xs : List D} {g : Guard} {a : Addr} (h : Later K g ι S H fun ι' _ H' => ∃ vs, SqT K.K H' a vs ∧ Reps K ι' H' xs vs) : Src K (IteT K.K a) (enumL 0 xs) g ι S H where
  go := fun ι' S' H' i e r gk hi => by
    obtain ⟨vs, h1, h2⟩ := h ι' S' H' e r gk
    rw [enumL_len] at hi
    obtain ⟨d, v, e1, e2, e3⟩ := reps_some h2 hi
    exact ⟨⟨vs, v, h1, e2⟩, fun v' H'' ⟨T, x, q1, q2, q3, q4⟩ => by
      subst q1 q3
      have := q4 vs h1
      rw [e2] at this
      cases this
      obtain ⟨w1, w2, w3⟩ := pair_new (d1 := .int ((0 + i : Nat) : Int)) (v1 := .int (i : Nat)) r q2 (by simp [Rep]) e3
      exact ⟨w1, w2, _, by rw [enumL_get, e1]; rfl, w3⟩⟩
  stop := fun ι' S' H' e r gk => by
    obtain ⟨vs, h1, h2⟩ := h ι' S' H' e r gk
    exact ⟨vs, h1, by rw [h2.len, enumL_len]⟩
theorem src_r {ι : List Addr} {S : Store} {H : Hp} (lo : Int) (n : Nat) : Src K (Itr lo n) (rangeL lo n) [] ι S H where
  go := fun ι' S' H' i e r gk hi => by
    rw [rangeL_len] at hi
    exact ⟨hi, fun v H'' ⟨q1, q2⟩ => by
      subst q1 q2
      exact ⟨Ex.refl .., r, _, rangeL_get n lo i hi, by simp [Rep]⟩⟩
  stop := fun ι' S' H' e r gk => by
    show n ≤ (rangeL lo n).length
    rw [rangeL_len]; exact Nat.le_refl _
theorem guard_app {g1 g2 : Guard} {S : Store} (h : guardOk (g1 ++ g2) S = true) : guardOk g1 S = true ∧ guardOk g2 S = true := by
  unfold guardOk at h ⊢
  rw [List.all_append, Bool.and_eq_true] at h
  exact h
theorem src_z {ι : List Addr} {S : Store} {H : Hp} {xs ys : List D} {g : Guard} {a b : Addr} (h : Later K g ι S H fun ι' _ H' => ∃ vs, SqL K.K H' a vs ∧ Reps K ι' H' xs vs) (h' : Later K g ι S H fun ι' _ H' => ∃ vs, SqL K.K H' b vs ∧ Reps K ι' H' ys vs) :
    Src K (Itz K.K a b) (zipL xs ys) g ι S H where
  go := fun ι' S' H' i e r gk hi => by
    obtain ⟨vs, h1, h2⟩ := h ι' S' H' e r gk
    obtain ⟨ws, h3, h4⟩ := h' ι' S' H' e r gk
    rw [zipL_len] at hi
    obtain ⟨d, v, e1, e2, e3⟩ := reps_some (i := i) h2 (by omega)
    obtain ⟨d', v', f1, f2, f3⟩ := reps_some (i := i) h4 (by omega)
    exact ⟨⟨vs, ws, v, v', h1, h3, e2, f2⟩, fun u H'' ⟨T, x, y, q1, q2, q3, q4, q5⟩ => by
      subst q1 q3
      have := q4 vs h1
      rw [e2] at this
      cases this
      have := q5 ws h3
      rw [f2] at this
      cases this
      obtain ⟨w1, w2, w3⟩ := pair_new r q2 e3 f3
      exact ⟨w1, w2, _, zipL_get xs ys i d d' e1 f1, w3⟩⟩
  stop := fun ι' S' H' e r gk => by
    obtain ⟨vs, h1, h2⟩ := h ι' S' H' e r gk
    obtain ⟨ws, h3, h4⟩ := h' ι' S' H' e r gk
    refine ⟨vs, ws, h1, h3, ?_⟩
    rw [h2.len, h4.len, zipL_len]
    omega
theorem src_zT {ι : List Addr} {S : Store} {H : Hp} {xs ys : List D} {g : Guard} {a b : Addr} (h : Later K g ι S H fun ι' _ H' => ∃ vs, SqT K.K H' a vs ∧ Reps K ι' H' xs vs) (h' : Later K g ι S H fun ι' _ H' => ∃ vs, SqT K.K H' b vs ∧ Reps K ι' H' ys vs) :
    Src K (RZ.ItzT K.K a b) (zipL xs ys) g ι S H where
  go := fun ι' S' H' i e r gk hi => by
    obtain ⟨vs, h1, h2⟩ := h ι' S' H' e r gk
    obtain ⟨ws, h3, h4⟩ := h' ι' S' H' e r gk
    rw [zipL_len] at hi
    obtain ⟨d, v, e1, e2, e3⟩ := reps_some (i := i) h2 (by omega)
    obtain ⟨d', v', f1, f2, f3⟩ := reps_some (i := i) h4 (by omega)
    exact ⟨⟨vs, ws, v, v', h1, h3, e2, f2⟩, fun u H'' ⟨T, x, y, q1, q2, q3, q4, q5⟩ => by
      subst q1 q3
      have := q4 vs h1
      rw [e2] at this
      cases this
      have := q5 ws h3
      rw [f2] at this
      cases this
      obtain ⟨w1, w2, w3⟩ := pair_new r q2 e3 f3
      exact ⟨w1, w2, _, zipL_get xs ys i d d' e1 f1, w3⟩⟩
  stop := fun ι' S' H' e r gk => by
    obtain ⟨vs, h1, h2⟩ := h ι' S' H' e r gk
    obtain ⟨ws, h3, h4⟩ := h' ι' S' H' e r gk
    refine ⟨vs, ws, h1, h3, ?_⟩
    rw [h2.len, h4.len, zipL_len]
    omega
end

section
variable (K : Md) (P : Prg) (k : Nat)
def tI (ik : Ik) (a b : E) : TI := fun σ H R => ∃ ι env S, RelS K ι S H ∧ RelE K ι H env σ ∧ Okk (srcOf P.gl (run P k) ik a b env S) (fun p S1 => ∀ J ι1 H1, Ex K ι S H ι1 S1 H1 → RelS K ι1 S1 H1 → Src K J p.1 p.2 ι1 S1 H1 → R J H1)
end
section
variable {P : Prg} {X : Cx} {Γ : Cc} {k : Nat}
abbrev sI (P : Prg) (X : Cx) (k : Nat) (tg e : Expr) (ik : Ik) (a b : E) : Prop := PI X tg e (tI X.md P k ik a b)
def iSeq (K : PySem.W.Frag) (tl : TE) : TI := fun σ H R => tl σ H fun x H1 => ∃ a, x = .ref a ∧ ((∃ xs, SqL K H1 a xs ∧ R (Itl K a) H1) ∨ ∃ xs, SqT K H1 a xs ∧ R (Itt K a) H1)
theorem pi_seq {tg l : Expr} {tl : TE} (hl : PE X l tl) : PI X tg l (iSeq X.K tl) := by
  refine ⟨fun pins s σ H R I h => ?_⟩
  refine thn (hl.run pins s σ H _ I h) fun v s1 ⟨x, H1, I1, r1, q1⟩ => ?_
  have fp : ∀ b ∈ [s1.heap.objs.size], FpOk X pins H1 b := fun b hb => by
    have e : b = s1.heap.objs.size := by simpa using hb
    subst e
    exact I1.fpOk (Nat.le_refl _) (I1.hok.fresh (Nat.le_refl _))
  obtain ⟨a, e, q⟩ := q1
  subst e
  cases r1
  rcases q with ⟨xs, hq, q⟩ | ⟨xs, hq, q⟩
  · obtain ⟨its, rv, p, hz⟩ := I1.list hq
    exact wpAny_pyIter_list p.isList ⟨s1.heap.objs.size, [s1.heap.objs.size], _, _, H1, rfl, I1.kept (t' := s1.toks) fun b o e => Heap.get?_push_of_some _ e, turn_list a _, ⟨_, Heap.get?_push_size _ rfl, rfl, rfl⟩, fp, q⟩
  · obtain ⟨its, rv, p, hz⟩ := I1.tuple hq
    exact wpAny_pyIter_tuple (show s1.heap.IsTuple a its.toArray from p) ⟨s1.heap.objs.size, [s1.heap.objs.size], _, _, H1, rfl, I1.kept (t' := s1.toks) fun b o e => Heap.get?_push_of_some _ e, turn_tuple a _, ⟨_, Heap.get?_push_size _ rfl, rfl, rfl⟩, fp, q⟩
theorem i_seq {tg e : Expr} {a : E} (h1 : sE P X k e a) : sI P X k tg e .seq a .nil :=
  PIweak (pi_seq h1) fun σ H R ⟨ι, env, S, r, re, h⟩ => by
    simp only [srcOf] at h
    refine getR r re h fun ι1 S1 H1 x v e1 r1 re1 z n h => ?_
    simp only [src] at h
    cases q : itemsOf S1 x with
    | none => rw [q] at h; exact h.elim
    | some xs =>
      rw [q] at h
      obtain ⟨ad, e2, q⟩ := items_keep r1 z q
      refine ⟨ad, e2, ?_⟩
      rcases q with ⟨_, ⟨vs, q1⟩, q2⟩ | ⟨_, ⟨vs, q1⟩, q2⟩
      · exact .inr ⟨vs, q1, h _ _ _ e1 r1 (src_t q2)⟩
      · exact .inl ⟨vs, q1, h _ _ _ e1 r1 (src_l q2)⟩
theorem i_enum {e : Expr} {a : E} {p pos tpos : Pos} {elts : List Expr} {kk : _} (c : Co P X Γ k) (hg : isGl Γ.sc "enumerate" = true) (hs : starEach [e] X.env = [(false, eval e X.env)]) (h1 : sE P X k e a) :
    sI P X k (.Tuple elts kk tpos) (.Call (.Name "enumerate" p) [e] [] pos) .enum a .nil :=
  PIweak (pi_enumT (c.glob hg) (c.gs.bl _ (by decide)) (pa_cons h1 pa_nil hs) hs) fun σ H R ⟨ι, env, S, r, re, h⟩ => by
    simp only [srcOf] at h
    refine getR r re h fun ι1 S1 H1 x v e1 r1 re1 z n h => ?_
    simp only [src] at h
    cases q : itemsOf S1 x with
    | none => rw [q] at h; exact h.elim
    | some xs =>
      rw [q] at h
      obtain ⟨ad, e2, q⟩ := items_keep r1 z q
      refine ⟨ad, by rw [e2], ?_⟩
      rcases q with ⟨_, ⟨vs, q1⟩, q2⟩ | ⟨_, ⟨vs, q1⟩, q2⟩
      · exact .inr ⟨vs, q1, h _ _ _ e1 r1 (src_eT q2)⟩
      · exact .inl ⟨vs, q1, h _ _ _ e1 r1 (src_e q2)⟩
theorem i_rg1 {tg e : Expr} {a : E} {p pos : Pos} (c : Co P X Γ k) (hg : isGl Γ.sc "range" = true) (hs : starEach [e] X.env = [(false, eval e X.env)]) (h1 : sE P X k e a) :
    sI P X k tg (.Call (.Name "range" p) [e] [] pos) .range1 a .nil :=
  PIweak (pi_range1 (c.glob hg) (c.gs.bl _ (by decide)) (pa_cons h1 pa_nil hs) hs) fun σ H R ⟨ι, env, S, r, re, h⟩ => by
    have far2 : (2:Int)^62 = far := by decide
    simp only [srcOf] at h
    refine getR r re h fun ι1 S1 H1 x v e1 r1 re1 z n h => ?_
    cases x with
    | tmp xs => exact h.elim
    | v d =>
      cases d <;> try exact h.elim
      rename_i j
      simp only [RepR, Rep] at z
      simp only [src] at h
      split at h <;> rename_i q
      · split at q <;> rename_i q1
        · cases q
          simp only [Bool.and_eq_true, decide_eq_true_eq] at q1
          exact ⟨j, by rw [z], by omega, by omega, h _ _ _ e1 r1 (src_r 0 j.toNat)⟩
        · cases q
      · exact h.elim
theorem i_rg2 {tg e e2 : Expr} {a b : E} {p pos : Pos} (c : Co P X Γ k) (hg : isGl Γ.sc "range" = true) (hs : starEach [e, e2] X.env = [(false, eval e X.env), (false, eval e2 X.env)]) (hs2 : starEach [e2] X.env = [(false, eval e2 X.env)]) (h1 : sE P X k e a) (h2 : sE P X k e2 b) :
    sI P X k tg (.Call (.Name "range" p) [e, e2] [] pos) .range2 a b :=
  PIweak (pi_range2 (c.glob hg) (c.gs.bl _ (by decide)) (pa_cons h1 (pa_cons h2 pa_nil hs2) (by rw [hs, hs2])) hs hs2) fun σ H R ⟨ι, env, S, r, re, h⟩ => by
    have far2 : (2:Int)^62 = far := by decide
    simp only [srcOf] at h
    refine getD r re h fun ι1 S1 H1 d v e1 r1 re1 z h => ?_
    refine getR r1 re1 h fun ι2 S2 H2 x v2 e2 r2 re2 z2 n h => ?_
    cases x with
    | tmp xs => cases d <;> exact h.elim
    | v d2 =>
      cases d with
      | int i =>
        cases d2 with
        | int j =>
          simp only [RepR, Rep] at z z2
          simp only [src] at h
          split at h <;> rename_i q
          · split at q <;> rename_i q1
            · cases q
              simp only [Bool.and_eq_true, decide_eq_true_eq] at q1
              exact ⟨i, j, by rw [z, z2], ⟨by omega, by omega, by omega, by omega⟩, h _ _ _ (e1.trans e2) r2 (src_r i _)⟩
            · cases q
          · exact h.elim
        | _ => exact h.elim
      | _ => cases d2 <;> exact h.elim
theorem Later.mono {K : Md} {g g' : Guard} {ι ι1 : List Addr} {S S1 : Store} {H H1 : Hp} {F : List Addr → Store → Hp → Prop} (h : Later K g ι S H F) (e : Ex K ι S H ι1 S1 H1) (hg : ∀ S, guardOk g' S = true → guardOk g S = true) : Later K g' ι1 S1 H1 F :=
  fun ι' S' H' e' r gk => h ι' S' H' (e.trans e') r (hg _ gk)
theorem i_zip {e e2 : Expr} {a b : E} {p pos tpos : Pos} {elts : List Expr} {kk : _} (c : Co P X Γ k) (hg : isGl Γ.sc "zip" = true) (hs : starEach [e, e2] X.env = (false, eval e X.env) :: starEach [e2] X.env) (hs2 : starEach [e2] X.env = (false, eval e2 X.env) :: starEach [] X.env) (h1 : sE P X k e a) (h2 : sE P X k e2 b) :
    sI P X k (.Tuple elts kk tpos) (.Call (.Name "zip" p) [e, e2] [] pos) .zip a b :=
  PIweak (RZ.pi_zipA (c.glob hg) (c.gs.bl _ (by decide)) (pa_cons h1 (pa_cons h2 pa_nil hs2) hs) hs (by rw [hs2]; rfl)) fun σ H R ⟨ι, env, S, r, re, h⟩ => by
    simp only [srcOf] at h
    refine getD r re h fun ι1 S1 H1 d v e1 r1 re1 z h => ?_
    refine getR r1 re1 h fun ι2 S2 H2 x v2 e2 r2 re2 z2 n h => ?_
    simp only [src] at h
    cases q : itemsOf S2 (.v d) with
    | none => rw [q] at h; exact h.elim
    | some xs =>
      cases q' : itemsOf S2 x with
      | none => rw [q, q'] at h; exact h.elim
      | some ys =>
        rw [q, q'] at h
        dsimp only at h
        obtain ⟨ad, f1, q⟩ := items_keep (x := .v d) r2 (z.mono e2.ext) q
        obtain ⟨ad2, f2, q'⟩ := items_keep r2 z2 q'
        by_cases ht : isTupR (.v d) == isTupR x
        · rw [if_pos ht] at h
          simp only [beq_iff_eq] at ht
          have hl : ∀ S, guardOk (guardOf S2 (.v d) ++ guardOf S2 x) S = true → guardOk (guardOf S2 (.v d)) S = true := fun S h => (guard_app h).1
          have hr : ∀ S, guardOk (guardOf S2 (.v d) ++ guardOf S2 x) S = true → guardOk (guardOf S2 x) S = true := fun S h => (guard_app h).2
          rcases q with ⟨t1, ⟨vs, q1⟩, q2⟩ | ⟨t1, ⟨vs, q1⟩, q2⟩ <;> rcases q' with ⟨t2, ⟨vs', q3⟩, q4⟩ | ⟨t2, ⟨vs', q3⟩, q4⟩
          · exact ⟨ad, ad2, vs, vs', by rw [f1, f2], .inr ⟨q1, q3, h _ _ _ (e1.trans e2) r2 (src_zT (q2.mono (Ex.refl ..) hl) (q4.mono (Ex.refl ..) hr))⟩⟩
          · rw [t1, t2] at ht; cases ht
          · rw [t1, t2] at ht; cases ht
          · exact ⟨ad, ad2, vs, vs', by rw [f1, f2], .inl ⟨q1, q3, h _ _ _ (e1.trans e2) r2 (src_z (q2.mono (Ex.refl ..) hl) (q4.mono (Ex.refl ..) hr))⟩⟩
        · rw [if_neg ht] at h
          exact h.elim
end
end MP

/-! Comprehensions. -/
set_option linter.all false
set_option autoImplicit false
namespace MP
open PySem PySem.Spec PyProof.Rows L2

section
variable {α β : Type}
theorem bind_D (x : Out R) (f : D → Store → Out β) (F : β → Store → Out α) : (bindD x f).bind F = bindD x fun d S => (f d S).bind F := by
  cases x with
  | ok r S => cases r <;> rfl
  | exc c d S => rfl
  | no => rfl
theorem bind_T (x : Out R) (f : Bool → Store → Out β) (F : β → Store → Out α) : (bindT x f).bind F = bindT x fun b S => (f b S).bind F := by
  rw [bind_D]
  congr 1
  funext d S
  cases truth S d <;> rfl
end
theorem put_len {t : T} {d : D} {env env' : Env} (hput : T.put t d env = some env') : env'.length = env.length := by
  have key : ∀ (t : T), (∀ d (env env' : Env), T.put t d env = some env' → env'.length = env.length) ∧ (∀ ds (env env' : Env), T.puts t ds env = some env' → env'.length = env.length) := by
    intro t
    induction t with
    | name i =>
      refine ⟨fun d env env' h => ?_, fun ds env env' h => ?_⟩
      · simp only [T.put, Option.some.injEq] at h; subst h; simp [setSlot]
      · cases ds <;> simp [T.puts] at h
    | tup l ih =>
      refine ⟨fun d env env' h => ?_, fun ds env env' h => ?_⟩
      · cases d <;> simp only [T.put] at h <;> try cases h
        exact ih.2 _ _ _ h
      · cases ds <;> simp [T.puts] at h
    | nil =>
      refine ⟨fun d env env' h => ?_, fun ds env env' h => ?_⟩
      · cases d <;> simp [T.put] at h
      · cases ds <;> simp only [T.puts, Option.some.injEq] at h <;> try cases h
        rfl
    | cons a r iha ihr =>
      refine ⟨fun d env env' h => ?_, fun ds env env' h => ?_⟩
      · cases d <;> simp [T.put] at h
      · cases ds with
        | nil => simp [T.puts] at h
        | cons d ds =>
          simp only [T.puts] at h
          split at h
          · rename_i env1 g
            rw [ihr.2 _ _ _ h, iha.1 _ _ _ g]
          · cases h
  exact (key _).1 _ _ _ hput
theorem wipe_at (σ : L2.St) : ∀ (vs : List Nat) (j : Nat), (L2.wipe σ vs)[j]? = if j ∈ vs then (if j < σ.length then some none else none) else σ[j]?
  | [], j => by simp [L2.wipe]
  | v :: vs, j => by
    simp only [L2.wipe]
    by_cases h : v = j
    · subst h
      by_cases hl : v < σ.length
      · rw [List.getElem?_set_self (by rw [L2.wipe_length]; exact hl)]; simp [hl]
      · rw [List.getElem?_eq_none (by simp [L2.wipe_length]; omega)]; simp [hl]
    · rw [List.getElem?_set_ne h, wipe_at σ vs j]
      simp [Ne.symm h]
theorem wipe_back {σ σ2 : L2.St} {vs : List Nat} (hl : σ2.length = σ.length) (h : ∀ j, j ∉ vs → σ2[j]? = (L2.wipe σ vs)[j]?) : L2.wipe σ2 vs = L2.wipe σ vs := by
  apply List.ext_getElem?
  intro j
  rw [wipe_at, wipe_at, hl]
  by_cases hj : j ∈ vs
  · rw [if_pos hj, if_pos hj]
  · rw [if_neg hj, if_neg hj]
    have := h j hj
    rw [wipe_at, if_neg hj] at this
    exact this

section
variable {K : Md} {P : Prg} {k : Nat}
theorem ev_comp (G : Nat → Option D) (cl : Nat → List D → Store → Out D) (vs : List Nat) (t : T) (ik : Ik) (a b c elt : E) (env : Env) (S : Store) : ev G cl (.comp vs t ik a b c elt) env S =
    (srcOf G cl ik a b env S).bind fun p S1 => compRun vs t (fun env S => ev G cl c env S) (fun env S => ev G cl elt env S) env (some p) S1 := by
  cases ik <;> simp only [ev, srcOf]
  case seq | enum | range1 =>
    cases ev G cl a env S with
    | exc c d S => rfl
    | no => rfl
    | ok q S1 =>
      simp only [Out.bind]
      generalize src _ _ _ _ = o
      cases o <;> rfl
  all_goals
    cases ev G cl a env S with
    | exc c d S => rfl
    | no => rfl
    | ok q S1 =>
      cases q with
      | v d =>
        simp only [bindD, Out.bind]
        cases ev G cl b env S1 with
        | exc c d S => rfl
        | no => rfl
        | ok q S2 =>
          simp only [bindD, Out.bind]
          generalize src _ _ _ _ = o
          cases o <;> rfl
      | tmp xs =>
        simp only [bindD, Out.bind]
        cases ev G cl b env (S1 ++ [Cell.lst xs]) with
        | exc c d S => rfl
        | no => rfl
        | ok q S2 =>
          simp only [bindD, Out.bind]
          generalize src _ _ _ _ = o
          cases o <;> rfl
theorem comp_ok {vs : List Nat} {t : T} {ik : Ik} {a b c elt : E} (ht : ∀ i ∈ t.slots, i ∈ vs) (σ : L2.St) (H : Hp) (Q : VK) (h : tE K P k (.comp vs t ik a b c elt) σ H Q) :
    tLc (tI K P k ik a b) (tG K t) (tT K P k c) (tE K P k elt) vs σ H Q := by
  obtain ⟨ι, env, S, r, re, h⟩ := h
  rw [ev_comp] at h
  refine ⟨ι, env, S, r, re, okk_imp (okk_bind h) fun p S1 h => fun J ι1 H1 e1 r1 sr => fun D hD => ?_⟩
  obtain ⟨xs, g⟩ := p
  simp only [compRun] at h
  have h := okk_bind h
  refine ⟨fun i m H' => m = xs.length - i ∧ i ≤ xs.length ∧ ∃ ι' S' acc ds, Ex K ι1 S1 H1 ι' S' H' ∧ RelS K ι' S' H' ∧ H' D = some (.lst acc) ∧ Fresh ι' S' D ∧ Reps K ι' H' ds acc ∧
    Okk (compL g (compStep vs t (fun env S => ev P.gl (run P k) c env S) (fun env S => ev P.gl (run P k) elt env S) env) (xs.drop i) S') (fun es S2 => (ds ++ es).length ≤ line ∧ Post K ι S H Q (.tmp (ds ++ es)) S2),
    ⟨xs.length, by simp, Nat.zero_le _, ι1, S1, [], [], Ex.new hD, r1.new hD, upd_same, r1.fresh hD, by simp [Reps], ?_⟩, ?_⟩
  · rw [List.drop_zero]
    refine okk_imp h fun es S2 h => ?_
    split at h <;> rename_i hl
    · exact ⟨hl, h⟩
    · exact h.elim
  · rintro i m H' ⟨rfl, hi, ι', S', acc, ds, e2, r2, hacc, hfr, hds, h⟩
    by_cases hlt : i < xs.length
    · refine .inr ?_
      have hd : xs.drop i = xs[i] :: xs.drop (i + 1) := List.drop_eq_getElem_cons hlt
      rw [hd] at h
      simp only [compL] at h
      split at h <;> rename_i gk
      · have sg := sr.go ι' S' H' i e2 r2 gk hlt
        refine ⟨sg.1, _, fun H'' w => ⟨xs.length - (i + 1), by omega, w⟩, fun x H'' hy => ?_⟩
        obtain ⟨e3, r3, d, hx, hz⟩ := sg.2 x H'' hy
        have hd' : d = xs[i] := by
          rw [List.getElem?_eq_getElem hlt] at hx
          exact (Option.some.inj hx).symm
        have f3 := e3.frame D (by rw [hacc]; simp) hfr
        have hacc3 : H'' D = some (.lst acc) := by rw [f3.1]; exact hacc
        have e13 := e2.trans e3
        have rw0 : RelE K ι' H'' (wipe env vs) (L2.wipe σ vs) := (re.mono (e1.trans e13).ext).wipe vs
        simp only [compStep] at h
        rw [← hd'] at h
        cases hp : T.put t d (wipe env vs) with
        | none => rw [hp] at h; exact h.elim
        | some env1 =>
          rw [hp] at h
          refine ⟨ι', wipe env vs, d, env1, rw0, hz, hp, fun σ2 re2 keep => ⟨wipe_back ?_ fun j hj => keep j fun hj' => hj (ht j hj'), ?_⟩⟩
          · rw [← re2.len, put_len hp, wipe_len, re.len]
          · rw [bind_T] at h
            refine getT r3 re2 h fun ι4 S4 H4 bb e4 r4 re4 h => ?_
            have f4 := e4.frame D (by rw [hacc3]; simp) f3.2
            cases bb with
            | false =>
              rw [if_neg (by simp)]
              have h := okk_bind (x := compL _ _ _ _) h
              refine ⟨rfl, hlt, ι4, S4, acc, ds, e13.trans e4, r4, by rw [f4.1]; exact hacc3, f4.2, (hds.mono e3.ext).mono e4.ext, okk_imp h fun es S5 h => ?_⟩
              exact h
            | true =>
              rw [if_pos rfl]
              replace h : Okk ((bindD (ev P.gl (run P k) elt env1 S4) fun d S3 => Out.ok (some d) S3).bind _) _ := h
              rw [bind_D] at h
              refine getD r4 re4 h fun ι5 S5 H5 d5 v5 e5 r5 re5 z5 h => ?_
              have f5 := e5.frame D (by rw [f4.1, hacc3]; simp) f4.2
              have hacc5 : H5 D = some (.lst acc) := by rw [f5.1, f4.1]; exact hacc3
              have h := okk_bind (x := compL _ _ _ _) h
              obtain ⟨es, S6, q6, h6⟩ := okk_ex h
              replace h6 : (ds ++ d5 :: es).length ≤ line ∧ Post K ι S H Q (.tmp (ds ++ d5 :: es)) S6 := h6
              have hds5 := ((hds.mono e3.ext).mono e4.ext).mono e5.ext
              have hov := over (o := .lst (acc ++ [v5])) ((e13.trans e4).trans e5) r5 hD (by rw [hacc5]; trivial) f5.2
              refine ⟨acc, hacc5, ?_, rfl, hlt, ι5, S5, acc ++ [v5], ds ++ [d5], hov.1, hov.2, upd_same, f5.2, ?_, ?_⟩
              · rw [hds5.len, ← line_eq]
                have := h6.1
                simp only [List.length_append, List.length_cons] at this
                omega
              · have eu : Ext K ι5 H5 ι5 (upd H5 D (.lst (acc ++ [v5]))) := Ext.upd' ι5 (.inr (by rw [hacc5]; trivial))
                exact (hds5.mono eu).app (Reps.cons (z5.mono eu) (by simp [Reps]))
              · rw [q6]
                show (ds ++ [d5] ++ es).length ≤ line ∧ Post K ι S H Q (.tmp (ds ++ [d5] ++ es)) S6
                rw [List.append_assoc]
                exact h6
      · exact h.elim
    · have : i = xs.length := by omega
      subst this
      rw [List.drop_length] at h
      simp only [compL] at h
      split at h <;> rename_i gk
      · refine .inl ⟨sr.stop ι' S' H' e2 r2 gk, ?_⟩
        replace h : (ds ++ []).length ≤ line ∧ Post K ι S H Q (.tmp (ds ++ [])) S' := h
        rw [List.append_nil] at h
        refine h.2 ι' H' (.ref D) (e1.trans e2) r2 ⟨D, acc, rfl, hacc, hds, hfr⟩ fun p hp => ?_
        cases hp
        cases q : H D with
        | none => rfl
        | some o => exact absurd hD (e1.was D (by rw [q]; simp))
      · exact h.elim
end
end MP

/-! Expressions are translated rightly. -/
set_option linter.all false
set_option autoImplicit false
namespace MP
open PySem PySem.Spec PyProof.Rows L2

section
variable {P : Prg} {k : Nat}
theorem Co.blk {X : Cx} {Γ : Cc} (c : Co P X Γ k) (s : Shared) (H : Hp) (scope : Scope) (C : Addr) (cl : List (Str × Addr)) (fp : List Addr) :
    Co P (X.blk s H scope (compEnvC scope cl C X.env) fp) { Γ with sc := relS scope Γ.sc, blk := some scope } k where
  gs := ⟨c.gs.fn, c.gs.gl, c.gs.bl⟩
  N := c.N
  sc := by rw [← c.sc]; rfl
  calm := c.calm
  nd := c.nd
  room := c.room
  fnk := fun x i h => by
    show (scope.names.lookup x == some .cell) = true ∨ (relS scope X.env.scope).names.lookup x = some .local
    rw [c.sc]
    unfold ownOf at h
    split at h
    · rename_i e
      exact .inr e
    · dsimp only at h
      split at h <;> rename_i e
      · exact .inl e
      · cases h
    · cases h
structure Snd (P : Prg) (k n : Nat) : Prop where
  e : ∀ {X : Cx} {Γ : Cc} {e : Expr} {e' : E}, Co P X Γ k → cE n Γ e = some e' → sE P X k e e' ∧ sT P X k e e'
  a : ∀ {X : Cx} {Γ : Cc} {es : List Expr} {a : E}, Co P X Γ k → cA n Γ es = some a → sA P X k es a ∧ ∀ kws : List Keyword, kws.map (·.value) = es → sK P X k kws a
  b : ∀ {X : Cx} {Γ : Cc} {o : BoolOp} {es : List Expr} {pos : Pos} {e' : E}, Co P X Γ k → cB n Γ o es pos = some e' → sE P X k (.BoolOp o es pos) e' ∧ sW P X k (.BoolOp o es pos) e'
  o : ∀ {X : Cx} {Γ : Cc} {x : Option Expr} {a : E}, Co P X Γ k → cO n Γ x = some a → sO P X k x a
  i : ∀ {X : Cx} {Γ : Cc} {es : List Expr} {a : E}, Co P X Γ k → cI n Γ es = some a → PTs X es (tT X.md P k a)
  q : ∀ {X : Cx} {Γ : Cc} {tg it : Expr} {ik : Ik} {a b : E}, Co P X Γ k → cQ n Γ tg it = some (ik, a, b) → sI P X k tg it ik a b
theorem cQ_set {Γ : Cc} {n : Nat} {tg it : Expr} {r : Ik × E × E} (h : cQ n Γ tg it = some r) (env : PySem.Env) (x : Value) : foldedSetIterable it env x = pure x := by
  cases n with
  | zero => simp [cQ] at h
  | succ n =>
    cases it <;> first | rfl | skip
    cases n <;> simp [cQ, cE] at h
theorem snd0 : Snd P k 0 where
  e := fun _ h => by simp [cE] at h
  a := fun _ h => by simp [cA] at h
  b := fun _ h => by simp [cB] at h
  o := fun _ h => by simp [cO] at h
  i := fun _ h => by simp [cI] at h
  q := fun _ h => by simp [cQ] at h
theorem b_step {n : Nat} (ih : Snd P k n) {X : Cx} {Γ : Cc} {o : BoolOp} {es : List Expr} {pos : Pos} {e' : E} (c : Co P X Γ k) (h : cB (n + 1) Γ o es pos = some e') : sE P X k (.BoolOp o es pos) e' ∧ sW P X k (.BoolOp o es pos) e' := by
  cases es with
  | nil => simp [cB] at h
  | cons e r =>
    cases r with
    | nil =>
      simp only [cB] at h
      obtain ⟨h1, h2⟩ := ih.e c h
      refine ⟨pe_one h1, ?_⟩
      cases o
      · exact pw_and1 h2
      · exact pw_or1 h2
    | cons e2 r =>
      simp only [cB] at h
      split at h
      · rename_i a b g1 g2
        cases h
        obtain ⟨h1, h2⟩ := ih.e c g1
        obtain ⟨h3, h4⟩ := ih.b c g2
        cases o
        · exact ⟨r_and h1 h3, w_and h2 h4⟩
        · exact ⟨r_or h1 h3, w_or h2 h4⟩
      · cases h
theorem a_step {n : Nat} (ih : Snd P k n) {X : Cx} {Γ : Cc} {es : List Expr} {a : E} (c : Co P X Γ k) (h : cA (n + 1) Γ es = some a) : sA P X k es a ∧ ∀ kws : List Keyword, kws.map (·.value) = es → sK P X k kws a := by
  cases es with
  | nil =>
    simp only [cA, Option.some.injEq] at h
    subst h
    refine ⟨r_nilA, fun kws e => ?_⟩
    have : kws = [] := by simpa using e
    subst this
    exact k_nil
  | cons e r =>
    simp only [cA] at h
    split at h
    · rename_i a b g1 g2
      cases h
      obtain ⟨h1, h2⟩ := ih.e c g1
      obtain ⟨h3, h4⟩ := ih.a c g2
      refine ⟨r_consA (star_of g1 _ _) h1 h3, fun kws e => ?_⟩
      cases kws with
      | nil => cases e
      | cons y kws =>
        simp only [List.map_cons, List.cons.injEq] at e
        obtain ⟨nm, v, p⟩ := y
        obtain ⟨rfl, e2⟩ := e
        exact k_cons h1 (h4 kws e2)
    · cases h
theorem o_step {n : Nat} (ih : Snd P k n) {X : Cx} {Γ : Cc} {x : Option Expr} {a : E} (c : Co P X Γ k) (h : cO (n + 1) Γ x = some a) : sO P X k x a := by
  cases x with
  | none =>
    simp only [cO, Option.some.injEq] at h
    subst h
    exact o_none
  | some e =>
    simp only [cO] at h
    exact o_some (ih.e c h).1
theorem i_step {n : Nat} (ih : Snd P k n) {X : Cx} {Γ : Cc} {es : List Expr} {a : E} (c : Co P X Γ k) (h : cI (n + 1) Γ es = some a) : PTs X es (tT X.md P k a) := by
  cases es with
  | nil =>
    simp only [cI, Option.some.injEq] at h
    subst h
    exact PTsweak pts_nil fun σ H Q ⟨ι, env, S, r, re, h⟩ => by
      simp only [ev, bindT_bl] at h
      exact h ι H (Ex.refl ..) r
  | cons e r =>
    cases r with
    | nil =>
      simp only [cI] at h
      exact pts_one (ih.e c h).2
    | cons => simp [cI] at h
theorem star1 {Γ : Cc} {n : Nat} {e : Expr} {e' : E} (h : cE n Γ e = some e') (env : PySem.Env) : starEach [e] env = [(false, eval e env)] := by rw [star_of h]; rfl
theorem q_step {n : Nat} (ih : Snd P k n) {X : Cx} {Γ : Cc} {tg it : Expr} {ik : Ik} {a b : E} (c : Co P X Γ k) (h : cQ (n + 1) Γ tg it = some (ik, a, b)) : sI P X k tg it ik a b := by
  have fin : ∀ {it : Expr}, (cE n Γ it).map (fun a => (Ik.seq, a, E.nil)) = some (ik, a, b) → sI P X k tg it ik a b := fun {it} h => by
    simp only [Option.map_eq_some_iff, Prod.mk.injEq] at h
    obtain ⟨a', h1, rfl, rfl, rfl⟩ := h
    exact i_seq (ih.e c h1).1
  simp only [cQ] at h
  split at h
  · rename_i x px es pos
    split at h <;> rename_i hc
    · simp only [Bool.and_eq_true, Bool.or_eq_true, beq_iff_eq] at hc
      split at h
      · rename_i e1
        split at h <;> rename_i hx
        · simp only [beq_iff_eq] at hx
          split at h
          · simp only [Option.map_eq_some_iff, Prod.mk.injEq] at h
            obtain ⟨a', h1, rfl, rfl, rfl⟩ := h
            subst hx
            exact i_enum c hc.1.1 (star1 h1 _) (ih.e c h1).1
          · cases h
        · split at h <;> rename_i hx2
          · simp only [Option.map_eq_some_iff, Prod.mk.injEq, beq_iff_eq] at h hx2
            obtain ⟨a', h1, rfl, rfl, rfl⟩ := h
            subst hx2
            exact i_rg1 c hc.1.1 (star1 h1 _) (ih.e c h1).1
          · cases h
      · rename_i e1 e2
        split at h <;> rename_i hx
        · simp only [beq_iff_eq] at hx
          subst hx
          split at h
          · rename_i a1 b1 g1 g2
            simp only [Option.some.injEq, Prod.mk.injEq] at h
            obtain ⟨rfl, rfl, rfl⟩ := h
            exact i_rg2 c hc.1.1 (by rw [star_of g1, star1 g2]) (star1 g2 _) (ih.e c g1).1 (ih.e c g2).1
          · cases h
        · split at h <;> rename_i hx2
          · simp only [beq_iff_eq] at hx2
            subst hx2
            split at h
            · split at h
              · rename_i a1 b1 g1 g2
                simp only [Option.some.injEq, Prod.mk.injEq] at h
                obtain ⟨rfl, rfl, rfl⟩ := h
                exact i_zip c hc.1.1 (star_of g1 _ _) (star_of g2 _ _) (ih.e c g1).1 (ih.e c g2).1
              · cases h
            · cases h
          · cases h
      · cases h
    · exact fin h
  · exact fin h
theorem plainIx {b : Expr} (h : ∀ lo hi st p, b ≠ .Slice lo hi st p) : PlainIx b := by
  intro o i
  cases b <;> first | rfl | (exact absurd rfl (h _ _ _ _))
theorem e_step {n : Nat} (ih : Snd P k n) {X : Cx} {Γ : Cc} {e : Expr} {e' : E} (c : Co P X Γ k) (h : cE (n + 1) Γ e = some e') : sE P X k e e' ∧ sT P X k e e' := by
  have pl : ∀ {e : Expr} {e' : E}, (∀ whole, isTrue e X.env whole = (do let v ← whole; standAt e.pos; holding [v] (truthy v))) → sE P X k e e' → sE P X k e e' ∧ sT P X k e e' := fun he h => ⟨h, t_plain h he⟩
  cases e with
  | Name x pos =>
    simp only [cE] at h
    split at h
    · rename_i i g
      cases h
      exact pl (fun _ => rfl) (r_var c g)
    · split at h <;> rename_i hc
      · simp only [Bool.and_eq_true, Bool.not_eq_true'] at hc
        simp only [Option.map_eq_some_iff] at h
        obtain ⟨g, h1, rfl⟩ := h
        exact pl (fun _ => rfl) (r_glob c hc.1 hc.2 h1)
      · cases h
  | Constant cc j pos =>
    simp only [cE, Option.map_eq_some_iff] at h
    obtain ⟨d, h1, rfl⟩ := h
    exact pl (fun _ => rfl) (r_cst h1)
  | BinOp a o b pos =>
    simp only [cE] at h
    split at h
    · rename_i o' a' b' g1 g2 g3
      cases h
      exact pl (fun _ => rfl) (r_op g1 (ih.e c g2).1 (ih.e c g3).1)
    · cases h
  | UnaryOp o a pos =>
    simp only [cE] at h
    split at h
    · rename_i a' g1
      cases h
      exact ⟨r_not (ih.e c g1).1, t_not (ih.e c g1).2⟩
    · rename_i a' g1
      cases h
      exact pl (fun _ => rfl) (r_neg (ih.e c g1).1)
    · cases h
  | BoolOp o es pos =>
    simp only [cE] at h
    obtain ⟨h1, h2⟩ := ih.b c h
    exact ⟨h1, h2.pt⟩
  | Compare a os bs pos =>
    simp only [cE] at h
    split at h
    · rename_i o b
      split at h
      · split at h
        · cases h
        · cases h
        · rename_i d a' n1 n2 g1 g2
          cases h
          have hi : ∀ i, d ≠ .int i := n1
          have hs : ∀ i, d ≠ .str i := n2
          exact ⟨r_is g1 hi hs (ih.e c g2).1, t_is g1 hi hs (ih.e c g2).1⟩
        · cases h
      · split at h
        · cases h
        · cases h
        · rename_i d a' n1 n2 g1 g2
          cases h
          have hi : ∀ i, d ≠ .int i := n1
          have hs : ∀ i, d ≠ .str i := n2
          exact ⟨r_isnt g1 hi hs (ih.e c g2).1, t_isnt g1 hi hs (ih.e c g2).1⟩
        · cases h
      · split at h <;> rename_i hm
        · cases h
        · split at h
          · rename_i o' a' b' g1 g2 g3
            cases h
            have hm : behindInMarks o b = false := by simpa using hm
            exact ⟨r_cmp c g1 hm (ih.e c g2).1 (ih.e c g3).1, t_cmp c g1 hm (ih.e c g2).1 (ih.e c g3).1⟩
          · cases h
    · rename_i o o2 b d
      split at h <;> rename_i hm
      · cases h
      · split at h
        · rename_i p p2 a' b' d' g1 g2 g3 g4 g5
          cases h
          have hm : lastMarks [o, o2] [b, d] = false := by simpa using hm
          exact ⟨r_chain c g1 g2 hm (ih.e c g3).1 (ih.e c g4).1 (ih.e c g5).1, t_chain c g1 g2 hm (ih.e c g3).1 (ih.e c g4).1 (ih.e c g5).1⟩
        · cases h
    · cases h
  | IfExp q a b pos =>
    simp only [cE] at h
    split at h
    · rename_i q' a' b' g1 g2 g3
      cases h
      exact ⟨r_ite (ih.e c g1).2 (ih.e c g2).1 (ih.e c g3).1, t_ite (ih.e c g1).2 (ih.e c g2).2 (ih.e c g3).2⟩
    · cases h
  | Tuple es x1 pos =>
    simp only [cE, Option.map_eq_some_iff] at h
    obtain ⟨a, h1, rfl⟩ := h
    exact pl (fun _ => rfl) (r_tup (ih.a c h1).1)
  | List es pos =>
    simp only [cE, Option.map_eq_some_iff] at h
    obtain ⟨a, h1, rfl⟩ := h
    exact pl (fun _ => rfl) (r_lst (ih.a c h1).1)
  | Dict ks vs pos =>
    simp only [cE] at h
    split at h
    · cases h
      exact pl (fun _ => rfl) r_dct0
    · split at h
      · rename_i a b g1 g2
        cases h
        exact pl (fun _ => rfl) (r_dct1 (ih.e c g1).1 (ih.e c g2).1)
      · cases h
    · cases h
  | Subscript a i pos =>
    simp only [cE] at h
    split at h
    · split at h
      · cases h
      · split at h
        · rename_i a' lo hi g1 g2 g3
          cases h
          exact pl (fun _ => rfl) (r_slice (ih.e c g1).1 (ih.o c g2) (ih.o c g3))
        · cases h
    · rename_i hn
      split at h
      · rename_i a' i' g1 g2
        cases h
        exact pl (fun _ => rfl) (r_ix c (plainIx fun lo hi st p z => hn _ _ _ _ z) (ih.e c g1).1 (ih.e c g2).1)
      · cases h
  | ListComp elt gs scope pos =>
    simp only [cE] at h
    split at h
    · rename_i tg it ifs
      split at h <;> rename_i hb
      · split at h
        · rename_i t ik a b cc el g1 g2 g3 g4
          split at h <;> rename_i hs
          · cases h
            have ok : BlkOk X.N X.env.scope scope (blkOwn Γ.N scope.names) := by
              rw [c.N, c.sc]
              exact blkOk_by hb
            have sl : ∀ i ∈ t.slots, i ∈ (blkOwn Γ.N scope.names).map (·.2) := fun i hi => by
              have := List.all_eq_true.mp hs i hi
              simpa using this
            have key := pe_lc (pos := pos) (g := tG X.md t) (tt := tT X.md P k cc) (te := tE X.md P k el) c.calm c.nd (ih.q c g2) ok (fun s H C cl fp => tg_ok (c.blk s H scope C cl fp) g1) (fun s H C cl fp => ih.i (c.blk s H scope C cl fp) g3) (fun s H C cl fp => (ih.e (c.blk s H scope C cl fp) g4).1) (cQ_set g2 _)
            exact pl (fun _ => rfl) (PEweak key fun σ H Q h => comp_ok sl σ H Q h)
          · cases h
        · cases h
      · cases h
    · cases h
  | Call f es kws cpos =>
    simp only [cE] at h
    split at h
    · rename_i x px
      split at h <;> rename_i hc
      · simp only [Bool.and_eq_true, Bool.not_eq_true'] at hc
        obtain ⟨hg, hd⟩ := hc
        split at h
        · rename_i f ps hf
          split at h
          · simp only [Option.map_eq_some_iff] at h
            obtain ⟨a, h1, rfl⟩ := h
            exact pl (fun _ => rfl) (r_call c hg hd hf h1 (ih.a c h1).1)
          · cases es with
            | nil => cases h
            | cons e0 es0 =>
              dsimp only at h
              split at h
              · rename_i ks a b g1 g2 g3
                split at h <;> rename_i hk
                · cases h
                  simp only [Bool.and_eq_true, decide_eq_true_eq] at hk
                  exact pl (fun _ => rfl) (r_callK c hg hd hf g1 g2 g3 hk.1.1 hk.1.2 (by simpa using hk.2) (ih.a c g2).1 ((ih.a c g3).2 _ rfl))
                · cases h
              · cases h
        · split at h <;> rename_i hk
          · cases h
          · have hk : kws = [] := by simpa using hk
            subst hk
            have one : ∀ {e : Expr} {b : B1} {a : E}, b1Of x = some b → cE n Γ e = some a → sE P X k (.Call (.Name x px) [e] [] cpos) (.bi1 b a) := fun h1 h2 => r_bi1 c hg h1 (star_of h2 _ _) (ih.e c h2).1
            split at h
            · rename_i e1
              split at h
              · rename_i y py r rpos
                split at h <;> rename_i hr
                · split at h
                  · rename_i r' g1
                    cases h
                    simp only [Bool.and_eq_true, Bool.or_eq_true, beq_iff_eq] at hr
                    obtain ⟨⟨hr1, rfl⟩, hr3⟩ := hr
                    have := r_rg (p := px) (p2 := py) (pos := cpos) (pos2 := rpos) c hr3 hg hr1 (star_of g1 _ _) (ih.e c g1).1
                    exact pl (fun _ => rfl) this
                  · cases h
                · split at h
                  · rename_i b a g1 g2
                    cases h
                    exact pl (fun _ => rfl) (one g1 g2)
                  · cases h
              · split at h
                · rename_i b a g1 g2
                  cases h
                  exact pl (fun _ => rfl) (one g1 g2)
                · cases h
            · rename_i e1 e2
              split at h <;> rename_i hx
              · simp only [beq_iff_eq] at hx
                subst hx
                split at h
                · rename_i y py
                  split at h <;> rename_i hy
                  · simp only [Bool.and_eq_true, Bool.not_eq_true'] at hy
                    split at h
                    · rename_i t a g1 g2
                      cases h
                      exact pl (fun _ => rfl) (r_isi c hg hy.1 hy.2 g1 (star_of g2 · _) (ih.e c g2).1)
                    · cases h
                  · cases h
                · cases h
              · split at h
                · rename_i o a b g1 g2 g3
                  cases h
                  exact pl (fun _ => rfl) (r_bi2 c hg g1 (star_of g2 _ _) (star_of g3 _ _) (ih.e c g2).1 (ih.e c g3).1)
                · cases h
            · cases h
      · cases h
    · rename_i o m apos
      split at h <;> rename_i hc
      · simp only [Bool.and_eq_true, beq_iff_eq] at hc
        obtain ⟨⟨hb, hl⟩, hk⟩ := hc
        have hk : kws = [] := by simpa using hk
        subst hk
        split at h
        · rename_i t a b g1 g2 g3
          cases h
          exact pl (fun _ => rfl) (r_meth c hb (by rw [hl]; simp) g1 g3 (ih.e c g2).1 (ih.a c g3).1)
        · cases h
      · cases h
    · cases h
  | NamedExpr | Lambda | Set | SetComp | DictComp | GeneratorExp | Await | Yield | YieldFrom | FormattedValue | JoinedStr | Attribute | Starred | Slice => simp [cE] at h
theorem snd : ∀ n, Snd P k n
  | 0 => snd0
  | n + 1 => { e := e_step (snd n), a := a_step (snd n), b := b_step (snd n), o := o_step (snd n), i := i_step (snd n), q := q_step (snd n) }
end
end MP

/-! Statements. -/
set_option linter.all false
set_option autoImplicit false
namespace MP
open PySem PySem.Spec PyProof.Rows L2

section
variable (K : Md) (P : Prg) (k : Nat)
def PostF (ι : List Addr) (S : Store) (H : Hp) (D : Ends) : MP.Flow → Store → Prop := fun f S' => ∀ ι' H', Ex K ι S H ι' S' H' → RelS K ι' S' H' → match f with
  | .nxt env' => ∀ σ', RelE K ι' H' env' σ' → D.nx σ' H'
  | .brk env' => ∀ σ', RelE K ι' H' env' σ' → D.bk σ' H'
  | .cnt env' => ∀ σ', RelE K ι' H' env' σ' → D.ct σ' H'
  | .ret d => ∀ v, Rep K ι' H' d v → D.rt v H'
def tS (c : C) : TS := fun D σ H => ∃ ι env S, RelS K ι S H ∧ RelE K ι H env σ ∧ Okk (evC P.gl (run P k) c env S) (PostF K ι S H D)
variable {K P k}
theorem PostF.shift {ι ι1 : List Addr} {S S1 : Store} {H H1 : Hp} {D : Ends} {f : MP.Flow} {S' : Store} (h : PostF K ι S H D f S') (e : Ex K ι S H ι1 S1 H1) : PostF K ι1 S1 H1 D f S' :=
  fun ι' H' e' => h ι' H' (e.trans e')
end

theorem PostF.go {K : Md} {ι ι1 : List Addr} {S : Store} {H H1 : Hp} {D : Ends} {f : MP.Flow} {S' : Store} (e : Ex K ι S H ι1 S' H1) (r : RelS K ι1 S' H1) : Okk (Out.ok f S') (PostF K ι S H D) → match f with
  | .nxt env' => ∀ σ', RelE K ι1 H1 env' σ' → D.nx σ' H1
  | .brk env' => ∀ σ', RelE K ι1 H1 env' σ' → D.bk σ' H1
  | .cnt env' => ∀ σ', RelE K ι1 H1 env' σ' → D.ct σ' H1
  | .ret d => ∀ v, Rep K ι1 H1 d v → D.rt v H1 := fun h => h ι1 H1 e r
structure CoS (P : Prg) (X : Cx) (Γ : Cc) (k : Nat) : Prop extends Co P X Γ k where
  kf : X.env.scope.kind = .function
  hp : PassesOwn (model X.prog X.w) X.A X.env X.xe

section
variable {P : Prg} {X : Cx} {Γ : Cc} {k : Nat}
abbrev sS (P : Prg) (X : Cx) (k : Nat) (st : Stmt) (c : C) : Prop := PS X st (tS X.md P k c)
abbrev sSs (P : Prg) (X : Cx) (k : Nat) (st : List Stmt) (c : C) : Prop := PSs X st (tS X.md P k c)
theorem s_skip {pos : Pos} : sS P X k (.Pass pos) .skip := PSweak ps_pass fun D σ H ⟨ι, env, S, r, re, h⟩ => h ι H (Ex.refl ..) r σ re
theorem s_brk {pos : Pos} : sS P X k (.Break pos) .brk := PSweak ps_break fun D σ H ⟨ι, env, S, r, re, h⟩ => h ι H (Ex.refl ..) r σ re
theorem s_cnt {pos : Pos} : sS P X k (.Continue pos) .cnt := PSweak ps_continue fun D σ H ⟨ι, env, S, r, re, h⟩ => h ι H (Ex.refl ..) r σ re
theorem s_retN {pos : Pos} : sS P X k (.Return none pos) (.ret (.cst .non)) := PSweak ps_retN fun D σ H ⟨ι, env, S, r, re, h⟩ => by
  simp only [evC, ev] at h
  exact h ι H (Ex.refl ..) r .non (by simp [Rep])
theorem s_ret {pos : Pos} {e : Expr} {a : E} (h1 : sE P X k e a) : sS P X k (.Return (some e) pos) (.ret a) := PSweak (ps_ret h1) fun D σ H ⟨ι, env, S, r, re, h⟩ => by
  simp only [evC] at h
  refine getD r re h fun ι1 S1 H1 d v e1 r1 re1 z h => ?_
  exact PostF.go (f := .ret d) e1 r1 h v z
theorem s_expr {pos : Pos} {e : Expr} {a : E} (h1 : sE P X k e a) (hs : swapsWith e none pos.line X.env = pure false) : sS P X k (.Expr e pos) (.expr a) := PSweak (ps_expr h1 hs) fun D σ H ⟨ι, env, S, r, re, h⟩ => by
  simp only [evC] at h
  refine getR r re h fun ι1 S1 H1 d v e1 r1 re1 z n h => ?_
  exact PostF.go (f := .nxt env) e1 r1 h σ re1
theorem s_if {pos : Pos} {c : Expr} {a b : List Stmt} {c' : E} {a' b' : C} (h0 : sT P X k c c') (h1 : sSs P X k a a') (h2 : sSs P X k b b') : sS P X k (.If c a b pos) (.ifc c' a' b') :=
  PSweak (ps_if h0 h1 h2) fun D σ H ⟨ι, env, S, r, re, h⟩ => by
    simp only [evC] at h
    refine getT r re h fun ι1 S1 H1 t e1 r1 re1 h => ?_
    cases t with
    | true => rw [if_pos rfl]; exact ⟨ι1, env, S1, r1, re1, okk_imp h fun _ _ p => PostF.shift p e1⟩
    | false => rw [if_neg (by simp)]; exact ⟨ι1, env, S1, r1, re1, okk_imp h fun _ _ p => PostF.shift p e1⟩
theorem ss_nil : sSs P X k [] .skip := PSsweak pss_nil fun D σ H ⟨ι, env, S, r, re, h⟩ => h ι H (Ex.refl ..) r σ re
theorem ss_cons {st : Stmt} {r : List Stmt} {a b : C} (h1 : sS P X k st a) (h2 : sSs P X k r b) : sSs P X k (st :: r) (.seq a b) :=
  PSsweak (pss_cons h1 h2) fun D σ H ⟨ι, env, S, r, re, h⟩ => by
    simp only [evC] at h
    refine ⟨ι, env, S, r, re, okk_imp (okk_bind h) fun f S1 h => fun ι1 H1 e1 r1 => ?_⟩
    cases f with
    | nxt env1 => exact fun σ1 re1 => ⟨ι1, env1, S1, r1, re1, okk_imp h fun _ _ p => PostF.shift p e1⟩
    | brk env1 => exact (PostF.shift (f := .brk env1) h e1) ι1 H1 (Ex.refl ..) r1
    | cnt env1 => exact (PostF.shift (f := .cnt env1) h e1) ι1 H1 (Ex.refl ..) r1
    | ret d => exact (PostF.shift (f := .ret d) h e1) ι1 H1 (Ex.refl ..) r1

/-! ### assignments -/
theorem tc_asg {t : T} {a : E} {g : TG} (hg : ∀ v σ H Q, tG X.md t v σ H Q → g v σ H Q) (D : Ends) (σ : L2.St) (H : Hp) (h : tS X.md P k (.asg t a) D σ H) : tAsg (tE X.md P k a) g D σ H := by
  obtain ⟨ι, env, S, r, re, h⟩ := h
  simp only [evC] at h
  refine getD r re h fun ι1 S1 H1 d v e1 r1 re1 z h => hg _ _ _ _ ?_
  cases q : T.put t d env with
  | none => rw [q] at h; exact h.elim
  | some env1 =>
    rw [q] at h
    exact ⟨ι1, env, d, env1, re1, z, q, fun σ' re' _ => PostF.go (f := .nxt env1) e1 r1 h σ' re'⟩
theorem gn_ok {i : Nat} (v : V) (σ : L2.St) (H : Hp) (Q : L2.St → Hp → Prop) (h : tG X.md (.name i) v σ H Q) : gName i v σ H Q := by
  obtain ⟨ι, env, d, env', re, z, q, h⟩ := h
  simp only [T.put, Option.some.injEq] at q
  subst q
  exact h _ (re.set i z) fun j hj => by
    simp only [T.slots, List.mem_singleton] at hj
    rw [List.getElem?_set_ne (Ne.symm hj)]
theorem swaps_plain {e : Expr} (h : noComp e = true) (t : Option Expr) (l : Nat) (env : PySem.Env) : swapsWith e t l env = pure false := by
  cases e <;> first | rfl | cases h
theorem s_set {x : Str} {i : Nat} {e : Expr} {a : E} {p pos : Pos} (c : CoS P X Γ k) (hi : ownOf Γ x = some i) (hs : swapsWith e (some (.Name x p)) pos.line X.env = pure false) (h1 : sE P X k e a) : sS P X k (.Assign [.Name x p] e pos) (.asg (.name i) a) := by
  obtain ⟨g1, g2⟩ := c.own hi
  exact PSweak (ps_set c.nd g1 g2 h1 hs (c.fnk x i hi)) (tc_asg gn_ok)
theorem s_asg {tg e : Expr} {t : T} {a : E} {n : Nat} {pos : Pos} (c : CoS P X Γ k) (ht : cT Γ n tg = some t) (hn : noComp e = true) (hw : swappedStores [tg] e X.env = pure none) (h1 : sE P X k e a) : sS P X k (.Assign [tg] e pos) (.asg t a) :=
  PSweak (ps_asg h1 (tg_ok c.toCo ht) (swaps_plain hn _ _ _) hw (by rw [cT_nostar ht]; rfl)) (tc_asg fun _ _ _ _ h => h)
theorem s_sub {o i e : Expr} {o' i' a : E} {p pos : Pos} (c : CoS P X Γ k) (hn : noComp e = true) (hi : ∀ lo hi st p, i ≠ .Slice lo hi st p) (h0 : sE P X k o o') (h1 : sE P X k i i') (h2 : sE P X k e a) : sS P X k (.Assign [.Subscript o i p] e pos) (.sub o' i' a) :=
  PSweak (ps_asg h2 (pg_sub h0 h1 (set_ok c.hu) (by intro v; cases i <;> first | rfl | exact absurd rfl (hi _ _ _ _))) (swaps_plain hn (some (.Subscript o i p)) pos.line X.env) rfl rfl) fun D σ H ⟨ι, env, S, r, re, h⟩ => by
    simp only [evC] at h
    refine getD r re h fun ι1 S1 H1 d v e1 r1 re1 z h => ?_
    refine getD r1 re1 h fun ι2 S2 H2 d2 v2 e2 r2 re2 z2 h => ?_
    refine getD r2 re2 h fun ι3 S3 H3 d3 v3 e3 r3 re3 z3 h => ?_
    cases q : setIx S3 d2 d3 d with
    | none => rw [q] at h; exact h.elim
    | some S4 =>
      rw [q] at h
      refine ⟨ι3, S3, d2, d3, d, S4, r3, z2.mono e3.ext, z3, (z.mono e2.ext).mono e3.ext, q, fun H' e4 r4 => ?_⟩
      exact PostF.go (f := .nxt env) (((e1.trans e2).trans e3).trans e4) r4 h σ (re3.mono e4.ext)
theorem s_aug {x : Str} {i : Nat} {o : Operator} {o' : Bop} {e : Expr} {a : E} {p pos : Pos} (c : CoS P X Γ k) (hi : ownOf Γ x = some i) (ho : bopOf o = some o') (h1 : sE P X k e a) : sS P X k (.AugAssign (.Name x p) o e pos) (.aug i o' a) := by
  obtain ⟨g1, g2⟩ := c.own hi
  have no : ∀ (D : Ends) (σ : L2.St) (H : Hp), o' ≠ .add → o' ≠ .sub → ¬ tS X.md P k (.aug i o' a) D σ H := fun D σ H n1 n2 ⟨ι, env, S, r, re, h⟩ => by
    simp only [evC] at h
    split at h
    · obtain ⟨x, S1, q, h⟩ := okk_ex h
      obtain ⟨d, S2, q⟩ := ok_bindD q
      split at q
      · exact n1 rfl
      · exact n2 rfl
      · cases q
    · exact h.elim
  cases o <;> simp only [bopOf, Option.some.injEq] at ho <;> try cases ho
  · refine PSweak (ps_aug c.nd g1 g2 h1 ip_add (c.fnk x i hi)) fun D σ H ⟨ι, env, S, r, re, h⟩ => ?_
    simp only [evC] at h
    split at h
    · rename_i d g
      obtain ⟨v, e1, e2⟩ := re.at_ i d g
      refine ⟨v, e1, getD r re h fun ι1 S1 H1 d2 v2 e3 r1 re1 z h => ?_⟩
      obtain ⟨a, b, rfl, rfl⟩ : ∃ a b, d = .int a ∧ d2 = .int b := by
        cases d <;> first | exact h.elim | (cases d2 <;> first | exact h.elim | exact ⟨_, _, rfl, rfl⟩)
      simp only [Rep] at e2 z
      exact ⟨a, b, e2, z, PostF.go (f := .nxt (setSlot env i (.int (a + b)))) e3 r1 h _ (re1.set i (by simp [Rep]))⟩
    · exact h.elim
  · refine PSweak (ps_aug c.nd g1 g2 h1 ip_sub (c.fnk x i hi)) fun D σ H ⟨ι, env, S, r, re, h⟩ => ?_
    simp only [evC] at h
    split at h
    · rename_i d g
      obtain ⟨v, e1, e2⟩ := re.at_ i d g
      refine ⟨v, e1, getD r re h fun ι1 S1 H1 d2 v2 e3 r1 re1 z h => ?_⟩
      obtain ⟨a, b, rfl, rfl⟩ : ∃ a b, d = .int a ∧ d2 = .int b := by
        cases d <;> first | exact h.elim | (cases d2 <;> first | exact h.elim | exact ⟨_, _, rfl, rfl⟩)
      simp only [Rep] at e2 z
      exact ⟨a, b, e2, z, PostF.go (f := .nxt (setSlot env i (.int (a - b)))) e3 r1 h _ (re1.set i (by simp [Rep]))⟩
    · exact h.elim
  all_goals exact ⟨fun pins s σ H D I h => absurd h (no D σ H (by simp) (by simp))⟩

/-! ### a, b = x, y -/
theorem kind_of (c : CoS P X Γ k) (x : Str) : X.env.kindOf x = Γ.sc.names.lookup x := by rw [← c.sc]; rfl
theorem bk_of (c : CoS P X Γ k) : (X.env.blockKind != .function) = false := by
  unfold PySem.Env.blockKind
  rw [c.kf]
  rfl
theorem star_all {vs : List Expr} (h : vs.all noStar = true) {f : Expr → Bool} (hf : ∀ e, noStar e = true → f e = false) : ¬ (vs.any f = true) := by
  rw [Bool.not_eq_true, List.any_eq_false]
  intro e he
  rw [hf e (List.all_eq_true.mp h e he)]
  simp
theorem swap_none (c : CoS P X Γ k) {ts : List Expr} {k1 : _} {p1 : Pos} {e : Expr} (h : noSwap Γ (.Tuple ts k1 p1) e = true) : swappedStores [.Tuple ts k1 p1] e X.env = pure none := by
  cases e <;> try rfl
  rename_i vs k2 p2
  simp only [noSwap, Bool.or_eq_true, Bool.and_eq_true] at h
  unfold swappedStores
  simp only
  by_cases h1 : (!(ts.length == 2 || ts.length == 3) || vs.length != ts.length || X.env.blockKind != .function) = true
  · rw [if_pos h1]
  · rw [if_neg h1]
    simp only [Bool.or_eq_true, not_or] at h1
    have hst : vs.all noStar = true := by
      rcases h with (((h | h) | h) | h)
      · exact absurd h h1.1.1
      · exact absurd h h1.1.2
      · exact h.1
      · exact h.1.1
    rw [if_neg (star_all hst fun e he => by cases e <;> first | rfl | cases he)]
    split
    · rfl
    · rename_i hn
      rcases h with (((h | h) | h) | h)
      · exact absurd h h1.1.1
      · exact absurd h h1.1.2
      · exfalso
        apply hn
        rw [Bool.or_eq_true]
        left
        simp only [bne_iff_ne, ne_eq]
        intro hl
        have := List.filterMap_length_eq_length.mp hl
        obtain ⟨t, ht, hb⟩ := List.any_eq_true.mp h.2
        have := this t ht
        cases t <;> simp at this
        rename_i x p
        rw [kind_of c] at this
        simp [this.1, this.2] at hb
      · rw [if_pos h.1.2]

theorem nameIx_facts : ∀ {ts : List Expr} {line : Nat} {l : List Nat}, nameIx Γ line ts = some l → ∃ xs : List Str, xs.length = ts.length ∧ l.length = ts.length ∧ (∀ (i : Nat) (x : Str) (p : Pos), ts[i]? = some (Expr.Name x p) → xs[i]? = some x) ∧
    (∀ (i : Nat) (e : Expr), ts[i]? = some e → ∃ x p j, e = .Name x p ∧ xs[i]? = some x ∧ l[i]? = some j ∧ idx x Γ.N 0 = some j ∧ Γ.sc.names.lookup x = some .local ∧ p.line = line)
  | [], _, l, h => by
    simp only [nameIx, Option.some.injEq] at h
    subst h
    exact ⟨[], rfl, rfl, by simp, by simp⟩
  | e :: r, line, l, h => by
    cases e <;> simp only [nameIx] at h <;> try cases h
    rename_i x p
    split at h <;> rename_i hc
    · split at h
      · rename_i i l' g1 g2
        cases h
        obtain ⟨xs, h1, h2, h3, h4⟩ := nameIx_facts g2
        simp only [Bool.and_eq_true, decide_eq_true_eq, beq_iff_eq] at hc
        refine ⟨x :: xs, by simp [h1], by simp [h2], fun i y p e => ?_, fun i e he => ?_⟩
        · cases i with
          | zero => simp at e; simp [e.1]
          | succ i => simpa using h3 i y p (by simpa using e)
        · cases i with
          | zero => simp at he; subst he; exact ⟨x, p, _, rfl, rfl, rfl, g1, hc.1, hc.2⟩
          | succ i => simpa using h4 i e (by simpa using he)
      · cases h
    · cases h
theorem swap_some (c : CoS P X Γ k) {ts vs : List Expr} {l : List Nat} {k1 k2 : _} {p1 p2 : Pos} (h : swaps Γ ts vs = some l) :
    (∃ x y px py i j a b, ts = [.Name x px, .Name y py] ∧ vs = [a, b] ∧ l = [i, j] ∧ i ≠ j ∧ X.N[i]? = some x ∧ X.N[j]? = some y ∧ X.env.scope.names.lookup x = some .local ∧ X.env.scope.names.lookup y = some .local ∧
      swappedStores [.Tuple ts k1 p1] (.Tuple vs k2 p2) X.env = pure (some [x, y])) ∨
    (∃ x y z px py pz i j m a b d, ts = [.Name x px, .Name y py, .Name z pz] ∧ vs = [a, b, d] ∧ l = [i, j, m] ∧ i ≠ j ∧ i ≠ m ∧ j ≠ m ∧ X.N[i]? = some x ∧ X.N[j]? = some y ∧ X.N[m]? = some z ∧
      X.env.scope.names.lookup x = some .local ∧ X.env.scope.names.lookup y = some .local ∧ X.env.scope.names.lookup z = some .local ∧
      swappedStores [.Tuple ts k1 p1] (.Tuple vs k2 p2) X.env = pure (some [x, y, z])) := by
  unfold swaps at h
  split at h <;> rename_i hl
  · split at h
    · rename_i l' hn
      split at h <;> rename_i hc
      · cases h
        simp only [Bool.and_eq_true, decide_eq_true_eq, Bool.not_eq_true'] at hc hl
        obtain ⟨⟨⟨hnd, hst⟩, hf⟩, hk⟩ := hc
        have hst' : ¬ _ := star_all hst (f := fun | .Starred .. => true | _ => false) fun e he => by cases e <;> first | rfl | cases he
        obtain ⟨xs, h1, h2, h3, h4⟩ := nameIx_facts hn
        have hv : vs.length = ts.length := by simpa using hl.2
        have hlen := hl.1
        simp only [Bool.or_eq_true, beq_iff_eq] at hlen
        rcases hlen with hlen | hlen
        · left
          match ts, vs, l, hlen, hv, h2 with
          | [t1, t2], [a, b], [i, j], _, _, _ =>
            obtain ⟨x, px, i', rfl, _, q1, q2, q3, q4⟩ := h4 0 t1 rfl
            obtain ⟨y, py, j', rfl, _, q5, q6, q7, q8⟩ := h4 1 t2 rfl
            simp at q1 q5
            subst q1 q5
            have hij : i ≠ j := by simpa using hnd
            have hxy : x ≠ y := fun e => hij (by subst e; rw [q2] at q6; exact Option.some.inj q6)
            refine ⟨x, y, px, py, i, j, a, b, rfl, rfl, rfl, hij, by rw [c.N]; exact idx0 q2, by rw [c.N]; exact idx0 q6, by rw [c.sc]; exact q3, by rw [c.sc]; exact q7, ?_⟩
            have kx : (X.env.kindOf x == some NameKind.local) = true := by rw [kind_of c, q3]; rfl
            have ky : (X.env.kindOf y == some NameKind.local) = true := by rw [kind_of c, q7]; rfl
            unfold swappedStores
            simp only
            rw [if_neg (by simp [bk_of c]), if_neg (star_all hst fun e he => by cases e <;> first | rfl | cases he)]
            have q4' : py.line = px.line := by
              simp [PySem.Expr.pos] at q8
              exact q8
            have ed : ([x, y] : List Str).eraseDups = [x, y] := by
              simp [List.eraseDups_cons, hxy, Ne.symm hxy]
            simp only [List.filterMap_cons, List.filterMap_nil, kx, ky, List.head?_cons, Option.map_some, Option.getD_some, Bool.true_and, Expr.pos, q4', beq_self_eq_true, if_true, ed]
            rw [if_neg (by simp), if_neg (by rw [hf]; simp), if_neg (by rw [hk]; simp)]
        · right
          match ts, vs, l, hlen, hv, h2 with
          | [t1, t2, t3], [a, b, d], [i, j, m], _, _, _ =>
            obtain ⟨x, px, i', rfl, _, q1, q2, q3, q4⟩ := h4 0 t1 rfl
            obtain ⟨y, py, j', rfl, _, q5, q6, q7, q8⟩ := h4 1 t2 rfl
            obtain ⟨z, pz, m', rfl, _, q9, q10, q11, q12⟩ := h4 2 t3 rfl
            simp at q1 q5 q9
            subst q1 q5 q9
            simp only [List.nodup_cons, List.mem_cons, List.not_mem_nil, or_false, not_or] at hnd
            obtain ⟨⟨hij, him⟩, hjm, _⟩ := hnd
            have hxy : x ≠ y := fun e => hij (by subst e; rw [q2] at q6; exact Option.some.inj q6)
            have hxz : x ≠ z := fun e => him (by subst e; rw [q2] at q10; exact Option.some.inj q10)
            have hyz : y ≠ z := fun e => hjm (by subst e; rw [q6] at q10; exact Option.some.inj q10)
            refine ⟨x, y, z, px, py, pz, i, j, m, a, b, d, rfl, rfl, rfl, hij, him, hjm, by rw [c.N]; exact idx0 q2, by rw [c.N]; exact idx0 q6, by rw [c.N]; exact idx0 q10, by rw [c.sc]; exact q3, by rw [c.sc]; exact q7, by rw [c.sc]; exact q11, ?_⟩
            have kx : (X.env.kindOf x == some NameKind.local) = true := by rw [kind_of c, q3]; rfl
            have ky : (X.env.kindOf y == some NameKind.local) = true := by rw [kind_of c, q7]; rfl
            have kz : (X.env.kindOf z == some NameKind.local) = true := by rw [kind_of c, q11]; rfl
            unfold swappedStores
            simp only
            rw [if_neg (by simp [bk_of c]), if_neg (star_all hst fun e he => by cases e <;> first | rfl | cases he)]
            have q4' : py.line = px.line := by
              simp [PySem.Expr.pos] at q8
              exact q8
            have q5' : pz.line = px.line := by
              simp [PySem.Expr.pos] at q12
              exact q12
            have ed : ([x, y, z] : List Str).eraseDups = [x, y, z] := by
              simp [List.eraseDups_cons, hxy, Ne.symm hxy, hxz, Ne.symm hxz, hyz, Ne.symm hyz]
            simp only [List.filterMap_cons, List.filterMap_nil, kx, ky, kz, List.head?_cons, Option.map_some, Option.getD_some, Bool.true_and, Expr.pos, q4', q5', beq_self_eq_true, if_true, ed]
            rw [if_neg (by simp), if_neg (by rw [hf]; simp), if_neg (by rw [hk]; simp)]
      · cases h
    · cases h
  · cases h
theorem s_par {ts vs : List Expr} {l : List Nat} {k1 k2 : _} {p1 p2 pos : Pos} {a : E} (c : CoS P X Γ k) (h : swaps Γ ts vs = some l) (h1 : sA P X k vs a) : sS P X k (.Assign [.Tuple ts k1 p1] (.Tuple vs k2 p2) pos) (.par l a) := by
  rcases swap_some (k1 := k1) (k2 := k2) (p1 := p1) (p2 := p2) c h with ⟨x, y, px, py, i, j, a', b', rfl, rfl, rfl, hij, g1, g2, g3, g4, hw⟩ | ⟨x, y, z, px, py, pz, i, j, m, a', b', d', rfl, rfl, rfl, hij, him, hjm, g1, g2, g3, g4, g5, g6, hw⟩
  · refine PSweak (ps_par c.calm c.nd g1 g2 hij g3 g4 h1 hw) fun D σ H ⟨ι, env, S, r, re, h⟩ => ?_
    simp only [evC] at h
    refine getL r re h fun ι1 S1 H1 ds vs e1 r1 re1 z h => ?_
    match ds, h with
    | [d1, d2], h =>
      simp only [Reps] at z
      obtain ⟨v, _, rfl, z1, w, _, rfl, z2, rfl⟩ := z
      exact ⟨v, w, rfl, PostF.go (f := .nxt (setSlot (setSlot env i d1) j d2)) e1 r1 h _ ((re1.set i z1).set j z2)⟩
    | [], h => exact h.elim
    | [_], h => exact h.elim
    | _ :: _ :: _ :: _, h => exact h.elim
  · refine PSweak (ps_par3 c.calm c.nd g1 g2 g3 hij him hjm g4 g5 g6 h1 hw) fun D σ H ⟨ι, env, S, r, re, h⟩ => ?_
    simp only [evC] at h
    refine getL r re h fun ι1 S1 H1 ds vs e1 r1 re1 z h => ?_
    match ds, h with
    | [d1, d2, d3], h =>
      simp only [Reps] at z
      obtain ⟨v, _, rfl, z1, w, _, rfl, z2, u, _, rfl, z3, rfl⟩ := z
      exact ⟨v, w, u, rfl, PostF.go (f := .nxt (setSlot (setSlot (setSlot env i d1) j d2) m d3)) e1 r1 h _ (((re1.set i z1).set j z2).set m z3)⟩
    | [], h => exact h.elim
    | [_], h => exact h.elim
    | [_, _], h => exact h.elim
    | _ :: _ :: _ :: _ :: _, h => exact h.elim

/-! ### loops -/
theorem s_while {c : Expr} {b : List Stmt} {c' : E} {b' : C} {pos : Pos} (co : CoS P X Γ k) (h0 : sT P X k c c') (h1 : sSs P X k b b') : sS P X k (.While c b [] pos) (.whl c' b') :=
  PSweak (ps_while co.hp h0 h1) fun D σ H ⟨ι, env, S, r, re, h⟩ => by
    simp only [evC] at h
    refine ⟨fun m σ' H' => ∃ ι' env' S', Ex X.md ι S H ι' S' H' ∧ RelS X.md ι' S' H' ∧ RelE X.md ι' H' env' σ' ∧ Okk (whileN (fun env S => bindT (ev P.gl (run P k) c' env S) fun t S1 => .ok t S1) (fun env S => evC P.gl (run P k) b' env S) m env' S') (PostF X.md ι S H D),
      ⟨fuel, ι, env, S, Ex.refl .., r, re, h⟩, fun m σ' H' ⟨ι', env', S', e1, r1, re1, h⟩ => ?_⟩
    cases m with
    | zero => exact h.elim
    | succ m =>
      simp only [whileN] at h
      rw [bind_T] at h
      refine getT r1 re1 h fun ι2 S2 H2 t e2 r2 re2 h => ?_
      have e12 := e1.trans e2
      cases t with
      | false =>
        rw [if_neg (by simp)]
        exact PostF.go (f := .nxt env') e12 r2 h σ' re2
      | true =>
        rw [if_pos rfl]
        replace h : Okk ((evC P.gl (run P k) b' env' S2).bind _) _ := h
        refine ⟨_, fun σ3 H3 w => ⟨m, Nat.lt_succ_self m, w⟩, ι2, env', S2, r2, re2, okk_imp (okk_bind h) fun f S3 h => fun ι3 H3 e3 r3 => ?_⟩
        have e13 := e12.trans e3
        cases f with
        | nxt env3 => exact fun σ3 re3 => ⟨ι3, env3, S3, e13, r3, re3, h⟩
        | cnt env3 => exact fun σ3 re3 => ⟨ι3, env3, S3, e13, r3, re3, h⟩
        | brk env3 => exact fun σ3 re3 => PostF.go (f := .nxt env3) e13 r3 h σ3 re3
        | ret d => exact fun v z => PostF.go (f := .ret d) e13 r3 h v z
theorem s_for {tg it : Expr} {b : List Stmt} {t : T} {ik : Ik} {a1 a2 : E} {b' : C} {n : Nat} {pos : Pos} (co : CoS P X Γ k) (ht : cT Γ n tg = some t) (hi : sI P X k tg it ik a1 a2) (h1 : sSs P X k b b') (hs : ∀ x, foldedSetIterable it X.env x = pure x) :
    sS P X k (.For tg it b [] pos) (.forc t ik a1 a2 b') :=
  PSweak (ps_for co.hp co.calm hi (tg_ok co.toCo ht) h1 hs) fun D σ H ⟨ι, env, S, r, re, h⟩ => by
    simp only [evC] at h
    refine ⟨ι, env, S, r, re, okk_imp (okk_bind h) fun p S1 h => fun J ι1 H1 e1 r1 sr => ?_⟩
    obtain ⟨xs, g⟩ := p
    refine ⟨fun i m σ' H' => m = xs.length - i ∧ i ≤ xs.length ∧ ∃ ι' env' S', Ex X.md ι1 S1 H1 ι' S' H' ∧ RelS X.md ι' S' H' ∧ RelE X.md ι' H' env' σ' ∧ Okk (forL g t (fun env S => evC P.gl (run P k) b' env S) (xs.drop i) env' S') (PostF X.md ι S H D),
      ⟨xs.length, by simp, Nat.zero_le _, ι1, env, S1, Ex.refl .., r1, re.mono e1.ext, by rw [List.drop_zero]; exact h⟩, ?_⟩
    rintro i m σ' H' ⟨rfl, hi, ι', env', S', e2, r2, re2, h⟩
    by_cases hlt : i < xs.length
    · refine .inr ?_
      have hd : xs.drop i = xs[i] :: xs.drop (i + 1) := List.drop_eq_getElem_cons hlt
      rw [hd] at h
      simp only [forL] at h
      split at h <;> rename_i gk
      · have sg := sr.go ι' S' H' i e2 r2 gk hlt
        refine ⟨sg.1, _, fun σ3 H3 w => ⟨xs.length - (i + 1), by omega, w⟩, fun x H'' hy => ?_⟩
        obtain ⟨e3, r3, d, hx, hz⟩ := sg.2 x H'' hy
        have hd' : d = xs[i] := by
          rw [List.getElem?_eq_getElem hlt] at hx
          exact (Option.some.inj hx).symm
        rw [← hd'] at h
        cases hp : T.put t d env' with
        | none => rw [hp] at h; exact h.elim
        | some env1 =>
          rw [hp] at h
          refine ⟨ι', env', d, env1, re2.mono e3.ext, hz, hp, fun σ4 re4 _ => ⟨ι', env1, S', r3, re4, okk_imp (okk_bind h) fun f S5 h => fun ι5 H5 e5 r5 => ?_⟩⟩
          have e15 := (e2.trans e3).trans e5
          cases f with
          | nxt env5 => exact fun σ5 re5 => ⟨rfl, hlt, ι5, env5, S5, e15, r5, re5, h⟩
          | cnt env5 => exact fun σ5 re5 => ⟨rfl, hlt, ι5, env5, S5, e15, r5, re5, h⟩
          | brk env5 => exact fun σ5 re5 => PostF.go (f := .nxt env5) (e1.trans e15) r5 h σ5 re5
          | ret d5 => exact fun v z => PostF.go (f := .ret d5) (e1.trans e15) r5 h v z
      · exact h.elim
    · have : i = xs.length := by omega
      subst this
      rw [List.drop_length] at h
      simp only [forL] at h
      split at h <;> rename_i gk
      · exact .inl ⟨sr.stop ι' S' H' e2 r2 gk, PostF.go (f := .nxt env') (e1.trans e2) r2 h σ' re2⟩
      · exact h.elim
end
end MP

/-! Statements are translated rightly; functions. -/
set_option linter.all false
set_option autoImplicit false
namespace MP
open PySem PySem.Spec PyProof.Rows L2

section
variable {P : Prg} {k : Nat}
structure SndS (P : Prg) (k n : Nat) : Prop where
  s : ∀ {X : Cx} {Γ : Cc} {st : Stmt} {c : C}, CoS P X Γ k → cS n Γ st = some c → sS P X k st c
  ss : ∀ {X : Cx} {Γ : Cc} {st : List Stmt} {c : C}, CoS P X Γ k → cSs n Γ st = some c → sSs P X k st c
theorem s_setLc {X : Cx} {Γ : Cc} {n i : Nat} {x : Str} {elt : Expr} {gs : List Comprehension} {scope : Scope} {p cp pos : Pos} {a : E} (c : CoS P X Γ k) (hi : ownOf Γ x = some i) (hx : Γ.sc.names.lookup x = some .local) (hl : (p.line == cp.line) = true)
    (hn : (scope.names.any fun (y, k) => y == x && (k == .local || k == .cell)) = false) (h : cE n Γ (.ListComp elt gs scope cp) = some a) : sS P X k (.Assign [.Name x p] (.ListComp elt gs scope cp) pos) (.asg (.name i) a) := by
  cases n with
  | zero => simp [cE] at h
  | succ n =>
    have ih := snd (P := P) (k := k) n
    simp only [cE] at h
    split at h
    · rename_i tg it ifs
      split at h <;> rename_i hb
      · split at h
        · rename_i t ik a b cc el g1 g2 g3 g4
          split at h <;> rename_i hs
          · cases h
            have ok : BlkOk X.N X.env.scope scope (blkOwn Γ.N scope.names) := by
              rw [c.N, c.sc]
              exact blkOk_by hb
            have sl : ∀ i ∈ t.slots, i ∈ (blkOwn Γ.N scope.names).map (·.2) := fun i hi => by
              have := List.all_eq_true.mp hs i hi
              simpa using this
            have sw : swapsWith (.ListComp elt [⟨tg, it, ifs, 0⟩] scope cp) (some (.Name x p)) pos.line X.env = pure true := by
              unfold swapsWith
              show (pure (X.env.blockKind == .function && X.env.kindOf x == some .local && p.line == cp.line && !(scope.names.any fun (n, k) => n == x && (k == .local || k == .cell))) : Sem Bool) = _
              have hbk : (X.env.blockKind == .function) = true := by
                have := bk_of c
                simpa [bne] using this
              have kx : (X.env.kindOf x == some NameKind.local) = true := by rw [kind_of c, hx]; rfl
              rw [hbk, kx, hl, hn]
              rfl
            have key := ps_setLc (pos := cp) (spos := pos) (py := p) (g := tG X.md t) (tt := tT X.md P k cc) (te := tE X.md P k el) c.calm c.nd (c.own hi).1 (by rw [c.sc]; exact hx) sw (ih.q c.toCo g2) ok (fun s H C cl fp => tg_ok (c.toCo.blk s H scope C cl fp) g1)
              (fun s H C cl fp => ih.i (c.toCo.blk s H scope C cl fp) g3) (fun s H C cl fp => (ih.e (c.toCo.blk s H scope C cl fp) g4).1) (cQ_set g2 _)
            refine PSweak key fun D σ H h => ?_
            have h := tc_asg (X := X) (g := gName i) gn_ok D σ H h
            exact comp_ok sl σ H _ h
          · cases h
        · cases h
      · cases h
    · cases h
theorem ss_step {n : Nat} (ih : SndS P k n) {X : Cx} {Γ : Cc} {st : List Stmt} {c' : C} (c : CoS P X Γ k) (h : cSs (n + 1) Γ st = some c') : sSs P X k st c' := by
  cases st with
  | nil =>
    simp only [cSs, Option.some.injEq] at h
    subst h
    exact ss_nil
  | cons s r =>
    cases r with
    | nil =>
      simp only [cSs] at h
      split at h
      · cases h
        exact pss_one s_skip
      · exact pss_one (ih.s c h)
    | cons s2 r =>
      simp only [cSs] at h
      split at h
      · rename_i a b g1 g2
        cases h
        exact ss_cons (ih.s c g1) (ih.ss c g2)
      · cases h
theorem s_step {n : Nat} (ih : SndS P k n) {X : Cx} {Γ : Cc} {st : Stmt} {c' : C} (c : CoS P X Γ k) (h : cS (n + 1) Γ st = some c') : sS P X k st c' := by
  have ihe := snd (P := P) (k := k) n
  cases st with
  | Pass pos => simp only [cS, Option.some.injEq] at h; subst h; exact s_skip
  | Break pos => simp only [cS, Option.some.injEq] at h; subst h; exact s_brk
  | Continue pos => simp only [cS, Option.some.injEq] at h; subst h; exact s_cnt
  | Return v pos =>
    simp only [cS] at h
    split at h
    · cases h; exact s_retN
    · simp only [Option.map_eq_some_iff] at h
      obtain ⟨a, h1, rfl⟩ := h
      exact s_ret (ihe.e c.toCo h1).1
  | Expr e pos =>
    simp only [cS] at h
    split at h <;> rename_i hn
    · split at h
      · simp only [Option.map_eq_some_iff] at h
        obtain ⟨a, h1, rfl⟩ := h
        exact s_expr (ihe.e c.toCo h1).1 rfl
      · cases h
    · cases h
  | If q a b pos =>
    simp only [cS] at h
    split at h
    · rename_i q' a' b' g1 g2 g3
      cases h
      exact s_if (ihe.e c.toCo g1).2 (ih.ss c g2) (ih.ss c g3)
    · cases h
  | While q b els pos =>
    simp only [cS] at h
    split at h
    · split at h
      · rename_i q' b' g1 g2
        cases h
        exact s_while c (ihe.e c.toCo g1).2 (ih.ss c g2)
      · cases h
    · cases h
  | For tg it b els pos =>
    simp only [cS] at h
    split at h
    · split at h
      · rename_i t ik a1 a2 b' g1 g2 g3
        cases h
        exact s_for c g1 (ihe.q c.toCo g2) (ih.ss c g3) (cQ_set g2 _)
      · cases h
    · cases h
  | AugAssign tg o e pos =>
    simp only [cS] at h
    split at h
    · split at h
      · rename_i i o' a g1 g2 g3
        cases h
        exact s_aug c g1 g2 (ihe.e c.toCo g3).1
      · cases h
    · cases h
  | Assign tgs e pos =>
    simp only [cS] at h
    split at h
    · split at h
      · rename_i x p
        split at h
        · rename_i i a g1 g2
          split at h
          · rename_i elt gs scope cp
            split at h <;> rename_i hx
            · split at h <;> rename_i hc
              · cases h
                simp only [Bool.and_eq_true, Bool.not_eq_true'] at hc
                exact s_setLc c g1 hx hc.1 hc.2 g2
              · cases h
            · cases h
              refine s_set c g1 ?_ (ihe.e c.toCo g2).1
              unfold swapsWith
              show (pure (X.env.blockKind == .function && X.env.kindOf x == some .local && p.line == cp.line && !(scope.names.any fun (n, k) => n == x && (k == .local || k == .cell))) : Sem Bool) = _
              have kx : (X.env.kindOf x == some NameKind.local) = false := by
                rw [kind_of c, beq_eq_false_iff_ne]
                exact hx
              rw [kx]
              simp
          · split at h <;> rename_i hn
            · cases h
              exact s_set c g1 (swaps_plain hn _ _ _) (ihe.e c.toCo g2).1
            · cases h
        · cases h
      · split at h
        · rename_i ts k1 p1 vs k2 p2
          split at h
          · rename_i l hl
            simp only [Option.map_eq_some_iff] at h
            obtain ⟨a, h1, rfl⟩ := h
            exact s_par c hl (ihe.a c.toCo h1).1
          · split at h <;> rename_i hn
            · split at h
              · rename_i t a g1 g2
                cases h
                exact s_asg c g1 rfl (swap_none c hn) (ihe.e c.toCo g2).1
              · cases h
            · cases h
        · rename_i ts k1 p1 e' hne
          split at h <;> rename_i hn
          · split at h
            · rename_i t a g1 g2
              cases h
              refine s_asg c g1 hn ?_ (ihe.e c.toCo g2).1
              cases e <;> first | rfl | exact absurd rfl (hne _ _ _)
            · cases h
          · cases h
      · split at h
        · cases h
        · rename_i o i p i' hne
          split at h <;> rename_i hn
          · split at h
            · rename_i o' i' a g1 g2 g3
              cases h
              exact s_sub c hn (fun lo hi st p z => hne _ _ _ _ z) (ihe.e c.toCo g1).1 (ihe.e c.toCo g2).1 (ihe.e c.toCo g3).1
            · cases h
          · cases h
      · cases h
    · cases h
  | _ => simp [cS] at h
theorem sndS : ∀ n, SndS P k n
  | 0 => ⟨fun _ h => by simp [cS] at h, fun _ h => by simp [cSs] at h⟩
  | n + 1 => ⟨s_step (sndS n), ss_step (sndS n)⟩
end
end MP

/-! What a call leaves behind; functions. -/
set_option linter.all false
set_option autoImplicit false
namespace MP
open PySem PySem.Spec PyProof.Rows L2

mutual
/-- all places below n -/
def D.bnd (n : Nat) : D → Prop
  | .tup xs => D.bnds n xs
  | .loc m => m < n
  | _ => True
def D.bnds (n : Nat) : List D → Prop
  | [] => True
  | x :: r => D.bnd n x ∧ D.bnds n r
end
mutual
theorem flat_bnd (n : Nat) : ∀ {d : D}, d.flat = true → d.bnd n
  | .tup xs, h => by simp only [D.flat] at h; simp only [D.bnd]; exact flats_bnd n h
  | .loc m, h => by simp [D.flat] at h
  | .non, _ => by simp [D.bnd]
  | .bl _, _ => by simp [D.bnd]
  | .int _, _ => by simp [D.bnd]
  | .str _, _ => by simp [D.bnd]
theorem flats_bnd (n : Nat) : ∀ {ds : List D}, D.flats ds = true → D.bnds n ds
  | [], _ => by simp [D.bnds]
  | x :: r, h => by
    simp only [D.flats, Bool.and_eq_true] at h
    simp only [D.bnds]
    exact ⟨flat_bnd n h.1, flats_bnd n h.2⟩
end
section
variable {K : Md} {ι : List Addr} {H : Hp}
mutual
theorem rep_bnd : ∀ {d : D} {v : V}, Rep K ι H d v → d.bnd ι.length
  | .tup xs, v, h => by
    simp only [Rep] at h
    obtain ⟨a, vs, _, _, h3⟩ := h
    simp only [D.bnd]
    exact reps_bnd h3
  | .loc m, v, h => by
    simp only [Rep] at h
    obtain ⟨a, _, h2⟩ := h
    simp only [D.bnd]
    exact (List.getElem?_eq_some_iff.mp h2).1
  | .non, _, _ => by simp [D.bnd]
  | .bl _, _, _ => by simp [D.bnd]
  | .int _, _, _ => by simp [D.bnd]
  | .str _, _, _ => by simp [D.bnd]
theorem reps_bnd : ∀ {ds : List D} {vs : List V}, Reps K ι H ds vs → D.bnds ι.length ds
  | [], _, _ => by simp [D.bnds]
  | x :: r, vs, h => by
    simp only [Reps] at h
    obtain ⟨v, r', _, h2, h3⟩ := h
    simp only [D.bnds]
    exact ⟨rep_bnd h2, reps_bnd h3⟩
end
mutual
theorem Rep.cut {n : Nat} : ∀ {d : D} {v : V}, Rep K ι H d v → d.bnd n → Rep K (ι.take n) H d v
  | .tup xs, v, h, hb => by
    simp only [D.bnd] at hb
    simp only [Rep] at h ⊢
    obtain ⟨a, vs, h1, h2, h3⟩ := h
    exact ⟨a, vs, h1, h2, Reps.cut h3 hb⟩
  | .loc m, v, h, hb => by
    simp only [D.bnd] at hb
    simp only [Rep] at h ⊢
    obtain ⟨a, h1, h2⟩ := h
    exact ⟨a, h1, by rw [List.getElem?_take_of_lt hb]; exact h2⟩
  | .non, _, h, _ => by simpa [Rep] using h
  | .bl _, _, h, _ => by simpa [Rep] using h
  | .int _, _, h, _ => by simpa [Rep] using h
  | .str _, _, h, _ => by simpa [Rep] using h
theorem Reps.cut {n : Nat} : ∀ {ds : List D} {vs : List V}, Reps K ι H ds vs → D.bnds n ds → Reps K (ι.take n) H ds vs
  | [], _, h, _ => by simpa [Reps] using h
  | x :: r, vs, h, hb => by
    simp only [D.bnds] at hb
    simp only [Reps] at h ⊢
    obtain ⟨v, r', h1, h2, h3⟩ := h
    exact ⟨v, r', h1, Rep.cut h2 hb.1, Reps.cut h3 hb.2⟩
end
def kvBnd (n : Nat) (kvs : List (D × D)) : Prop := ∀ p ∈ kvs, p.1.bnd n ∧ p.2.bnd n
def Cell.bnd (n : Nat) : Cell → Prop
  | .lst xs => D.bnds n xs
  | .rol xs => D.bnds n xs
  | .dct kvs => kvBnd n kvs
  | .ins _ _ => True
theorem pair_all {α β : Type} {F : α → β → Prop} {G : α → Prop} (hg : ∀ a b, F a b → G a) : ∀ {l : List α} {m : List β}, Paired F l m → ∀ a ∈ l, G a
  | _, _, .nil, _, h => by cases h
  | _, _, .cons h1 h2, a, h => by
    rcases List.mem_cons.mp h with rfl | h
    · exact hg _ _ h1
    · exact pair_all hg h2 a h
theorem pair_cut {α β : Type} {F F' : α → β → Prop} {G : α → Prop} (hg : ∀ a b, F a b → G a → F' a b) : ∀ {l : List α} {m : List β}, Paired F l m → (∀ a ∈ l, G a) → Paired F' l m
  | _, _, .nil, _ => .nil
  | _, _, .cons h1 h2, h => .cons (hg _ _ h1 (h _ List.mem_cons_self)) (pair_cut hg h2 fun a ha => h a (List.mem_cons_of_mem _ ha))
theorem keyV_bnd {d : D} {q : Key} (n : Nat) (h : keyV d = some q) : d.bnd n := by
  cases d <;> simp [keyV] at h <;> simp [D.bnd]
theorem repC_bnd {c : Cell} {a : Addr} (h : RepC K ι H c a) : c.bnd ι.length := by
  cases c with
  | lst xs => obtain ⟨vs, _, h2⟩ := h; exact reps_bnd h2
  | rol xs =>
    rcases h with ⟨o, vs, _, h2⟩ | ⟨vs, _, h2⟩
    · exact reps_bnd h2
    · exact reps_bnd (h2 ι H)
  | dct kvs =>
    rcases h with ⟨vs, _, h2⟩ | ⟨xs, _, _, _, _, h5⟩
    · exact pair_all (fun p q z => ⟨keyV_bnd _ z.1, rep_bnd z.2⟩) h2
    · exact pair_all (fun p q z => ⟨rep_bnd z.1.2.2, let ⟨v, _, z2⟩ := z.2; rep_bnd z2⟩) h5
  | ins _ _ => trivial
theorem RepC.cut {n : Nat} {c : Cell} {a : Addr} (h : RepC K ι H c a) (hb : c.bnd n) : RepC K (ι.take n) H c a := by
  cases c with
  | lst xs => obtain ⟨vs, h1, h2⟩ := h; exact ⟨vs, h1, h2.cut hb⟩
  | rol xs =>
    rcases h with ⟨o, vs, h1, h2⟩ | h
    · exact .inl ⟨o, vs, h1, h2.cut hb⟩
    · exact .inr h
  | dct kvs =>
    rcases h with ⟨vs, h1, h2⟩ | ⟨xs, h1, h2, h3, h4, h5⟩
    · exact .inl ⟨vs, h1, pair_cut (G := fun p : D × D => p.1.bnd n ∧ p.2.bnd n) (fun p q z g => ⟨z.1, z.2.cut g.2⟩) h2 (show kvBnd n kvs from hb)⟩
    · exact .inr ⟨xs, h1, h2, h3, h4, pair_cut (G := fun p : D × D => p.1.bnd n ∧ p.2.bnd n) (fun p q z g => ⟨⟨z.1.1, z.1.2.1, z.1.2.2.cut g.1⟩, let ⟨v, z1, z2⟩ := z.2; ⟨v, z1, z2.cut g.2⟩⟩) h5 (show kvBnd n kvs from hb)⟩
  | ins _ _ => exact h
theorem flats_mem : ∀ {ds : List D} {d : D}, D.flats ds = true → d ∈ ds → d.flat = true
  | x :: r, d, h, hm => by
    simp only [D.flats, Bool.and_eq_true] at h
    rcases List.mem_cons.mp hm with rfl | hm
    · exact h.1
    · exact flats_mem h.2 hm
theorem flat_cbnd (n : Nat) {c : Cell} (h : c.flat = true) : c.bnd n := by
  cases c with
  | lst xs => exact flats_bnd n h
  | rol xs => exact flats_bnd n h
  | dct kvs =>
    simp only [Cell.flat, Bool.and_eq_true] at h
    intro p hp
    exact ⟨flat_bnd n (flats_mem h.1 (List.mem_map.mpr ⟨p, hp, rfl⟩)), flat_bnd n (flats_mem h.2 (List.mem_map.mpr ⟨p, hp, rfl⟩))⟩
  | ins _ _ => trivial
theorem csame_bnd {n : Nat} {c c' : Cell} (h : Cell.same c' c = true) (hb : c.bnd n) : c'.bnd n := by
  cases c' <;> cases c <;> simp only [Cell.same] at h <;> try cases h
  · rw [Cell.bnd, sames_eq h]; exact hb
  · rw [Cell.bnd, sames_eq h]; exact hb
  · simp only [Bool.and_eq_true] at h
    rename_i xs ys
    have e1 := sames_eq h.1
    have e2 := sames_eq h.2
    have : xs = ys := by
      apply List.ext_getElem?
      intro i
      have f1 := congrArg (·[i]?) e1
      have f2 := congrArg (·[i]?) e2
      simp only [List.getElem?_map] at f1 f2
      cases g1 : xs[i]? <;> cases g2 : ys[i]? <;> rw [g1, g2] at f1 f2 <;> simp at f1 f2
      rename_i p q
      obtain ⟨p1, p2⟩ := p
      obtain ⟨q1, q2⟩ := q
      simp only at f1 f2
      subst f1 f2
      rfl
    rw [this]; exact hb
  · trivial
theorem kept_at : ∀ {S S' : Store} {n : Nat} {c c' : Cell}, kept S S' = true → S[n]? = some c → S'[n]? = some c' → (c'.flat || Cell.same c' c) = true
  | c0 :: r, c0' :: r', 0, c, c', h, h1, h2 => by
    simp only [kept, Bool.and_eq_true] at h
    simp at h1 h2
    subst h1 h2
    exact h.1
  | c0 :: r, c0' :: r', n + 1, c, c', h, h1, h2 => by
    simp only [kept, Bool.and_eq_true] at h
    exact kept_at h.2 (by simpa using h1) (by simpa using h2)
  | [], _, n, _, _, _, h1, _ => by simp at h1
  | _ :: _, [], n, _, _, h, _, _ => by simp [kept] at h
theorem gc_ok {ι1 : List Addr} {S S1 : Store} {H1 : Hp} {d : D} {v : V} (r : RelS K ι S H) (e : Ex K ι S H ι1 S1 H1) (r1 : RelS K ι1 S1 H1) (z : Rep K ι1 H1 d v) :
    ∃ ι', Ex K ι S H ι' (gc S d S1) H1 ∧ RelS K ι' (gc S d S1) H1 ∧ Rep K ι' H1 d v := by
  unfold gc
  split <;> rename_i hc
  · simp only [Bool.and_eq_true] at hc
    refine ⟨ι1.take S.length, ⟨⟨fun n a h => ?_, e.ext.tup⟩, fun b hb fb => ⟨(e.frame b hb fb).1, fun n a c h1 h2 w => ?_⟩, e.was⟩, ⟨?_, fun n c a h1 h2 => ?_, fun m n a c d h1 h2 h3 h4 => ?_⟩, z.cut (flat_bnd _ hc.1)⟩
    · have hn : n < S.length := by rw [← r.len]; exact (List.getElem?_eq_some_iff.mp h).1
      rw [List.getElem?_take_of_lt hn]
      exact e.ext.pre n a h
    · have hn : n < S.length := by
        have := (List.getElem?_eq_some_iff.mp h2).1
        rw [List.length_take] at this
        omega
      rw [List.getElem?_take_of_lt hn] at h1 h2
      exact (e.frame b hb fb).2 n a c h1 h2 w
    · simp [r1.len]
    · have hn : n < S.length := by
        have := (List.getElem?_eq_some_iff.mp h1).1
        rw [List.length_take] at this
        omega
      rw [List.getElem?_take_of_lt hn] at h1 h2
      refine (r1.cell n c a h1 h2).cut ?_
      have hk := kept_at hc.2 (List.getElem?_eq_getElem hn) h1
      rcases Bool.or_eq_true_iff.mp hk with hk | hk
      · exact flat_cbnd _ hk
      · have hi : n < ι.length := by rw [r.len]; exact hn
        have := repC_bnd (r.cell n _ _ (List.getElem?_eq_getElem hn) (List.getElem?_eq_getElem hi))
        rw [r.len] at this
        exact csame_bnd hk this
    · have tk : ∀ (m : Nat) (c : Cell), (S1.take S.length)[m]? = some c → S1[m]? = some c := fun m c h => by
        have hn : m < S.length := by
          have := (List.getElem?_eq_some_iff.mp h).1
          rw [List.length_take] at this
          omega
        rwa [List.getElem?_take_of_lt hn] at h
      have ti : ∀ (m : Nat) (c : Addr), (ι1.take S.length)[m]? = some c → ι1[m]? = some c := fun m c h => by
        have hn : m < S.length := by
          have := (List.getElem?_eq_some_iff.mp h).1
          rw [List.length_take] at this
          omega
        rwa [List.getElem?_take_of_lt hn] at h
      exact r1.inj m n a c d (ti m a h1) (ti n a h2) (tk m c h3) (tk n d h4)
  · exact ⟨ι1, e, r1, z⟩
theorem start_rel {N : List Str} {n : Nat} {ds : List D} {vs : List V} (hn : n = N.length) (z : Reps K ι H ds vs) : RelE K ι H (start n ds) (L2.start N vs) := by
  have hl := z.len
  refine ⟨by simp [start, L2.start, hl, hn], fun i d h => ?_⟩
  unfold start at h
  by_cases hi : i < ds.length
  · rw [List.getElem?_append_left (by simpa using hi), List.getElem?_map] at h
    cases q : ds[i]? with
    | none => rw [q] at h; cases h
    | some d' =>
      rw [q] at h
      simp at h
      subst h
      obtain ⟨v, e1, e2⟩ := z.get q
      refine ⟨v, ?_, e2⟩
      unfold L2.start
      rw [List.getElem?_append_left (by simp; omega), List.getElem?_map, e1]
      rfl
  · rw [List.getElem?_append_right (by simpa using hi), List.getElem?_replicate] at h
    split at h <;> cases h
end

/-- a def of the text keeps the evaluator's promise -/
theorem fn_ok {P : Prg} {prog : Program} {w : World} {K : PySem.W.Frag} {mg : Str → Option Value} {base : Heap} {k f : Nat} {F : Fd} {N ps : List Str} {fns : List (Str × Nat × List Str)} {gls kk : List (Str × Nat)} {m : Nat}
    {x qual : Str} {params : Arguments} {body : List Stmt} {scope : Scope} {dvs : List V} {kws : List (Str × V)} {a : Addr} {fd : FuncData} (FD : FunD K x qual params body scope dvs kws a fd) (S : FnScope N ps scope)
    (hf : P.fn f = some F) (hn : F.n = N.length) (hb : cSs m { N := N, sc := scope, fns := fns, gls := gls, kws := kk } body = some F.body)
    (G : ∀ X : Cx, X.prog = prog → X.w = w → X.K = K → X.mg = mg → X.base = base → Gs P X fns gls kk k) :
    FnOk prog w K mg base CX0 (k + 1) a fd ps (spF ⟨K, prog, w⟩ P (k + 1) f ps) := by
  refine FD.ok S (fun vs H Q E h => let ⟨_, _, _, _, _, l, _⟩ := h; l) fun cdv A outer s H vs Q E hr h => ?_
  obtain ⟨ι, St, ds, r, z, hl, h⟩ := h
  let X := cxOf CX0 prog w K mg base N qual scope a cdv A outer s H E
  have co : CoS P X { N := N, sc := scope, fns := fns, gls := gls, kws := kk } k := {
    gs := G X rfl rfl rfl rfl rfl
    N := rfl
    sc := rfl
    calm := rfl
    nd := S.nd
    room := hr
    fnk := fun _ _ _ => .inl rfl
    kf := S.kind
    hp := .leaving }
  refine ⟨_, (sndS m).ss co hb, ι, start F.n ds, St, r, start_rel hn z, ?_⟩
  simp only [run, hf] at h
  split at h
  · refine okk_imp (okk_bind h) fun fl S1 h => fun ι1 H1 e1 r1 => ?_
    have fin : ∀ {d : D} {v : V}, Okk (Out.ok d (if F.gc = true then gc St d S1 else S1)) (fun d S' => ∀ ι' H' v, Ex ⟨K, prog, w⟩ ι St H ι' S' H' → RelS ⟨K, prog, w⟩ ι' S' H' → Rep ⟨K, prog, w⟩ ι' H' d v → Q v H') → Rep ⟨K, prog, w⟩ ι1 H1 d v → Q v H1 := fun {d v} h zz => by
      replace h : ∀ ι' H' v, Ex ⟨K, prog, w⟩ ι St H ι' (if F.gc = true then gc St d S1 else S1) H' → RelS ⟨K, prog, w⟩ ι' (if F.gc = true then gc St d S1 else S1) H' → Rep ⟨K, prog, w⟩ ι' H' d v → Q v H' := h
      split at h
      · obtain ⟨ι', q1, q2, q3⟩ := gc_ok r e1 r1 zz
        exact h ι' H1 v q1 q2 q3
      · exact h ι1 H1 v e1 r1 zz
    cases fl with
    | nxt env => exact fun σ' _ => fin h (by simp [Rep])
    | ret d => exact fun v zz => fin h zz
    | brk env => exact h.elim
    | cnt env => exact h.elim
  · exact h.elim
end MP

/-! A table of defs; the law's call. -/
set_option linter.all false
set_option autoImplicit false
namespace MP
open PySem PySem.Spec PyProof.Rows L2

structure Ent where
  x : Str
  f : Nat
  ps : List Str
  N : List Str
  st : Stmt
  F : Fd
def Ent.d (t : Ent) : He.DefD := ⟨(t.x, none), t.x, t.x, defArgs t.st, defBody t.st, defScope t.st, [], []⟩
def fnsOf (tab : List Ent) : List (Str × Nat × List Str) := tab.map fun t => (t.x, t.f, t.ps)
/-- the arguments are bound as they stand -/
def BindsAs (t : Ent) (n : Nat) : Prop := ∀ (kV doc pm : Value) (an : Option Addr) (cdv ct : Value) (us ws : List Value), us.length = n → ws.length = (t.ps.drop n).length →
  bindArgs (PySem.W.fnOf t.x t.x (defArgs t.st) (defBody t.st) (defScope t.st) .none kV doc pm an cdv ct) ⟨us, (t.ps.drop n).zip ws⟩ = pure (t.ps.zip (us ++ ws))
structure EntOk (P : Prg) (tab : List Ent) (gls kk : List (Str × Nat)) (t : Ent) : Prop where
  sc : FnScope t.N t.ps (defScope t.st)
  fn : P.fn t.f = some t.F
  n : t.F.n = t.N.length
  np : t.F.np = t.ps.length
  body : cSs 100 { N := t.N, sc := defScope t.st, fns := fnsOf tab, gls := gls, kws := kk } (defBody t.st) = some t.F.body
  bind : BindsAs t t.ps.length
  bindK : ∀ n, (t.x, n) ∈ kk → BindsAs t n
theorem lookup_mem {α : Type} {x : Str} {a : α} : ∀ {l : List (Str × α)}, l.lookup x = some a → (x, a) ∈ l
  | (y, b) :: r, h => by
    simp only [List.lookup_cons] at h
    split at h
    · rename_i e
      cases h
      have : x = y := by simpa using e
      subst this
      exact List.mem_cons_self
    · exact List.mem_cons_of_mem _ (lookup_mem h)
theorem kbn_of {K : PySem.W.Frag} {t : Ent} {a : Addr} {fd : FuncData} {n : Nat} (FD : FunD K t.x t.x (defArgs t.st) (defBody t.st) (defScope t.st) [] [] a fd) (h : BindsAs t n) : KBn K fd t.ps n (t.ps.drop n) (fun us ws => us ++ ws) (fun vs zs => vs ++ zs) := by
  obtain ⟨oc, od, dV, kV, doc, pm, an, cdv, ct, osl, rfl, lk, hcd, hD, hK⟩ := FD.ex
  rcases hD with ⟨_, rfl⟩ | ⟨e, _⟩
  · exact ⟨fun s us ws _ h1 h2 => .of_eq (h kV doc pm an cdv ct us ws h1 h2), fun r1 r2 => by
      induction r1 with
      | nil => exact r2
      | cons h t ih => exact .cons h ih⟩
  · exact absurd rfl e
theorem gs_all {P : Prg} {prog : Program} {w : World} {K : PySem.W.Frag} {mg : Str → Option Value} {base : Heap} {tab : List Ent} {gls kk : List (Str × Nat)}
    (hd : ∀ t ∈ tab, ∃ a fd, mg t.x = some (.ref a) ∧ FunD K t.x t.x (defArgs t.st) (defBody t.st) (defScope t.st) [] [] a fd) (ok : ∀ t ∈ tab, EntOk P tab gls kk t)
    (hg : ∀ x g, gls.lookup x = some g → ∃ u v d, mg x = some u ∧ RelV v u ∧ P.gl g = some d ∧ ∀ ι H, Rep ⟨K, prog, w⟩ ι H d v) (hb : ∀ x ∈ blts, mg x = none) :
    ∀ (k : Nat) (X : Cx), X.prog = prog → X.w = w → X.K = K → X.mg = mg → X.base = base → Gs P X (fnsOf tab) gls kk k
  | k, X, e1, e2, e3, e4, e5 => by
    subst e1 e2 e3 e4 e5
    refine ⟨fun x f ps h => ?_, hg, hb⟩
    have hm := lookup_mem h
    unfold fnsOf at hm
    obtain ⟨t, ht, e⟩ := List.mem_map.mp hm
    cases e
    obtain ⟨a, fd, h1, FD⟩ := hd t ht
    have o := ok t ht
    refine ⟨a, fd, h1, FD.kp, FD.bindsN fun kV doc pm an cdv ct us hl => ?_, fun n hn => kbn_of FD (o.bindK n hn), ?_, fun F hF => ?_⟩
    · have := o.bind kV doc pm an cdv ct us [] hl (by simp)
      simpa using this
    · cases k with
      | zero => exact ⟨fun vs H Q E h => let ⟨_, _, _, _, _, l, _⟩ := h; l, fun A outer s H args us vs Q E _ _ _ _ h => let ⟨_, _, _, _, _, _, q⟩ := h; q.elim⟩
      | succ k => exact fn_ok FD o.sc o.fn o.n o.body (gs_all hd ok hg hb k)
    · rw [o.fn] at hF
      cases hF
      exact o.np
/-- what the law is asked: it answers True -/
def spLaw (K : PySem.W.Frag) (n : Nat) : Sp := fun vs H Q _ => ∃ (a : Addr) (ns : List Int), vs = [.ref a] ∧ ns.length ≤ n ∧ Only H ∧ SqL K H a (ns.map V.int) ∧ ∀ H', Q (.bl true) H'
theorem ints_rep {K : Md} (ι : List Addr) (H : Hp) : ∀ ns : List Int, Reps K ι H (ns.map D.int) (ns.map V.int)
  | [] => by simp [Reps]
  | n :: r => by
    simp only [List.map_cons]
    exact Reps.cons (by simp [Rep]) (ints_rep ι H r)
theorem law_ok {P : Prg} {prog : Program} {w : World} {K : PySem.W.Frag} {mg : Str → Option Value} {base : Heap} {k f n : Nat} {a : Addr} {fd : FuncData} {ps : List Str} (F : FnOk prog w K mg base CX0 k a fd ps (spF ⟨K, prog, w⟩ P k f ps)) (hl : ps.length = 1)
    (h : ∀ ns : List Int, ns.length ≤ n → ∃ S', run P k f [.loc 0] [.rol (ns.map .int)] = .ok (.bl true) S') : FnOk prog w K mg base CX0 k a fd ps (spLaw K n) := by
  refine F.imp fun vs H Q E ⟨a, ns, e, hn, ho, hs, q⟩ => ?_
  subst e
  obtain ⟨S', e⟩ := h ns hn
  refine ⟨[a], [.rol (ns.map .int)], [.loc 0], ⟨rfl, fun m c b h1 h2 => ?_, fun m n b c d h1 h2 h3 h4 w1 w2 => ?_⟩, ?_, by rw [hl]; rfl, ?_⟩
  · cases m with
    | succ m => simp at h1
    | zero =>
      simp at h1 h2
      subst h1 h2
      rcases hs with (h | ⟨o, h⟩) | h
      · rcases ho a with z | ⟨o, xs, z⟩
        · rw [h] at z; cases z
        · rw [h] at z; cases z
      · exact .inl ⟨o, _, h, ints_rep _ _ ns⟩
      · exact .inr ⟨ns.map V.int, fun H' => .inr h, fun ι' H' => ints_rep ι' H' ns⟩
  · cases m with
    | zero => simp at h3; subst h3; cases w1
    | succ m => simp at h3
  · simp [Reps, Rep]
  · rw [e]
    intro ι' H' v _ _ z
    simp only [Rep] at z
    subst z
    exact q H'
/-- the facts of a table -/
structure TabOk (P : Prg) (tab : List Ent) (gls : List (Str × Nat)) (kk : List (Str × Nat)) (fa : List He.Fa) (fn : List He.DefD) : Prop where
  ok : ∀ t ∈ tab, EntOk P tab gls kk t
  d : ∀ t ∈ tab, t.d ∈ fn ∧ He.Fa.glo t.x ∈ fa
  b : ∀ x ∈ blts, He.Fa.free x ∈ fa
  g : ∀ x g, gls.lookup x = some g → (∃ i, P.gl g = some (.int i) ∧ He.Fa.int x i ∈ fa) ∨ ∃ z, P.gl g = some (.str z) ∧ He.Fa.str x z ∈ fa
theorem tab_facts {P : Prg} {tab : List Ent} {gls : List (Str × Nat)} {kk : List (Str × Nat)} {fa : List He.Fa} {fn : List He.DefD} (T : TabOk P tab gls kk fa fn)
    {prog : Program} {w : World} {K : PySem.W.Frag} {h : Heap} {mg : Str → Option Value} {x : Str} {f k n : Nat} {a : Addr} {ps : List Str} (hx : (fnsOf tab).lookup x = some (f, ps)) (hl : ps.length = 1)
    (hrun : ∀ ns : List Int, ns.length ≤ n → ∃ S', run P k f [.loc 0] [.rol (ns.map .int)] = .ok (.bl true) S') (X : K.In h) (G : h.Ns mainGlobals mg) (hfa : mg x = some (.ref a)) (c : He.SaysD fa fn K) :
    ∃ fd : FuncData, (∀ (s : Shared) (us : List Value), us.length = ps.length → BindsTo s fd ⟨us, []⟩ (ps.zip us)) ∧ ∀ base : Heap, FnOk prog w K mg base CX0 k a fd ps (spLaw K n) := by
  have hd : ∀ t ∈ tab, ∃ a fd, mg t.x = some (.ref a) ∧ FunD K t.x t.x (defArgs t.st) (defBody t.st) (defScope t.st) [] [] a fd := fun t ht => by
    obtain ⟨h1, h2⟩ := T.d t ht
    obtain ⟨fd, FD⟩ := c.defs h1
    exact ⟨_, fd, He.glo_ok X G (c.facts h2), FD⟩
  have hb : ∀ y ∈ blts, mg y = none := fun y hy => He.free_ok X G (c.facts (T.b y hy))
  have hg : ∀ y g, gls.lookup y = some g → ∃ u v d, mg y = some u ∧ RelV v u ∧ P.gl g = some d ∧ ∀ ι H, Rep ⟨K, prog, w⟩ ι H d v := fun y g e => by
    rcases T.g y g e with ⟨i, h1, h2⟩ | ⟨z, h1, h2⟩
    · obtain ⟨t, h3⟩ := He.int_ok X G (c.facts h2)
      exact ⟨_, .int i, _, h3, ⟨t, rfl⟩, h1, fun ι H => by simp [Rep]⟩
    · obtain ⟨t, h3⟩ := He.str_ok X G (c.facts h2)
      exact ⟨_, .str z, _, h3, ⟨t, rfl⟩, h1, fun ι H => by simp [Rep]⟩
  have hm := lookup_mem hx
  unfold fnsOf at hm
  obtain ⟨t, ht, e⟩ := List.mem_map.mp hm
  cases e
  obtain ⟨a', fd, h1, FD⟩ := hd t ht
  rw [hfa] at h1
  cases h1
  have o := T.ok t ht
  refine ⟨fd, fun s us hl => FD.bindsA (fun kV doc pm an cdv ct us hl => ?_) s us hl, fun base => ?_⟩
  · have := o.bind kV doc pm an cdv ct us [] hl (by simp)
    simpa using this
  · refine law_ok ?_ hl hrun
    cases k with
    | zero => exact ⟨fun vs H Q E h => let ⟨_, _, _, _, _, l, _⟩ := h; l, fun A outer s H args us vs Q E _ _ _ _ h => let ⟨_, _, _, _, _, _, q⟩ := h; q.elim⟩
    | succ k => exact fn_ok FD o.sc o.fn o.n o.body (gs_all hd T.ok hg hb k)
end MP
namespace MP
open PySem PySem.Spec PyProof.Rows L2
/-! ### tables as they are printed -/
inductive Cv where
  | i (n : Int)
  | s (z : Str)
def Cv.d : Cv → D
  | .i n => .int n
  | .s z => .str z
def Cv.fa (x : Str) : Cv → He.Fa
  | .i n => .int x n
  | .s z => .str x z
abbrev Ct := List (Str × Nat × Cv)
def glsOf (cs : Ct) : List (Str × Nat) := cs.map fun c => (c.1, c.2.1)
def faOf (tab : List Ent) (cs : Ct) : List He.Fa := (tab.map fun t => .glo t.x) ++ blts.map .free ++ cs.map fun c => c.2.2.fa c.1
def dsOf (tab : List Ent) : List He.DefD := tab.map Ent.d
theorem tab_ok {P : Prg} {tab : List Ent} {cs : Ct} {kk : List (Str × Nat)} (h1 : ∀ t ∈ tab, EntOk P tab (glsOf cs) kk t) (h2 : ∀ c ∈ cs, P.gl c.2.1 = some c.2.2.d) : TabOk P tab (glsOf cs) kk (faOf tab cs) (dsOf tab) where
  ok := h1
  d := fun t ht => ⟨List.mem_map.mpr ⟨t, ht, rfl⟩, List.mem_append_left _ (List.mem_append_left _ (List.mem_map.mpr ⟨t, ht, rfl⟩))⟩
  b := fun x hx => List.mem_append_left _ (List.mem_append_right _ (List.mem_map.mpr ⟨x, hx, rfl⟩))
  g := fun x g h => by
    have hm := lookup_mem h
    unfold glsOf at hm
    obtain ⟨⟨x', g', v⟩, hc, e⟩ := List.mem_map.mp hm
    cases e
    have hp := h2 _ hc
    have hf : v.fa x' ∈ faOf tab cs := List.mem_append_right _ (List.mem_map.mpr ⟨_, hc, rfl⟩)
    cases v with
    | i n => exact .inl ⟨n, hp, hf⟩
    | s z => exact .inr ⟨z, hp, hf⟩
theorem kk_of {x : Str} {kk : List (Str × Nat)} {l : List Nat} {n : Nat} (h : (kk.filter fun p => p.1 == x).map (·.2) = l) (hn : (x, n) ∈ kk) : n ∈ l := by
  rw [← h]
  exact List.mem_map.mpr ⟨(x, n), List.mem_filter.mpr ⟨hn, by simp⟩, rfl⟩
end MP

set_option maxRecDepth 100000
namespace MP
open PySem (Str)
def fown_steps : Fd := ⟨3, 6, true, (.seq (.asg (.name 3) (.lst .nil))
  (.seq (.forc (.tup (.cons (.name 4) (.cons (.name 5) .nil))) .enum (.ix (.ix (.var 0) (.cst (.int 0))) (.var 2)) .nil
  (.ifc (.and (.isc true (.var 5) .non) (.cmp .eq (.ix (.ix (.var 0) (.cst (.int 1))) (.var 4)) (.var 1)))
  (.expr (.meth .append (.var 3) (.cons (.op .add (.tup (.cons (.var 4) .nil)) (.var 5)) .nil)))
  .skip))
  (.ret (.bi1 .tuple (.var 3)))))⟩
def fgoal_boards : Fd := ⟨2, 4, true, (.ret (.bi1 .tuple (.comp [2, 3] (.tup (.cons (.name 2) (.cons (.name 3) .nil))) .enum (.ix (.var 0) (.cst (.int 2))) .nil (.ix (.var 3) (.var 1)) (.var 2))))⟩
def flot_floors : Fd := ⟨3, 11, true, (.seq (.asg (.name 3) (.comp [4] (.name 4) .range1 (.bi1 .len (.ix (.var 0) (.cst (.int 0)))) .nil (.cst (.bl true)) (.call 0 (.cons (.var 0) (.cons (.var 1) (.cons (.var 4) .nil))))))
  (.seq (.par [5, 6] (.cons (.comp [4] (.name 4) .range1 (.bi1 .len (.var 3)) .nil (.cst (.bl true)) (.ite (.cmp .isin (.var 4) (.var 2)) (.cst (.int 0)) (.cst .non))) (.cons (.cst (.bl false)) .nil)))
  (.seq (.whl (.not (.var 6))
  (.seq (.asg (.name 6) (.cst (.bl true)))
  (.forc (.tup (.cons (.name 4) (.cons (.name 7) .nil))) .enum (.var 3) .nil
  (.forc (.tup (.cons (.name 8) (.cons (.name 9) (.cons (.name 10) .nil)))) .seq (.var 7) .nil
  (.ifc (.and (.isc true (.ix (.var 5) (.var 9)) .non) (.or (.isc false (.ix (.var 5) (.var 4)) .non) (.cmp .lt (.op .add (.var 10) (.ix (.var 5) (.var 9))) (.ix (.var 5) (.var 4)))))
  (.seq (.sub (.var 5) (.var 4) (.op .add (.var 10) (.ix (.var 5) (.var 9))))
  (.asg (.name 6) (.cst (.bl false))))
  .skip)))))
  (.ret (.bi1 .tuple (.var 5))))))⟩
def fown_floors : Fd := ⟨2, 2, true, (.ret (.call 2 (.cons (.var 0) (.cons (.ix (.ix (.var 0) (.cst (.int 3))) (.var 1)) (.cons (.call 1 (.cons (.var 0) (.cons (.var 1) .nil))) .nil)))))⟩
def fchange : Fd := ⟨6, 8, true, (.seq (.par [6, 7] (.cons (.ix (.var 0) (.var 4)) (.cons (.ix (.var 0) (.var 5)) .nil)))
  (.seq (.ifc (.or (.isc false (.var 6) .non) (.isc false (.var 7) .non))
  (.ret (.ite (.cmp .eq (.var 6) (.var 7)) (.tup (.cons (.glob 23) .nil)) (.ite (.isc false (.var 6) .non) (.tup (.cons (.glob 22) .nil)) (.tup (.cons (.glob 21) .nil)))))
  .skip)
  (.seq (.ifc (.cmp .eq (.var 2) (.var 1))
  (.ret (.tup (.cons (.glob 20) (.cons (.op .sub (.op .add (.var 3) (.var 7)) (.var 6)) .nil))))
  .skip)
  (.ret (.ite (.cmp .eq (.var 6) (.var 7)) (.tup (.cons (.glob 23) .nil)) (.ite (.cmp .gt (.var 7) (.var 6)) (.tup (.cons (.glob 18) (.cons (.op .sub (.var 7) (.var 6)) .nil))) (.tup (.cons (.glob 19) (.cons (.op .sub (.var 6) (.var 7)) .nil)))))))))⟩
def feffect : Fd := ⟨4, 6, true, (.seq (.asg (.tup (.cons (.name 4) (.cons (.name 5) .nil))) (.ix (.ix (.ix (.var 0) (.cst (.int 0))) (.var 2)) (.var 3)))
  (.ret (.call 4 (.cons (.call 3 (.cons (.var 0) (.cons (.var 1) .nil))) (.cons (.ix (.ix (.var 0) (.cst (.int 3))) (.var 1)) (.cons (.ix (.ix (.var 0) (.cst (.int 1))) (.var 3)) (.cons (.var 5) (.cons (.var 2) (.cons (.var 4) .nil)))))))))⟩
def lbox : Fd := ⟨2, 4, true, (.seq (.asg (.name 2) (.op .add (.op .mul (.cst (.int 29131)) (.var 1)) (.cst (.int 8221))))
  (.seq (.ifc (.cmp .lt (.var 1) (.bi1 .len (.var 0)))
  (.asg (.name 2) (.bi1 .abs (.bi1 .int (.ix (.var 0) (.var 1)))))
  (.ifc (.cmp .gt (.bi1 .len (.var 0)) (.cst (.int 0)))
  (.asg (.name 2) (.op .add (.var 2) (.op .mul (.op .mod (.bi1 .int (.bi1 .abs (.bi1 .int (.ix (.var 0) (.op .mod (.bi1 .int (.var 1)) (.bi1 .len (.var 0))))))) (.cst (.int 2147483563))) (.cst (.int 96137)))))
  .skip))
  (.seq (.asg (.name 3) (.ite (.cmp .ge (.var 2) (.op .pow (.cst (.int 10)) (.cst (.int 18)))) (.var 2) (.cst (.int 0))))
  (.ret (.lst (.cons (.var 3) (.cons (.op .add (.op .mod (.bi1 .int (.op .add (.op .mul (.op .mod (.bi1 .int (.var 2)) (.cst (.int 2147483563))) (.cst (.int 54250027))) (.op .mul (.cst (.int 8101)) (.var 1)))) (.cst (.int 2147483563))) (.cst (.int 1))) .nil)))))))⟩
def ltake : Fd := ⟨2, 4, true, (.seq (.ifc (.cmp .gt (.ix (.var 0) (.cst (.int 0))) (.cst (.int 0)))
  (.seq (.asg (.name 2) (.op .mod (.bi1 .int (.ix (.var 0) (.cst (.int 0)))) (.var 1)))
  (.seq (.sub (.var 0) (.cst (.int 0)) (.op .fdiv (.ix (.var 0) (.cst (.int 0))) (.var 1)))
  (.ret (.var 2))))
  .skip)
  (.seq (.asg (.name 3) (.op .mod (.bi1 .int (.op .add (.op .mul (.ix (.var 0) (.cst (.int 1))) (.cst (.int 39373))) (.cst (.int 229)))) (.cst (.int 2147483647))))
  (.seq (.sub (.var 0) (.cst (.int 1)) (.op .add (.op .mod (.bi1 .int (.op .add (.op .mul (.var 3) (.cst (.int 40692))) (.cst (.int 103)))) (.cst (.int 2147483563))) (.cst (.int 1))))
  (.ret (.op .mod (.bi1 .int (.op .fdiv (.op .add (.op .mul (.var 3) (.cst (.int 2147483629))) (.ix (.var 0) (.cst (.int 1)))) (.cst (.int 8273)))) (.var 1))))))⟩
def lpick : Fd := ⟨2, 2, true, (.ret (.ix (.var 1) (.call 7 (.cons (.var 0) (.cons (.bi1 .len (.var 1)) .nil)))))⟩
def lsame : Fd := ⟨2, 4, true, (.seq (.ifc (.isi (.var 1) [.tuple])
  (.seq (.ifc (.or (.not (.isi (.var 0) [.tuple])) (.cmp .ne (.bi1 .len (.var 0)) (.bi1 .len (.var 1))))
  (.ret (.cst (.bl false)))
  .skip)
  (.seq (.forc (.tup (.cons (.name 2) (.cons (.name 3) .nil))) .zip (.var 0) (.var 1)
  (.ifc (.not (.call 9 (.cons (.var 2) (.cons (.var 3) .nil))))
  (.ret (.cst (.bl false)))
  .skip))
  (.ret (.cst (.bl true)))))
  .skip)
  (.seq (.ifc (.isc false (.var 1) .non)
  (.ret (.isc false (.var 0) .non))
  .skip)
  (.seq (.ifc (.or (.isc false (.var 1) (.bl true)) (.isc false (.var 1) (.bl false)))
  (.ret (.and (.isi (.var 0) [.bool]) (.cmp .eq (.var 0) (.var 1))))
  .skip)
  (.seq (.ifc (.isi (.var 1) [.int])
  (.ret (.and (.isi (.var 0) [.int]) (.and (.not (.isi (.var 0) [.bool])) (.cmp .eq (.var 0) (.var 1)))))
  .skip)
  (.ret (.and (.isi (.var 0) [.str]) (.and (.isi (.var 1) [.str]) (.cmp .eq (.var 0) (.var 1)))))))))⟩
def lgate : Fd := ⟨0, 1, true, (.seq (.asg (.name 0) (.tup (.cons (.tup (.cons (.tup (.cons (.cst (.int 1)) (.cons (.cst (.int 1)) .nil))) (.cons (.tup (.cons (.cst (.int 1)) (.cons (.cst (.int 4)) .nil))) (.cons (.tup (.cons (.cst (.int 2)) (.cons (.cst (.int 0)) .nil))) (.cons (.cst .non) .nil))))) (.cons (.tup (.cons (.cst .non) (.cons (.cst .non) (.cons (.cst .non) (.cons (.cst .non) .nil))))) (.cons (.tup (.cons (.cst .non) (.cons (.tup (.cons (.cst (.int 1)) (.cons (.cst (.int 4)) .nil))) (.cons (.cst .non) (.cons (.tup (.cons (.cst (.int 0)) (.cons (.cst (.int 2)) .nil))) .nil))))) .nil)))))
  (.ret (.tup (.cons (.var 0) (.cons (.tup (.cons (.cst (.int 0)) (.cons (.cst (.int 0)) (.cons (.cst (.int 1)) (.cons (.cst (.int 1)) .nil))))) (.cons (.tup (.cons (.tup (.cons (.cst (.bl false)) (.cons (.cst (.bl false)) .nil))) (.cons (.tup (.cons (.cst (.bl true)) (.cons (.cst (.bl false)) .nil))) (.cons (.tup (.cons (.cst (.bl false)) (.cons (.cst (.bl true)) .nil))) .nil)))) (.cons (.tup (.cons (.cst (.int 0)) (.cons (.cst (.int 1)) .nil))) (.cons (.cst (.int 2)) .nil))))))))⟩
def lplank : Fd := ⟨0, 1, true, (.seq (.asg (.name 0) (.tup (.cons (.tup (.cons (.tup (.cons (.cst (.int 1)) (.cons (.cst (.int 1)) .nil))) (.cons (.tup (.cons (.cst (.int 2)) (.cons (.cst (.int 1)) .nil))) .nil))) (.cons (.tup (.cons (.cst .non) (.cons (.tup (.cons (.cst (.int 3)) (.cons (.cst (.int 4)) .nil))) .nil))) (.cons (.tup (.cons (.tup (.cons (.cst (.int 3)) (.cons (.cst (.int 4)) .nil))) (.cons (.cst .non) .nil))) (.cons (.tup (.cons (.cst .non) (.cons (.cst .non) .nil))) .nil))))))
  (.ret (.tup (.cons (.var 0) (.cons (.tup (.cons (.cst (.int 0)) (.cons (.cst (.int 1)) .nil))) (.cons (.tup (.cons (.tup (.cons (.cst (.bl false)) (.cons (.cst (.bl false)) .nil))) (.cons (.tup (.cons (.cst (.bl true)) (.cons (.cst (.bl false)) .nil))) (.cons (.tup (.cons (.cst (.bl false)) (.cons (.cst (.bl true)) .nil))) (.cons (.tup (.cons (.cst (.bl true)) (.cons (.cst (.bl true)) .nil))) .nil))))) (.cons (.tup (.cons (.cst (.int 0)) (.cons (.cst (.int 1)) .nil))) (.cons (.cst (.int 2)) .nil))))))))⟩
def ltwo_bridges : Fd := ⟨0, 1, true, (.seq (.asg (.name 0) (.tup (.cons (.tup (.cons (.tup (.cons (.cst (.int 1)) (.cons (.cst (.int 2)) .nil))) (.cons (.tup (.cons (.cst (.int 2)) (.cons (.cst (.int 0)) .nil))) (.cons (.tup (.cons (.cst (.int 3)) (.cons (.cst (.int 0)) .nil))) (.cons (.cst .non) .nil))))) (.cons (.tup (.cons (.cst .non) (.cons (.cst .non) (.cons (.cst .non) (.cons (.cst .non) .nil))))) (.cons (.tup (.cons (.tup (.cons (.cst (.int 1)) (.cons (.cst (.int 3)) .nil))) (.cons (.cst .non) (.cons (.tup (.cons (.cst (.int 4)) (.cons (.cst (.int 0)) .nil))) (.cons (.tup (.cons (.cst (.int 0)) (.cons (.cst (.int 1)) .nil))) .nil))))) (.cons (.tup (.cons (.tup (.cons (.cst (.int 1)) (.cons (.cst (.int 3)) .nil))) (.cons (.tup (.cons (.cst (.int 4)) (.cons (.cst (.int 0)) .nil))) (.cons (.cst .non) (.cons (.cst .non) .nil))))) (.cons (.tup (.cons (.cst .non) (.cons (.cst .non) (.cons (.cst .non) (.cons (.tup (.cons (.cst (.int 3)) (.cons (.cst (.int 1)) .nil))) .nil))))) .nil)))))))
  (.ret (.tup (.cons (.var 0) (.cons (.tup (.cons (.cst (.int 0)) (.cons (.cst (.int 1)) (.cons (.cst (.int 2)) (.cons (.cst (.int 1)) .nil))))) (.cons (.tup (.cons (.tup (.cons (.cst (.bl false)) (.cons (.cst (.bl false)) (.cons (.cst (.bl false)) .nil)))) (.cons (.tup (.cons (.cst (.bl true)) (.cons (.cst (.bl false)) (.cons (.cst (.bl false)) .nil)))) (.cons (.tup (.cons (.cst (.bl false)) (.cons (.cst (.bl true)) (.cons (.cst (.bl false)) .nil)))) (.cons (.tup (.cons (.cst (.bl false)) (.cons (.cst (.bl false)) (.cons (.cst (.bl true)) .nil)))) (.cons (.tup (.cons (.cst (.bl false)) (.cons (.cst (.bl true)) (.cons (.cst (.bl true)) .nil)))) .nil)))))) (.cons (.tup (.cons (.cst (.int 0)) (.cons (.cst (.int 1)) (.cons (.cst (.int 2)) .nil)))) (.cons (.cst (.int 3)) .nil))))))))⟩
def lleast : Fd := ⟨1, 17, true, (.seq (.asg (.tup (.cons (.name 1) (.cons (.name 2) (.cons (.name 3) (.cons (.name 4) (.cons (.name 5) .nil)))))) (.var 0))
  (.seq (.asg (.name 6) (.bi1 .list (.var 3)))
  (.seq (.forc (.name 7) .range1 (.op .add (.bi1 .len (.var 3)) (.cst (.int 1))) .nil
  (.seq (.par [8, 9] (.cons (.dct .nil) (.cons (.lst .nil) .nil)))
  (.seq (.forc (.tup (.cons (.name 10) (.cons (.name 11) .nil))) .enum (.var 1) .nil
  (.seq (.asg (.name 12) (.bi1 .tuple (.comp [13] (.name 13) .seq (.var 11) .nil (.cst (.bl true)) (.ite (.isc false (.var 13) .non) (.cst .non) (.tup (.cons (.ix (.var 6) (.ix (.var 13) (.cst (.int 0)))) (.cons (.ix (.var 13) (.cst (.int 1))) .nil)))))))
  (.expr (.meth .append (.var 9) (.cons (.meth .setdefault (.var 8) (.cons (.tup (.cons (.ix (.var 6) (.var 10)) (.cons (.var 12) .nil))) (.cons (.bi1 .len (.var 8)) .nil))) .nil)))))
  (.asg (.name 6) (.var 9)))))
  (.seq (.par [14, 15, 16] (.cons (.lst (.cons (.cst (.int 0)) .nil)) (.cons (.dct (.cons (.ix (.var 6) (.cst (.int 0))) (.cons (.cst (.int 0)) .nil))) (.cons (.lst .nil) .nil))))
  (.seq (.whl (.cmp .lt (.bi1 .len (.var 16)) (.bi1 .len (.var 14)))
  (.seq (.asg (.name 11) (.lst .nil))
  (.seq (.forc (.name 13) .seq (.ix (.var 1) (.ix (.var 14) (.bi1 .len (.var 16)))) .nil
  (.seq (.ifc (.and (.isc true (.var 13) .non) (.cmp .notin (.ix (.var 6) (.ix (.var 13) (.cst (.int 0)))) (.var 15)))
  (.seq (.sub (.var 15) (.ix (.var 6) (.ix (.var 13) (.cst (.int 0)))) (.bi1 .len (.var 14)))
  (.expr (.meth .append (.var 14) (.cons (.ix (.var 13) (.cst (.int 0))) .nil))))
  .skip)
  (.expr (.meth .append (.var 11) (.cons (.ite (.isc false (.var 13) .non) (.cst .non) (.tup (.cons (.ix (.var 15) (.ix (.var 6) (.ix (.var 13) (.cst (.int 0))))) (.cons (.ix (.var 13) (.cst (.int 1))) .nil)))) .nil)))))
  (.expr (.meth .append (.var 16) (.cons (.bi1 .tuple (.var 11)) .nil))))))
  (.ret (.tup (.cons (.bi1 .tuple (.var 16)) (.cons (.var 2) (.cons (.bi1 .tuple (.comp [10] (.name 10) .seq (.var 14) .nil (.cst (.bl true)) (.ix (.var 3) (.var 10)))) (.cons (.var 4) (.cons (.var 5) .nil))))))))))))⟩
def lany_world : Fd := ⟨1, 12, true, (.seq (.asg (.name 1) (.call 7 (.cons (.var 0) (.cons (.cst (.int 8)) .nil))))
  (.seq (.ifc (.cmp .lt (.var 1) (.cst (.int 3)))
  (.ret (.ite (.cmp .eq (.var 1) (.cst (.int 0))) (.call 10 .nil) (.ite (.cmp .eq (.var 1) (.cst (.int 1))) (.call 11 .nil) (.call 12 .nil))))
  .skip)
  (.seq (.asg (.tup (.cons (.name 2) (.cons (.name 3) .nil))) (.tup (.cons (.op .add (.cst (.int 2)) (.call 7 (.cons (.var 0) (.cons (.cst (.int 4)) .nil)))) (.cons (.op .add (.cst (.int 2)) (.call 7 (.cons (.var 0) (.cons (.cst (.int 2)) .nil)))) .nil))))
  (.seq (.asg (.name 4) (.op .add (.var 3) (.call 7 (.cons (.var 0) (.cons (.cst (.int 3)) .nil)))))
  (.seq (.asg (.name 5) (.bi1 .tuple (.comp [6] (.name 6) .range1 (.var 4) .nil (.cst (.bl true)) (.ite (.cmp .lt (.var 6) (.var 3)) (.var 6) (.call 7 (.cons (.var 0) (.cons (.var 3) .nil)))))))
  (.seq (.asg (.name 7) (.bi1 .tuple (.op .add (.bi1 .lrange (.var 3)) (.ite (.cmp .eq (.call 7 (.cons (.var 0) (.cons (.cst (.int 3)) .nil))) (.cst (.int 0))) (.lst (.cons (.call 7 (.cons (.var 0) (.cons (.var 3) .nil))) .nil)) (.lst .nil)))))
  (.seq (.par [8, 9] (.cons (.lst .nil) (.cons (.lst .nil) .nil)))
  (.seq (.forc (.name 10) .range1 (.var 2) .nil
  (.seq (.expr (.meth .append (.var 8) (.cons (.bi1 .tuple (.comp [6] (.name 6) .range1 (.var 4) .nil (.cst (.bl true)) (.ite (.cmp .eq (.call 7 (.cons (.var 0) (.cons (.cst (.int 3)) .nil))) (.cst (.int 0))) (.cst .non) (.tup (.cons (.call 7 (.cons (.var 0) (.cons (.var 2) .nil))) (.cons (.call 8 (.cons (.var 0) (.cons (.lst (.cons (.cst (.int 0)) (.cons (.cst (.int 1)) (.cons (.cst (.int 1)) (.cons (.cst (.int 2)) (.cons (.cst (.int 3)) .nil)))))) .nil))) .nil)))))) .nil)))
  (.expr (.meth .append (.var 9) (.cons (.bi1 .tuple (.comp [11] (.name 11) .range1 (.bi1 .len (.var 7)) .nil (.cst (.bl true)) (.or (.and (.cmp .gt (.var 10) (.cst (.int 0))) (.cmp .eq (.call 7 (.cons (.var 0) (.cons (.cst (.int 3)) .nil))) (.cst (.int 0)))) (.cmp .eq (.var 10) (.op .add (.cst (.int 1)) (.op .mod (.var 11) (.op .sub (.var 2) (.cst (.int 1))))))))) .nil)))))
  (.ret (.call 13 (.cons (.tup (.cons (.bi1 .tuple (.var 8)) (.cons (.var 5) (.cons (.bi1 .tuple (.var 9)) (.cons (.var 7) (.cons (.var 3) .nil)))))) .nil)))))))))))⟩
def lcosts : Fd := ⟨2, 10, true, (.seq (.asg (.name 2) (.comp [3] (.name 3) .seq (.ix (.var 0) (.cst (.int 2))) .nil (.cst (.bl true)) (.ite (.ix (.var 3) (.var 1)) (.cst (.int 0)) (.cst .non))))
  (.seq (.forc (.name 4) .range1 (.op .add (.bi1 .len (.var 2)) (.cst (.int 1))) .nil
  (.forc (.tup (.cons (.name 5) (.cons (.name 6) .nil))) .enum (.ix (.var 0) (.cst (.int 0))) .nil
  (.forc (.tup (.cons (.name 7) (.cons (.name 8) .nil))) .enum (.var 6) .nil
  (.ifc (.and (.isc true (.var 8) .non) (.and (.cmp .eq (.ix (.ix (.var 0) (.cst (.int 1))) (.var 7)) (.ix (.ix (.var 0) (.cst (.int 3))) (.var 1))) (.isc true (.ix (.var 2) (.ix (.var 8) (.cst (.int 0)))) .non)))
  (.seq (.asg (.name 9) (.op .add (.ix (.var 2) (.ix (.var 8) (.cst (.int 0)))) (.ix (.var 8) (.cst (.int 1)))))
  (.sub (.var 2) (.var 5) (.ite (.isc false (.ix (.var 2) (.var 5)) .non) (.var 9) (.bi2 .min (.ix (.var 2) (.var 5)) (.var 9)))))
  .skip))))
  (.ret (.var 2))))⟩
def leffect : Fd := ⟨5, 9, true, (.seq (.asg (.tup (.cons (.name 5) (.cons (.name 6) .nil))) (.ix (.ix (.ix (.var 0) (.cst (.int 0))) (.var 3)) (.var 4)))
  (.seq (.par [7, 8] (.cons (.ix (.var 2) (.var 3)) (.cons (.ix (.var 2) (.var 5)) .nil)))
  (.seq (.ifc (.and (.isc false (.var 7) .non) (.isc false (.var 8) .non))
  (.ret (.tup (.cons (.cst (.str (Str.ofString "nothing"))) .nil)))
  .skip)
  (.seq (.ifc (.isc false (.var 7) .non)
  (.ret (.tup (.cons (.cst (.str (Str.ofString "opens"))) .nil)))
  .skip)
  (.seq (.ifc (.isc false (.var 8) .non)
  (.ret (.tup (.cons (.cst (.str (Str.ofString "shuts"))) .nil)))
  .skip)
  (.seq (.ifc (.cmp .eq (.ix (.ix (.var 0) (.cst (.int 1))) (.var 4)) (.ix (.ix (.var 0) (.cst (.int 3))) (.var 1)))
  (.ret (.tup (.cons (.cst (.str (Str.ofString "wastes"))) (.cons (.op .sub (.op .add (.var 6) (.var 8)) (.var 7)) .nil))))
  .skip)
  (.ret (.ite (.cmp .gt (.var 8) (.var 7)) (.tup (.cons (.cst (.str (Str.ofString "costs"))) (.cons (.op .sub (.var 8) (.var 7)) .nil))) (.ite (.cmp .lt (.var 8) (.var 7)) (.tup (.cons (.cst (.str (Str.ofString "gives"))) (.cons (.op .sub (.var 7) (.var 8)) .nil))) (.tup (.cons (.cst (.str (Str.ofString "nothing"))) .nil)))))))))))⟩
def law_ : Fd := ⟨1, 14, true, (.seq (.asg (.name 1) (.call 10 .nil))
  (.seq (.asg (.name 2) (.tup (.cons (.call 5 (.cons (.var 1) (.cons (.cst (.int 0)) (.cons (.cst (.int 0)) (.cons (.cst (.int 2)) .nil))))) (.cons (.call 5 (.cons (.var 1) (.cons (.cst (.int 0)) (.cons (.cst (.int 2)) (.cons (.cst (.int 3)) .nil))))) (.cons (.call 5 (.cons (.var 1) (.cons (.cst (.int 0)) (.cons (.cst (.int 0)) (.cons (.cst (.int 1)) .nil))))) (.cons (.call 5 (.cons (.var 1) (.cons (.cst (.int 1)) (.cons (.cst (.int 0)) (.cons (.cst (.int 0)) .nil))))) (.cons (.call 5 (.cat (.cons (.var 1) .nil) (.cons (.cst (.int 1)) (.cons (.cst (.int 0)) (.cons (.cst (.int 2)) .nil))))) .nil)))))))
  (.seq (.ifc (.not (.call 9 (.cons (.var 2) (.cons (.tup (.cons (.tup (.cons (.cst (.str (Str.ofString "costs"))) (.cons (.cst (.int 3)) .nil))) (.cons (.tup (.cons (.cst (.str (Str.ofString "gives"))) (.cons (.cst (.int 3)) .nil))) (.cons (.tup (.cons (.cst (.str (Str.ofString "wastes"))) (.cons (.cst (.int 3)) .nil))) (.cons (.tup (.cons (.cst (.str (Str.ofString "shuts"))) .nil)) (.cons (.tup (.cons (.cst (.str (Str.ofString "wastes"))) (.cons (.cst (.int 0)) .nil))) .nil)))))) .nil))))
  (.ret (.cst (.bl false)))
  .skip)
  (.seq (.forc (.name 3) .range1 (.bi2 .max (.cst (.int 3)) (.bi2 .min (.bi1 .len (.var 0)) (.cst (.int 6)))) .nil
  (.seq (.asg (.name 4) (.call 6 (.cons (.var 0) (.cons (.var 3) .nil))))
  (.seq (.asg (.name 5) (.call 14 (.cons (.var 4) .nil)))
  (.forc (.name 6) .range1 (.bi1 .len (.ix (.var 5) (.cst (.int 3)))) .nil
  (.seq (.asg (.name 7) (.call 15 (.cons (.var 5) (.cons (.var 6) .nil))))
  (.seq (.ifc (.not (.call 9 (.cons (.bi1 .tuple (.call 3 (.cons (.var 5) (.cons (.var 6) .nil)))) (.cons (.bi1 .tuple (.var 7)) .nil))))
  (.ret (.cst (.bl false)))
  .skip)
  (.forc (.tup (.cons (.name 8) (.cons (.name 9) .nil))) .enum (.ix (.var 5) (.cst (.int 0))) .nil
  (.forc (.name 10) .seq (.comp [10, 13] (.tup (.cons (.name 10) (.cons (.name 13) .nil))) .enum (.var 9) .nil (.isc true (.var 13) .non) (.var 10)) .nil
  (.seq (.asg (.name 11) (.call 5 (.cons (.var 5) (.cons (.var 6) (.cons (.var 8) (.cons (.var 10) .nil))))))
  (.seq (.ifc (.not (.call 9 (.cons (.var 11) (.cons (.call 16 (.cons (.var 5) (.cons (.var 6) (.cons (.var 7) (.cons (.var 8) (.cons (.var 10) .nil)))))) .nil))))
  (.ret (.cst (.bl false)))
  .skip)
  (.seq (.asg (.name 12) (.cmp .eq (.ix (.ix (.var 5) (.cst (.int 1))) (.var 10)) (.ix (.ix (.var 5) (.cst (.int 3))) (.var 6))))
  (.seq (.ifc (.and (.var 12) (.or (.cmp .notin (.ix (.var 11) (.cst (.int 0))) (.tup (.cons (.cst (.str (Str.ofString "wastes"))) (.cons (.cst (.str (Str.ofString "shuts"))) (.cons (.cst (.str (Str.ofString "nothing"))) .nil))))) (.and (.cmp .eq (.ix (.var 11) (.cst (.int 0))) (.cst (.str (Str.ofString "wastes")))) (.cmp .lt (.ix (.var 11) (.cst (.int 1))) (.cst (.int 0))))))
  (.ret (.cst (.bl false)))
  .skip)
  (.ifc (.and (.not (.var 12)) (.and (.cmp .eq (.ix (.ix (.var 9) (.var 10)) (.cst (.int 0))) (.var 8)) (.cmp .ne (.var 11) (.tup (.cons (.cst (.str (Str.ofString "nothing"))) .nil)))))
  (.ret (.cst (.bl false)))
  .skip)))))))))))))
  (.ret (.cst (.bl true)))))))⟩

end MP
set_option linter.all false
set_option autoImplicit false
namespace MP
open PySem (Str)
theorem okk_to {α β : Type} {x : Out α} {f : α → Store → Out β} {Φ : β → Store → Prop} (h : Okk x fun a S => Okk (f a S) Φ) : Okk (x.bind f) Φ := by
  cases x with
  | ok a S => exact h
  | exc c d S => exact h
  | no => exact h
theorem okk_forL {g : Guard} {t : T} {body : Env → Store → Out Flow} {Φ : Flow → Store → Prop} (I : Nat → Env → Store → Prop) : ∀ (xs : List D) (i : Nat) (env : Env) (S : Store), I i env S → (∀ j env S, I j env S → guardOk g S = true) →
    (∀ j x env S, xs[j]? = some x → I (i + j) env S → ∃ env1, T.put t x env = some env1 ∧ Okk (body env1 S) fun f S' => match f with
      | .nxt env2 => I (i + j + 1) env2 S'
      | .cnt env2 => I (i + j + 1) env2 S'
      | .brk env2 => Φ (.nxt env2) S'
      | .ret d => Φ (.ret d) S') → (∀ env S, I (i + xs.length) env S → Φ (.nxt env) S) → Okk (forL g t body xs env S) Φ
  | [], i, env, S, h, hg, hs, hf => by
    simp only [forL, hg i env S h, if_true]
    exact hf env S h
  | x :: r, i, env, S, h, hg, hs, hf => by
    simp only [forL, hg i env S h, if_true]
    obtain ⟨env1, e1, h1⟩ := hs 0 x env S rfl h
    rw [e1]
    refine okk_to (okk_imp h1 fun f S' hq => ?_)
    have ih : ∀ env2, I (i + 0 + 1) env2 S' → Okk (forL g t body r env2 S') Φ := fun env2 hI => okk_forL I r (i + 1) env2 S' hI hg (fun j y env S hy hI => by
      have e : i + 1 + j = i + (j + 1) := by omega
      rw [e] at hI ⊢
      exact hs (j + 1) y env S (by simpa using hy) hI) fun env S hI => hf env S (by
        have e : i + 1 + r.length = i + (x :: r).length := by simp; omega
        rw [e] at hI
        exact hI)
    cases f with
    | nxt env2 => exact ih env2 hq
    | cnt env2 => exact ih env2 hq
    | brk env2 => exact hq
    | ret d => exact hq
theorem okk_for {g : Guard} {t : T} {body : Env → Store → Out Flow} {Φ : Flow → Store → Prop} (I : Nat → Env → Store → Prop) {xs : List D} {env : Env} {S : Store} (h0 : I 0 env S) (hg : ∀ j env S, I j env S → guardOk g S = true)
    (hs : ∀ j x env S, xs[j]? = some x → I j env S → ∃ env1, T.put t x env = some env1 ∧ Okk (body env1 S) fun f S' => match f with
      | .nxt env2 => I (j + 1) env2 S'
      | .cnt env2 => I (j + 1) env2 S'
      | .brk env2 => Φ (.nxt env2) S'
      | .ret d => Φ (.ret d) S') (hf : ∀ env S, I xs.length env S → Φ (.nxt env) S) : Okk (forL g t body xs env S) Φ :=
  okk_forL I xs 0 env S h0 hg (fun j x env S hx hI => by
    rw [Nat.zero_add] at hI ⊢
    exact hs j x env S hx hI) fun env S hI => hf env S (by rw [Nat.zero_add] at hI; exact hI)
theorem okk_compL {g : Guard} {step : D → Store → Out (Option D)} {Φ : List D → Store → Prop} (I : Nat → List D → Store → Prop) : ∀ (xs : List D) (i : Nat) (acc : List D) (S : Store), I i acc S → (∀ j acc S, I j acc S → guardOk g S = true) →
    (∀ j x acc S, xs[j]? = some x → I (i + j) acc S → Okk (step x S) fun o S' => I (i + j + 1) (acc ++ o.toList) S') → (∀ acc S, I (i + xs.length) acc S → Φ acc S) → Okk (compL g step xs S) fun ds S' => Φ (acc ++ ds) S'
  | [], i, acc, S, h, hg, hs, hf => by
    simp only [compL, hg i acc S h, if_true]
    show Φ (acc ++ []) S
    rw [List.append_nil]
    exact hf acc S h
  | x :: r, i, acc, S, h, hg, hs, hf => by
    simp only [compL, hg i acc S h, if_true]
    refine okk_to (okk_imp (hs 0 x acc S rfl h) fun o S' hq => okk_to ?_)
    have ih := okk_compL (Φ := Φ) I r (i + 1) (acc ++ o.toList) S' hq hg (fun j y acc S hy hI => by
      have e : i + 1 + j = i + (j + 1) := by omega
      rw [e] at hI ⊢
      exact hs (j + 1) y acc S (by simpa using hy) hI) fun acc S hI => hf acc S (by
        have e : i + 1 + r.length = i + (x :: r).length := by simp; omega
        rw [e] at hI
        exact hI)
    refine okk_imp ih fun ds S2 hd => ?_
    cases o with
    | none => show Φ (acc ++ ds) S2; simpa using hd
    | some d => show Φ (acc ++ d :: ds) S2; simpa [List.append_assoc] using hd
theorem okk_comp {g : Guard} {step : D → Store → Out (Option D)} {Φ : List D → Store → Prop} (I : Nat → List D → Store → Prop) {xs : List D} {S : Store} (h0 : I 0 [] S) (hg : ∀ j acc S, I j acc S → guardOk g S = true)
    (hs : ∀ j x acc S, xs[j]? = some x → I j acc S → Okk (step x S) fun o S' => I (j + 1) (acc ++ o.toList) S') (hf : ∀ acc S, I xs.length acc S → Φ acc S) : Okk (compL g step xs S) Φ := by
  have := okk_compL (Φ := Φ) I xs 0 [] S h0 hg (fun j x acc S hx hI => by
    rw [Nat.zero_add] at hI ⊢
    exact hs j x acc S hx hI) fun acc S hI => hf acc S (by rw [Nat.zero_add] at hI; exact hI)
  simpa using this
theorem okk_while {c : Env → Store → Out Bool} {body : Env → Store → Out Flow} {Φ : Flow → Store → Prop} (I : Nat → Env → Store → Prop)
    (hs : ∀ m env S, I m env S → Okk (c env S) fun t S1 => match t with
      | false => Φ (.nxt env) S1
      | true => Okk (body env S1) fun f S2 => match f with
        | .nxt env2 => ∃ m', m' < m ∧ I m' env2 S2
        | .cnt env2 => ∃ m', m' < m ∧ I m' env2 S2
        | .brk env2 => Φ (.nxt env2) S2
        | .ret d => Φ (.ret d) S2) : ∀ (n m : Nat) (env : Env) (S : Store), m < n → I m env S → Okk (whileN c body n env S) Φ
  | 0, m, env, S, hm, h => by omega
  | n + 1, m, env, S, hm, h => by
    simp only [whileN]
    refine okk_to (okk_imp (hs m env S h) fun t S1 h1 => ?_)
    cases t with
    | false => exact h1
    | true =>
      refine okk_to (okk_imp h1 fun f S2 h2 => ?_)
      cases f with
      | nxt env2 => obtain ⟨m', l, h3⟩ := h2; exact okk_while I hs n m' env2 S2 (by omega) h3
      | cnt env2 => obtain ⟨m', l, h3⟩ := h2; exact okk_while I hs n m' env2 S2 (by omega) h3
      | brk env2 => exact h2
      | ret d => exact h2

/-! ### stores -/
section
variable {α : Type} (S T : List α) (a b c x : α)
@[simp] theorem at0 : (S ++ a :: T)[S.length]? = some a := by simp
@[simp] theorem at1 : (S ++ a :: b :: T)[S.length + 1]? = some b := by
  rw [List.getElem?_append_right (by omega)]
  have : S.length + 1 - S.length = 1 := by omega
  rw [this]; rfl
@[simp] theorem at2 : (S ++ a :: b :: c :: T)[S.length + 2]? = some c := by
  rw [List.getElem?_append_right (by omega)]
  have : S.length + 2 - S.length = 2 := by omega
  rw [this]; rfl
@[simp] theorem at3 (d : α) : (S ++ a :: b :: c :: d :: T)[S.length + 3]? = some d := by
  rw [List.getElem?_append_right (by omega)]
  have : S.length + 3 - S.length = 3 := by omega
  rw [this]; rfl
@[simp] theorem set0 : (S ++ a :: T).set S.length x = S ++ x :: T := by
  rw [List.set_append_right _ _ (Nat.le_refl _), Nat.sub_self]; rfl
@[simp] theorem set1 : (S ++ a :: b :: T).set (S.length + 1) x = S ++ a :: x :: T := by
  rw [List.set_append_right _ _ (by omega)]
  have : S.length + 1 - S.length = 1 := by omega
  rw [this]; rfl
@[simp] theorem set2 : (S ++ a :: b :: c :: T).set (S.length + 2) x = S ++ a :: b :: x :: T := by
  rw [List.set_append_right _ _ (by omega)]
  have : S.length + 2 - S.length = 2 := by omega
  rw [this]; rfl
@[simp] theorem set3 (d : α) : (S ++ a :: b :: c :: d :: T).set (S.length + 3) x = S ++ a :: b :: c :: x :: T := by
  rw [List.set_append_right _ _ (by omega)]
  have : S.length + 3 - S.length = 3 := by omega
  rw [this]; rfl
end
mutual
theorem same_refl : ∀ d : D, D.same d d = true
  | .non => rfl
  | .bl b => by simp [D.same]
  | .int i => by simp [D.same]
  | .str x => by simp [D.same]
  | .loc n => by simp [D.same]
  | .tup xs => by simp only [D.same]; exact sames_refl xs
theorem sames_refl : ∀ ds : List D, D.sames ds ds = true
  | [] => rfl
  | d :: r => by simp only [D.sames, same_refl d, sames_refl r, Bool.and_self]
end
theorem csame_refl (c : Cell) : Cell.same c c = true := by
  cases c <;> simp [Cell.same, sames_refl]
theorem kept_refl : ∀ (S T : Store), kept S (S ++ T) = true
  | [], _ => by cases ‹Store› <;> rfl
  | c :: r, T => by simp only [kept, List.cons_append, csame_refl, Bool.or_true, Bool.true_and]; exact kept_refl r T
theorem gc_pre {S T : Store} {d : D} (h : d.flat = true) : gc S d (S ++ T) = S := by
  unfold gc
  rw [h, kept_refl]
  simp
theorem gc_self {S : Store} {d : D} : gc S d S = S := by
  unfold gc
  split
  · simp
  · rfl
@[simp] theorem flat_int (i : Int) : (D.int i).flat = true := rfl
theorem flats_mem' : ∀ {ds : List D}, (∀ d ∈ ds, d.flat = true) → D.flats ds = true
  | [], _ => rfl
  | d :: r, h => by simp only [D.flats, h d List.mem_cons_self, flats_mem' fun x hx => h x (List.mem_cons_of_mem _ hx), Bool.and_self]
theorem flat_tup {ds : List D} (h : ∀ d ∈ ds, d.flat = true) : (D.tup ds).flat = true := flats_mem' h
/-- the call of a def -/
theorem okk_run {P : Prg} {k f : Nat} {F : Fd} {ds : List D} {S : Store} {Φ : D → Store → Prop} (hf : P.fn f = some F) (hl : ds.length = F.np) (h : Okk (evC P.gl (run P k) F.body (start F.n ds) S) fun r S1 => match r with
    | .ret d => Φ d (if F.gc then gc S d S1 else S1)
    | .nxt _ => Φ .non (if F.gc then gc S .non S1 else S1)
    | _ => False) : Okk (run P (k + 1) f ds S) Φ := by
  simp only [run, hf, hl, if_true]
  refine okk_to (okk_imp h fun r S1 h => ?_)
  cases r with
  | ret d => exact h
  | nxt e => exact h
  | brk e => exact h
  | cnt e => exact h
end MP

set_option linter.all false
set_option autoImplicit false
namespace MP
open PySem (Str)
section
variable {α β : Type}
def dC (Φ : D → Store → Prop) : R → Store → Prop := fun r S => match r with
  | .v d => Φ d S
  | .tmp xs => Φ (.loc S.length) (S ++ [.lst xs])
def lC (Φ : List D → Store → Prop) : R → Store → Prop := fun r S => match r with
  | .v _ => False
  | .tmp xs => Φ xs S
def tC (Φ : Bool → Store → Prop) : D → Store → Prop := fun d S => ∃ b, truth S d = some b ∧ Φ b S
theorem dC_v (Φ : D → Store → Prop) (d : D) (S : Store) : dC Φ (.v d) S = Φ d S := rfl
theorem dC_tmp (Φ : D → Store → Prop) (xs : List D) (S : Store) : dC Φ (.tmp xs) S = Φ (.loc S.length) (S ++ [.lst xs]) := rfl
theorem lC_tmp (Φ : List D → Store → Prop) (xs : List D) (S : Store) : lC Φ (.tmp xs) S = Φ xs S := rfl
theorem tC_bl (Φ : Bool → Store → Prop) (b : Bool) (S : Store) : tC Φ (.bl b) S = Φ b S := by
  simp [tC, truth]
theorem okk_bind_i (x : Out α) (f : α → Store → Out β) (Φ : β → Store → Prop) : Okk (x.bind f) Φ = Okk x fun a S => Okk (f a S) Φ := by
  cases x <;> rfl
theorem okk_bindD_i (x : Out R) (f : D → Store → Out β) (Φ : β → Store → Prop) : Okk (bindD x f) Φ = Okk x (dC fun a S => Okk (f a S) Φ) := by
  cases x with
  | ok r S => cases r <;> rfl
  | exc c d S => rfl
  | no => rfl
theorem okk_bindL_i (x : Out R) (f : List D → Store → Out β) (Φ : β → Store → Prop) : Okk (bindL x f) Φ = Okk x (lC fun a S => Okk (f a S) Φ) := by
  cases x with
  | ok r S => cases r <;> rfl
  | exc c d S => rfl
  | no => rfl
theorem okk_opt (o : Option α) (f : α → Out β) (Φ : β → Store → Prop) : Okk (match o with
    | some a => f a
    | none => .no) Φ = ∃ a, o = some a ∧ Okk (f a) Φ := by
  cases o with
  | none => simp [Okk]
  | some a => simp
theorem okk_bindT_i (x : Out R) (f : Bool → Store → Out β) (Φ : β → Store → Prop) : Okk (bindT x f) Φ = Okk x (dC (tC fun a S => Okk (f a S) Φ)) := by
  show Okk (bindD x _) Φ = _
  rw [okk_bindD_i]
  congr 2
  funext d S
  show Okk (match truth S d with
    | some b => f b S
    | none => .no) Φ = _
  unfold tC
  cases truth S d <;> simp [Okk]
theorem okk_okr (a : α) (S : Store) (Φ : α → Store → Prop) : Okk (.ok a S) Φ = Φ a S := rfl
theorem okk_if (c : Prop) [Decidable c] (x : Out α) (Φ : α → Store → Prop) : Okk (if c then x else .no) Φ = (c ∧ Okk x Φ) := by
  by_cases h : c
  · rw [if_pos h]; simp [h]
  · rw [if_neg h]; simp [h, Okk]
end
section
variable (G : Nat → Option D) (cl : Nat → List D → Store → Out D)
def wR (e : E) (env : Env) (S : Store) (Φ : R → Store → Prop) : Prop := Okk (ev G cl e env S) Φ
def wD (e : E) (env : Env) (S : Store) (Φ : D → Store → Prop) : Prop := wR G cl e env S (dC Φ)
def wL (e : E) (env : Env) (S : Store) (Φ : List D → Store → Prop) : Prop := wR G cl e env S (lC Φ)
def wT (e : E) (env : Env) (S : Store) (Φ : Bool → Store → Prop) : Prop := wD G cl e env S (tC Φ)
def wC (c : C) (env : Env) (S : Store) (Φ : Flow → Store → Prop) : Prop := Okk (evC G cl c env S) Φ
def wI (k : Ik) (a b : E) (env : Env) (S : Store) (Φ : List D × Guard → Store → Prop) : Prop := Okk (srcOf G cl k a b env S) Φ
variable {G cl}
variable {env : Env} {S : Store} {Φ : R → Store → Prop}
theorem wR_var {i : Nat} : wR G cl (.var i) env S Φ = ∃ d, env[i]? = some (some d) ∧ Φ (.v d) S := by
  simp only [wR, ev]
  split
  · rename_i d h; rw [h, okk_okr]; simp
  · rename_i h
    simp only [Okk, false_iff, eq_iff_iff, not_exists, not_and]
    intro d hd
    exact absurd hd (h d)
theorem wR_cst {d : D} : wR G cl (.cst d) env S Φ = Φ (.v d) S := rfl
theorem wR_glob {g : Nat} : wR G cl (.glob g) env S Φ = ∃ d, G g = some d ∧ Φ (.v d) S := by
  simp only [wR, ev]
  cases G g <;> simp [Okk]
theorem wR_nil : wR G cl .nil env S Φ = Φ (.tmp []) S := rfl
theorem wR_cons {a r : E} : wR G cl (.cons a r) env S Φ = wD G cl a env S fun d S1 => wL G cl r env S1 fun ds S2 => Φ (.tmp (d :: ds)) S2 := by
  simp only [wR, wD, wL, ev, okk_bindD_i, okk_bindL_i, okk_okr]
theorem wR_cat {a r : E} : wR G cl (.cat a r) env S Φ = wL G cl a env S fun xs S1 => wL G cl r env S1 fun ys S2 => Φ (.tmp (xs ++ ys)) S2 := by
  simp only [wR, wD, wL, ev, okk_bindD_i, okk_bindL_i, okk_okr]
theorem wR_tup {a : E} : wR G cl (.tup a) env S Φ = wL G cl a env S fun ds S1 => ds.length ≤ line ∧ Φ (.v (.tup ds)) S1 := by
  simp only [wR, wD, wL, ev, okk_bindD_i, okk_bindL_i, okk_if, okk_okr]
theorem wR_lst {a : E} : wR G cl (.lst a) env S Φ = wL G cl a env S fun ds S1 => ds.length ≤ line ∧ Φ (.tmp ds) S1 := by
  simp only [wR, wD, wL, ev, okk_bindD_i, okk_bindL_i, okk_if, okk_okr]
theorem wR_dct0 : wR G cl (.dct .nil) env S Φ = Φ (.v (.loc S.length)) (S ++ [.dct []]) := rfl
theorem wR_dct1 {a b : E} : wR G cl (.dct (.cons a (.cons b .nil))) env S Φ = wD G cl a env S fun x S1 => wD G cl b env S1 fun y S2 => ∃ i, x = .int i ∧ Φ (.v (.loc S2.length)) (S2 ++ [.dct [(.int i, y)]]) := by
  simp only [wR, wD, wL, ev, okk_bindD_i, okk_bindL_i, okk_okr, lC_tmp]
  congr 2
  funext x S1
  congr 2
  funext y S2
  cases x <;> simp [Okk]
theorem wR_op {o : Bop} {a b : E} : wR G cl (.op o a b) env S Φ = wD G cl a env S fun x S1 => wD G cl b env S1 fun y S2 => Okk (binop o x y S2) Φ := by
  simp only [wR, wD, wL, ev, okk_bindD_i]
theorem wR_not {a : E} : wR G cl (.not a) env S Φ = wT G cl a env S fun b S1 => Φ (.v (.bl (!b))) S1 := by
  simp only [wR, wD, wT, ev, okk_bindT_i, okk_okr]
theorem wR_and {a b : E} : wR G cl (.and a b) env S Φ = wD G cl a env S fun x S1 => ∃ t, truth S1 x = some t ∧ if t = true then wR G cl b env S1 Φ else Φ (.v x) S1 := by
  simp only [wR, wD, wT, ev, okk_bindD_i]
  congr 2
  funext x S1
  cases truth S1 x with
  | none => simp [Okk]
  | some t => cases t <;> simp [Okk]
theorem wR_or {a b : E} : wR G cl (.or a b) env S Φ = wD G cl a env S fun x S1 => ∃ t, truth S1 x = some t ∧ if t = true then Φ (.v x) S1 else wR G cl b env S1 Φ := by
  simp only [wR, wD, wT, ev, okk_bindD_i]
  congr 2
  funext x S1
  cases truth S1 x with
  | none => simp [Okk]
  | some t => cases t <;> simp [Okk]
theorem wR_cmp {o : Cop} {a b : E} : wR G cl (.cmp o a b) env S Φ = wD G cl a env S fun x S1 => wD G cl b env S1 fun y S2 => ∃ t, cmpop o x y S2 = some t ∧ Φ (.v (.bl t)) S2 := by
  simp only [wR, wD, wT, ev, okk_bindD_i]
  congr 2
  funext x S1
  congr 2
  funext y S2
  cases cmpop o x y S2 <;> simp [Okk]
theorem wR_isc {neg : Bool} {a : E} {d : D} : wR G cl (.isc neg a d) env S Φ = wD G cl a env S fun x S1 => Φ (.v (.bl (D.same x d != neg))) S1 := by
  simp only [wR, wD, wT, ev, okk_bindD_i, okk_okr]
theorem wR_ite {c a b : E} : wR G cl (.ite c a b) env S Φ = wT G cl c env S fun t S1 => if t = true then wR G cl a env S1 Φ else wR G cl b env S1 Φ := by
  simp only [wR, wD, wT, ev, okk_bindT_i]
  congr 3
  funext t S1
  cases t <;> simp
theorem wR_ix {a i : E} : wR G cl (.ix a i) env S Φ = wD G cl a env S fun x S1 => wD G cl i env S1 fun y S2 => ∃ d, getIx S2 x y = some d ∧ Φ (.v d) S2 := by
  simp only [wR, wD, wT, ev, okk_bindD_i]
  congr 2
  funext x S1
  congr 2
  funext y S2
  cases getIx S2 x y with
  | none => simp [ofOpt, Okk]
  | some d => simp [ofOpt, Okk]
theorem wR_call {f : Nat} {a : E} : wR G cl (.call f a) env S Φ = wL G cl a env S fun ds S1 => Okk (cl f ds S1) fun d S2 => Φ (.v d) S2 := by
  show Okk (bindL (ev G cl a env S) fun ds S1 => (cl f ds S1).bind fun d S2 => .ok (.v d) S2) Φ = _
  rw [okk_bindL_i]
  simp only [okk_bind_i, okk_okr]
  rfl
theorem wR_bi1 {b : B1} {a : E} : wR G cl (.bi1 b a) env S Φ = wR G cl a env S fun r S1 => Okk (bi1 b r S1) Φ := by
  simp only [wR, wD, wL, ev, okk_bind_i]
theorem wR_bi2 {b : B2} {a c : E} : wR G cl (.bi2 b a c) env S Φ = wD G cl a env S fun x S1 => wD G cl c env S1 fun y S2 => Okk (bi2 b x y S2) Φ := by
  simp only [wR, wD, wL, ev, okk_bindD_i]
theorem wR_isi {a : E} {ts : List Ty} : wR G cl (.isi a ts) env S Φ = wD G cl a env S fun x S1 => ∃ t, tyOf S1 x = some t ∧ Φ (.v (.bl (ts.any (isTy t)))) S1 := by
  simp only [wR, wD, wT, ev, okk_bindD_i]
  congr 2
  funext x S1
  cases tyOf S1 x <;> simp [Okk]
theorem wR_meth {m : Mt} {o a : E} : wR G cl (.meth m o a) env S Φ = wD G cl o env S fun x S1 => methOn m x S1 = true ∧ wL G cl a env S1 fun ds S2 => Okk (meth m x ds S2) Φ := by
  simp only [wR, wD, wL, ev, okk_bindD_i, okk_if, okk_bindL_i]
theorem ev_comp' (vs : List Nat) (t : T) (ik : Ik) (a b c elt : E) (env : Env) (S : Store) : ev G cl (.comp vs t ik a b c elt) env S =
    (srcOf G cl ik a b env S).bind fun p S1 => compRun vs t (fun env S => ev G cl c env S) (fun env S => ev G cl elt env S) env (some p) S1 := by
  cases ik <;> simp only [ev, srcOf]
  case seq | enum | range1 =>
    cases ev G cl a env S with
    | exc c d S => rfl
    | no => rfl
    | ok q S1 =>
      simp only [Out.bind]
      generalize src _ _ _ _ = o
      cases o <;> rfl
  all_goals
    cases ev G cl a env S with
    | exc c d S => rfl
    | no => rfl
    | ok q S1 =>
      cases q with
      | v d =>
        simp only [bindD, Out.bind]
        cases ev G cl b env S1 with
        | exc c d S => rfl
        | no => rfl
        | ok q S2 =>
          simp only [bindD, Out.bind]
          generalize src _ _ _ _ = o
          cases o <;> rfl
      | tmp xs =>
        simp only [bindD, Out.bind]
        cases ev G cl b env (S1 ++ [Cell.lst xs]) with
        | exc c d S => rfl
        | no => rfl
        | ok q S2 =>
          simp only [bindD, Out.bind]
          generalize src _ _ _ _ = o
          cases o <;> rfl
/-- a turn of a comprehension -/
def wStep (G : Nat → Option D) (cl : Nat → List D → Store → Out D) (vs : List Nat) (t : T) (c elt : E) (env : Env) (x : D) (S : Store) (Ψ : Option D → Store → Prop) : Prop :=
  ∃ env1, T.put t x (wipe env vs) = some env1 ∧ wT G cl c env1 S fun b S2 => if b = true then wD G cl elt env1 S2 fun d S3 => Ψ (some d) S3 else Ψ none S2
theorem wStep_i {vs : List Nat} {t : T} {c elt : E} {env : Env} {x : D} {S : Store} {Ψ : Option D → Store → Prop} : Okk (compStep vs t (fun env S => ev G cl c env S) (fun env S => ev G cl elt env S) env x S) Ψ = wStep G cl vs t c elt env x S Ψ := by
  unfold compStep wStep
  cases T.put t x (wipe env vs) with
  | none => simp [Okk]
  | some env1 =>
    simp only [Option.some.injEq, exists_eq_left']
    rw [okk_bindT_i]
    simp only [wT, wD, wR]
    congr 3
    funext b S2
    cases b with
    | false => simp [okk_okr]
    | true => simp only [okk_bindD_i, if_true, okk_okr]
theorem wR_comp {vs : List Nat} {t : T} {ik : Ik} {a b c elt : E} : wR G cl (.comp vs t ik a b c elt) env S Φ = wI G cl ik a b env S fun p S1 =>
    Okk (compL p.2 (compStep vs t (fun env S => ev G cl c env S) (fun env S => ev G cl elt env S) env) p.1 S1) fun ds S2 => ds.length ≤ line ∧ Φ (.tmp ds) S2 := by
  simp only [wR, wI]
  rw [ev_comp', okk_bind_i]
  congr 1
  funext p S1
  obtain ⟨xs, g⟩ := p
  simp only [compRun, okk_bind_i, okk_if, okk_okr]
theorem wI_seq {a b : E} {Φ : List D × Guard → Store → Prop} : wI G cl .seq a b env S Φ = wR G cl a env S fun r S1 => ∃ p, src .seq r (.v .non) S1 = some p ∧ Φ p S1 := by
  simp only [wI, srcOf, okk_bind_i, wR]
  congr 1
  funext r S1
  cases src .seq r (.v .non) S1 <;> simp [Okk]
theorem wI_enum {a b : E} {Φ : List D × Guard → Store → Prop} : wI G cl .enum a b env S Φ = wR G cl a env S fun r S1 => ∃ p, src .enum r (.v .non) S1 = some p ∧ Φ p S1 := by
  simp only [wI, srcOf, okk_bind_i, wR]
  congr 1
  funext r S1
  cases src .enum r (.v .non) S1 <;> simp [Okk]
theorem wI_range1 {a b : E} {Φ : List D × Guard → Store → Prop} : wI G cl .range1 a b env S Φ = wR G cl a env S fun r S1 => ∃ p, src .range1 r (.v .non) S1 = some p ∧ Φ p S1 := by
  simp only [wI, srcOf, okk_bind_i, wR]
  congr 1
  funext r S1
  cases src .range1 r (.v .non) S1 <;> simp [Okk]
theorem wI_zip {a b : E} {Φ : List D × Guard → Store → Prop} : wI G cl .zip a b env S Φ = wD G cl a env S fun x S1 => wR G cl b env S1 fun r S2 => ∃ p, src .zip (.v x) r S2 = some p ∧ Φ p S2 := by
  show Okk (bindD (ev G cl a env S) fun x S1 => (ev G cl b env S1).bind fun r S2 => (match src .zip (.v x) r S2 with
    | some p => .ok p S2
    | none => .no)) Φ = _
  rw [okk_bindD_i]
  unfold wD wR
  congr 2
  funext x S1
  rw [okk_bind_i]
  congr 1
  funext r S2
  cases src .zip (.v x) r S2 <;> simp [Okk]

/-! ### tests -/
variable {Ψ : Bool → Store → Prop}
theorem wT_not {a : E} : wT G cl (.not a) env S Ψ = wT G cl a env S fun b S1 => Ψ (!b) S1 := by
  conv => lhs; unfold wT wD
  rw [wR_not]
  simp only [dC_v, tC_bl]
theorem wT_and {a b : E} : wT G cl (.and a b) env S Ψ = wT G cl a env S fun t S1 => if t = true then wT G cl b env S1 Ψ else Ψ false S1 := by
  conv => lhs; unfold wT wD
  rw [wR_and]
  unfold wT
  congr 1
  funext x S1
  cases h : truth S1 x with
  | none => simp [tC, h]
  | some t => cases t <;> simp [tC, h, dC_v, wD]
theorem wT_or {a b : E} : wT G cl (.or a b) env S Ψ = wT G cl a env S fun t S1 => if t = true then Ψ true S1 else wT G cl b env S1 Ψ := by
  conv => lhs; unfold wT wD
  rw [wR_or]
  unfold wT
  congr 1
  funext x S1
  cases h : truth S1 x with
  | none => simp [tC, h]
  | some t => cases t <;> simp [tC, h, dC_v, wD]

/-! ### statements -/
variable {Θ : Flow → Store → Prop}
theorem wC_skip : wC G cl .skip env S Θ = Θ (.nxt env) S := rfl
theorem wC_seq {a b : C} : wC G cl (.seq a b) env S Θ = wC G cl a env S fun f S1 => match f with
    | .nxt env1 => wC G cl b env1 S1 Θ
    | f => Θ f S1 := by
  simp only [wC, evC, okk_bind_i]
  congr 1
  funext f S1
  cases f <;> rfl
theorem wC_asg {t : T} {e : E} : wC G cl (.asg t e) env S Θ = wD G cl e env S fun d S1 => ∃ env1, T.put t d env = some env1 ∧ Θ (.nxt env1) S1 := by
  simp only [wC, evC, okk_bindD_i, wD, wR]
  congr 2
  funext d S1
  cases T.put t d env <;> simp [Okk]
theorem wC_par {vs : List Nat} {a : E} : wC G cl (.par vs a) env S Θ = wL G cl a env S fun ds S1 => ∃ env1, setAll vs ds env = some env1 ∧ Θ (.nxt env1) S1 := by
  simp only [wC, evC, okk_bindL_i, wL, wR]
  congr 2
  funext d S1
  cases setAll vs d env <;> simp [Okk]
theorem wC_sub {o i e : E} : wC G cl (.sub o i e) env S Θ = wD G cl e env S fun v S1 => wD G cl o env S1 fun x S2 => wD G cl i env S2 fun y S3 => ∃ S4, setIx S3 x y v = some S4 ∧ Θ (.nxt env) S4 := by
  simp only [wC, evC, okk_bindD_i, wD, wR]
  congr 2
  funext v S1
  congr 2
  funext x S2
  congr 2
  funext y S3
  cases setIx S3 x y v <;> simp [Okk]
theorem wC_ifc {c : E} {a b : C} : wC G cl (.ifc c a b) env S Θ = wT G cl c env S fun t S1 => if t = true then wC G cl a env S1 Θ else wC G cl b env S1 Θ := by
  simp only [wC, evC, okk_bindT_i, wT, wD, wR]
  congr 3
  funext t S1
  cases t <;> simp
theorem wC_ret {e : E} : wC G cl (.ret e) env S Θ = wD G cl e env S fun d S1 => Θ (.ret d) S1 := by
  simp only [wC, evC, okk_bindD_i, wD, wR, okk_okr]
theorem wC_expr {e : E} : wC G cl (.expr e) env S Θ = wR G cl e env S fun _ S1 => Θ (.nxt env) S1 := by
  simp only [wC, evC, okk_bind_i, wR, okk_okr]
theorem wC_for {t : T} {k : Ik} {a b : E} {body : C} : wC G cl (.forc t k a b body) env S Θ = wI G cl k a b env S fun p S1 => Okk (forL p.2 t (fun env S => evC G cl body env S) p.1 env S1) Θ := by
  simp only [wC, evC, okk_bind_i, wI]
theorem wC_whl {c : E} {b : C} : wC G cl (.whl c b) env S Θ = Okk (whileN (fun env S => bindT (ev G cl c env S) fun t S1 => .ok t S1) (fun env S => evC G cl b env S) fuel env S) Θ := rfl
theorem wT_i {c : E} : Okk (bindT (ev G cl c env S) fun t S1 => .ok t S1) Ψ = wT G cl c env S Ψ := by
  rw [okk_bindT_i]; rfl
theorem wC_i {c : C} : Okk (evC G cl c env S) Θ = wC G cl c env S Θ := rfl
end
end MP

set_option linter.all false
set_option autoImplicit false
namespace MP
open PySem (Str)
section
variable {G : Nat → Option D} {cl : Nat → List D → Store → Out D} {env : Env} {S : Store} {Ψ : Bool → Store → Prop} {Φ : R → Store → Prop}
theorem wT_cmp {o : Cop} {a b : E} : wT G cl (.cmp o a b) env S Ψ = wD G cl a env S fun x S1 => wD G cl b env S1 fun y S2 => ∃ t, cmpop o x y S2 = some t ∧ Ψ t S2 := by
  conv => lhs; unfold wT wD
  rw [wR_cmp]
  simp only [dC_v, tC_bl]
theorem wT_isc {neg : Bool} {a : E} {d : D} : wT G cl (.isc neg a d) env S Ψ = wD G cl a env S fun x S1 => Ψ (D.same x d != neg) S1 := by
  conv => lhs; unfold wT wD
  rw [wR_isc]
  simp only [dC_v, tC_bl]
theorem wT_isi {a : E} {ts : List Ty} : wT G cl (.isi a ts) env S Ψ = wD G cl a env S fun x S1 => ∃ t, tyOf S1 x = some t ∧ Ψ (ts.any (isTy t)) S1 := by
  conv => lhs; unfold wT wD
  rw [wR_isi]
  simp only [dC_v, tC_bl]
theorem wT_var {i : Nat} : wT G cl (.var i) env S Ψ = ∃ d, env[i]? = some (some d) ∧ tC Ψ d S := by
  conv => lhs; unfold wT wD
  rw [wR_var]
  rfl
theorem wT_cst {d : D} : wT G cl (.cst d) env S Ψ = tC Ψ d S := rfl
theorem wT_ix {a i : E} : wT G cl (.ix a i) env S Ψ = wD G cl a env S fun x S1 => wD G cl i env S1 fun y S2 => ∃ d, getIx S2 x y = some d ∧ tC Ψ d S2 := by
  conv => lhs; unfold wT wD
  rw [wR_ix]
  rfl
theorem wT_call {f : Nat} {a : E} : wT G cl (.call f a) env S Ψ = wL G cl a env S fun ds S1 => Okk (cl f ds S1) fun d S2 => tC Ψ d S2 := by
  conv => lhs; unfold wT wD
  rw [wR_call]
  rfl
theorem wT_ite {c a b : E} : wT G cl (.ite c a b) env S Ψ = wT G cl c env S fun t S1 => if t = true then wT G cl a env S1 Ψ else wT G cl b env S1 Ψ := by
  conv => lhs; unfold wT wD
  rw [wR_ite]
  rfl
/-! ### operators by values -/
theorem add_i (i j : Int) : Okk (binop .add (.int i) (.int j) S) Φ = Φ (.v (.int (i + j))) S := rfl
theorem sub_i (i j : Int) : Okk (binop .sub (.int i) (.int j) S) Φ = Φ (.v (.int (i - j))) S := rfl
theorem mul_i (i j : Int) : Okk (binop .mul (.int i) (.int j) S) Φ = ((small64 i || small64 j) = true ∧ Φ (.v (.int (i * j))) S) := by
  simp only [binop]; rw [okk_if, okk_okr]
theorem mod_i (i j : Int) : Okk (binop .mod (.int i) (.int j) S) Φ = (0 < j ∧ Φ (.v (.int (i % j))) S) := by
  simp only [binop]; rw [okk_if, okk_okr]; simp
theorem fdiv_i (i j : Int) : Okk (binop .fdiv (.int i) (.int j) S) Φ = ((0 < j ∧ j < 1073741824) ∧ Φ (.v (.int (i / j))) S) := by
  simp only [binop]; rw [okk_if, okk_okr]; simp
theorem pow_i (i j : Int) : Okk (binop .pow (.int i) (.int j) S) Φ = ((0 ≤ j ∧ j ≤ 1000000 ∧ i.natAbs < 18446744073709551616) ∧ Φ (.v (.int (i ^ j.toNat))) S) := by
  simp only [binop]; rw [okk_if, okk_okr]; simp [and_assoc]
theorem add_t (xs ys : List D) : Okk (binop .add (.tup xs) (.tup ys) S) Φ = (xs.length + ys.length ≤ line ∧ Φ (.v (.tup (xs ++ ys))) S) := by
  simp only [binop]; rw [okk_if, okk_okr]
theorem add_l {m n : Nat} : Okk (binop .add (.loc m) (.loc n) S) Φ = ∃ xs, S[m]? = some (.lst xs) ∧ ∃ ys, S[n]? = some (.lst ys) ∧ xs.length + ys.length ≤ line ∧ Φ (.tmp (xs ++ ys)) S := by
  simp only [binop]
  split
  · rename_i xs ys h1 h2
    rw [okk_if, okk_okr, h1, h2]; simp
  · rename_i h
    simp only [Okk, eq_iff_iff, false_iff, not_exists, not_and]
    intro xs h1 ys h2
    exact absurd h2 (h xs ys h1)
theorem eq_i (i j : Int) : cmpop .eq (.int i) (.int j) S = some (decide (i = j)) := by simp [cmpop, eqD, D.fine, D.lay, D.depth, D.eqv]
theorem ne_i (i j : Int) : cmpop .ne (.int i) (.int j) S = some (!decide (i = j)) := by simp [cmpop, eqD, D.fine, D.lay, D.depth, D.eqv]
theorem lt_i (i j : Int) : cmpop .lt (.int i) (.int j) S = some (decide (i < j)) := rfl
theorem le_i (i j : Int) : cmpop .le (.int i) (.int j) S = some (decide (i ≤ j)) := rfl
theorem gt_i (i j : Int) : cmpop .gt (.int i) (.int j) S = some (decide (j < i)) := rfl
theorem ge_i (i j : Int) : cmpop .ge (.int i) (.int j) S = some (decide (j ≤ i)) := rfl
theorem eq_ni (i : Int) : cmpop .eq .non (.int i) S = some false := rfl
theorem eq_in (i : Int) : cmpop .eq (.int i) .non S = some false := rfl
theorem eq_nn : cmpop .eq .non .non S = some true := rfl
theorem eq_s (x y : Str) : cmpop .eq (.str x) (.str y) S = some (decide (x = y)) := by
  simp only [cmpop, eqD]
theorem b_tuple (r : R) : Okk (bi1 .tuple r S) Φ = ∃ xs, itemsOf S r = some xs ∧ Φ (.v (.tup xs)) S := by
  simp only [bi1]
  cases itemsOf S r <;> simp [Okk]
theorem b_list (r : R) : Okk (bi1 .list r S) Φ = ∃ xs, itemsOf S r = some xs ∧ Φ (.tmp xs) S := by
  simp only [bi1]
  cases itemsOf S r <;> simp [Okk]
theorem b_len_t (xs : List D) : Okk (bi1 .len (.v (.tup xs)) S) Φ = Φ (.v (.int (xs.length : Nat))) S := rfl
theorem b_len_l {n : Nat} {xs : List D} (h : S[n]? = some (.lst xs)) : Okk (bi1 .len (.v (.loc n)) S) Φ = Φ (.v (.int (xs.length : Nat))) S := by simp only [bi1, h, okk_okr]
theorem b_len_r {n : Nat} {xs : List D} (h : S[n]? = some (.rol xs)) : Okk (bi1 .len (.v (.loc n)) S) Φ = Φ (.v (.int (xs.length : Nat))) S := by simp only [bi1, h, okk_okr]
theorem b_len_d {n : Nat} {xs : List (D × D)} (h : S[n]? = some (.dct xs)) : Okk (bi1 .len (.v (.loc n)) S) Φ = Φ (.v (.int (xs.length : Nat))) S := by simp only [bi1, h, okk_okr]
theorem b_abs (i : Int) : Okk (bi1 .abs (.v (.int i)) S) Φ = Φ (.v (.int (if i < 0 then -i else i))) S := rfl
theorem b_int (i : Int) : Okk (bi1 .int (.v (.int i)) S) Φ = Φ (.v (.int i)) S := rfl
theorem b_lrange (j : Int) : Okk (bi1 .lrange (.v (.int j)) S) Φ = (((-far ≤ j ∧ j < far) ∧ j.toNat ≤ line) ∧ Φ (.tmp (rangeL 0 j.toNat)) S) := by
  simp only [bi1]; rw [okk_if, okk_okr]; simp
theorem b_min (i j : Int) : Okk (bi2 .min (.int i) (.int j) S) Φ = Φ (.v (.int (if j < i then j else i))) S := rfl
theorem b_max (i j : Int) : Okk (bi2 .max (.int i) (.int j) S) Φ = Φ (.v (.int (if j > i then j else i))) S := rfl
theorem m_append {n : Nat} {x : D} {xs : List D} (h : S[n]? = some (.lst xs)) : Okk (meth .append (.loc n) [x] S) Φ = (xs.length < line ∧ Φ (.v .non) (S.set n (.lst (xs ++ [x])))) := by
  simp only [meth, h]; rw [okk_if, okk_okr]
theorem on_append {n : Nat} {xs : List D} (h : S[n]? = some (.lst xs)) : methOn .append (.loc n) S = true := by simp only [methOn, h]
theorem on_setd {n : Nat} {xs : List (D × D)} (h : S[n]? = some (.dct xs)) : methOn .setdefault (.loc n) S = true := by simp only [methOn, h]
theorem it_tmp (xs : List D) : itemsOf S (.tmp xs) = some xs := rfl
theorem it_tup (xs : List D) : itemsOf S (.v (.tup xs)) = some xs := rfl
theorem it_loc {n : Nat} {xs : List D} (h : S[n]? = some (.lst xs)) : itemsOf S (.v (.loc n)) = some xs := by simp only [itemsOf, seqOf, h]
theorem it_rol {n : Nat} {xs : List D} (h : S[n]? = some (.rol xs)) : itemsOf S (.v (.loc n)) = some xs := by simp only [itemsOf, seqOf, h]
theorem src_seq {r : R} {xs : List D} (h : itemsOf S r = some xs) : src .seq r (.v .non) S = some (xs, guardOf S r) := by simp only [src, h, Option.map_some]
theorem src_enum {r : R} {xs : List D} (h : itemsOf S r = some xs) : src .enum r (.v .non) S = some (enumL 0 xs, guardOf S r) := by simp only [src, h, Option.map_some]
theorem src_rg {j : Int} (h : -far ≤ j ∧ j < far) : src .range1 (.v (.int j)) (.v .non) S = some (rangeL 0 j.toNat, []) := by
  simp only [src]; rw [if_pos (by simp [h.1, h.2])]
theorem range_at {n j : Nat} {x : D} (h : (rangeL 0 n)[j]? = some x) : j < n ∧ x = .int (j : Int) := by
  have key : ∀ (n : Nat) (lo : Int) (j : Nat) (x : D), (rangeL lo n)[j]? = some x → j < n ∧ x = .int (lo + j) := by
    intro n
    induction n with
    | zero => intro lo j x h; simp [rangeL] at h
    | succ n ih =>
      intro lo j x h
      cases j with
      | zero => simp [rangeL] at h; simp [← h]
      | succ j =>
        simp only [rangeL, List.getElem?_cons_succ] at h
        obtain ⟨h1, h2⟩ := ih (lo + 1) j x h
        refine ⟨by omega, ?_⟩
        rw [h2]; congr 1; omega
  have := key n 0 j x h
  simpa using this
theorem range_len (n : Nat) : (rangeL 0 n).length = n := by
  have key : ∀ (n : Nat) (lo : Int), (rangeL lo n).length = n := by
    intro n
    induction n with
    | zero => intro lo; rfl
    | succ n ih => intro lo; simp [rangeL, ih]
  exact key n 0
theorem enum_at {xs : List D} {j : Nat} {x : D} (h : (enumL 0 xs)[j]? = some x) : ∃ d, xs[j]? = some d ∧ x = .tup [.int (j : Int), d] := by
  have key : ∀ (xs : List D) (n j : Nat), (enumL n xs)[j]? = (xs[j]?).map fun d => .tup [.int ((n + j : Nat) : Int), d] := by
    intro xs
    induction xs with
    | nil => intro n j; simp [enumL]
    | cons x r ih =>
      intro n j
      cases j with
      | zero => simp [enumL]
      | succ j =>
        simp only [enumL, List.getElem?_cons_succ]
        rw [ih (n + 1) j]
        have : n + 1 + j = n + (j + 1) := by omega
        rw [this]
  rw [key] at h
  cases q : xs[j]? with
  | none => rw [q] at h; cases h
  | some d =>
    rw [q] at h
    simp at h
    exact ⟨d, rfl, by rw [← h]⟩
theorem enum_len (xs : List D) : (enumL 0 xs).length = xs.length := by
  have key : ∀ (xs : List D) (n : Nat), (enumL n xs).length = xs.length := by
    intro xs
    induction xs with
    | nil => intro n; rfl
    | cons x r ih => intro n; simp [enumL, ih]
  exact key xs 0
theorem put_n (i : Nat) (d : D) (env : Env) : T.put (.name i) d env = some (setSlot env i d) := rfl
theorem put_2 (i j : Nat) (a b : D) (env : Env) : T.put (.tup (.cons (.name i) (.cons (.name j) .nil))) (.tup [a, b]) env = some (setSlot (setSlot env i a) j b) := rfl
theorem put_3 (i j k : Nat) (a b c : D) (env : Env) : T.put (.tup (.cons (.name i) (.cons (.name j) (.cons (.name k) .nil)))) (.tup [a, b, c]) env = some (setSlot (setSlot (setSlot env i a) j b) k c) := rfl
theorem put_5 (i j k l m : Nat) (a b c d e : D) (env : Env) : T.put (.tup (.cons (.name i) (.cons (.name j) (.cons (.name k) (.cons (.name l) (.cons (.name m) .nil)))))) (.tup [a, b, c, d, e]) env = some (setSlot (setSlot (setSlot (setSlot (setSlot env i a) j b) k c) l d) m e) := rfl
theorem ixN_nat {n i : Nat} (h : i < n) : ixN n (i : Int) = some i := by
  unfold ixN
  rw [if_pos (by omega), if_pos (by omega)]
  simp
theorem atI_nat {xs : List D} {i : Nat} (h : i < xs.length) : atI xs (i : Int) = xs[i]? := by
  unfold atI
  rw [ixN_nat h]; rfl
theorem getIx_tup {S : Store} {xs : List D} {i : Nat} {d : D} (h : xs[i]? = some d) : getIx S (.tup xs) (.int (i : Int)) = some d := by
  have hl := (List.getElem?_eq_some_iff.mp h).1
  simp only [getIx]
  rw [atI_nat hl, h]
theorem getIx_lst {S : Store} {n : Nat} {xs : List D} {i : Nat} {d : D} (hn : S[n]? = some (.lst xs)) (h : xs[i]? = some d) : getIx S (.loc n) (.int (i : Int)) = some d := by
  have hl := (List.getElem?_eq_some_iff.mp h).1
  simp only [getIx, hn]
  rw [atI_nat hl, h]
theorem getIx_rol {S : Store} {n : Nat} {xs : List D} {i : Nat} {d : D} (hn : S[n]? = some (.rol xs)) (h : xs[i]? = some d) : getIx S (.loc n) (.int (i : Int)) = some d := by
  have hl := (List.getElem?_eq_some_iff.mp h).1
  simp only [getIx, hn]
  rw [atI_nat hl, h]
theorem setIx_lst {S : Store} {n : Nat} {xs : List D} {i : Nat} {v : D} (hn : S[n]? = some (.lst xs)) (h : i < xs.length) : setIx S (.loc n) (.int (i : Int)) v = some (S.set n (.lst (xs.set i v))) := by
  simp only [setIx, hn]
  rw [ixN_nat h]; rfl
end
end MP

/-! Least costs by rounds: the plain law. -/
set_option linter.all false
set_option autoImplicit false
namespace MP
abbrev Fl := List (Option Nat)
abbrev Ed := Nat × Nat × Nat
def Fl.at (f : Fl) (b : Nat) : Option Nat := (f[b]?).getD none
def leO : Option Nat → Option Nat → Prop
  | _, none => True
  | some x, some y => x ≤ y
  | none, some _ => False
def addO (c : Nat) : Option Nat → Option Nat
  | none => none
  | some v => some (c + v)
theorem leO_refl (a : Option Nat) : leO a a := by cases a <;> simp [leO]
theorem leO_trans {a b c : Option Nat} (h : leO a b) (h' : leO b c) : leO a c := by
  cases a <;> cases b <;> cases c <;> simp_all [leO]
  omega
theorem addO_le {c : Nat} {a b : Option Nat} (h : leO a b) : leO (addO c a) (addO c b) := by
  cases a <;> cases b <;> simp_all [leO, addO]
def upd (b : Nat) (f : Fl) (s : Ed) : Fl := match f.at s.2.1 with
  | none => f
  | some v => match f.at b with
    | none => f.set b (some (s.2.2 + v))
    | some u => if s.2.2 + v < u then f.set b (some (s.2.2 + v)) else f
def roundFrom (b : Nat) : List (List Ed) → Fl → Fl
  | [], f => f
  | row :: r, f => roundFrom (b + 1) r (row.foldl (upd b) f)
def roundF (rows : List (List Ed)) (f : Fl) : Fl := roundFrom 0 rows f
def iterF (rows : List (List Ed)) : Nat → Fl → Fl
  | 0, f => f
  | n + 1, f => roundF rows (iterF rows n f)
theorem upd_len (b : Nat) (f : Fl) (s : Ed) : (upd b f s).length = f.length := by
  unfold upd
  split
  · rfl
  · split
    · simp
    · split <;> simp
theorem fold_len (b : Nat) : ∀ (row : List Ed) (f : Fl), (row.foldl (upd b) f).length = f.length
  | [], _ => rfl
  | s :: r, f => by rw [List.foldl_cons, fold_len b r, upd_len]
theorem roundFrom_len : ∀ (rows : List (List Ed)) (b : Nat) (f : Fl), (roundFrom b rows f).length = f.length
  | [], _, _ => rfl
  | row :: r, b, f => by rw [roundFrom, roundFrom_len r, fold_len]
theorem round_len (rows : List (List Ed)) (f : Fl) : (roundF rows f).length = f.length := roundFrom_len rows 0 f
theorem iter_len (rows : List (List Ed)) : ∀ (n : Nat) (f : Fl), (iterF rows n f).length = f.length
  | 0, _ => rfl
  | n + 1, f => by rw [iterF, round_len, iter_len rows n f]
theorem at_set {f : Fl} {b x : Nat} {v : Option Nat} (hb : b < f.length) : Fl.at (f.set b v) x = if x = b then v else f.at x := by
  unfold Fl.at
  by_cases h : x = b
  · subst h; rw [if_pos rfl, List.getElem?_set_self hb]; rfl
  · rw [if_neg h, List.getElem?_set_ne (Ne.symm h)]
theorem upd_le (b : Nat) (f : Fl) (s : Ed) (hb : b < f.length) (x : Nat) : leO (Fl.at (upd b f s) x) (f.at x) := by
  unfold upd
  split
  · exact leO_refl _
  · rename_i v hv
    split
    · rename_i hu
      rw [at_set hb]
      split
      · rename_i e; rw [e, hu]; simp [leO]
      · exact leO_refl _
    · rename_i u hu
      split
      · rw [at_set hb]
        split
        · rename_i e; rw [e, hu]; simp only [leO]; omega
        · exact leO_refl _
      · exact leO_refl _
theorem upd_take (b : Nat) (f : Fl) (s : Ed) (hb : b < f.length) : leO (Fl.at (upd b f s) b) (addO s.2.2 (f.at s.2.1)) := by
  unfold upd
  split
  · rename_i h; rw [h]; cases f.at b <;> simp [leO, addO]
  · rename_i v hv
    rw [hv]
    split
    · rw [at_set hb, if_pos rfl]; simp [leO, addO]
    · rename_i u hu
      split
      · rw [at_set hb, if_pos rfl]; simp [leO, addO]
      · rw [hu]; simp only [leO, addO]; omega
theorem fold_le (b : Nat) : ∀ (row : List Ed) (f : Fl), b < f.length → ∀ x, leO (Fl.at (row.foldl (upd b) f) x) (f.at x)
  | [], _, _, _ => leO_refl _
  | s :: r, f, hb, x => leO_trans (fold_le b r (upd b f s) (by rw [upd_len]; exact hb) x) (upd_le b f s hb x)
theorem fold_take (b : Nat) : ∀ (row : List Ed) (f : Fl), b < f.length → ∀ s ∈ row, leO (Fl.at (row.foldl (upd b) f) b) (addO s.2.2 (f.at s.2.1))
  | s :: r, f, hb, s', h => by
    have hb' : b < (upd b f s).length := by rw [upd_len]; exact hb
    rcases List.mem_cons.mp h with rfl | h
    · exact leO_trans (fold_le b r _ hb' b) (upd_take b f s' hb)
    · exact leO_trans (fold_take b r _ hb' s' h) (addO_le (upd_le b f s hb s'.2.1))
theorem roundFrom_le : ∀ (rows : List (List Ed)) (b : Nat) (f : Fl), b + rows.length ≤ f.length → ∀ x, leO (Fl.at (roundFrom b rows f) x) (f.at x)
  | [], _, _, _, _ => leO_refl _
  | row :: r, b, f, h, x => by
    simp only [List.length_cons] at h
    exact leO_trans (roundFrom_le r (b + 1) _ (by rw [fold_len]; omega) x) (fold_le b row f (by omega) x)
theorem roundFrom_take : ∀ (rows : List (List Ed)) (b : Nat) (f : Fl), b + rows.length ≤ f.length → ∀ (i : Nat) (row : List Ed), rows[i]? = some row → ∀ s ∈ row, leO (Fl.at (roundFrom b rows f) (b + i)) (addO s.2.2 (f.at s.2.1))
  | row0 :: r, b, f, h, 0, row, e, s, hs => by
    simp only [List.length_cons] at h
    simp at e
    subst e
    exact leO_trans (roundFrom_le r (b + 1) _ (by rw [fold_len]; omega) (b + 0)) (fold_take b row0 f (by omega) s hs)
  | row0 :: r, b, f, h, i + 1, row, e, s, hs => by
    simp only [List.length_cons] at h
    have := roundFrom_take r (b + 1) (row0.foldl (upd b) f) (by rw [fold_len]; omega) i row (by simpa using e) s hs
    have e2 : b + 1 + i = b + (i + 1) := by omega
    rw [e2] at this
    exact leO_trans this (addO_le (fold_le b row0 f (by omega) s.2.1))
theorem round_le (rows : List (List Ed)) (f : Fl) (h : rows.length ≤ f.length) (x : Nat) : leO (Fl.at (roundF rows f) x) (f.at x) := roundFrom_le rows 0 f (by omega) x
theorem round_take (rows : List (List Ed)) (f : Fl) (h : rows.length ≤ f.length) {b : Nat} {row : List Ed} (hr : rows[b]? = some row) {s : Ed} (hs : s ∈ row) : leO (Fl.at (roundF rows f) b) (addO s.2.2 (f.at s.2.1)) := by
  have := roundFrom_take rows 0 f (by omega) b row hr s hs
  rw [Nat.zero_add] at this
  exact this

/-! ### paths -/
def PathN (rows : List (List Ed)) (f0 : Fl) : Nat → Nat → Nat → Prop
  | 0, b, v => f0.at b = some v
  | r + 1, b, v => PathN rows f0 r b v ∨ ∃ row s v', rows[b]? = some row ∧ s ∈ row ∧ PathN rows f0 r s.2.1 v' ∧ v = s.2.2 + v'
section
variable {rows : List (List Ed)} {f0 : Fl}
theorem path_mono {r r' b v : Nat} (h : PathN rows f0 r b v) (hr : r ≤ r') : PathN rows f0 r' b v := by
  induction hr with
  | refl => exact h
  | step _ ih => exact .inl ih
/-- every value is a path's -/
def Real (rows : List (List Ed)) (f0 f : Fl) : Prop := ∀ b v, f.at b = some v → ∃ r, PathN rows f0 r b v
theorem real_upd {f : Fl} {b : Nat} {row : List Ed} {s : Ed} (h : Real rows f0 f) (hb : b < f.length) (hr : rows[b]? = some row) (hs : s ∈ row) : Real rows f0 (upd b f s) := by
  have new : ∀ v, f.at s.2.1 = some v → Real rows f0 (f.set b (some (s.2.2 + v))) := fun v hv x u hx => by
    rw [at_set hb] at hx
    split at hx
    · rename_i e
      subst e
      cases hx
      obtain ⟨r, hp⟩ := h _ _ hv
      exact ⟨r + 1, .inr ⟨row, s, v, hr, hs, hp, rfl⟩⟩
    · exact h x u hx
  unfold upd
  split
  · exact h
  · rename_i v hv
    split
    · exact new v hv
    · split
      · exact new v hv
      · exact h
theorem real_fold {b : Nat} {row : List Ed} (hr : rows[b]? = some row) : ∀ (l : List Ed) (f : Fl), (∀ s ∈ l, s ∈ row) → b < f.length → Real rows f0 f → Real rows f0 (l.foldl (upd b) f)
  | [], _, _, _, h => h
  | s :: r, f, hl, hb, h => real_fold hr r (upd b f s) (fun x hx => hl x (List.mem_cons_of_mem _ hx)) (by rw [upd_len]; exact hb) (real_upd h hb hr (hl s List.mem_cons_self))
theorem real_from : ∀ (l : List (List Ed)) (b : Nat) (f : Fl), (∀ i row, l[i]? = some row → rows[b + i]? = some row) → b + l.length ≤ f.length → Real rows f0 f → Real rows f0 (roundFrom b l f)
  | [], _, _, _, _, h => h
  | row :: r, b, f, hl, hb, h => by
    simp only [List.length_cons] at hb
    refine real_from r (b + 1) _ (fun i row' e => ?_) (by rw [fold_len]; omega) (real_fold (hl 0 row rfl) row f (fun _ h => h) (by omega) h)
    have := hl (i + 1) row' (by simpa using e)
    have e2 : b + (i + 1) = b + 1 + i := by omega
    rw [e2] at this
    exact this
theorem real_round {f : Fl} (hl : rows.length ≤ f.length) (h : Real rows f0 f) : Real rows f0 (roundF rows f) :=
  real_from rows 0 f (fun i row e => by rw [Nat.zero_add]; exact e) (by omega) h
theorem real_iter (hl : rows.length ≤ f0.length) : ∀ n, Real rows f0 (iterF rows n f0)
  | 0 => fun b v h => ⟨0, h⟩
  | n + 1 => real_round (by rw [iter_len]; exact hl) (real_iter hl n)
theorem iter_path (hl : rows.length ≤ f0.length) : ∀ (r b v : Nat), PathN rows f0 r b v → leO (Fl.at (iterF rows r f0) b) (some v)
  | 0, b, v, h => by
    show leO (f0.at b) (some v)
    have h : f0.at b = some v := h
    rw [h]; exact leO_refl _
  | r + 1, b, v, h => by
    have hl' : rows.length ≤ (iterF rows r f0).length := by rw [iter_len]; exact hl
    rcases h with h | ⟨row, s, v', hr, hs, hp, rfl⟩
    · exact leO_trans (round_le rows _ hl' b) (iter_path hl r b v h)
    · exact leO_trans (round_take rows _ hl' hr hs) (addO_le (c := s.2.2) (iter_path hl r s.2.1 v' hp))
/-- b's least value is attained within r steps -/
def Att (rows : List (List Ed)) (f0 : Fl) (r b : Nat) : Prop := ∃ v, PathN rows f0 r b v ∧ ∀ r' v', PathN rows f0 r' b v' → v ≤ v'
open Classical in
noncomputable def cnt (n : Nat) (p : Nat → Prop) : Nat := ((List.range n).filter fun x => decide (p x)).length
open Classical in
theorem cnt_le (n : Nat) (p : Nat → Prop) : cnt n p ≤ n := by
  unfold cnt
  have := List.length_filter_le (fun x => decide (p x)) (List.range n)
  simpa using this
open Classical in
theorem cnt_mono : ∀ (n : Nat) {p q : Nat → Prop}, (∀ x, p x → q x) → cnt n p ≤ cnt n q
  | 0, _, _, _ => Nat.le_refl _
  | n + 1, p, q, h => by
    have ih := cnt_mono n h
    unfold cnt at ih ⊢
    rw [List.range_succ, List.filter_append, List.filter_append, List.length_append, List.length_append]
    by_cases hp : p n
    · simp [hp, h n hp]; exact ih
    · simp [hp]; exact Nat.le_trans ih (Nat.le_add_right _ _)
open Classical in
theorem cnt_more : ∀ (n : Nat) {p q : Nat → Prop} {b : Nat}, (∀ x, p x → q x) → b < n → q b → ¬ p b → cnt n p + 1 ≤ cnt n q
  | n + 1, p, q, b, h, hb, hq, hn => by
    by_cases e : b = n
    · subst e
      have ih := cnt_mono b h
      unfold cnt at ih ⊢
      rw [List.range_succ, List.filter_append, List.filter_append, List.length_append, List.length_append]
      simp [hq, hn]; exact ih
    · have ih := cnt_more n h (by omega) hq hn
      unfold cnt at ih ⊢
      rw [List.range_succ, List.filter_append, List.filter_append, List.length_append, List.length_append]
      by_cases hp : p n
      · simp [hp, h n hp]; omega
      · simp [hp]; omega
theorem att_cnt {n : Nat} (hn : rows.length ≤ n) (h0 : ∀ b v, f0.at b = some v → b < n) : ∀ (r b : Nat), Att rows f0 r b → (∀ r', r' < r → ¬ Att rows f0 r' b) → r + 1 ≤ cnt n (Att rows f0 r)
  | 0, b, ⟨v, hv, ho⟩, _ => by
    have : cnt n (fun _ => False) + 1 ≤ cnt n (Att rows f0 0) := cnt_more n (fun _ h => h.elim) (h0 b v hv) ⟨v, hv, ho⟩ (fun h => h)
    omega
  | r + 1, b, ⟨v, hv, ho⟩, hm => by
    rcases hv with hv | ⟨row, s, v', hr, hs, hp, rfl⟩
    · exact absurd ⟨v, hv, ho⟩ (hm r (Nat.lt_succ_self r))
    · have opt : ∀ r' u, PathN rows f0 r' s.2.1 u → v' ≤ u := fun r' u hu => by
        have := ho (r' + 1) (s.2.2 + u) (.inr ⟨row, s, u, hr, hs, hu, rfl⟩)
        omega
      have at' : Att rows f0 r s.2.1 := ⟨v', hp, opt⟩
      have hm' : ∀ r', r' < r → ¬ Att rows f0 r' s.2.1 := fun r' hlt ⟨u, hu, hou⟩ => by
        have e : u = v' := Nat.le_antisymm (hou r v' hp) (opt r' u hu)
        subst e
        exact hm (r' + 1) (by omega) ⟨s.2.2 + u, .inr ⟨row, s, u, hr, hs, hu, rfl⟩, ho⟩
      have ih := att_cnt hn h0 r s.2.1 at' hm'
      have hb : b < n := Nat.lt_of_lt_of_le (List.getElem?_eq_some_iff.mp hr).1 hn
      have := cnt_more n (p := Att rows f0 r) (q := Att rows f0 (r + 1)) (fun x ⟨u, hu, hou⟩ => ⟨u, .inl hu, hou⟩) hb ⟨_, .inr ⟨row, s, v', hr, hs, hp, rfl⟩, ho⟩ (hm r (Nat.lt_succ_self r))
      omega
theorem least_of {p : Nat → Prop} (h : ∃ n, p n) : ∃ n, p n ∧ ∀ m, p m → n ≤ m := by
  obtain ⟨n, hn⟩ := h
  induction n using Nat.strongRecOn with
  | _ n ih =>
    by_cases hm : ∃ m, m < n ∧ p m
    · obtain ⟨m, h1, h2⟩ := hm
      exact ih m h1 h2
    · exact ⟨n, hn, fun m h => Nat.le_of_not_lt fun hlt => hm ⟨m, hlt, h⟩⟩
theorem att_some {n : Nat} (hn : rows.length ≤ n) (h0 : ∀ b v, f0.at b = some v → b < n) {r b v : Nat} (h : PathN rows f0 r b v) : Att rows f0 n b := by
  obtain ⟨u, ⟨r1, hu⟩, hmin⟩ := least_of (p := fun v => ∃ r, PathN rows f0 r b v) ⟨v, r, h⟩
  have ha : Att rows f0 r1 b := ⟨u, hu, fun r' v' h' => hmin v' ⟨r', h'⟩⟩
  obtain ⟨r2, ⟨w, hw, how⟩, hm2⟩ := least_of (p := fun r => Att rows f0 r b) ⟨r1, ha⟩
  have := att_cnt hn h0 r2 b ⟨w, hw, how⟩ fun r' hlt h' => by
    have := hm2 r' h'
    omega
  have hc := cnt_le n (Att rows f0 r2)
  exact ⟨w, path_mono hw (by omega), how⟩
theorem iter_at (hl : rows.length ≤ f0.length) {m : Nat} (hm : f0.length ≤ m) (b : Nat) : Fl.at (iterF rows m f0) b = Fl.at (iterF rows f0.length f0) b := by
  have h0 : ∀ b v, f0.at b = some v → b < f0.length := fun b v h => by
    unfold Fl.at at h
    cases q : f0[b]? with
    | none => rw [q] at h; cases h
    | some x => exact (List.getElem?_eq_some_iff.mp q).1
  have key : ∀ m, f0.length ≤ m → (∀ v, Fl.at (iterF rows m f0) b = some v → ∃ r, PathN rows f0 r b v ∧ ∀ r' v', PathN rows f0 r' b v' → v ≤ v') ∧ (Fl.at (iterF rows m f0) b = none → ∀ r v, ¬ PathN rows f0 r b v) := fun m hm => by
    have lo : ∀ r v, PathN rows f0 r b v → ∃ w, (∀ r' v', PathN rows f0 r' b v' → w ≤ v') ∧ leO (Fl.at (iterF rows m f0) b) (some w) := fun r v h => by
      obtain ⟨w, hw, how⟩ := att_some hl h0 h
      exact ⟨w, how, iter_path hl m b w (path_mono hw hm)⟩
    refine ⟨fun v hv => ?_, fun hn r v hp => ?_⟩
    · obtain ⟨r, hp⟩ := real_iter hl m b v hv
      obtain ⟨w, how, hle⟩ := lo r v hp
      rw [hv] at hle
      exact ⟨r, hp, fun r' v' h' => Nat.le_trans hle (how r' v' h')⟩
    · obtain ⟨w, how, hle⟩ := lo r v hp
      rw [hn] at hle
      exact hle
  obtain ⟨a1, a2⟩ := key m hm
  obtain ⟨b1, b2⟩ := key f0.length (Nat.le_refl _)
  cases e1 : Fl.at (iterF rows m f0) b with
  | none =>
    cases e2 : Fl.at (iterF rows f0.length f0) b with
    | none => rfl
    | some v =>
      obtain ⟨r, hp, _⟩ := b1 v e2
      exact absurd hp (a2 e1 r v)
  | some u =>
    cases e2 : Fl.at (iterF rows f0.length f0) b with
    | none =>
      obtain ⟨r, hp, _⟩ := a1 u e1
      exact absurd hp (b2 e2 r u)
    | some v =>
      obtain ⟨r, hp, ho⟩ := a1 u e1
      obtain ⟨r', hp', ho'⟩ := b1 v e2
      rw [Nat.le_antisymm (ho r' v hp') (ho' r u hp)]
theorem ext_at {f g : Fl} (hl : f.length = g.length) (h : ∀ b, f.at b = g.at b) : f = g := by
  apply List.ext_getElem? 
  intro b
  have := h b
  unfold Fl.at at this
  by_cases hb : b < f.length
  · rw [List.getElem?_eq_getElem hb, List.getElem?_eq_getElem (by omega)] at this ⊢
    simpa using this
  · rw [List.getElem?_eq_none (by omega), List.getElem?_eq_none (by omega)]
/-- after as many rounds as there are boards nothing changes -/
theorem iter_still (hl : rows.length ≤ f0.length) {m : Nat} (hm : f0.length ≤ m) : iterF rows m f0 = iterF rows f0.length f0 :=
  ext_at (by rw [iter_len, iter_len]) (iter_at hl hm)
theorem iter_fix (hl : rows.length ≤ f0.length) {m : Nat} (hm : f0.length ≤ m) : roundF rows (iterF rows m f0) = iterF rows m f0 := by
  show iterF rows (m + 1) f0 = _
  rw [iter_still hl (by omega), iter_still hl hm]
theorem iter_stays {i : Nat} (h : roundF rows (iterF rows i f0) = iterF rows i f0) : ∀ k, iterF rows (i + k) f0 = iterF rows i f0
  | 0 => rfl
  | k + 1 => by
    show roundF rows (iterF rows (i + k) f0) = _
    rw [iter_stays h k, h]
/-- where a round changes nothing the least costs stand -/
theorem fix_eq (hl : rows.length ≤ f0.length) {i : Nat} (h : roundF rows (iterF rows i f0) = iterF rows i f0) {m : Nat} (hm : f0.length ≤ m) : iterF rows i f0 = iterF rows m f0 := by
  have h1 := iter_stays h m
  have h2 := iter_still hl (m := i + m) (by omega)
  rw [← h1, h2, iter_still hl hm]
end
end MP
namespace MP
theorem roundFrom_app : ∀ (r s : List (List Ed)) (b : Nat) (f : Fl), roundFrom b (r ++ s) f = roundFrom (b + r.length) s (roundFrom b r f)
  | [], s, b, f => rfl
  | row :: r, s, b, f => by
    simp only [List.cons_append, roundFrom, List.length_cons]
    rw [roundFrom_app r s (b + 1)]
    have : b + 1 + r.length = b + (r.length + 1) := by omega
    rw [this]
def updC (b : Nat) (f : Fl) (s : Ed) : Bool := match f.at s.2.1 with
  | none => false
  | some v => match f.at b with
    | none => true
    | some u => decide (s.2.2 + v < u)
theorem upd_no {b : Nat} {f : Fl} {s : Ed} (h : updC b f s = false) : upd b f s = f := by
  unfold updC at h
  unfold upd
  cases e : f.at s.2.1 with
  | none => rfl
  | some v =>
    rw [e] at h
    simp only at h ⊢
    cases e2 : f.at b with
    | none => rw [e2] at h; cases h
    | some u =>
      rw [e2] at h
      simp only [decide_eq_false_iff_not] at h
      simp [h]
theorem upd_yes {b : Nat} {f : Fl} {s : Ed} (h : updC b f s = true) : ∃ v, f.at s.2.1 = some v ∧ upd b f s = f.set b (some (s.2.2 + v)) := by
  unfold updC at h
  unfold upd
  cases e : f.at s.2.1 with
  | none => rw [e] at h; cases h
  | some v =>
    rw [e] at h
    simp only at h ⊢
    refine ⟨v, rfl, ?_⟩
    cases e2 : f.at b with
    | none => rfl
    | some u =>
      rw [e2] at h
      simp only [decide_eq_true_eq] at h
      simp [h]
/-- whether a pass has changed something -/
def Chg (start cur : Fl) (still : Bool) : Prop := if still = true then cur = start else (∀ x, leO (cur.at x) (start.at x)) ∧ ∃ x, ¬ leO (start.at x) (cur.at x)
theorem chg_upd {start cur : Fl} {still : Bool} {b : Nat} {s : Ed} (h : Chg start cur still) (hb : b < cur.length) (hc : updC b cur s = true) : Chg start (upd b cur s) false := by
  have h1 : ∀ x, leO (cur.at x) (start.at x) := by
    cases still with
    | true => simp only [Chg, if_true] at h; rw [h]; exact fun _ => leO_refl _
    | false => simp only [Chg] at h; exact h.1
  have lt : ¬ leO (cur.at b) (Fl.at (upd b cur s) b) := by
    obtain ⟨v, e1, e2⟩ := upd_yes hc
    rw [e2, at_set hb, if_pos rfl]
    unfold updC at hc
    rw [e1] at hc
    cases e3 : cur.at b with
    | none => simp [leO]
    | some u =>
      rw [e3] at hc
      simp only [decide_eq_true_eq] at hc
      simp only [leO]; omega
  simp only [Chg]
  exact ⟨fun x => leO_trans (upd_le b cur s hb x) (h1 x), b, fun h => lt (leO_trans (h1 b) h)⟩
theorem chg_ne {start cur : Fl} (h : Chg start cur false) : cur ≠ start := fun e => by
  simp only [Chg] at h
  obtain ⟨_, x, hx⟩ := h
  rw [e] at hx
  exact hx (leO_refl _)
end MP

set_option linter.all false
set_option autoImplicit false
namespace MP
open PySem (Str)
/-! ### worlds -/
structure Wd where
  steps : List (List (Option (Nat × Nat)))
  whose : List Nat
  goals : List (List Bool)
  owners : List Nat
  people : Nat
def eS : Option (Nat × Nat) → D
  | none => .non
  | some (b, c) => .tup [.int (b : Nat), .int (c : Nat)]
def eN (n : Nat) : D := .int (n : Int)
def eRow (r : List (Option (Nat × Nat))) : D := .tup (r.map eS)
def eG (r : List Bool) : D := .tup (r.map .bl)
def eW (w : Wd) : D := .tup [.tup (w.steps.map eRow), .tup (w.whose.map eN), .tup (w.goals.map eG), .tup (w.owners.map eN), eN w.people]
structure Wd.Ok (w : Wd) : Prop where
  row : ∀ r ∈ w.steps, r.length = w.whose.length
  to : ∀ r ∈ w.steps, ∀ b c, some (b, c) ∈ r → b < w.steps.length
  gl : w.goals.length = w.steps.length
  gw : ∀ r ∈ w.goals, r.length = w.owners.length
  small : w.steps.length ≤ 1000
  few : w.whose.length ≤ 1000
  own : w.owners.length ≤ 1000
/-- the functions at their numbers -/
structure Has (P : Prg) : Prop where
  f0 : P.fn 0 = some fown_steps
  f1 : P.fn 1 = some fgoal_boards
  f2 : P.fn 2 = some flot_floors
  f3 : P.fn 3 = some fown_floors
theorem eW0 {S : Store} (w : Wd) : getIx S (eW w) (.int 0) = some (.tup (w.steps.map eRow)) := rfl
theorem eW1 {S : Store} (w : Wd) : getIx S (eW w) (.int 1) = some (.tup (w.whose.map eN)) := rfl
theorem eW2 {S : Store} (w : Wd) : getIx S (eW w) (.int 2) = some (.tup (w.goals.map eG)) := rfl
theorem eW3 {S : Store} (w : Wd) : getIx S (eW w) (.int 3) = some (.tup (w.owners.map eN)) := rfl
theorem eRow_at {S : Store} {w : Wd} {b : Nat} {r : List (Option (Nat × Nat))} (h : w.steps[b]? = some r) : getIx S (.tup (w.steps.map eRow)) (.int (b : Int)) = some (eRow r) :=
  getIx_tup (by rw [List.getElem?_map, h]; rfl)
theorem eN_at {S : Store} {l : List Nat} {b n : Nat} (h : l[b]? = some n) : getIx S (.tup (l.map eN)) (.int (b : Int)) = some (eN n) :=
  getIx_tup (by rw [List.getElem?_map, h]; rfl)
theorem fine_int (i : Int) : (D.int i).fine = true := rfl
theorem eqD_int (S : Store) (i j : Int) : eqD S (.int i) (.int j) = some (decide (i = j)) := by
  simp [eqD, fine_int, D.eqv]

/-! ### own_steps -/
def ownSt (w : Wd) (p : Nat) (r : List (Option (Nat × Nat))) (k : Nat) : List (Nat × Nat × Nat) := match r with
  | [] => []
  | none :: r => ownSt w p r (k + 1)
  | some (b, c) :: r => if w.whose[k]? = some p then (k, b, c) :: ownSt w p r (k + 1) else ownSt w p r (k + 1)
def e3 (t : Nat × Nat × Nat) : D := .tup [eN t.1, eN t.2.1, eN t.2.2]
theorem ownSt_app (w : Wd) (p : Nat) : ∀ (r s : List (Option (Nat × Nat))) (k : Nat), ownSt w p (r ++ s) k = ownSt w p r k ++ ownSt w p s (k + r.length)
  | [], s, k => by simp [ownSt]
  | none :: r, s, k => by
    simp only [List.cons_append, ownSt, ownSt_app w p r s (k + 1), List.length_cons]
    congr 2; omega
  | some (b, c) :: r, s, k => by
    simp only [List.cons_append, ownSt, ownSt_app w p r s (k + 1), List.length_cons]
    have : k + 1 + r.length = k + (r.length + 1) := by omega
    rw [this]
    split <;> simp
theorem ownSt_len (w : Wd) (p : Nat) : ∀ (r : List (Option (Nat × Nat))) (k : Nat), (ownSt w p r k).length ≤ r.length
  | [], _ => by simp [ownSt]
  | none :: r, k => by simp only [ownSt, List.length_cons]; have := ownSt_len w p r (k + 1); omega
  | some (b, c) :: r, k => by
    simp only [ownSt, List.length_cons]
    have := ownSt_len w p r (k + 1)
    split <;> simp <;> omega
theorem w_own_steps {P : Prg} (hp : Has P) {k : Nat} {S : Store} {w : Wd} (ok : w.Ok) {p b : Nat} {r : List (Option (Nat × Nat))} (hr : w.steps[b]? = some r) :
    Okk (run P (k + 1) 0 [eW w, eN p, eN b] S) fun d S' => S' = S ∧ d = .tup ((ownSt w p r 0).map e3) := by
  refine okk_run hp.f0 rfl ?_
  have hrl : r.length = w.whose.length := ok.row r (List.mem_of_getElem? hr)
  have flat : (D.tup ((ownSt w p r 0).map e3)).flat = true := flat_tup fun d hd => by
    obtain ⟨t, _, rfl⟩ := List.mem_map.mp hd
    rfl
  rw [wC_i]
  simp only [fown_steps, wC_seq, wC_asg, wC_par, wC_sub, wC_ifc, wC_ret, wC_expr, wC_for, wC_skip, wD, wL, wR_lst, wR_nil, wR_cons, wR_cat, wR_tup, wR_ix, wR_var, wR_cst, wR_op, wR_cmp, wR_isc, wR_ite, wR_not, wR_bi1, wR_bi2, wR_call, wR_meth, wR_isi, wR_comp, wR_dct0, wR_glob, wT_not, wT_and, wT_or, wT_cmp, wT_isc, wT_var, wT_cst, wT_ix, wT_isi, wT_call, wT_ite, wI_enum, wI_seq, wI_range1, wI_zip, dC_v, dC_tmp, lC_tmp, tC_bl, okk_okr, put_n, put_2, put_3, put_5, setSlot, setAll, List.set, List.getElem?_cons_zero, List.getElem?_cons_succ, Option.some.injEq, exists_eq_left', add_i, sub_i, mul_i, mod_i, fdiv_i, pow_i, add_t, eq_i, ne_i, lt_i, le_i, gt_i, ge_i, eq_ni, eq_in, eq_nn, eq_s, b_tuple, b_list, b_len_t, b_abs, b_int, b_lrange, b_min, b_max, at0, at1, at2, at3, set0, set1, set2, set3, methOn, meth, okk_if, itemsOf, seqOf, src, guardOf, Option.map_some, List.length_cons, List.length_nil, List.append_assoc, List.cons_append, List.nil_append, List.length_append, Bool.not_eq_true', start, List.map_cons, List.map_nil, List.replicate, Nat.reduceSub, Nat.reduceAdd, true_and, and_true, if_true, eN, eW0, eRow_at hr, eRow]
  refine ⟨Nat.zero_le _, okk_for (fun j env S' => j ≤ r.length ∧ ∃ x4 x5, env = [some (eW w), some (eN p), some (eN b), some (.loc S.length), x4, x5] ∧ S' = S ++ [.lst ((ownSt w p (r.take j) 0).map e3)]) ?_ ?_ ?_ ?_⟩
  · exact ⟨Nat.zero_le _, none, none, rfl, by simp [ownSt]⟩
  · intros; rfl
  · rintro j x env S' hx ⟨hj, x4, x5, rfl, rfl⟩
    obtain ⟨d, hd, rfl⟩ := enum_at hx
    rw [List.getElem?_map] at hd
    cases hs : r[j]? with
    | none => rw [hs] at hd; cases hd
    | some s =>
      rw [hs] at hd
      cases hd
      have hj' : j < r.length := (List.getElem?_eq_some_iff.mp hs).1
      have htk : r.take (j + 1) = r.take j ++ [s] := by
        rw [List.take_add_one, hs]; rfl
      have hln : (r.take j).length = j := by simp; omega
      refine ⟨_, rfl, ?_⟩
      cases s with
      | none =>
        simp only [wC_i, wC_seq, wC_asg, wC_par, wC_sub, wC_ifc, wC_ret, wC_expr, wC_for, wC_skip, wD, wL, wR_lst, wR_nil, wR_cons, wR_cat, wR_tup, wR_ix, wR_var, wR_cst, wR_op, wR_cmp, wR_isc, wR_ite, wR_not, wR_bi1, wR_bi2, wR_call, wR_meth, wR_isi, wR_comp, wR_dct0, wR_glob, wT_not, wT_and, wT_or, wT_cmp, wT_isc, wT_var, wT_cst, wT_ix, wT_isi, wT_call, wT_ite, wI_enum, wI_seq, wI_range1, wI_zip, dC_v, dC_tmp, lC_tmp, tC_bl, okk_okr, put_n, put_2, put_3, put_5, setSlot, setAll, List.set, List.getElem?_cons_zero, List.getElem?_cons_succ, Option.some.injEq, exists_eq_left', add_i, sub_i, mul_i, mod_i, fdiv_i, pow_i, add_t, eq_i, ne_i, lt_i, le_i, gt_i, ge_i, eq_ni, eq_in, eq_nn, eq_s, b_tuple, b_list, b_len_t, b_abs, b_int, b_lrange, b_min, b_max, at0, at1, at2, at3, set0, set1, set2, set3, methOn, meth, okk_if, itemsOf, seqOf, src, guardOf, Option.map_some, List.length_cons, List.length_nil, List.append_assoc, List.cons_append, List.nil_append, List.length_append, Bool.not_eq_true', start, List.map_cons, List.map_nil, List.replicate, Nat.reduceSub, Nat.reduceAdd, true_and, and_true, if_true, eS, D.same]
        simp [ownSt_app, htk, ownSt, eN]; omega
      | some s =>
        obtain ⟨b', c'⟩ := s
        have hw : ∃ q, w.whose[j]? = some q := ⟨_, List.getElem?_eq_getElem (by omega)⟩
        obtain ⟨q, hq⟩ := hw
        have hle := ownSt_len w p (r.take j) 0
        have hll : (ownSt w p (r.take j) 0).length < 16777216 := by
          have := ok.few
          omega
        simp only [wC_i, wC_seq, wC_asg, wC_par, wC_sub, wC_ifc, wC_ret, wC_expr, wC_for, wC_skip, wD, wL, wR_lst, wR_nil, wR_cons, wR_cat, wR_tup, wR_ix, wR_var, wR_cst, wR_op, wR_cmp, wR_isc, wR_ite, wR_not, wR_bi1, wR_bi2, wR_call, wR_meth, wR_isi, wR_comp, wR_dct0, wR_glob, wT_not, wT_and, wT_or, wT_cmp, wT_isc, wT_var, wT_cst, wT_ix, wT_isi, wT_call, wT_ite, wI_enum, wI_seq, wI_range1, wI_zip, dC_v, dC_tmp, lC_tmp, tC_bl, okk_okr, put_n, put_2, put_3, put_5, setSlot, setAll, List.set, List.getElem?_cons_zero, List.getElem?_cons_succ, Option.some.injEq, exists_eq_left', add_i, sub_i, mul_i, mod_i, fdiv_i, pow_i, add_t, eq_i, ne_i, lt_i, le_i, gt_i, ge_i, eq_ni, eq_in, eq_nn, eq_s, b_tuple, b_list, b_len_t, b_abs, b_int, b_lrange, b_min, b_max, at0, at1, at2, at3, set0, set1, set2, set3, methOn, meth, okk_if, itemsOf, seqOf, src, guardOf, Option.map_some, List.length_cons, List.length_nil, List.append_assoc, List.cons_append, List.nil_append, List.length_append, Bool.not_eq_true', start, List.map_cons, List.map_nil, List.replicate, Nat.reduceSub, Nat.reduceAdd, true_and, and_true, if_true, eS, D.same, eN, eW1, eN_at hq]
        by_cases hqp : q = p
        · subst hqp
          simp [ownSt_app, htk, ownSt, hln, hq, e3, eN, hll, line]; omega
        · have : ¬ ((q : Int) = (p : Int)) := by omega
          simp [ownSt_app, htk, ownSt, hln, hq, e3, eN, hqp, this]; omega
  · rintro env S' ⟨hj, x4, x5, rfl, rfl⟩
    simp only [wC_seq, wC_asg, wC_par, wC_sub, wC_ifc, wC_ret, wC_expr, wC_for, wC_skip, wD, wL, wR_lst, wR_nil, wR_cons, wR_cat, wR_tup, wR_ix, wR_var, wR_cst, wR_op, wR_cmp, wR_isc, wR_ite, wR_not, wR_bi1, wR_bi2, wR_call, wR_meth, wR_isi, wR_comp, wR_dct0, wR_glob, wT_not, wT_and, wT_or, wT_cmp, wT_isc, wT_var, wT_cst, wT_ix, wT_isi, wT_call, wT_ite, wI_enum, wI_seq, wI_range1, wI_zip, dC_v, dC_tmp, lC_tmp, tC_bl, okk_okr, put_n, put_2, put_3, put_5, setSlot, setAll, List.set, List.getElem?_cons_zero, List.getElem?_cons_succ, Option.some.injEq, exists_eq_left', add_i, sub_i, mul_i, mod_i, fdiv_i, pow_i, add_t, eq_i, ne_i, lt_i, le_i, gt_i, ge_i, eq_ni, eq_in, eq_nn, eq_s, b_tuple, b_list, b_len_t, b_abs, b_int, b_lrange, b_min, b_max, at0, at1, at2, at3, set0, set1, set2, set3, methOn, meth, okk_if, itemsOf, seqOf, src, guardOf, Option.map_some, List.length_cons, List.length_nil, List.append_assoc, List.cons_append, List.nil_append, List.length_append, Bool.not_eq_true', start, List.map_cons, List.map_nil, List.replicate, Nat.reduceSub, Nat.reduceAdd, true_and, and_true, if_true]
    simp only [enum_len, List.length_map, List.take_length]
    exact ⟨gc_pre flat, trivial⟩
/-! ### goal_boards -/
def goalBs (w : Wd) (g : Nat) : List (List Bool) → Nat → List Nat
  | [], _ => []
  | r :: s, k => if r[g]? = some true then k :: goalBs w g s (k + 1) else goalBs w g s (k + 1)
theorem goalBs_app (w : Wd) (g : Nat) : ∀ (r s : List (List Bool)) (k : Nat), goalBs w g (r ++ s) k = goalBs w g r k ++ goalBs w g s (k + r.length)
  | [], s, k => by simp [goalBs]
  | x :: r, s, k => by
    simp only [List.cons_append, goalBs, goalBs_app w g r s (k + 1), List.length_cons]
    have : k + 1 + r.length = k + (r.length + 1) := by omega
    rw [this]
    split <;> simp
theorem goalBs_len (w : Wd) (g : Nat) : ∀ (r : List (List Bool)) (k : Nat), (goalBs w g r k).length ≤ r.length
  | [], _ => by simp [goalBs]
  | x :: r, k => by
    simp only [goalBs, List.length_cons]
    have := goalBs_len w g r (k + 1)
    split <;> simp <;> omega
theorem goalBs_mem (w : Wd) (g b : Nat) : ∀ (r : List (List Bool)) (k : Nat), b ∈ goalBs w g r k ↔ k ≤ b ∧ ∃ x, r[b - k]? = some x ∧ x[g]? = some true
  | [], k => by simp [goalBs]
  | x :: r, k => by
    have ih := goalBs_mem w g b r (k + 1)
    simp only [goalBs]
    have step : (k ≤ b ∧ ∃ y, (x :: r)[b - k]? = some y ∧ y[g]? = some true) ↔ (b = k ∧ x[g]? = some true) ∨ (k + 1 ≤ b ∧ ∃ y, r[b - (k + 1)]? = some y ∧ y[g]? = some true) := by
      by_cases hb : b = k
      · subst hb; simp; intro h; omega
      · by_cases hk : k + 1 ≤ b
        · have : b - k = (b - (k + 1)) + 1 := by omega
          rw [this]; simp [hb, hk]; omega
        · have : ¬ k ≤ b := by omega
          simp [hb, this]; omega
    rw [step]
    split
    · rename_i h; simp [h, ih]
    · rename_i h; simp [h, ih]
theorem w_goal_boards {P : Prg} (hp : Has P) {k : Nat} {S : Store} {w : Wd} (ok : w.Ok) {g : Nat} (hg : g < w.owners.length) :
    Okk (run P (k + 1) 1 [eW w, eN g] S) fun d S' => S' = S ∧ d = .tup ((goalBs w g w.goals 0).map eN) := by
  refine okk_run hp.f1 rfl ?_
  have flat : (D.tup ((goalBs w g w.goals 0).map eN)).flat = true := flat_tup fun d hd => by
    obtain ⟨t, _, rfl⟩ := List.mem_map.mp hd
    rfl
  rw [wC_i]
  simp only [fgoal_boards, wC_seq, wC_asg, wC_par, wC_sub, wC_ifc, wC_ret, wC_expr, wC_for, wC_skip, wD, wL, wR_lst, wR_nil, wR_cons, wR_cat, wR_tup, wR_ix, wR_var, wR_cst, wR_op, wR_cmp, wR_isc, wR_ite, wR_not, wR_bi1, wR_bi2, wR_call, wR_meth, wR_isi, wR_comp, wR_dct0, wR_glob, wT_not, wT_and, wT_or, wT_cmp, wT_isc, wT_var, wT_cst, wT_ix, wT_isi, wT_call, wT_ite, wI_enum, wI_seq, wI_range1, wI_zip, dC_v, dC_tmp, lC_tmp, tC_bl, okk_okr, put_n, put_2, put_3, put_5, setSlot, setAll, List.set, List.getElem?_cons_zero, List.getElem?_cons_succ, Option.some.injEq, exists_eq_left', add_i, sub_i, mul_i, mod_i, fdiv_i, pow_i, add_t, eq_i, ne_i, lt_i, le_i, gt_i, ge_i, eq_ni, eq_in, eq_nn, eq_s, b_tuple, b_list, b_len_t, b_abs, b_int, b_lrange, b_min, b_max, at0, at1, at2, at3, set0, set1, set2, set3, methOn, meth, okk_if, itemsOf, seqOf, src, guardOf, Option.map_some, List.length_cons, List.length_nil, List.append_assoc, List.cons_append, List.nil_append, List.length_append, Bool.not_eq_true', start, List.map_cons, List.map_nil, List.replicate, Nat.reduceSub, Nat.reduceAdd, true_and, and_true, if_true, eN, eW2]
  refine okk_comp (fun j acc S' => j ≤ w.goals.length ∧ acc = (goalBs w g (w.goals.take j) 0).map eN ∧ S' = S) ?_ ?_ ?_ ?_
  · exact ⟨Nat.zero_le _, by simp [goalBs], rfl⟩
  · intros; rfl
  · rintro j x acc S' hx ⟨hj, rfl, rfl⟩
    obtain ⟨d, hd, rfl⟩ := enum_at hx
    rw [List.getElem?_map] at hd
    cases hs : w.goals[j]? with
    | none => rw [hs] at hd; cases hd
    | some r =>
      rw [hs] at hd
      cases hd
      have hj' : j < w.goals.length := (List.getElem?_eq_some_iff.mp hs).1
      have htk : w.goals.take (j + 1) = w.goals.take j ++ [r] := by
        rw [List.take_add_one, hs]; rfl
      have hln : (w.goals.take j).length = j := by simp; omega
      have hrl := ok.gw r (List.mem_of_getElem? hs)
      obtain ⟨t, ht⟩ : ∃ t, r[g]? = some t := ⟨_, List.getElem?_eq_getElem (by omega)⟩
      have hix : getIx S' (.tup (r.map D.bl)) (.int (g : Int)) = some (.bl t) := getIx_tup (by rw [List.getElem?_map, ht]; rfl)
      rw [wStep_i]
      unfold wStep
      simp only [wC_seq, wC_asg, wC_par, wC_sub, wC_ifc, wC_ret, wC_expr, wC_for, wC_skip, wD, wL, wR_lst, wR_nil, wR_cons, wR_cat, wR_tup, wR_ix, wR_var, wR_cst, wR_op, wR_cmp, wR_isc, wR_ite, wR_not, wR_bi1, wR_bi2, wR_call, wR_meth, wR_isi, wR_comp, wR_dct0, wR_glob, wT_not, wT_and, wT_or, wT_cmp, wT_isc, wT_var, wT_cst, wT_ix, wT_isi, wT_call, wT_ite, wI_enum, wI_seq, wI_range1, wI_zip, dC_v, dC_tmp, lC_tmp, tC_bl, okk_okr, put_n, put_2, put_3, put_5, setSlot, setAll, List.set, List.getElem?_cons_zero, List.getElem?_cons_succ, Option.some.injEq, exists_eq_left', add_i, sub_i, mul_i, mod_i, fdiv_i, pow_i, add_t, eq_i, ne_i, lt_i, le_i, gt_i, ge_i, eq_ni, eq_in, eq_nn, eq_s, b_tuple, b_list, b_len_t, b_abs, b_int, b_lrange, b_min, b_max, at0, at1, at2, at3, set0, set1, set2, set3, methOn, meth, okk_if, itemsOf, seqOf, src, guardOf, Option.map_some, List.length_cons, List.length_nil, List.append_assoc, List.cons_append, List.nil_append, List.length_append, Bool.not_eq_true', start, List.map_cons, List.map_nil, List.replicate, Nat.reduceSub, Nat.reduceAdd, true_and, and_true, if_true, wipe, eG, hix]
      cases t <;> simp [goalBs_app, htk, goalBs, hln, ht, eN] <;> omega
  · rintro acc S' ⟨hj, rfl, rfl⟩
    simp only [enum_len, List.length_map, List.take_length]
    have := goalBs_len w g w.goals 0
    have h2 := ok.small
    have h3 := ok.gl
    refine ⟨by simp [line]; omega, ?_⟩
    simp only [wC_seq, wC_asg, wC_par, wC_sub, wC_ifc, wC_ret, wC_expr, wC_for, wC_skip, wD, wL, wR_lst, wR_nil, wR_cons, wR_cat, wR_tup, wR_ix, wR_var, wR_cst, wR_op, wR_cmp, wR_isc, wR_ite, wR_not, wR_bi1, wR_bi2, wR_call, wR_meth, wR_isi, wR_comp, wR_dct0, wR_glob, wT_not, wT_and, wT_or, wT_cmp, wT_isc, wT_var, wT_cst, wT_ix, wT_isi, wT_call, wT_ite, wI_enum, wI_seq, wI_range1, wI_zip, dC_v, dC_tmp, lC_tmp, tC_bl, okk_okr, put_n, put_2, put_3, put_5, setSlot, setAll, List.set, List.getElem?_cons_zero, List.getElem?_cons_succ, Option.some.injEq, exists_eq_left', add_i, sub_i, mul_i, mod_i, fdiv_i, pow_i, add_t, eq_i, ne_i, lt_i, le_i, gt_i, ge_i, eq_ni, eq_in, eq_nn, eq_s, b_tuple, b_list, b_len_t, b_abs, b_int, b_lrange, b_min, b_max, at0, at1, at2, at3, set0, set1, set2, set3, methOn, meth, okk_if, itemsOf, seqOf, src, guardOf, Option.map_some, List.length_cons, List.length_nil, List.append_assoc, List.cons_append, List.nil_append, List.length_append, Bool.not_eq_true', start, List.map_cons, List.map_nil, List.replicate, Nat.reduceSub, Nat.reduceAdd, true_and, and_true, if_true]
    exact gc_self
/-! ### lot_floors -/
def eO : Option Nat → D
  | none => .non
  | some v => eN v
def e3s (l : List Ed) : D := .tup (l.map e3)
def rowsOf (w : Wd) (p : Nat) : List (List Ed) := w.steps.map fun r => ownSt w p r 0
def f0Of (n : Nat) (lot : List Nat) : Fl := (List.range n).map fun b => if b ∈ lot then some 0 else none
theorem f0_len (n : Nat) (lot : List Nat) : (f0Of n lot).length = n := by simp [f0Of]
theorem rows_len (w : Wd) (p : Nat) : (rowsOf w p).length = w.steps.length := by simp [rowsOf]
theorem guard1 {S : Store} {n : Nat} {xs : List D} (h : S[n]? = some (.lst xs)) : guardOk [(n, xs)] S = true := by
  simp [guardOk, h, sames_refl]
theorem eO_at {S : Store} {n : Nat} {f : Fl} {b : Nat} (hn : S[n]? = some (.lst (f.map eO))) (hb : b < f.length) : getIx S (.loc n) (.int (b : Int)) = some (eO (f.at b)) := by
  refine getIx_lst hn ?_
  rw [List.getElem?_map, List.getElem?_eq_getElem hb]
  simp [Fl.at, List.getElem?_eq_getElem hb]
theorem lays_N : ∀ l : List Nat, D.lays (l.map eN) = true
  | [] => rfl
  | _ :: r => by simp only [List.map_cons, D.lays, lays_N r]; rfl
theorem depths_N : ∀ l : List Nat, D.depths (l.map eN) = 0
  | [] => rfl
  | _ :: r => by simp only [List.map_cons, D.depths, depths_N r]; rfl
theorem in_lot (S : Store) (b : Nat) (lot : List Nat) : isIn S (.int (b : Int)) (.tup (lot.map eN)) = some (decide (b ∈ lot)) := by
  have h1 : (D.int (b : Int)).fine = true := rfl
  have h2 : D.fines (lot.map eN) = true := by simp [D.fines, lays_N, depths_N]
  simp only [isIn, h1, h2, Bool.and_self, if_true, Option.some.injEq]
  have : anyEqv (.int (b : Int)) (lot.map eN) = decide (b ∈ lot) := by
    unfold anyEqv
    rw [Bool.eq_iff_iff, List.any_eq_true]
    simp only [List.mem_map, decide_eq_true_eq]
    constructor
    · rintro ⟨y, ⟨n, hn, rfl⟩, h⟩
      simp only [eN, D.eqv, decide_eq_true_eq] at h
      have : n = b := by omega
      subst this
      exact hn
    · exact fun h => ⟨eN b, ⟨b, h, rfl⟩, by simp [eN, D.eqv]⟩
  exact this
theorem flat_eO (f : Fl) : (D.tup (f.map eO)).flat = true := flat_tup fun d hd => by
  obtain ⟨t, _, rfl⟩ := List.mem_map.mp hd
  cases t <;> rfl
def envF (w : Wd) (p : Nat) (lot : List Nat) (n : Nat) (still : Bool) (x4 x7 x8 x9 x10 : Option D) : Env := [some (eW w), some (eN p), some (.tup (lot.map eN)), some (.loc n), x4, some (.loc (n + 1)), some (.bl still), x7, x8, x9, x10]
theorem ownSt_to {w : Wd} {p : Nat} : ∀ {r : List (Option (Nat × Nat))} {k : Nat} {s : Ed}, s ∈ ownSt w p r k → some (s.2.1, s.2.2) ∈ r
  | none :: r, k, s, h => List.mem_cons_of_mem _ (ownSt_to (by simpa only [ownSt] using h))
  | some (b, c) :: r, k, s, h => by
    simp only [ownSt] at h
    split at h
    · rcases List.mem_cons.mp h with rfl | h
      · exact List.mem_cons_self
      · exact List.mem_cons_of_mem _ (ownSt_to h)
    · exact List.mem_cons_of_mem _ (ownSt_to h)
  | [], _, _, h => by simp [ownSt] at h
theorem rows_to {w : Wd} (ok : w.Ok) {p j : Nat} {row : List Ed} (h : (rowsOf w p)[j]? = some row) {s : Ed} (hs : s ∈ row) : s.2.1 < w.steps.length := by
  unfold rowsOf at h
  rw [List.getElem?_map] at h
  cases q : w.steps[j]? with
  | none => rw [q] at h; cases h
  | some r =>
    rw [q] at h
    cases h
    exact ok.to r (List.mem_of_getElem? q) _ _ (ownSt_to hs)
theorem map_set_eO (f : Fl) (j x : Nat) : (f.map eO).set j (.int (x : Int)) = (f.set j (some x)).map eO := by
  rw [List.map_set]; rfl
theorem set_f {S : Store} {n : Nat} {f : Fl} {j c v : Nat} (hn : S[n]? = some (.lst (f.map eO))) (hj : j < f.length) : setIx S (.loc n) (.int (j : Int)) (.int ((c : Int) + (v : Int))) = some (S.set n (.lst ((f.set j (some (c + v))).map eO))) := by
  have e : ((c : Int) + (v : Int)) = ((c + v : Nat) : Int) := by omega
  rw [e, setIx_lst hn (by simpa using hj), map_set_eO]
theorem w_lot_floors {P : Prg} (hp : Has P) {k : Nat} {S : Store} {w : Wd} (ok : w.Ok) {p : Nat} {lot : List Nat} :
    Okk (run P (k + 2) 2 [eW w, eN p, .tup (lot.map eN)] S) fun d S' => S' = S ∧ ∃ i, roundF (rowsOf w p) (iterF (rowsOf w p) i (f0Of w.steps.length lot)) = iterF (rowsOf w p) i (f0Of w.steps.length lot) ∧ d = .tup ((iterF (rowsOf w p) i (f0Of w.steps.length lot)).map eO) := by
  refine okk_run hp.f2 rfl ?_
  have sm := ok.small
  have fr : (-far ≤ ((w.steps.length : Nat) : Int) ∧ ((w.steps.length : Nat) : Int) < far) := by simp only [far]; omega
  rw [wC_i]
  simp only [flot_floors, wC_seq, wC_asg, wC_par, wC_sub, wC_ifc, wC_ret, wC_expr, wC_for, wC_skip, wD, wL, wR_lst, wR_nil, wR_cons, wR_cat, wR_tup, wR_ix, wR_var, wR_cst, wR_op, wR_cmp, wR_isc, wR_ite, wR_not, wR_bi1, wR_bi2, wR_call, wR_meth, wR_isi, wR_comp, wR_dct0, wR_glob, wT_not, wT_and, wT_or, wT_cmp, wT_isc, wT_var, wT_cst, wT_ix, wT_isi, wT_call, wT_ite, wI_enum, wI_seq, wI_range1, wI_zip, dC_v, dC_tmp, lC_tmp, tC_bl, okk_okr, put_n, put_2, put_3, put_5, setSlot, setAll, List.set, List.getElem?_cons_zero, List.getElem?_cons_succ, Option.some.injEq, exists_eq_left', add_i, sub_i, mul_i, mod_i, fdiv_i, pow_i, add_t, eq_i, ne_i, lt_i, le_i, gt_i, ge_i, eq_ni, eq_in, eq_nn, eq_s, b_tuple, b_list, b_len_t, b_abs, b_int, b_lrange, b_min, b_max, at0, at1, at2, at3, set0, set1, set2, set3, methOn, meth, okk_if, itemsOf, seqOf, src, guardOf, Option.map_some, List.length_cons, List.length_nil, List.append_assoc, List.cons_append, List.nil_append, List.length_append, Bool.not_eq_true', start, List.map_cons, List.map_nil, List.replicate, Nat.reduceSub, Nat.reduceAdd, true_and, and_true, if_true, eN, eW0, List.length_map]
  refine ⟨_, if_pos (by simpa using fr), okk_comp (fun j acc S' => j ≤ w.steps.length ∧ acc = ((rowsOf w p).take j).map e3s ∧ S' = S) ?_ ?_ ?_ ?_⟩
  · exact ⟨Nat.zero_le _, rfl, rfl⟩
  · intros; rfl
  · rintro j x acc S' hx ⟨hj, rfl, rfl⟩
    obtain ⟨hj', rfl⟩ := range_at hx
    have hj' : j < w.steps.length := by simpa using hj'
    rw [wStep_i]
    unfold wStep
    simp only [wC_seq, wC_asg, wC_par, wC_sub, wC_ifc, wC_ret, wC_expr, wC_for, wC_skip, wD, wL, wR_lst, wR_nil, wR_cons, wR_cat, wR_tup, wR_ix, wR_var, wR_cst, wR_op, wR_cmp, wR_isc, wR_ite, wR_not, wR_bi1, wR_bi2, wR_call, wR_meth, wR_isi, wR_comp, wR_dct0, wR_glob, wT_not, wT_and, wT_or, wT_cmp, wT_isc, wT_var, wT_cst, wT_ix, wT_isi, wT_call, wT_ite, wI_enum, wI_seq, wI_range1, wI_zip, dC_v, dC_tmp, lC_tmp, tC_bl, okk_okr, put_n, put_2, put_3, put_5, setSlot, setAll, List.set, List.getElem?_cons_zero, List.getElem?_cons_succ, Option.some.injEq, exists_eq_left', add_i, sub_i, mul_i, mod_i, fdiv_i, pow_i, add_t, eq_i, ne_i, lt_i, le_i, gt_i, ge_i, eq_ni, eq_in, eq_nn, eq_s, b_tuple, b_list, b_len_t, b_abs, b_int, b_lrange, b_min, b_max, at0, at1, at2, at3, set0, set1, set2, set3, methOn, meth, okk_if, itemsOf, seqOf, src, guardOf, Option.map_some, List.length_cons, List.length_nil, List.append_assoc, List.cons_append, List.nil_append, List.length_append, Bool.not_eq_true', start, List.map_cons, List.map_nil, List.replicate, Nat.reduceSub, Nat.reduceAdd, true_and, and_true, if_true, wipe]
    refine okk_imp (w_own_steps hp ok (S := S') (p := p) (b := j) (List.getElem?_eq_getElem hj')) fun d S'' h => ?_
    obtain ⟨rfl, rfl⟩ := h
    refine ⟨hj', ?_, rfl⟩
    rw [List.take_add_one]
    simp [rowsOf, hj', e3s]
  · rintro acc S' ⟨hj, rfl, rfl⟩
    have tk : List.take (rangeL 0 w.steps.length).length (rowsOf w p) = rowsOf w p := by
      rw [range_len, ← rows_len w p, List.take_length]
    simp only [Int.toNat_natCast, tk]
    refine ⟨by rw [List.length_map, rows_len]; simp only [line]; omega, ?_⟩
    simp only [wC_seq, wC_asg, wC_par, wC_sub, wC_ifc, wC_ret, wC_expr, wC_for, wC_skip, wD, wL, wR_lst, wR_nil, wR_cons, wR_cat, wR_tup, wR_ix, wR_var, wR_cst, wR_op, wR_cmp, wR_isc, wR_ite, wR_not, wR_bi1, wR_bi2, wR_call, wR_meth, wR_isi, wR_comp, wR_dct0, wR_glob, wT_not, wT_and, wT_or, wT_cmp, wT_isc, wT_var, wT_cst, wT_ix, wT_isi, wT_call, wT_ite, wI_enum, wI_seq, wI_range1, wI_zip, dC_v, dC_tmp, lC_tmp, tC_bl, okk_okr, put_n, put_2, put_3, put_5, setSlot, setAll, List.set, List.getElem?_cons_zero, List.getElem?_cons_succ, Option.some.injEq, exists_eq_left', add_i, sub_i, mul_i, mod_i, fdiv_i, pow_i, add_t, eq_i, ne_i, lt_i, le_i, gt_i, ge_i, eq_ni, eq_in, eq_nn, eq_s, b_tuple, b_list, b_len_t, b_abs, b_int, b_lrange, b_min, b_max, at0, at1, at2, at3, set0, set1, set2, set3, methOn, meth, okk_if, itemsOf, seqOf, src, guardOf, Option.map_some, List.length_cons, List.length_nil, List.append_assoc, List.cons_append, List.nil_append, List.length_append, Bool.not_eq_true', start, List.map_cons, List.map_nil, List.replicate, Nat.reduceSub, Nat.reduceAdd, true_and, and_true, if_true, bi1, List.length_map, rows_len]
    refine ⟨_, if_pos (by simpa using fr), okk_comp (fun j acc S'' => j ≤ w.steps.length ∧ acc = ((f0Of w.steps.length lot).take j).map eO ∧ S'' = S' ++ [.lst ((rowsOf w p).map e3s)]) ?_ ?_ ?_ ?_⟩
    · exact ⟨Nat.zero_le _, rfl, rfl⟩
    · intros; rfl
    · rintro j x acc S'' hx ⟨hj, rfl, rfl⟩
      obtain ⟨hj', rfl⟩ := range_at hx
      have hj' : j < w.steps.length := by simpa using hj'
      rw [wStep_i]
      unfold wStep
      have hi : ∀ S, cmpop .isin (.int (j : Int)) (.tup (lot.map eN)) S = some (decide (j ∈ lot)) := fun S => in_lot S j lot
      simp only [wC_seq, wC_asg, wC_par, wC_sub, wC_ifc, wC_ret, wC_expr, wC_for, wC_skip, wD, wL, wR_lst, wR_nil, wR_cons, wR_cat, wR_tup, wR_ix, wR_var, wR_cst, wR_op, wR_cmp, wR_isc, wR_ite, wR_not, wR_bi1, wR_bi2, wR_call, wR_meth, wR_isi, wR_comp, wR_dct0, wR_glob, wT_not, wT_and, wT_or, wT_cmp, wT_isc, wT_var, wT_cst, wT_ix, wT_isi, wT_call, wT_ite, wI_enum, wI_seq, wI_range1, wI_zip, dC_v, dC_tmp, lC_tmp, tC_bl, okk_okr, put_n, put_2, put_3, put_5, setSlot, setAll, List.set, List.getElem?_cons_zero, List.getElem?_cons_succ, Option.some.injEq, exists_eq_left', add_i, sub_i, mul_i, mod_i, fdiv_i, pow_i, add_t, eq_i, ne_i, lt_i, le_i, gt_i, ge_i, eq_ni, eq_in, eq_nn, eq_s, b_tuple, b_list, b_len_t, b_abs, b_int, b_lrange, b_min, b_max, at0, at1, at2, at3, set0, set1, set2, set3, methOn, meth, okk_if, itemsOf, seqOf, src, guardOf, Option.map_some, List.length_cons, List.length_nil, List.append_assoc, List.cons_append, List.nil_append, List.length_append, Bool.not_eq_true', start, List.map_cons, List.map_nil, List.replicate, Nat.reduceSub, Nat.reduceAdd, true_and, and_true, if_true, wipe, eN, hi]
      rw [List.take_add_one]
      by_cases hin : j ∈ lot <;> simp [f0Of, hj', hin, eO, eN] <;> omega
    · rintro acc S'' ⟨hj2, rfl, rfl⟩
      have tk2 : List.take (rangeL 0 w.steps.length).length (f0Of w.steps.length lot) = f0Of w.steps.length lot := by
        rw [range_len]
        exact List.take_of_length_le (by rw [f0_len]; exact Nat.le_refl _)
      simp only [Int.toNat_natCast, tk2]
      refine ⟨by rw [List.length_map, f0_len]; simp only [line]; omega, ?_⟩
      generalize hF0 : f0Of w.steps.length lot = F0
      have hF0l : F0.length = w.steps.length := by rw [← hF0]; exact f0_len _ _
      have hrl : (rowsOf w p).length ≤ F0.length := by rw [rows_len, hF0l]; exact Nat.le_refl _
      simp only [wC_seq, wC_asg, wC_par, wC_sub, wC_ifc, wC_ret, wC_expr, wC_for, wC_skip, wD, wL, wR_lst, wR_nil, wR_cons, wR_cat, wR_tup, wR_ix, wR_var, wR_cst, wR_op, wR_cmp, wR_isc, wR_ite, wR_not, wR_bi1, wR_bi2, wR_call, wR_meth, wR_isi, wR_comp, wR_dct0, wR_glob, wT_not, wT_and, wT_or, wT_cmp, wT_isc, wT_var, wT_cst, wT_ix, wT_isi, wT_call, wT_ite, wI_enum, wI_seq, wI_range1, wI_zip, dC_v, dC_tmp, lC_tmp, tC_bl, okk_okr, put_n, put_2, put_3, put_5, setSlot, setAll, List.set, List.getElem?_cons_zero, List.getElem?_cons_succ, Option.some.injEq, exists_eq_left', add_i, sub_i, mul_i, mod_i, fdiv_i, pow_i, add_t, eq_i, ne_i, lt_i, le_i, gt_i, ge_i, eq_ni, eq_in, eq_nn, eq_s, b_tuple, b_list, b_len_t, b_abs, b_int, b_lrange, b_min, b_max, at0, at1, at2, at3, set0, set1, set2, set3, methOn, meth, okk_if, itemsOf, seqOf, src, guardOf, Option.map_some, List.length_cons, List.length_nil, List.append_assoc, List.cons_append, List.nil_append, List.length_append, Bool.not_eq_true', start, List.map_cons, List.map_nil, List.replicate, Nat.reduceSub, Nat.reduceAdd, true_and, and_true, if_true]
      have hstart : ∀ (Θ : Flow → Store → Prop) (b : C), wC P.gl (run P (k + 1)) (.whl (.not (.var 6)) b) [some (eW w), some (eN p), some (.tup (lot.map eN)), some (.loc S'.length), none, some (.loc (S'.length + 1)), some (.bl false), none, none, none, none] (S' ++ [.lst ((rowsOf w p).map e3s), .lst (F0.map eO)]) Θ →
          wC P.gl (run P (k + 1)) (.whl (.not (.var 6)) b) [some (eW w), some (eN p), some (.tup (lot.map eN)), some (.loc S'.length), none, some (.loc (S'.length + 1)), some (.bl false), none, none, none, none] (S' ++ [.lst ((rowsOf w p).map e3s), .lst (F0.map eO)]) Θ := fun _ _ h => h
      refine hstart _ _ ?_
      rw [wC_whl]
      refine okk_while (fun m env S => ∃ i still x4 x7 x8 x9 x10, env = envF w p lot S'.length still x4 x7 x8 x9 x10 ∧ S = S' ++ [.lst ((rowsOf w p).map e3s), .lst ((iterF (rowsOf w p) i F0).map eO)] ∧
        if still = true then m = 0 ∧ roundF (rowsOf w p) (iterF (rowsOf w p) i F0) = iterF (rowsOf w p) i F0 else m + i = w.steps.length + 1 ∧ 0 < m) ?_ _ (w.steps.length + 1) _ _ (by simp only [fuel]; omega) ⟨0, false, none, none, none, none, none, rfl, rfl, by simp⟩
      rintro m env S ⟨i, still, x4, x7, x8, x9, x10, rfl, rfl, hst⟩
      rw [wT_i]
      simp only [wC_seq, wC_asg, wC_par, wC_sub, wC_ifc, wC_ret, wC_expr, wC_for, wC_skip, wD, wL, wR_lst, wR_nil, wR_cons, wR_cat, wR_tup, wR_ix, wR_var, wR_cst, wR_op, wR_cmp, wR_isc, wR_ite, wR_not, wR_bi1, wR_bi2, wR_call, wR_meth, wR_isi, wR_comp, wR_dct0, wR_glob, wT_not, wT_and, wT_or, wT_cmp, wT_isc, wT_var, wT_cst, wT_ix, wT_isi, wT_call, wT_ite, wI_enum, wI_seq, wI_range1, wI_zip, dC_v, dC_tmp, lC_tmp, tC_bl, okk_okr, put_n, put_2, put_3, put_5, setSlot, setAll, List.set, List.getElem?_cons_zero, List.getElem?_cons_succ, Option.some.injEq, exists_eq_left', add_i, sub_i, mul_i, mod_i, fdiv_i, pow_i, add_t, eq_i, ne_i, lt_i, le_i, gt_i, ge_i, eq_ni, eq_in, eq_nn, eq_s, b_tuple, b_list, b_len_t, b_abs, b_int, b_lrange, b_min, b_max, at0, at1, at2, at3, set0, set1, set2, set3, methOn, meth, okk_if, itemsOf, seqOf, src, guardOf, Option.map_some, List.length_cons, List.length_nil, List.append_assoc, List.cons_append, List.nil_append, List.length_append, Bool.not_eq_true', start, List.map_cons, List.map_nil, List.replicate, Nat.reduceSub, Nat.reduceAdd, true_and, and_true, if_true, envF]
      cases still with
      | true =>
        simp only [if_true] at hst
        simp only [Bool.not_true, wC_seq, wC_asg, wC_par, wC_sub, wC_ifc, wC_ret, wC_expr, wC_for, wC_skip, wD, wL, wR_lst, wR_nil, wR_cons, wR_cat, wR_tup, wR_ix, wR_var, wR_cst, wR_op, wR_cmp, wR_isc, wR_ite, wR_not, wR_bi1, wR_bi2, wR_call, wR_meth, wR_isi, wR_comp, wR_dct0, wR_glob, wT_not, wT_and, wT_or, wT_cmp, wT_isc, wT_var, wT_cst, wT_ix, wT_isi, wT_call, wT_ite, wI_enum, wI_seq, wI_range1, wI_zip, dC_v, dC_tmp, lC_tmp, tC_bl, okk_okr, put_n, put_2, put_3, put_5, setSlot, setAll, List.set, List.getElem?_cons_zero, List.getElem?_cons_succ, Option.some.injEq, exists_eq_left', add_i, sub_i, mul_i, mod_i, fdiv_i, pow_i, add_t, eq_i, ne_i, lt_i, le_i, gt_i, ge_i, eq_ni, eq_in, eq_nn, eq_s, b_tuple, b_list, b_len_t, b_abs, b_int, b_lrange, b_min, b_max, at0, at1, at2, at3, set0, set1, set2, set3, methOn, meth, okk_if, itemsOf, seqOf, src, guardOf, Option.map_some, List.length_cons, List.length_nil, List.append_assoc, List.cons_append, List.nil_append, List.length_append, Bool.not_eq_true', start, List.map_cons, List.map_nil, List.replicate, Nat.reduceSub, Nat.reduceAdd, true_and, and_true, if_true]
        refine ⟨?_, i, hst.2, rfl⟩
        exact gc_pre (flat_eO _)
      | false =>
        simp only [Bool.false_eq_true, if_false] at hst
        simp only [Bool.not_false]
        generalize hst0 : iterF (rowsOf w p) i F0 = st
        have hstl : st.length = w.steps.length := by rw [← hst0, iter_len, hF0l]
        simp only [wC_i, wC_seq, wC_asg, wC_par, wC_sub, wC_ifc, wC_ret, wC_expr, wC_for, wC_skip, wD, wL, wR_lst, wR_nil, wR_cons, wR_cat, wR_tup, wR_ix, wR_var, wR_cst, wR_op, wR_cmp, wR_isc, wR_ite, wR_not, wR_bi1, wR_bi2, wR_call, wR_meth, wR_isi, wR_comp, wR_dct0, wR_glob, wT_not, wT_and, wT_or, wT_cmp, wT_isc, wT_var, wT_cst, wT_ix, wT_isi, wT_call, wT_ite, wI_enum, wI_seq, wI_range1, wI_zip, dC_v, dC_tmp, lC_tmp, tC_bl, okk_okr, put_n, put_2, put_3, put_5, setSlot, setAll, List.set, List.getElem?_cons_zero, List.getElem?_cons_succ, Option.some.injEq, exists_eq_left', add_i, sub_i, mul_i, mod_i, fdiv_i, pow_i, add_t, eq_i, ne_i, lt_i, le_i, gt_i, ge_i, eq_ni, eq_in, eq_nn, eq_s, b_tuple, b_list, b_len_t, b_abs, b_int, b_lrange, b_min, b_max, at0, at1, at2, at3, set0, set1, set2, set3, methOn, meth, okk_if, itemsOf, seqOf, src, guardOf, Option.map_some, List.length_cons, List.length_nil, List.append_assoc, List.cons_append, List.nil_append, List.length_append, Bool.not_eq_true', start, List.map_cons, List.map_nil, List.replicate, Nat.reduceSub, Nat.reduceAdd, true_and, and_true, if_true]
        refine okk_for (fun j env S => j ≤ w.steps.length ∧ ∃ still x4 x7 x8 x9 x10, env = envF w p lot S'.length still x4 x7 x8 x9 x10 ∧ S = S' ++ [.lst ((rowsOf w p).map e3s), .lst ((roundFrom 0 ((rowsOf w p).take j) st).map eO)] ∧ Chg st (roundFrom 0 ((rowsOf w p).take j) st) still) ?_ ?_ ?_ ?_
        · exact ⟨Nat.zero_le _, true, x4, x7, x8, x9, x10, rfl, rfl, by simp [Chg, roundFrom]⟩
        · rintro j env S ⟨_, still, y4, y7, y8, y9, y10, rfl, rfl, _⟩
          exact guard1 (by simp)
        · rintro j x env S hx ⟨hj, still, y4, y7, y8, y9, y10, rfl, rfl, hch⟩
          obtain ⟨d, hd, rfl⟩ := enum_at hx
          rw [List.getElem?_map] at hd
          cases hs : (rowsOf w p)[j]? with
          | none => rw [hs] at hd; cases hd
          | some row =>
            rw [hs] at hd
            cases hd
            have hj' : j < w.steps.length := by rw [← rows_len w p]; exact (List.getElem?_eq_some_iff.mp hs).1
            have htk : (rowsOf w p).take (j + 1) = (rowsOf w p).take j ++ [row] := by
              rw [List.take_add_one, hs]; rfl
            have hln : ((rowsOf w p).take j).length = j := by rw [List.length_take, rows_len]; omega
            refine ⟨_, rfl, ?_⟩
            generalize hcur : roundFrom 0 ((rowsOf w p).take j) st = cur
            have hcl : cur.length = w.steps.length := by rw [← hcur, roundFrom_len, hstl]
            rw [hcur] at hch
            have hnext : roundFrom 0 ((rowsOf w p).take (j + 1)) st = row.foldl (upd j) cur := by
              rw [htk, roundFrom_app, hcur, hln, Nat.zero_add]; rfl
            simp only [wC_i, wC_seq, wC_asg, wC_par, wC_sub, wC_ifc, wC_ret, wC_expr, wC_for, wC_skip, wD, wL, wR_lst, wR_nil, wR_cons, wR_cat, wR_tup, wR_ix, wR_var, wR_cst, wR_op, wR_cmp, wR_isc, wR_ite, wR_not, wR_bi1, wR_bi2, wR_call, wR_meth, wR_isi, wR_comp, wR_dct0, wR_glob, wT_not, wT_and, wT_or, wT_cmp, wT_isc, wT_var, wT_cst, wT_ix, wT_isi, wT_call, wT_ite, wI_enum, wI_seq, wI_range1, wI_zip, dC_v, dC_tmp, lC_tmp, tC_bl, okk_okr, put_n, put_2, put_3, put_5, setSlot, setAll, List.set, List.getElem?_cons_zero, List.getElem?_cons_succ, Option.some.injEq, exists_eq_left', add_i, sub_i, mul_i, mod_i, fdiv_i, pow_i, add_t, eq_i, ne_i, lt_i, le_i, gt_i, ge_i, eq_ni, eq_in, eq_nn, eq_s, b_tuple, b_list, b_len_t, b_abs, b_int, b_lrange, b_min, b_max, at0, at1, at2, at3, set0, set1, set2, set3, methOn, meth, okk_if, itemsOf, seqOf, src, guardOf, Option.map_some, List.length_cons, List.length_nil, List.append_assoc, List.cons_append, List.nil_append, List.length_append, Bool.not_eq_true', start, List.map_cons, List.map_nil, List.replicate, Nat.reduceSub, Nat.reduceAdd, true_and, and_true, if_true, envF, e3s]
            refine okk_for (fun q env S => q ≤ row.length ∧ ∃ still x7 x8 x9 x10, env = envF w p lot S'.length still (some (eN j)) x7 x8 x9 x10 ∧ S = S' ++ [.lst ((rowsOf w p).map e3s), .lst (((row.take q).foldl (upd j) cur).map eO)] ∧ Chg st ((row.take q).foldl (upd j) cur) still) ?_ ?_ ?_ ?_
            · exact ⟨Nat.zero_le _, still, _, y8, y9, y10, rfl, rfl, hch⟩
            · intros; rfl
            · rintro q x env S hx ⟨hq, still, z7, z8, z9, z10, rfl, rfl, hch⟩
              rw [List.getElem?_map] at hx
              cases hs2 : row[q]? with
              | none => rw [hs2] at hx; cases hx
              | some t =>
                rw [hs2] at hx
                cases hx
                obtain ⟨d, t, c⟩ := t
                have hq' : q < row.length := (List.getElem?_eq_some_iff.mp hs2).1
                have htk2 : row.take (q + 1) = row.take q ++ [(d, t, c)] := by
                  rw [List.take_add_one, hs2]; rfl
                refine ⟨_, rfl, ?_⟩
                rw [htk2, List.foldl_append]
                generalize hcu : (row.take q).foldl (upd j) cur = cu
                have hcul : cu.length = w.steps.length := by rw [← hcu, fold_len, hcl]
                rw [hcu] at hch
                have ht : t < w.steps.length := rows_to ok hs (List.mem_of_getElem? hs2)
                have g1 := eO_at (S := S' ++ [Cell.lst ((rowsOf w p).map e3s), .lst (cu.map eO)]) (n := S'.length + 1) (f := cu) (b := t) (by simp) (by omega)
                have g2 := eO_at (S := S' ++ [Cell.lst ((rowsOf w p).map e3s), .lst (cu.map eO)]) (n := S'.length + 1) (f := cu) (b := j) (by simp) (by omega)
                have g3 := fun v => set_f (S := S' ++ [Cell.lst ((rowsOf w p).map e3s), .lst (cu.map eO)]) (n := S'.length + 1) (f := cu) (j := j) (c := c) (v := v) (by simp) (by omega)
                cases q1 : cu.at t with
                | none =>
                  have hc : updC j cu (d, t, c) = false := by simp [updC, q1]
                  rw [q1] at g1
                  simp only [wC_i, wC_seq, wC_asg, wC_par, wC_sub, wC_ifc, wC_ret, wC_expr, wC_for, wC_skip, wD, wL, wR_lst, wR_nil, wR_cons, wR_cat, wR_tup, wR_ix, wR_var, wR_cst, wR_op, wR_cmp, wR_isc, wR_ite, wR_not, wR_bi1, wR_bi2, wR_call, wR_meth, wR_isi, wR_comp, wR_dct0, wR_glob, wT_not, wT_and, wT_or, wT_cmp, wT_isc, wT_var, wT_cst, wT_ix, wT_isi, wT_call, wT_ite, wI_enum, wI_seq, wI_range1, wI_zip, dC_v, dC_tmp, lC_tmp, tC_bl, okk_okr, put_n, put_2, put_3, put_5, setSlot, setAll, List.set, List.getElem?_cons_zero, List.getElem?_cons_succ, Option.some.injEq, exists_eq_left', add_i, sub_i, mul_i, mod_i, fdiv_i, pow_i, add_t, eq_i, ne_i, lt_i, le_i, gt_i, ge_i, eq_ni, eq_in, eq_nn, eq_s, b_tuple, b_list, b_len_t, b_abs, b_int, b_lrange, b_min, b_max, at0, at1, at2, at3, set0, set1, set2, set3, methOn, meth, okk_if, itemsOf, seqOf, src, guardOf, Option.map_some, List.length_cons, List.length_nil, List.append_assoc, List.cons_append, List.nil_append, List.length_append, Bool.not_eq_true', start, List.map_cons, List.map_nil, List.replicate, Nat.reduceSub, Nat.reduceAdd, true_and, and_true, if_true, envF, e3, eN, g1, eO, D.same, List.foldl_cons, List.foldl_nil, upd_no hc]
                  exact ⟨hq', still, _, _, _, _, rfl, hch⟩
                | some v =>
                  rw [q1] at g1
                  cases q2 : cu.at j with
                  | none =>
                    have hc : updC j cu (d, t, c) = true := by simp [updC, q1, q2]
                    have he : upd j cu (d, t, c) = cu.set j (some (c + v)) := by
                      obtain ⟨v', e1, e2⟩ := upd_yes hc
                      rw [q1] at e1
                      cases e1
                      exact e2
                    have hn := chg_upd hch (by omega) hc
                    rw [q2] at g2
                    simp only [wC_i, wC_seq, wC_asg, wC_par, wC_sub, wC_ifc, wC_ret, wC_expr, wC_for, wC_skip, wD, wL, wR_lst, wR_nil, wR_cons, wR_cat, wR_tup, wR_ix, wR_var, wR_cst, wR_op, wR_cmp, wR_isc, wR_ite, wR_not, wR_bi1, wR_bi2, wR_call, wR_meth, wR_isi, wR_comp, wR_dct0, wR_glob, wT_not, wT_and, wT_or, wT_cmp, wT_isc, wT_var, wT_cst, wT_ix, wT_isi, wT_call, wT_ite, wI_enum, wI_seq, wI_range1, wI_zip, dC_v, dC_tmp, lC_tmp, tC_bl, okk_okr, put_n, put_2, put_3, put_5, setSlot, setAll, List.set, List.getElem?_cons_zero, List.getElem?_cons_succ, Option.some.injEq, exists_eq_left', add_i, sub_i, mul_i, mod_i, fdiv_i, pow_i, add_t, eq_i, ne_i, lt_i, le_i, gt_i, ge_i, eq_ni, eq_in, eq_nn, eq_s, b_tuple, b_list, b_len_t, b_abs, b_int, b_lrange, b_min, b_max, at0, at1, at2, at3, set0, set1, set2, set3, methOn, meth, okk_if, itemsOf, seqOf, src, guardOf, Option.map_some, List.length_cons, List.length_nil, List.append_assoc, List.cons_append, List.nil_append, List.length_append, Bool.not_eq_true', start, List.map_cons, List.map_nil, List.replicate, Nat.reduceSub, Nat.reduceAdd, true_and, and_true, if_true, envF, e3, eN, g1, g2, eO, D.same, List.foldl_cons, List.foldl_nil, he, g3]
                    rw [he] at hn
                    exact ⟨hq', false, _, _, _, _, rfl, hn⟩
                  | some u =>
                    rw [q2] at g2
                    by_cases hlt : c + v < u
                    · have hc : updC j cu (d, t, c) = true := by simp [updC, q1, q2, hlt]
                      have he : upd j cu (d, t, c) = cu.set j (some (c + v)) := by
                        obtain ⟨v', e1, e2⟩ := upd_yes hc
                        rw [q1] at e1
                        cases e1
                        exact e2
                      have hn := chg_upd hch (by omega) hc
                      have hlt' : decide ((c : Int) + (v : Int) < (u : Int)) = true := by simp; omega
                      simp only [wC_i, wC_seq, wC_asg, wC_par, wC_sub, wC_ifc, wC_ret, wC_expr, wC_for, wC_skip, wD, wL, wR_lst, wR_nil, wR_cons, wR_cat, wR_tup, wR_ix, wR_var, wR_cst, wR_op, wR_cmp, wR_isc, wR_ite, wR_not, wR_bi1, wR_bi2, wR_call, wR_meth, wR_isi, wR_comp, wR_dct0, wR_glob, wT_not, wT_and, wT_or, wT_cmp, wT_isc, wT_var, wT_cst, wT_ix, wT_isi, wT_call, wT_ite, wI_enum, wI_seq, wI_range1, wI_zip, dC_v, dC_tmp, lC_tmp, tC_bl, okk_okr, put_n, put_2, put_3, put_5, setSlot, setAll, List.set, List.getElem?_cons_zero, List.getElem?_cons_succ, Option.some.injEq, exists_eq_left', add_i, sub_i, mul_i, mod_i, fdiv_i, pow_i, add_t, eq_i, ne_i, lt_i, le_i, gt_i, ge_i, eq_ni, eq_in, eq_nn, eq_s, b_tuple, b_list, b_len_t, b_abs, b_int, b_lrange, b_min, b_max, at0, at1, at2, at3, set0, set1, set2, set3, methOn, meth, okk_if, itemsOf, seqOf, src, guardOf, Option.map_some, List.length_cons, List.length_nil, List.append_assoc, List.cons_append, List.nil_append, List.length_append, Bool.not_eq_true', start, List.map_cons, List.map_nil, List.replicate, Nat.reduceSub, Nat.reduceAdd, true_and, and_true, if_true, envF, e3, eN, g1, g2, eO, D.same, List.foldl_cons, List.foldl_nil, he, g3, hlt']
                      rw [he] at hn
                      exact ⟨hq', false, _, _, _, _, rfl, hn⟩
                    · have hc : updC j cu (d, t, c) = false := by simp [updC, q1, q2, hlt]
                      have hlt' : decide ((c : Int) + (v : Int) < (u : Int)) = false := by simp; omega
                      simp only [wC_i, wC_seq, wC_asg, wC_par, wC_sub, wC_ifc, wC_ret, wC_expr, wC_for, wC_skip, wD, wL, wR_lst, wR_nil, wR_cons, wR_cat, wR_tup, wR_ix, wR_var, wR_cst, wR_op, wR_cmp, wR_isc, wR_ite, wR_not, wR_bi1, wR_bi2, wR_call, wR_meth, wR_isi, wR_comp, wR_dct0, wR_glob, wT_not, wT_and, wT_or, wT_cmp, wT_isc, wT_var, wT_cst, wT_ix, wT_isi, wT_call, wT_ite, wI_enum, wI_seq, wI_range1, wI_zip, dC_v, dC_tmp, lC_tmp, tC_bl, okk_okr, put_n, put_2, put_3, put_5, setSlot, setAll, List.set, List.getElem?_cons_zero, List.getElem?_cons_succ, Option.some.injEq, exists_eq_left', add_i, sub_i, mul_i, mod_i, fdiv_i, pow_i, add_t, eq_i, ne_i, lt_i, le_i, gt_i, ge_i, eq_ni, eq_in, eq_nn, eq_s, b_tuple, b_list, b_len_t, b_abs, b_int, b_lrange, b_min, b_max, at0, at1, at2, at3, set0, set1, set2, set3, methOn, meth, okk_if, itemsOf, seqOf, src, guardOf, Option.map_some, List.length_cons, List.length_nil, List.append_assoc, List.cons_append, List.nil_append, List.length_append, Bool.not_eq_true', start, List.map_cons, List.map_nil, List.replicate, Nat.reduceSub, Nat.reduceAdd, true_and, and_true, if_true, envF, e3, eN, g1, g2, eO, D.same, List.foldl_cons, List.foldl_nil, upd_no hc, g3, hlt']
                      exact ⟨hq', still, _, _, _, _, rfl, hch⟩
            · rintro env S ⟨_, still, z7, z8, z9, z10, rfl, rfl, hch⟩
              simp only [List.length_map, List.take_length] at hch ⊢
              rw [← hnext] at hch ⊢
              exact ⟨hj', still, _, _, _, _, _, rfl, rfl, hch⟩
        · rintro env S ⟨_, still, y4, y7, y8, y9, y10, rfl, rfl, hch⟩
          have tk3 : List.take (enumL 0 (List.map e3s (rowsOf w p))).length (rowsOf w p) = rowsOf w p := List.take_of_length_le (by rw [enum_len, List.length_map]; exact Nat.le_refl _)
          simp only [tk3] at hch ⊢
          have hr : roundFrom 0 (rowsOf w p) st = iterF (rowsOf w p) (i + 1) F0 := by
            show _ = roundF (rowsOf w p) (iterF (rowsOf w p) i F0)
            rw [hst0]; rfl
          rw [hr] at hch ⊢
          cases still with
          | true =>
            simp only [Chg, if_true] at hch
            refine ⟨0, hst.2, i + 1, true, _, _, _, _, _, rfl, rfl, ?_⟩
            simp only [if_true, true_and]
            rw [hch, ← hst0]
            have : roundF (rowsOf w p) (iterF (rowsOf w p) i F0) = iterF (rowsOf w p) i F0 := by
              show iterF (rowsOf w p) (i + 1) F0 = _
              rw [hch, hst0]
            exact this
          | false =>
            have hne := chg_ne hch
            have hi : i < w.steps.length := by
              apply Nat.lt_of_not_le
              intro hge
              apply hne
              rw [← hst0]
              exact iter_fix hrl (by omega)
            refine ⟨m - 1, by omega, i + 1, false, _, _, _, _, _, rfl, rfl, ?_⟩
            simp only [Bool.false_eq_true, if_false]
            omega
end MP

set_option linter.all false
set_option autoImplicit false
namespace MP
open PySem (Str)
/-! ### own_floors, _law_costs -/
def best (w : Wd) (g o : Nat) : Fl := iterF (rowsOf w o) (w.steps.length + 1) (f0Of w.steps.length (goalBs w g w.goals 0))
theorem best_len (w : Wd) (g o : Nat) : (best w g o).length = w.steps.length := by
  unfold best; rw [iter_len, f0_len]
theorem best_fix (w : Wd) (g o : Nat) : roundF (rowsOf w o) (best w g o) = best w g o :=
  iter_fix (by rw [rows_len, f0_len]; exact Nat.le_refl _) (by rw [f0_len]; omega)
theorem best_le (w : Wd) (g o : Nat) {b : Nat} {row : List Ed} (hr : (rowsOf w o)[b]? = some row) {s : Ed} (hs : s ∈ row) : leO ((best w g o).at b) (addO s.2.2 ((best w g o).at s.2.1)) := by
  have := round_take (rowsOf w o) (best w g o) (by rw [rows_len, best_len]; exact Nat.le_refl _) hr hs
  rw [best_fix] at this
  exact this
theorem w_own_floors {P : Prg} (hp : Has P) {k : Nat} {S : Store} {w : Wd} (ok : w.Ok) {g o : Nat} (ho : w.owners[g]? = some o) :
    Okk (run P (k + 3) 3 [eW w, eN g] S) fun d S' => S' = S ∧ d = .tup ((best w g o).map eO) := by
  refine okk_run hp.f3 rfl ?_
  have hg : g < w.owners.length := (List.getElem?_eq_some_iff.mp ho).1
  rw [wC_i]
  simp only [fown_floors, wC_seq, wC_asg, wC_par, wC_sub, wC_ifc, wC_ret, wC_expr, wC_for, wC_skip, wD, wL, wR_lst, wR_nil, wR_cons, wR_cat, wR_tup, wR_ix, wR_var, wR_cst, wR_op, wR_cmp, wR_isc, wR_ite, wR_not, wR_bi1, wR_bi2, wR_call, wR_meth, wR_isi, wR_comp, wR_dct0, wR_glob, wT_not, wT_and, wT_or, wT_cmp, wT_isc, wT_var, wT_cst, wT_ix, wT_isi, wT_call, wT_ite, wI_enum, wI_seq, wI_range1, wI_zip, dC_v, dC_tmp, lC_tmp, tC_bl, okk_okr, put_n, put_2, put_3, put_5, setSlot, setAll, List.set, List.getElem?_cons_zero, List.getElem?_cons_succ, Option.some.injEq, exists_eq_left', add_i, sub_i, mul_i, mod_i, fdiv_i, pow_i, add_t, eq_i, ne_i, lt_i, le_i, gt_i, ge_i, eq_ni, eq_in, eq_nn, eq_s, b_tuple, b_list, b_len_t, b_abs, b_int, b_lrange, b_min, b_max, at0, at1, at2, at3, set0, set1, set2, set3, methOn, meth, okk_if, itemsOf, seqOf, src, guardOf, Option.map_some, List.length_cons, List.length_nil, List.append_assoc, List.cons_append, List.nil_append, List.length_append, Bool.not_eq_true', start, List.map_cons, List.map_nil, List.replicate, Nat.reduceSub, Nat.reduceAdd, true_and, and_true, if_true, eN, eW3, eN_at ho]
  refine okk_imp (w_goal_boards hp ok (S := S) hg) fun d S1 h => ?_
  obtain ⟨rfl, rfl⟩ := h
  refine okk_imp (w_lot_floors hp ok (S := S1) (p := o) (lot := goalBs w g w.goals 0)) fun d S2 h => ?_
  obtain ⟨rfl, i, hi, rfl⟩ := h
  refine ⟨gc_self, ?_⟩
  have := fix_eq (rows := rowsOf w o) (f0 := f0Of w.steps.length (goalBs w g w.goals 0)) (by rw [rows_len, f0_len]; exact Nat.le_refl _) hi (m := w.steps.length + 1) (by rw [f0_len]; omega)
  rw [this]
  rfl
theorem f0_goals {w : Wd} (ok : w.Ok) {g : Nat} (hg : g < w.owners.length) : (w.goals.map fun r => if r[g]? = some true then some 0 else none) = f0Of w.steps.length (goalBs w g w.goals 0) := by
  apply List.ext_getElem?
  intro b
  unfold f0Of
  rw [List.getElem?_map, List.getElem?_map]
  by_cases hb : b < w.steps.length
  · have hb' : b < w.goals.length := by rw [ok.gl]; exact hb
    rw [List.getElem?_eq_getElem hb', List.getElem?_range hb]
    simp only [Option.map_some, Option.some.injEq]
    have := goalBs_mem w g b w.goals 0
    simp only [Nat.zero_le, true_and, Nat.sub_zero, List.getElem?_eq_getElem hb', Option.some.injEq, exists_eq_left'] at this
    by_cases h : w.goals[b][g]? = some true
    · rw [if_pos h, if_pos (this.mpr h)]
    · rw [if_neg h, if_neg fun h' => h (this.mp h')]
  · rw [List.getElem?_eq_none (by rw [ok.gl]; omega), List.getElem?_eq_none (by simp; omega)]
    rfl
def envC (w : Wd) (g n : Nat) (x3 x4 x5 x6 x7 x8 x9 : Option D) : Env := [some (eW w), some (eN g), some (.loc n), x3, x4, x5, x6, x7, x8, x9]
theorem set_same {f : Fl} {j u : Nat} (h : f.at j = some u) (hj : j < f.length) : f.set j (some u) = f := by
  apply List.ext_getElem?
  intro b
  by_cases hb : b = j
  · subst hb
    rw [List.getElem?_set_self hj]
    unfold Fl.at at h
    rw [List.getElem?_eq_getElem hj] at h ⊢
    simp at h
    rw [h]
  · rw [List.getElem?_set_ne (Ne.symm hb)]
theorem iter_succ (rows : List (List Ed)) (i : Nat) (f : Fl) : iterF rows (i + 1) f = roundF rows (iterF rows i f) := rfl
theorem w_costs {P : Prg} (hf : P.fn 15 = some lcosts) {k : Nat} {S : Store} {w : Wd} (ok : w.Ok) {g o : Nat} (ho : w.owners[g]? = some o) :
    Okk (run P (k + 1) 15 [eW w, eN g] S) fun d S' => S' = S ++ [.lst ((best w g o).map eO)] ∧ d = .loc S.length := by
  refine okk_run hf rfl ?_
  have hg : g < w.owners.length := (List.getElem?_eq_some_iff.mp ho).1
  have sm := ok.small
  rw [wC_i]
  simp only [lcosts, wC_seq, wC_asg, wC_par, wC_sub, wC_ifc, wC_ret, wC_expr, wC_for, wC_skip, wD, wL, wR_lst, wR_nil, wR_cons, wR_cat, wR_tup, wR_ix, wR_var, wR_cst, wR_op, wR_cmp, wR_isc, wR_ite, wR_not, wR_bi1, wR_bi2, wR_call, wR_meth, wR_isi, wR_comp, wR_dct0, wR_glob, wT_not, wT_and, wT_or, wT_cmp, wT_isc, wT_var, wT_cst, wT_ix, wT_isi, wT_call, wT_ite, wI_enum, wI_seq, wI_range1, wI_zip, dC_v, dC_tmp, lC_tmp, tC_bl, okk_okr, put_n, put_2, put_3, put_5, setSlot, setAll, List.set, List.getElem?_cons_zero, List.getElem?_cons_succ, Option.some.injEq, exists_eq_left', add_i, sub_i, mul_i, mod_i, fdiv_i, pow_i, add_t, eq_i, ne_i, lt_i, le_i, gt_i, ge_i, eq_ni, eq_in, eq_nn, eq_s, b_tuple, b_list, b_len_t, b_abs, b_int, b_lrange, b_min, b_max, at0, at1, at2, at3, set0, set1, set2, set3, methOn, meth, okk_if, itemsOf, seqOf, src, guardOf, Option.map_some, List.length_cons, List.length_nil, List.append_assoc, List.cons_append, List.nil_append, List.length_append, Bool.not_eq_true', start, List.map_cons, List.map_nil, List.replicate, Nat.reduceSub, Nat.reduceAdd, true_and, and_true, if_true, eN, eW2]
  refine okk_comp (fun j acc S' => j ≤ w.goals.length ∧ acc = ((w.goals.take j).map fun r => eO (if r[g]? = some true then some 0 else none)) ∧ S' = S) ?_ ?_ ?_ ?_
  · exact ⟨Nat.zero_le _, rfl, rfl⟩
  · intros; rfl
  · rintro j x acc S' hx ⟨hj, rfl, rfl⟩
    rw [List.getElem?_map] at hx
    cases hs : w.goals[j]? with
    | none => rw [hs] at hx; cases hx
    | some r =>
      rw [hs] at hx
      cases hx
      have hj' : j < w.goals.length := (List.getElem?_eq_some_iff.mp hs).1
      have hrl := ok.gw r (List.mem_of_getElem? hs)
      obtain ⟨t, ht⟩ : ∃ t, r[g]? = some t := ⟨_, List.getElem?_eq_getElem (by omega)⟩
      have hix : ∀ S, getIx S (.tup (r.map D.bl)) (.int (g : Int)) = some (.bl t) := fun S => getIx_tup (by rw [List.getElem?_map, ht]; rfl)
      rw [wStep_i]
      unfold wStep
      simp only [wC_seq, wC_asg, wC_par, wC_sub, wC_ifc, wC_ret, wC_expr, wC_for, wC_skip, wD, wL, wR_lst, wR_nil, wR_cons, wR_cat, wR_tup, wR_ix, wR_var, wR_cst, wR_op, wR_cmp, wR_isc, wR_ite, wR_not, wR_bi1, wR_bi2, wR_call, wR_meth, wR_isi, wR_comp, wR_dct0, wR_glob, wT_not, wT_and, wT_or, wT_cmp, wT_isc, wT_var, wT_cst, wT_ix, wT_isi, wT_call, wT_ite, wI_enum, wI_seq, wI_range1, wI_zip, dC_v, dC_tmp, lC_tmp, tC_bl, okk_okr, put_n, put_2, put_3, put_5, setSlot, setAll, List.set, List.getElem?_cons_zero, List.getElem?_cons_succ, Option.some.injEq, exists_eq_left', add_i, sub_i, mul_i, mod_i, fdiv_i, pow_i, add_t, eq_i, ne_i, lt_i, le_i, gt_i, ge_i, eq_ni, eq_in, eq_nn, eq_s, b_tuple, b_list, b_len_t, b_abs, b_int, b_lrange, b_min, b_max, at0, at1, at2, at3, set0, set1, set2, set3, methOn, meth, okk_if, itemsOf, seqOf, src, guardOf, Option.map_some, List.length_cons, List.length_nil, List.append_assoc, List.cons_append, List.nil_append, List.length_append, Bool.not_eq_true', start, List.map_cons, List.map_nil, List.replicate, Nat.reduceSub, Nat.reduceAdd, true_and, and_true, if_true, wipe, eG, hix]
      rw [List.take_add_one, hs]
      cases t <;> simp [ht, eO, eN] <;> omega
  · rintro acc S' ⟨hj, rfl, rfl⟩
    have tk : List.take (List.map eG w.goals).length w.goals = w.goals := List.take_of_length_le (by rw [List.length_map]; exact Nat.le_refl _)
    have he : (w.goals.map fun r => eO (if r[g]? = some true then some 0 else none)) = (f0Of w.steps.length (goalBs w g w.goals 0)).map eO := by
      rw [← f0_goals ok hg, List.map_map]; rfl
    simp only [tk, he]
    generalize hF0 : f0Of w.steps.length (goalBs w g w.goals 0) = F0
    have hF0l : F0.length = w.steps.length := by rw [← hF0]; exact f0_len _ _
    refine ⟨by rw [List.length_map, hF0l]; simp only [line]; omega, ?_⟩
    have fr : (-far ≤ ((w.steps.length : Nat) : Int) + 1 ∧ ((w.steps.length : Nat) : Int) + 1 < far) := by simp only [far]; omega
    simp only [wC_seq, wC_asg, wC_par, wC_sub, wC_ifc, wC_ret, wC_expr, wC_for, wC_skip, wD, wL, wR_lst, wR_nil, wR_cons, wR_cat, wR_tup, wR_ix, wR_var, wR_cst, wR_op, wR_cmp, wR_isc, wR_ite, wR_not, wR_bi1, wR_bi2, wR_call, wR_meth, wR_isi, wR_comp, wR_dct0, wR_glob, wT_not, wT_and, wT_or, wT_cmp, wT_isc, wT_var, wT_cst, wT_ix, wT_isi, wT_call, wT_ite, wI_enum, wI_seq, wI_range1, wI_zip, dC_v, dC_tmp, lC_tmp, tC_bl, okk_okr, put_n, put_2, put_3, put_5, setSlot, setAll, List.set, List.getElem?_cons_zero, List.getElem?_cons_succ, Option.some.injEq, exists_eq_left', add_i, sub_i, mul_i, mod_i, fdiv_i, pow_i, add_t, eq_i, ne_i, lt_i, le_i, gt_i, ge_i, eq_ni, eq_in, eq_nn, eq_s, b_tuple, b_list, b_len_t, b_abs, b_int, b_lrange, b_min, b_max, at0, at1, at2, at3, set0, set1, set2, set3, methOn, meth, okk_if, itemsOf, seqOf, src, guardOf, Option.map_some, List.length_cons, List.length_nil, List.append_assoc, List.cons_append, List.nil_append, List.length_append, Bool.not_eq_true', start, List.map_cons, List.map_nil, List.replicate, Nat.reduceSub, Nat.reduceAdd, true_and, and_true, if_true, bi1, List.length_map, hF0l]
    refine ⟨_, if_pos (by simpa using fr), ?_⟩
    refine okk_for (fun i env S => i ≤ w.steps.length + 1 ∧ ∃ x3 x4 x5 x6 x7 x8 x9, env = envC w g S'.length x3 x4 x5 x6 x7 x8 x9 ∧ S = S' ++ [.lst ((iterF (rowsOf w o) i F0).map eO)]) ?_ ?_ ?_ ?_
    · exact ⟨Nat.zero_le _, _, _, _, _, _, _, _, rfl, rfl⟩
    · intros; rfl
    · rintro i x env S hx ⟨hi, x3, x4, x5, x6, x7, x8, x9, rfl, rfl⟩
      obtain ⟨hi', rfl⟩ := range_at hx
      have hi' : i < w.steps.length + 1 := by omega
      refine ⟨_, rfl, ?_⟩
      rw [iter_succ]
      generalize hst : iterF (rowsOf w o) i F0 = st
      have hstl : st.length = w.steps.length := by rw [← hst, iter_len, hF0l]
      simp only [wC_i, wC_seq, wC_asg, wC_par, wC_sub, wC_ifc, wC_ret, wC_expr, wC_for, wC_skip, wD, wL, wR_lst, wR_nil, wR_cons, wR_cat, wR_tup, wR_ix, wR_var, wR_cst, wR_op, wR_cmp, wR_isc, wR_ite, wR_not, wR_bi1, wR_bi2, wR_call, wR_meth, wR_isi, wR_comp, wR_dct0, wR_glob, wT_not, wT_and, wT_or, wT_cmp, wT_isc, wT_var, wT_cst, wT_ix, wT_isi, wT_call, wT_ite, wI_enum, wI_seq, wI_range1, wI_zip, dC_v, dC_tmp, lC_tmp, tC_bl, okk_okr, put_n, put_2, put_3, put_5, setSlot, setAll, List.set, List.getElem?_cons_zero, List.getElem?_cons_succ, Option.some.injEq, exists_eq_left', add_i, sub_i, mul_i, mod_i, fdiv_i, pow_i, add_t, eq_i, ne_i, lt_i, le_i, gt_i, ge_i, eq_ni, eq_in, eq_nn, eq_s, b_tuple, b_list, b_len_t, b_abs, b_int, b_lrange, b_min, b_max, at0, at1, at2, at3, set0, set1, set2, set3, methOn, meth, okk_if, itemsOf, seqOf, src, guardOf, Option.map_some, List.length_cons, List.length_nil, List.append_assoc, List.cons_append, List.nil_append, List.length_append, Bool.not_eq_true', start, List.map_cons, List.map_nil, List.replicate, Nat.reduceSub, Nat.reduceAdd, true_and, and_true, if_true, envC, eW0]
      refine okk_for (fun j env S => j ≤ w.steps.length ∧ ∃ x3 x4 x5 x6 x7 x8 x9, env = envC w g S'.length x3 x4 x5 x6 x7 x8 x9 ∧ S = S' ++ [.lst ((roundFrom 0 ((rowsOf w o).take j) st).map eO)]) ?_ ?_ ?_ ?_
      · exact ⟨Nat.zero_le _, _, _, _, _, _, _, _, rfl, rfl⟩
      · intros; rfl
      · rintro j x env S hx ⟨hj, y3, y4, y5, y6, y7, y8, y9, rfl, rfl⟩
        obtain ⟨d, hd, rfl⟩ := enum_at hx
        rw [List.getElem?_map] at hd
        cases hs : w.steps[j]? with
        | none => rw [hs] at hd; cases hd
        | some r =>
          rw [hs] at hd
          cases hd
          have hj' : j < w.steps.length := (List.getElem?_eq_some_iff.mp hs).1
          have hrow : (rowsOf w o)[j]? = some (ownSt w o r 0) := by unfold rowsOf; rw [List.getElem?_map, hs]; rfl
          have htk : (rowsOf w o).take (j + 1) = (rowsOf w o).take j ++ [ownSt w o r 0] := by
            rw [List.take_add_one, hrow]; rfl
          have hln : ((rowsOf w o).take j).length = j := by rw [List.length_take, rows_len]; omega
          refine ⟨_, rfl, ?_⟩
          generalize hcur : roundFrom 0 ((rowsOf w o).take j) st = cur
          have hcl : cur.length = w.steps.length := by rw [← hcur, roundFrom_len, hstl]
          have hnext : roundFrom 0 ((rowsOf w o).take (j + 1)) st = (ownSt w o r 0).foldl (upd j) cur := by
            rw [htk, roundFrom_app, hcur, hln, Nat.zero_add]; rfl
          have hrl : r.length = w.whose.length := ok.row r (List.mem_of_getElem? hs)
          simp only [wC_i, wC_seq, wC_asg, wC_par, wC_sub, wC_ifc, wC_ret, wC_expr, wC_for, wC_skip, wD, wL, wR_lst, wR_nil, wR_cons, wR_cat, wR_tup, wR_ix, wR_var, wR_cst, wR_op, wR_cmp, wR_isc, wR_ite, wR_not, wR_bi1, wR_bi2, wR_call, wR_meth, wR_isi, wR_comp, wR_dct0, wR_glob, wT_not, wT_and, wT_or, wT_cmp, wT_isc, wT_var, wT_cst, wT_ix, wT_isi, wT_call, wT_ite, wI_enum, wI_seq, wI_range1, wI_zip, dC_v, dC_tmp, lC_tmp, tC_bl, okk_okr, put_n, put_2, put_3, put_5, setSlot, setAll, List.set, List.getElem?_cons_zero, List.getElem?_cons_succ, Option.some.injEq, exists_eq_left', add_i, sub_i, mul_i, mod_i, fdiv_i, pow_i, add_t, eq_i, ne_i, lt_i, le_i, gt_i, ge_i, eq_ni, eq_in, eq_nn, eq_s, b_tuple, b_list, b_len_t, b_abs, b_int, b_lrange, b_min, b_max, at0, at1, at2, at3, set0, set1, set2, set3, methOn, meth, okk_if, itemsOf, seqOf, src, guardOf, Option.map_some, List.length_cons, List.length_nil, List.append_assoc, List.cons_append, List.nil_append, List.length_append, Bool.not_eq_true', start, List.map_cons, List.map_nil, List.replicate, Nat.reduceSub, Nat.reduceAdd, true_and, and_true, if_true, envC, eRow]
          refine okk_for (fun q env S => q ≤ r.length ∧ ∃ x3 x4 x6 x7 x8 x9, env = envC w g S'.length x3 x4 (some (eN j)) x6 x7 x8 x9 ∧ S = S' ++ [.lst (((ownSt w o (r.take q) 0).foldl (upd j) cur).map eO)]) ?_ ?_ ?_ ?_
          · exact ⟨Nat.zero_le _, _, _, _, _, _, _, rfl, rfl⟩
          · intros; rfl
          · rintro q x env S hx ⟨hq, z3, z4, z6, z7, z8, z9, rfl, rfl⟩
            obtain ⟨d, hd, rfl⟩ := enum_at hx
            rw [List.getElem?_map] at hd
            cases hs2 : r[q]? with
            | none => rw [hs2] at hd; cases hd
            | some s =>
              rw [hs2] at hd
              cases hd
              have hq' : q < r.length := (List.getElem?_eq_some_iff.mp hs2).1
              have htk2 : r.take (q + 1) = r.take q ++ [s] := by
                rw [List.take_add_one, hs2]; rfl
              have hlq : (r.take q).length = q := by simp; omega
              refine ⟨_, rfl, ?_⟩
              rw [htk2, ownSt_app, hlq, List.foldl_append, Nat.zero_add]
              generalize hcu : (ownSt w o (r.take q) 0).foldl (upd j) cur = cu
              have hcul : cu.length = w.steps.length := by rw [← hcu, fold_len, hcl]
              cases s with
              | none =>
                simp only [wC_i, wC_seq, wC_asg, wC_par, wC_sub, wC_ifc, wC_ret, wC_expr, wC_for, wC_skip, wD, wL, wR_lst, wR_nil, wR_cons, wR_cat, wR_tup, wR_ix, wR_var, wR_cst, wR_op, wR_cmp, wR_isc, wR_ite, wR_not, wR_bi1, wR_bi2, wR_call, wR_meth, wR_isi, wR_comp, wR_dct0, wR_glob, wT_not, wT_and, wT_or, wT_cmp, wT_isc, wT_var, wT_cst, wT_ix, wT_isi, wT_call, wT_ite, wI_enum, wI_seq, wI_range1, wI_zip, dC_v, dC_tmp, lC_tmp, tC_bl, okk_okr, put_n, put_2, put_3, put_5, setSlot, setAll, List.set, List.getElem?_cons_zero, List.getElem?_cons_succ, Option.some.injEq, exists_eq_left', add_i, sub_i, mul_i, mod_i, fdiv_i, pow_i, add_t, eq_i, ne_i, lt_i, le_i, gt_i, ge_i, eq_ni, eq_in, eq_nn, eq_s, b_tuple, b_list, b_len_t, b_abs, b_int, b_lrange, b_min, b_max, at0, at1, at2, at3, set0, set1, set2, set3, methOn, meth, okk_if, itemsOf, seqOf, src, guardOf, Option.map_some, List.length_cons, List.length_nil, List.append_assoc, List.cons_append, List.nil_append, List.length_append, Bool.not_eq_true', start, List.map_cons, List.map_nil, List.replicate, Nat.reduceSub, Nat.reduceAdd, true_and, and_true, if_true, envC, eS, D.same, ownSt, List.foldl_nil]
                exact ⟨hq', _, _, _, _, _, _, rfl⟩
              | some s =>
                obtain ⟨t, c⟩ := s
                have ht : t < w.steps.length := ok.to r (List.mem_of_getElem? hs) t c (List.mem_of_getElem? hs2)
                obtain ⟨p, hpq⟩ : ∃ p, w.whose[q]? = some p := ⟨_, List.getElem?_eq_getElem (by omega)⟩
                have ix0 : ∀ S, getIx S (.tup [.int (t : Int), .int (c : Int)]) (.int 0) = some (.int (t : Int)) := fun _ => rfl
                have ix1 : ∀ S, getIx S (.tup [.int (t : Int), .int (c : Int)]) (.int 1) = some (.int (c : Int)) := fun _ => rfl
                have g1 := eO_at (S := S' ++ [Cell.lst (cu.map eO)]) (n := S'.length) (f := cu) (b := t) (by simp) (by omega)
                have g2 := eO_at (S := S' ++ [Cell.lst (cu.map eO)]) (n := S'.length) (f := cu) (b := j) (by simp) (by omega)
                have g3 := fun (x : Nat) => setIx_lst (S := S' ++ [Cell.lst (cu.map eO)]) (n := S'.length) (i := j) (v := .int (x : Int)) (xs := cu.map eO) (by simp) (by simp; omega)
                simp only [map_set_eO, set0] at g3
                by_cases hpo : p = o
                · subst hpo
                  have dt : decide ((p : Int) = (p : Int)) = true := by simp
                  have ow : ownSt w p [some (t, c)] q = [(q, t, c)] := by simp [ownSt, hpq]
                  rw [ow]
                  simp only [List.foldl_cons, List.foldl_nil]
                  cases q1 : cu.at t with
                  | none =>
                    have hc : updC j cu (q, t, c) = false := by simp [updC, q1]
                    rw [q1] at g1
                    simp only [wC_i, wC_seq, wC_asg, wC_par, wC_sub, wC_ifc, wC_ret, wC_expr, wC_for, wC_skip, wD, wL, wR_lst, wR_nil, wR_cons, wR_cat, wR_tup, wR_ix, wR_var, wR_cst, wR_op, wR_cmp, wR_isc, wR_ite, wR_not, wR_bi1, wR_bi2, wR_call, wR_meth, wR_isi, wR_comp, wR_dct0, wR_glob, wT_not, wT_and, wT_or, wT_cmp, wT_isc, wT_var, wT_cst, wT_ix, wT_isi, wT_call, wT_ite, wI_enum, wI_seq, wI_range1, wI_zip, dC_v, dC_tmp, lC_tmp, tC_bl, okk_okr, put_n, put_2, put_3, put_5, setSlot, setAll, List.set, List.getElem?_cons_zero, List.getElem?_cons_succ, Option.some.injEq, exists_eq_left', add_i, sub_i, mul_i, mod_i, fdiv_i, pow_i, add_t, eq_i, ne_i, lt_i, le_i, gt_i, ge_i, eq_ni, eq_in, eq_nn, eq_s, b_tuple, b_list, b_len_t, b_abs, b_int, b_lrange, b_min, b_max, at0, at1, at2, at3, set0, set1, set2, set3, methOn, meth, okk_if, itemsOf, seqOf, src, guardOf, Option.map_some, List.length_cons, List.length_nil, List.append_assoc, List.cons_append, List.nil_append, List.length_append, Bool.not_eq_true', start, List.map_cons, List.map_nil, List.replicate, Nat.reduceSub, Nat.reduceAdd, true_and, and_true, if_true, envC, eS, D.same, eN, eW1, eW3, eN_at hpq, eN_at ho, dt, ix0, ix1, g1, eO, upd_no hc]
                    exact ⟨hq', _, _, _, _, _, _, rfl⟩
                  | some v =>
                    rw [q1] at g1
                    have cs : ((v : Int) + (c : Int)) = ((c + v : Nat) : Int) := by omega
                    cases q2 : cu.at j with
                    | none =>
                      have hc : updC j cu (q, t, c) = true := by simp [updC, q1, q2]
                      have he : upd j cu (q, t, c) = cu.set j (some (c + v)) := by
                        obtain ⟨v', e1, e2⟩ := upd_yes hc
                        rw [q1] at e1
                        cases e1
                        exact e2
                      rw [q2] at g2
                      simp only [wC_i, wC_seq, wC_asg, wC_par, wC_sub, wC_ifc, wC_ret, wC_expr, wC_for, wC_skip, wD, wL, wR_lst, wR_nil, wR_cons, wR_cat, wR_tup, wR_ix, wR_var, wR_cst, wR_op, wR_cmp, wR_isc, wR_ite, wR_not, wR_bi1, wR_bi2, wR_call, wR_meth, wR_isi, wR_comp, wR_dct0, wR_glob, wT_not, wT_and, wT_or, wT_cmp, wT_isc, wT_var, wT_cst, wT_ix, wT_isi, wT_call, wT_ite, wI_enum, wI_seq, wI_range1, wI_zip, dC_v, dC_tmp, lC_tmp, tC_bl, okk_okr, put_n, put_2, put_3, put_5, setSlot, setAll, List.set, List.getElem?_cons_zero, List.getElem?_cons_succ, Option.some.injEq, exists_eq_left', add_i, sub_i, mul_i, mod_i, fdiv_i, pow_i, add_t, eq_i, ne_i, lt_i, le_i, gt_i, ge_i, eq_ni, eq_in, eq_nn, eq_s, b_tuple, b_list, b_len_t, b_abs, b_int, b_lrange, b_min, b_max, at0, at1, at2, at3, set0, set1, set2, set3, methOn, meth, okk_if, itemsOf, seqOf, src, guardOf, Option.map_some, List.length_cons, List.length_nil, List.append_assoc, List.cons_append, List.nil_append, List.length_append, Bool.not_eq_true', start, List.map_cons, List.map_nil, List.replicate, Nat.reduceSub, Nat.reduceAdd, true_and, and_true, if_true, envC, eS, D.same, eN, eW1, eW3, eN_at hpq, eN_at ho, dt, ix0, ix1, g1, g2, eO, he, cs, g3]
                      exact ⟨hq', _, _, _, _, _, _, rfl⟩
                    | some u =>
                      rw [q2] at g2
                      by_cases hlt : c + v < u
                      · have hc : updC j cu (q, t, c) = true := by simp [updC, q1, q2, hlt]
                        have he : upd j cu (q, t, c) = cu.set j (some (c + v)) := by
                          obtain ⟨v', e1, e2⟩ := upd_yes hc
                          rw [q1] at e1
                          cases e1
                          exact e2
                        have hlt' : ((c + v : Nat) : Int) < (u : Int) := by omega
                        simp only [wC_i, wC_seq, wC_asg, wC_par, wC_sub, wC_ifc, wC_ret, wC_expr, wC_for, wC_skip, wD, wL, wR_lst, wR_nil, wR_cons, wR_cat, wR_tup, wR_ix, wR_var, wR_cst, wR_op, wR_cmp, wR_isc, wR_ite, wR_not, wR_bi1, wR_bi2, wR_call, wR_meth, wR_isi, wR_comp, wR_dct0, wR_glob, wT_not, wT_and, wT_or, wT_cmp, wT_isc, wT_var, wT_cst, wT_ix, wT_isi, wT_call, wT_ite, wI_enum, wI_seq, wI_range1, wI_zip, dC_v, dC_tmp, lC_tmp, tC_bl, okk_okr, put_n, put_2, put_3, put_5, setSlot, setAll, List.set, List.getElem?_cons_zero, List.getElem?_cons_succ, Option.some.injEq, exists_eq_left', add_i, sub_i, mul_i, mod_i, fdiv_i, pow_i, add_t, eq_i, ne_i, lt_i, le_i, gt_i, ge_i, eq_ni, eq_in, eq_nn, eq_s, b_tuple, b_list, b_len_t, b_abs, b_int, b_lrange, b_min, b_max, at0, at1, at2, at3, set0, set1, set2, set3, methOn, meth, okk_if, itemsOf, seqOf, src, guardOf, Option.map_some, List.length_cons, List.length_nil, List.append_assoc, List.cons_append, List.nil_append, List.length_append, Bool.not_eq_true', start, List.map_cons, List.map_nil, List.replicate, Nat.reduceSub, Nat.reduceAdd, true_and, and_true, if_true, envC, eS, D.same, eN, eW1, eW3, eN_at hpq, eN_at ho, dt, ix0, ix1, g1, g2, eO, he, cs, g3, if_pos hlt']
                        exact ⟨hq', _, _, _, _, _, _, rfl⟩
                      · have hc : updC j cu (q, t, c) = false := by simp [updC, q1, q2, hlt]
                        have hlt' : ¬ (((c + v : Nat) : Int) < (u : Int)) := by omega
                        have hss := set_same q2 (by omega)
                        simp only [wC_i, wC_seq, wC_asg, wC_par, wC_sub, wC_ifc, wC_ret, wC_expr, wC_for, wC_skip, wD, wL, wR_lst, wR_nil, wR_cons, wR_cat, wR_tup, wR_ix, wR_var, wR_cst, wR_op, wR_cmp, wR_isc, wR_ite, wR_not, wR_bi1, wR_bi2, wR_call, wR_meth, wR_isi, wR_comp, wR_dct0, wR_glob, wT_not, wT_and, wT_or, wT_cmp, wT_isc, wT_var, wT_cst, wT_ix, wT_isi, wT_call, wT_ite, wI_enum, wI_seq, wI_range1, wI_zip, dC_v, dC_tmp, lC_tmp, tC_bl, okk_okr, put_n, put_2, put_3, put_5, setSlot, setAll, List.set, List.getElem?_cons_zero, List.getElem?_cons_succ, Option.some.injEq, exists_eq_left', add_i, sub_i, mul_i, mod_i, fdiv_i, pow_i, add_t, eq_i, ne_i, lt_i, le_i, gt_i, ge_i, eq_ni, eq_in, eq_nn, eq_s, b_tuple, b_list, b_len_t, b_abs, b_int, b_lrange, b_min, b_max, at0, at1, at2, at3, set0, set1, set2, set3, methOn, meth, okk_if, itemsOf, seqOf, src, guardOf, Option.map_some, List.length_cons, List.length_nil, List.append_assoc, List.cons_append, List.nil_append, List.length_append, Bool.not_eq_true', start, List.map_cons, List.map_nil, List.replicate, Nat.reduceSub, Nat.reduceAdd, true_and, and_true, if_true, envC, eS, D.same, eN, eW1, eW3, eN_at hpq, eN_at ho, dt, ix0, ix1, g1, g2, eO, upd_no hc, cs, g3, if_neg hlt', hss]
                        exact ⟨hq', _, _, _, _, _, _, rfl⟩
                · have ow : ownSt w o [some (t, c)] q = [] := by simp [ownSt, hpq, hpo]
                  have df : decide ((p : Int) = (o : Int)) = false := by simp; omega
                  rw [ow]
                  simp only [wC_i, wC_seq, wC_asg, wC_par, wC_sub, wC_ifc, wC_ret, wC_expr, wC_for, wC_skip, wD, wL, wR_lst, wR_nil, wR_cons, wR_cat, wR_tup, wR_ix, wR_var, wR_cst, wR_op, wR_cmp, wR_isc, wR_ite, wR_not, wR_bi1, wR_bi2, wR_call, wR_meth, wR_isi, wR_comp, wR_dct0, wR_glob, wT_not, wT_and, wT_or, wT_cmp, wT_isc, wT_var, wT_cst, wT_ix, wT_isi, wT_call, wT_ite, wI_enum, wI_seq, wI_range1, wI_zip, dC_v, dC_tmp, lC_tmp, tC_bl, okk_okr, put_n, put_2, put_3, put_5, setSlot, setAll, List.set, List.getElem?_cons_zero, List.getElem?_cons_succ, Option.some.injEq, exists_eq_left', add_i, sub_i, mul_i, mod_i, fdiv_i, pow_i, add_t, eq_i, ne_i, lt_i, le_i, gt_i, ge_i, eq_ni, eq_in, eq_nn, eq_s, b_tuple, b_list, b_len_t, b_abs, b_int, b_lrange, b_min, b_max, at0, at1, at2, at3, set0, set1, set2, set3, methOn, meth, okk_if, itemsOf, seqOf, src, guardOf, Option.map_some, List.length_cons, List.length_nil, List.append_assoc, List.cons_append, List.nil_append, List.length_append, Bool.not_eq_true', start, List.map_cons, List.map_nil, List.replicate, Nat.reduceSub, Nat.reduceAdd, true_and, and_true, if_true, envC, eS, D.same, eN, eW1, eW3, eN_at hpq, eN_at ho, df, List.foldl_nil]
                  exact ⟨hq', _, _, _, _, _, _, rfl⟩
          · rintro env S ⟨_, z3, z4, z6, z7, z8, z9, rfl, rfl⟩
            simp only [enum_len, List.length_map, List.take_length]
            rw [← hnext]
            exact ⟨hj', _, _, _, _, _, _, _, rfl, rfl⟩
      · rintro env S ⟨_, y3, y4, y5, y6, y7, y8, y9, rfl, rfl⟩
        have tk3 : List.take (enumL 0 (List.map eRow w.steps)).length (rowsOf w o) = rowsOf w o := List.take_of_length_le (by rw [enum_len, List.length_map, rows_len]; exact Nat.le_refl _)
        simp only [tk3]
        exact ⟨hi', _, _, _, _, _, _, _, rfl, rfl⟩
    · rintro env S ⟨_, x3, x4, x5, x6, x7, x8, x9, rfl, rfl⟩
      have e : (rangeL 0 (((w.steps.length : Nat) : Int) + 1).toNat).length = w.steps.length + 1 := by rw [range_len]; omega
      simp only [wC_seq, wC_asg, wC_par, wC_sub, wC_ifc, wC_ret, wC_expr, wC_for, wC_skip, wD, wL, wR_lst, wR_nil, wR_cons, wR_cat, wR_tup, wR_ix, wR_var, wR_cst, wR_op, wR_cmp, wR_isc, wR_ite, wR_not, wR_bi1, wR_bi2, wR_call, wR_meth, wR_isi, wR_comp, wR_dct0, wR_glob, wT_not, wT_and, wT_or, wT_cmp, wT_isc, wT_var, wT_cst, wT_ix, wT_isi, wT_call, wT_ite, wI_enum, wI_seq, wI_range1, wI_zip, dC_v, dC_tmp, lC_tmp, tC_bl, okk_okr, put_n, put_2, put_3, put_5, setSlot, setAll, List.set, List.getElem?_cons_zero, List.getElem?_cons_succ, Option.some.injEq, exists_eq_left', add_i, sub_i, mul_i, mod_i, fdiv_i, pow_i, add_t, eq_i, ne_i, lt_i, le_i, gt_i, ge_i, eq_ni, eq_in, eq_nn, eq_s, b_tuple, b_list, b_len_t, b_abs, b_int, b_lrange, b_min, b_max, at0, at1, at2, at3, set0, set1, set2, set3, methOn, meth, okk_if, itemsOf, seqOf, src, guardOf, Option.map_some, List.length_cons, List.length_nil, List.append_assoc, List.cons_append, List.nil_append, List.length_append, Bool.not_eq_true', start, List.map_cons, List.map_nil, List.replicate, Nat.reduceSub, Nat.reduceAdd, true_and, and_true, if_true, envC, e]
      have nf : ∀ S1, gc S' (D.loc S'.length) S1 = S1 := fun S1 => by simp [gc, D.flat]
      rw [nf]
      unfold best
      rw [hF0]
end MP

set_option linter.all false
set_option autoImplicit false
namespace MP
open PySem (Str)
/-! ### change, effect, _law_effect -/
def eff (one two : Option Nat) (own : Bool) (cost : Nat) : D := match one, two with
  | none, none => .tup [.str (Str.ofString "nothing")]
  | none, some _ => .tup [.str (Str.ofString "opens")]
  | some _, none => .tup [.str (Str.ofString "shuts")]
  | some a, some b => if own = true then .tup [.str (Str.ofString "wastes"), .int ((cost : Int) + b - a)] else if a = b then .tup [.str (Str.ofString "nothing")]
    else if a < b then .tup [.str (Str.ofString "costs"), .int ((b : Int) - a)] else .tup [.str (Str.ofString "gives"), .int ((a : Int) - b)]
structure HasG (P : Prg) : Prop where
  g18 : P.gl 18 = some (.str (Str.ofString "costs"))
  g19 : P.gl 19 = some (.str (Str.ofString "gives"))
  g20 : P.gl 20 = some (.str (Str.ofString "wastes"))
  g21 : P.gl 21 = some (.str (Str.ofString "shuts"))
  g22 : P.gl 22 = some (.str (Str.ofString "opens"))
  g23 : P.gl 23 = some (.str (Str.ofString "nothing"))
theorem eO_atT {S : Store} {f : Fl} {b : Nat} (hb : b < f.length) : getIx S (.tup (f.map eO)) (.int (b : Int)) = some (eO (f.at b)) := by
  refine getIx_tup ?_
  rw [List.getElem?_map, List.getElem?_eq_getElem hb]
  simp [Fl.at, List.getElem?_eq_getElem hb]
theorem w_change {P : Prg} (hf : P.fn 4 = some fchange) (hg : HasG P) {k : Nat} {S : Store} {f : Fl} {o p c b t : Nat} (hb : b < f.length) (ht : t < f.length) :
    Okk (run P (k + 1) 4 [.tup (f.map eO), eN o, eN p, eN c, eN b, eN t] S) fun d S' => S' = S ∧ d = eff (f.at b) (f.at t) (decide (p = o)) c := by
  refine okk_run hf rfl ?_
  rw [wC_i]
  have g1 := fun S => eO_atT (S := S) hb
  have g2 := fun S => eO_atT (S := S) ht
  have ln : 1 ≤ line ∧ 2 ≤ line := by simp [line]
  simp only [fchange, wC_seq, wC_asg, wC_par, wC_sub, wC_ifc, wC_ret, wC_expr, wC_for, wC_skip, wD, wL, wR_lst, wR_nil, wR_cons, wR_cat, wR_tup, wR_ix, wR_var, wR_cst, wR_op, wR_cmp, wR_isc, wR_ite, wR_not, wR_bi1, wR_bi2, wR_call, wR_meth, wR_isi, wR_comp, wR_dct0, wR_glob, wT_not, wT_and, wT_or, wT_cmp, wT_isc, wT_var, wT_cst, wT_ix, wT_isi, wT_call, wT_ite, wI_enum, wI_seq, wI_range1, wI_zip, dC_v, dC_tmp, lC_tmp, tC_bl, okk_okr, put_n, put_2, put_3, put_5, setSlot, setAll, List.set, List.getElem?_cons_zero, List.getElem?_cons_succ, Option.some.injEq, exists_eq_left', add_i, sub_i, mul_i, mod_i, fdiv_i, pow_i, add_t, eq_i, ne_i, lt_i, le_i, gt_i, ge_i, eq_ni, eq_in, eq_nn, eq_s, b_tuple, b_list, b_len_t, b_abs, b_int, b_lrange, b_min, b_max, at0, at1, at2, at3, set0, set1, set2, set3, methOn, meth, okk_if, itemsOf, seqOf, src, guardOf, Option.map_some, List.length_cons, List.length_nil, List.append_assoc, List.cons_append, List.nil_append, List.length_append, Bool.not_eq_true', start, List.map_cons, List.map_nil, List.replicate, Nat.reduceSub, Nat.reduceAdd, true_and, and_true, if_true, eN, g1, g2]
  cases q1 : f.at b with
  | none =>
    cases q2 : f.at t with
    | none => simp only [eO, D.same, wC_seq, wC_asg, wC_par, wC_sub, wC_ifc, wC_ret, wC_expr, wC_for, wC_skip, wD, wL, wR_lst, wR_nil, wR_cons, wR_cat, wR_tup, wR_ix, wR_var, wR_cst, wR_op, wR_cmp, wR_isc, wR_ite, wR_not, wR_bi1, wR_bi2, wR_call, wR_meth, wR_isi, wR_comp, wR_dct0, wR_glob, wT_not, wT_and, wT_or, wT_cmp, wT_isc, wT_var, wT_cst, wT_ix, wT_isi, wT_call, wT_ite, wI_enum, wI_seq, wI_range1, wI_zip, dC_v, dC_tmp, lC_tmp, tC_bl, okk_okr, put_n, put_2, put_3, put_5, setSlot, setAll, List.set, List.getElem?_cons_zero, List.getElem?_cons_succ, Option.some.injEq, exists_eq_left', add_i, sub_i, mul_i, mod_i, fdiv_i, pow_i, add_t, eq_i, ne_i, lt_i, le_i, gt_i, ge_i, eq_ni, eq_in, eq_nn, eq_s, b_tuple, b_list, b_len_t, b_abs, b_int, b_lrange, b_min, b_max, at0, at1, at2, at3, set0, set1, set2, set3, methOn, meth, okk_if, itemsOf, seqOf, src, guardOf, Option.map_some, List.length_cons, List.length_nil, List.append_assoc, List.cons_append, List.nil_append, List.length_append, Bool.not_eq_true', start, List.map_cons, List.map_nil, List.replicate, Nat.reduceSub, Nat.reduceAdd, true_and, and_true, if_true, eff, hg.g23, gc_self, ln.1]; simp
    | some v => simp only [eO, D.same, wC_seq, wC_asg, wC_par, wC_sub, wC_ifc, wC_ret, wC_expr, wC_for, wC_skip, wD, wL, wR_lst, wR_nil, wR_cons, wR_cat, wR_tup, wR_ix, wR_var, wR_cst, wR_op, wR_cmp, wR_isc, wR_ite, wR_not, wR_bi1, wR_bi2, wR_call, wR_meth, wR_isi, wR_comp, wR_dct0, wR_glob, wT_not, wT_and, wT_or, wT_cmp, wT_isc, wT_var, wT_cst, wT_ix, wT_isi, wT_call, wT_ite, wI_enum, wI_seq, wI_range1, wI_zip, dC_v, dC_tmp, lC_tmp, tC_bl, okk_okr, put_n, put_2, put_3, put_5, setSlot, setAll, List.set, List.getElem?_cons_zero, List.getElem?_cons_succ, Option.some.injEq, exists_eq_left', add_i, sub_i, mul_i, mod_i, fdiv_i, pow_i, add_t, eq_i, ne_i, lt_i, le_i, gt_i, ge_i, eq_ni, eq_in, eq_nn, eq_s, b_tuple, b_list, b_len_t, b_abs, b_int, b_lrange, b_min, b_max, at0, at1, at2, at3, set0, set1, set2, set3, methOn, meth, okk_if, itemsOf, seqOf, src, guardOf, Option.map_some, List.length_cons, List.length_nil, List.append_assoc, List.cons_append, List.nil_append, List.length_append, Bool.not_eq_true', start, List.map_cons, List.map_nil, List.replicate, Nat.reduceSub, Nat.reduceAdd, true_and, and_true, if_true, eN, eff, hg.g22, gc_self, ln.1]; simp [gc_self, ln.1]
  | some u =>
    cases q2 : f.at t with
    | none => simp only [eO, D.same, wC_seq, wC_asg, wC_par, wC_sub, wC_ifc, wC_ret, wC_expr, wC_for, wC_skip, wD, wL, wR_lst, wR_nil, wR_cons, wR_cat, wR_tup, wR_ix, wR_var, wR_cst, wR_op, wR_cmp, wR_isc, wR_ite, wR_not, wR_bi1, wR_bi2, wR_call, wR_meth, wR_isi, wR_comp, wR_dct0, wR_glob, wT_not, wT_and, wT_or, wT_cmp, wT_isc, wT_var, wT_cst, wT_ix, wT_isi, wT_call, wT_ite, wI_enum, wI_seq, wI_range1, wI_zip, dC_v, dC_tmp, lC_tmp, tC_bl, okk_okr, put_n, put_2, put_3, put_5, setSlot, setAll, List.set, List.getElem?_cons_zero, List.getElem?_cons_succ, Option.some.injEq, exists_eq_left', add_i, sub_i, mul_i, mod_i, fdiv_i, pow_i, add_t, eq_i, ne_i, lt_i, le_i, gt_i, ge_i, eq_ni, eq_in, eq_nn, eq_s, b_tuple, b_list, b_len_t, b_abs, b_int, b_lrange, b_min, b_max, at0, at1, at2, at3, set0, set1, set2, set3, methOn, meth, okk_if, itemsOf, seqOf, src, guardOf, Option.map_some, List.length_cons, List.length_nil, List.append_assoc, List.cons_append, List.nil_append, List.length_append, Bool.not_eq_true', start, List.map_cons, List.map_nil, List.replicate, Nat.reduceSub, Nat.reduceAdd, true_and, and_true, if_true, eN, eff, hg.g21, gc_self, ln.1]; simp [gc_self, ln.1]
    | some v =>
      by_cases hpo : p = o
      · subst hpo
        have dt : decide ((p : Int) = (p : Int)) = true := by simp
        simp only [eO, D.same, wC_seq, wC_asg, wC_par, wC_sub, wC_ifc, wC_ret, wC_expr, wC_for, wC_skip, wD, wL, wR_lst, wR_nil, wR_cons, wR_cat, wR_tup, wR_ix, wR_var, wR_cst, wR_op, wR_cmp, wR_isc, wR_ite, wR_not, wR_bi1, wR_bi2, wR_call, wR_meth, wR_isi, wR_comp, wR_dct0, wR_glob, wT_not, wT_and, wT_or, wT_cmp, wT_isc, wT_var, wT_cst, wT_ix, wT_isi, wT_call, wT_ite, wI_enum, wI_seq, wI_range1, wI_zip, dC_v, dC_tmp, lC_tmp, tC_bl, okk_okr, put_n, put_2, put_3, put_5, setSlot, setAll, List.set, List.getElem?_cons_zero, List.getElem?_cons_succ, Option.some.injEq, exists_eq_left', add_i, sub_i, mul_i, mod_i, fdiv_i, pow_i, add_t, eq_i, ne_i, lt_i, le_i, gt_i, ge_i, eq_ni, eq_in, eq_nn, eq_s, b_tuple, b_list, b_len_t, b_abs, b_int, b_lrange, b_min, b_max, at0, at1, at2, at3, set0, set1, set2, set3, methOn, meth, okk_if, itemsOf, seqOf, src, guardOf, Option.map_some, List.length_cons, List.length_nil, List.append_assoc, List.cons_append, List.nil_append, List.length_append, Bool.not_eq_true', start, List.map_cons, List.map_nil, List.replicate, Nat.reduceSub, Nat.reduceAdd, true_and, and_true, if_true, eN, eff, hg.g20, gc_self, ln.2, dt]; simp [gc_self, ln.2]
      · have df : decide ((p : Int) = (o : Int)) = false := by simp; omega
        by_cases huv : u = v
        · subst huv
          have dt : decide ((u : Int) = (u : Int)) = true := by simp
          simp only [eO, D.same, wC_seq, wC_asg, wC_par, wC_sub, wC_ifc, wC_ret, wC_expr, wC_for, wC_skip, wD, wL, wR_lst, wR_nil, wR_cons, wR_cat, wR_tup, wR_ix, wR_var, wR_cst, wR_op, wR_cmp, wR_isc, wR_ite, wR_not, wR_bi1, wR_bi2, wR_call, wR_meth, wR_isi, wR_comp, wR_dct0, wR_glob, wT_not, wT_and, wT_or, wT_cmp, wT_isc, wT_var, wT_cst, wT_ix, wT_isi, wT_call, wT_ite, wI_enum, wI_seq, wI_range1, wI_zip, dC_v, dC_tmp, lC_tmp, tC_bl, okk_okr, put_n, put_2, put_3, put_5, setSlot, setAll, List.set, List.getElem?_cons_zero, List.getElem?_cons_succ, Option.some.injEq, exists_eq_left', add_i, sub_i, mul_i, mod_i, fdiv_i, pow_i, add_t, eq_i, ne_i, lt_i, le_i, gt_i, ge_i, eq_ni, eq_in, eq_nn, eq_s, b_tuple, b_list, b_len_t, b_abs, b_int, b_lrange, b_min, b_max, at0, at1, at2, at3, set0, set1, set2, set3, methOn, meth, okk_if, itemsOf, seqOf, src, guardOf, Option.map_some, List.length_cons, List.length_nil, List.append_assoc, List.cons_append, List.nil_append, List.length_append, Bool.not_eq_true', start, List.map_cons, List.map_nil, List.replicate, Nat.reduceSub, Nat.reduceAdd, true_and, and_true, if_true, eN, eff, hg.g23, gc_self, ln.1, df, dt]; simp [gc_self, ln.1, hpo]
        · have d1 : decide ((u : Int) = (v : Int)) = false := by simp; omega
          by_cases hlt : u < v
          · have d2 : decide ((u : Int) < (v : Int)) = true := by simp; omega
            simp only [eO, D.same, wC_seq, wC_asg, wC_par, wC_sub, wC_ifc, wC_ret, wC_expr, wC_for, wC_skip, wD, wL, wR_lst, wR_nil, wR_cons, wR_cat, wR_tup, wR_ix, wR_var, wR_cst, wR_op, wR_cmp, wR_isc, wR_ite, wR_not, wR_bi1, wR_bi2, wR_call, wR_meth, wR_isi, wR_comp, wR_dct0, wR_glob, wT_not, wT_and, wT_or, wT_cmp, wT_isc, wT_var, wT_cst, wT_ix, wT_isi, wT_call, wT_ite, wI_enum, wI_seq, wI_range1, wI_zip, dC_v, dC_tmp, lC_tmp, tC_bl, okk_okr, put_n, put_2, put_3, put_5, setSlot, setAll, List.set, List.getElem?_cons_zero, List.getElem?_cons_succ, Option.some.injEq, exists_eq_left', add_i, sub_i, mul_i, mod_i, fdiv_i, pow_i, add_t, eq_i, ne_i, lt_i, le_i, gt_i, ge_i, eq_ni, eq_in, eq_nn, eq_s, b_tuple, b_list, b_len_t, b_abs, b_int, b_lrange, b_min, b_max, at0, at1, at2, at3, set0, set1, set2, set3, methOn, meth, okk_if, itemsOf, seqOf, src, guardOf, Option.map_some, List.length_cons, List.length_nil, List.append_assoc, List.cons_append, List.nil_append, List.length_append, Bool.not_eq_true', start, List.map_cons, List.map_nil, List.replicate, Nat.reduceSub, Nat.reduceAdd, true_and, and_true, if_true, eN, eff, hg.g18, gc_self, ln.2, df, d1, d2]; simp [gc_self, ln.2, hpo, huv, hlt]
          · have d2 : decide ((u : Int) < (v : Int)) = false := by simp; omega
            simp only [eO, D.same, wC_seq, wC_asg, wC_par, wC_sub, wC_ifc, wC_ret, wC_expr, wC_for, wC_skip, wD, wL, wR_lst, wR_nil, wR_cons, wR_cat, wR_tup, wR_ix, wR_var, wR_cst, wR_op, wR_cmp, wR_isc, wR_ite, wR_not, wR_bi1, wR_bi2, wR_call, wR_meth, wR_isi, wR_comp, wR_dct0, wR_glob, wT_not, wT_and, wT_or, wT_cmp, wT_isc, wT_var, wT_cst, wT_ix, wT_isi, wT_call, wT_ite, wI_enum, wI_seq, wI_range1, wI_zip, dC_v, dC_tmp, lC_tmp, tC_bl, okk_okr, put_n, put_2, put_3, put_5, setSlot, setAll, List.set, List.getElem?_cons_zero, List.getElem?_cons_succ, Option.some.injEq, exists_eq_left', add_i, sub_i, mul_i, mod_i, fdiv_i, pow_i, add_t, eq_i, ne_i, lt_i, le_i, gt_i, ge_i, eq_ni, eq_in, eq_nn, eq_s, b_tuple, b_list, b_len_t, b_abs, b_int, b_lrange, b_min, b_max, at0, at1, at2, at3, set0, set1, set2, set3, methOn, meth, okk_if, itemsOf, seqOf, src, guardOf, Option.map_some, List.length_cons, List.length_nil, List.append_assoc, List.cons_append, List.nil_append, List.length_append, Bool.not_eq_true', start, List.map_cons, List.map_nil, List.replicate, Nat.reduceSub, Nat.reduceAdd, true_and, and_true, if_true, eN, eff, hg.g19, gc_self, ln.2, df, d1, d2]; simp [gc_self, ln.2, hpo, huv, hlt]
structure Stp (w : Wd) (b q : Nat) (r : List (Option (Nat × Nat))) (t c : Nat) : Prop where
  row : w.steps[b]? = some r
  st : r[q]? = some (some (t, c))
theorem st_at {S : Store} {r : List (Option (Nat × Nat))} {q : Nat} {s : Option (Nat × Nat)} (h : r[q]? = some s) : getIx S (eRow r) (.int (q : Int)) = some (eS s) :=
  getIx_tup (by rw [List.getElem?_map, h]; rfl)
theorem w_effect {P : Prg} (hp : Has P) (hf : P.fn 5 = some feffect) (h4 : P.fn 4 = some fchange) (hg : HasG P) {k : Nat} {S : Store} {w : Wd} (ok : w.Ok) {g o b q t c p : Nat} {r : List (Option (Nat × Nat))} (ho : w.owners[g]? = some o) (hw : w.whose[q]? = some p) (st : Stp w b q r t c) :
    Okk (run P (k + 4) 5 [eW w, eN g, eN b, eN q] S) fun d S' => S' = S ∧ d = eff ((best w g o).at b) ((best w g o).at t) (decide (p = o)) c := by
  refine okk_run hf rfl ?_
  have hb : b < w.steps.length := (List.getElem?_eq_some_iff.mp st.row).1
  have ht : t < w.steps.length := ok.to r (List.mem_of_getElem? st.row) t c (List.mem_of_getElem? st.st)
  rw [wC_i]
  simp only [feffect, wC_seq, wC_asg, wC_par, wC_sub, wC_ifc, wC_ret, wC_expr, wC_for, wC_skip, wD, wL, wR_lst, wR_nil, wR_cons, wR_cat, wR_tup, wR_ix, wR_var, wR_cst, wR_op, wR_cmp, wR_isc, wR_ite, wR_not, wR_bi1, wR_bi2, wR_call, wR_meth, wR_isi, wR_comp, wR_dct0, wR_glob, wT_not, wT_and, wT_or, wT_cmp, wT_isc, wT_var, wT_cst, wT_ix, wT_isi, wT_call, wT_ite, wI_enum, wI_seq, wI_range1, wI_zip, dC_v, dC_tmp, lC_tmp, tC_bl, okk_okr, put_n, put_2, put_3, put_5, setSlot, setAll, List.set, List.getElem?_cons_zero, List.getElem?_cons_succ, Option.some.injEq, exists_eq_left', add_i, sub_i, mul_i, mod_i, fdiv_i, pow_i, add_t, eq_i, ne_i, lt_i, le_i, gt_i, ge_i, eq_ni, eq_in, eq_nn, eq_s, b_tuple, b_list, b_len_t, b_abs, b_int, b_lrange, b_min, b_max, at0, at1, at2, at3, set0, set1, set2, set3, methOn, meth, okk_if, itemsOf, seqOf, src, guardOf, Option.map_some, List.length_cons, List.length_nil, List.append_assoc, List.cons_append, List.nil_append, List.length_append, Bool.not_eq_true', start, List.map_cons, List.map_nil, List.replicate, Nat.reduceSub, Nat.reduceAdd, true_and, and_true, if_true, eN, eW0, eRow_at st.row, st_at st.st, eS]
  refine okk_imp (w_own_floors hp ok (S := S) ho) fun d S1 h => ?_
  obtain ⟨rfl, rfl⟩ := h
  simp only [wC_seq, wC_asg, wC_par, wC_sub, wC_ifc, wC_ret, wC_expr, wC_for, wC_skip, wD, wL, wR_lst, wR_nil, wR_cons, wR_cat, wR_tup, wR_ix, wR_var, wR_cst, wR_op, wR_cmp, wR_isc, wR_ite, wR_not, wR_bi1, wR_bi2, wR_call, wR_meth, wR_isi, wR_comp, wR_dct0, wR_glob, wT_not, wT_and, wT_or, wT_cmp, wT_isc, wT_var, wT_cst, wT_ix, wT_isi, wT_call, wT_ite, wI_enum, wI_seq, wI_range1, wI_zip, dC_v, dC_tmp, lC_tmp, tC_bl, okk_okr, put_n, put_2, put_3, put_5, setSlot, setAll, List.set, List.getElem?_cons_zero, List.getElem?_cons_succ, Option.some.injEq, exists_eq_left', add_i, sub_i, mul_i, mod_i, fdiv_i, pow_i, add_t, eq_i, ne_i, lt_i, le_i, gt_i, ge_i, eq_ni, eq_in, eq_nn, eq_s, b_tuple, b_list, b_len_t, b_abs, b_int, b_lrange, b_min, b_max, at0, at1, at2, at3, set0, set1, set2, set3, methOn, meth, okk_if, itemsOf, seqOf, src, guardOf, Option.map_some, List.length_cons, List.length_nil, List.append_assoc, List.cons_append, List.nil_append, List.length_append, Bool.not_eq_true', start, List.map_cons, List.map_nil, List.replicate, Nat.reduceSub, Nat.reduceAdd, true_and, and_true, if_true, eN, eW1, eW3, eN_at ho, eN_at hw]
  refine okk_imp (w_change h4 hg (S := S1) (f := best w g o) (o := o) (p := p) (c := c) (b := b) (t := t) (by rw [best_len]; exact hb) (by rw [best_len]; exact ht)) fun d S2 h => ?_
  obtain ⟨rfl, rfl⟩ := h
  exact ⟨gc_self, rfl⟩
theorem w_leffect {P : Prg} (hf : P.fn 16 = some leffect) {k n : Nat} {S : Store} {w : Wd} (ok : w.Ok) {f : Fl} (hS : S[n]? = some (.lst (f.map eO))) (hfl : f.length = w.steps.length) {g o b q t c p : Nat} {r : List (Option (Nat × Nat))} (ho : w.owners[g]? = some o) (hw : w.whose[q]? = some p) (st : Stp w b q r t c) :
    Okk (run P (k + 1) 16 [eW w, eN g, .loc n, eN b, eN q] S) fun d S' => S' = S ∧ d = eff (f.at b) (f.at t) (decide (p = o)) c := by
  refine okk_run hf rfl ?_
  have hb : b < w.steps.length := (List.getElem?_eq_some_iff.mp st.row).1
  have ht : t < w.steps.length := ok.to r (List.mem_of_getElem? st.row) t c (List.mem_of_getElem? st.st)
  have g1 := eO_at hS (b := b) (by omega)
  have g2 := eO_at hS (b := t) (by omega)
  have ln : 1 ≤ line ∧ 2 ≤ line := by simp [line]
  rw [wC_i]
  simp only [leffect, wC_seq, wC_asg, wC_par, wC_sub, wC_ifc, wC_ret, wC_expr, wC_for, wC_skip, wD, wL, wR_lst, wR_nil, wR_cons, wR_cat, wR_tup, wR_ix, wR_var, wR_cst, wR_op, wR_cmp, wR_isc, wR_ite, wR_not, wR_bi1, wR_bi2, wR_call, wR_meth, wR_isi, wR_comp, wR_dct0, wR_glob, wT_not, wT_and, wT_or, wT_cmp, wT_isc, wT_var, wT_cst, wT_ix, wT_isi, wT_call, wT_ite, wI_enum, wI_seq, wI_range1, wI_zip, dC_v, dC_tmp, lC_tmp, tC_bl, okk_okr, put_n, put_2, put_3, put_5, setSlot, setAll, List.set, List.getElem?_cons_zero, List.getElem?_cons_succ, Option.some.injEq, exists_eq_left', add_i, sub_i, mul_i, mod_i, fdiv_i, pow_i, add_t, eq_i, ne_i, lt_i, le_i, gt_i, ge_i, eq_ni, eq_in, eq_nn, eq_s, b_tuple, b_list, b_len_t, b_abs, b_int, b_lrange, b_min, b_max, at0, at1, at2, at3, set0, set1, set2, set3, methOn, meth, okk_if, itemsOf, seqOf, src, guardOf, Option.map_some, List.length_cons, List.length_nil, List.append_assoc, List.cons_append, List.nil_append, List.length_append, Bool.not_eq_true', start, List.map_cons, List.map_nil, List.replicate, Nat.reduceSub, Nat.reduceAdd, true_and, and_true, if_true, eN, eW0, eRow_at st.row, st_at st.st, eS, g1, g2]
  cases q1 : f.at b with
  | none =>
    cases q2 : f.at t with
    | none => simp only [eO, D.same, wC_seq, wC_asg, wC_par, wC_sub, wC_ifc, wC_ret, wC_expr, wC_for, wC_skip, wD, wL, wR_lst, wR_nil, wR_cons, wR_cat, wR_tup, wR_ix, wR_var, wR_cst, wR_op, wR_cmp, wR_isc, wR_ite, wR_not, wR_bi1, wR_bi2, wR_call, wR_meth, wR_isi, wR_comp, wR_dct0, wR_glob, wT_not, wT_and, wT_or, wT_cmp, wT_isc, wT_var, wT_cst, wT_ix, wT_isi, wT_call, wT_ite, wI_enum, wI_seq, wI_range1, wI_zip, dC_v, dC_tmp, lC_tmp, tC_bl, okk_okr, put_n, put_2, put_3, put_5, setSlot, setAll, List.set, List.getElem?_cons_zero, List.getElem?_cons_succ, Option.some.injEq, exists_eq_left', add_i, sub_i, mul_i, mod_i, fdiv_i, pow_i, add_t, eq_i, ne_i, lt_i, le_i, gt_i, ge_i, eq_ni, eq_in, eq_nn, eq_s, b_tuple, b_list, b_len_t, b_abs, b_int, b_lrange, b_min, b_max, at0, at1, at2, at3, set0, set1, set2, set3, methOn, meth, okk_if, itemsOf, seqOf, src, guardOf, Option.map_some, List.length_cons, List.length_nil, List.append_assoc, List.cons_append, List.nil_append, List.length_append, Bool.not_eq_true', start, List.map_cons, List.map_nil, List.replicate, Nat.reduceSub, Nat.reduceAdd, true_and, and_true, if_true, eff, gc_self, ln.1]; simp [gc_self, ln.1]
    | some v => simp only [eO, D.same, wC_seq, wC_asg, wC_par, wC_sub, wC_ifc, wC_ret, wC_expr, wC_for, wC_skip, wD, wL, wR_lst, wR_nil, wR_cons, wR_cat, wR_tup, wR_ix, wR_var, wR_cst, wR_op, wR_cmp, wR_isc, wR_ite, wR_not, wR_bi1, wR_bi2, wR_call, wR_meth, wR_isi, wR_comp, wR_dct0, wR_glob, wT_not, wT_and, wT_or, wT_cmp, wT_isc, wT_var, wT_cst, wT_ix, wT_isi, wT_call, wT_ite, wI_enum, wI_seq, wI_range1, wI_zip, dC_v, dC_tmp, lC_tmp, tC_bl, okk_okr, put_n, put_2, put_3, put_5, setSlot, setAll, List.set, List.getElem?_cons_zero, List.getElem?_cons_succ, Option.some.injEq, exists_eq_left', add_i, sub_i, mul_i, mod_i, fdiv_i, pow_i, add_t, eq_i, ne_i, lt_i, le_i, gt_i, ge_i, eq_ni, eq_in, eq_nn, eq_s, b_tuple, b_list, b_len_t, b_abs, b_int, b_lrange, b_min, b_max, at0, at1, at2, at3, set0, set1, set2, set3, methOn, meth, okk_if, itemsOf, seqOf, src, guardOf, Option.map_some, List.length_cons, List.length_nil, List.append_assoc, List.cons_append, List.nil_append, List.length_append, Bool.not_eq_true', start, List.map_cons, List.map_nil, List.replicate, Nat.reduceSub, Nat.reduceAdd, true_and, and_true, if_true, eN, eff, gc_self, ln.1]; simp [gc_self, ln.1]
  | some u =>
    cases q2 : f.at t with
    | none => simp only [eO, D.same, wC_seq, wC_asg, wC_par, wC_sub, wC_ifc, wC_ret, wC_expr, wC_for, wC_skip, wD, wL, wR_lst, wR_nil, wR_cons, wR_cat, wR_tup, wR_ix, wR_var, wR_cst, wR_op, wR_cmp, wR_isc, wR_ite, wR_not, wR_bi1, wR_bi2, wR_call, wR_meth, wR_isi, wR_comp, wR_dct0, wR_glob, wT_not, wT_and, wT_or, wT_cmp, wT_isc, wT_var, wT_cst, wT_ix, wT_isi, wT_call, wT_ite, wI_enum, wI_seq, wI_range1, wI_zip, dC_v, dC_tmp, lC_tmp, tC_bl, okk_okr, put_n, put_2, put_3, put_5, setSlot, setAll, List.set, List.getElem?_cons_zero, List.getElem?_cons_succ, Option.some.injEq, exists_eq_left', add_i, sub_i, mul_i, mod_i, fdiv_i, pow_i, add_t, eq_i, ne_i, lt_i, le_i, gt_i, ge_i, eq_ni, eq_in, eq_nn, eq_s, b_tuple, b_list, b_len_t, b_abs, b_int, b_lrange, b_min, b_max, at0, at1, at2, at3, set0, set1, set2, set3, methOn, meth, okk_if, itemsOf, seqOf, src, guardOf, Option.map_some, List.length_cons, List.length_nil, List.append_assoc, List.cons_append, List.nil_append, List.length_append, Bool.not_eq_true', start, List.map_cons, List.map_nil, List.replicate, Nat.reduceSub, Nat.reduceAdd, true_and, and_true, if_true, eN, eff, gc_self, ln.1]; simp [gc_self, ln.1]
    | some v =>
      by_cases hpo : p = o
      · subst hpo
        have dt : decide ((p : Int) = (p : Int)) = true := by simp
        simp only [eO, D.same, wC_seq, wC_asg, wC_par, wC_sub, wC_ifc, wC_ret, wC_expr, wC_for, wC_skip, wD, wL, wR_lst, wR_nil, wR_cons, wR_cat, wR_tup, wR_ix, wR_var, wR_cst, wR_op, wR_cmp, wR_isc, wR_ite, wR_not, wR_bi1, wR_bi2, wR_call, wR_meth, wR_isi, wR_comp, wR_dct0, wR_glob, wT_not, wT_and, wT_or, wT_cmp, wT_isc, wT_var, wT_cst, wT_ix, wT_isi, wT_call, wT_ite, wI_enum, wI_seq, wI_range1, wI_zip, dC_v, dC_tmp, lC_tmp, tC_bl, okk_okr, put_n, put_2, put_3, put_5, setSlot, setAll, List.set, List.getElem?_cons_zero, List.getElem?_cons_succ, Option.some.injEq, exists_eq_left', add_i, sub_i, mul_i, mod_i, fdiv_i, pow_i, add_t, eq_i, ne_i, lt_i, le_i, gt_i, ge_i, eq_ni, eq_in, eq_nn, eq_s, b_tuple, b_list, b_len_t, b_abs, b_int, b_lrange, b_min, b_max, at0, at1, at2, at3, set0, set1, set2, set3, methOn, meth, okk_if, itemsOf, seqOf, src, guardOf, Option.map_some, List.length_cons, List.length_nil, List.append_assoc, List.cons_append, List.nil_append, List.length_append, Bool.not_eq_true', start, List.map_cons, List.map_nil, List.replicate, Nat.reduceSub, Nat.reduceAdd, true_and, and_true, if_true, eN, eW1, eW3, eN_at ho, eN_at hw, eff, gc_self, ln.2, dt]; simp [gc_self, ln.2]
      · have df : decide ((p : Int) = (o : Int)) = false := by simp; omega
        by_cases huv : u = v
        · subst huv
          have dt : decide ((u : Int) < (u : Int)) = false := by simp
          simp only [eO, D.same, wC_seq, wC_asg, wC_par, wC_sub, wC_ifc, wC_ret, wC_expr, wC_for, wC_skip, wD, wL, wR_lst, wR_nil, wR_cons, wR_cat, wR_tup, wR_ix, wR_var, wR_cst, wR_op, wR_cmp, wR_isc, wR_ite, wR_not, wR_bi1, wR_bi2, wR_call, wR_meth, wR_isi, wR_comp, wR_dct0, wR_glob, wT_not, wT_and, wT_or, wT_cmp, wT_isc, wT_var, wT_cst, wT_ix, wT_isi, wT_call, wT_ite, wI_enum, wI_seq, wI_range1, wI_zip, dC_v, dC_tmp, lC_tmp, tC_bl, okk_okr, put_n, put_2, put_3, put_5, setSlot, setAll, List.set, List.getElem?_cons_zero, List.getElem?_cons_succ, Option.some.injEq, exists_eq_left', add_i, sub_i, mul_i, mod_i, fdiv_i, pow_i, add_t, eq_i, ne_i, lt_i, le_i, gt_i, ge_i, eq_ni, eq_in, eq_nn, eq_s, b_tuple, b_list, b_len_t, b_abs, b_int, b_lrange, b_min, b_max, at0, at1, at2, at3, set0, set1, set2, set3, methOn, meth, okk_if, itemsOf, seqOf, src, guardOf, Option.map_some, List.length_cons, List.length_nil, List.append_assoc, List.cons_append, List.nil_append, List.length_append, Bool.not_eq_true', start, List.map_cons, List.map_nil, List.replicate, Nat.reduceSub, Nat.reduceAdd, true_and, and_true, if_true, eN, eW1, eW3, eN_at ho, eN_at hw, eff, gc_self, ln.1, df, dt]; simp [gc_self, ln.1, hpo]
        · by_cases hlt : u < v
          · have d2 : decide ((u : Int) < (v : Int)) = true := by simp; omega
            simp only [eO, D.same, wC_seq, wC_asg, wC_par, wC_sub, wC_ifc, wC_ret, wC_expr, wC_for, wC_skip, wD, wL, wR_lst, wR_nil, wR_cons, wR_cat, wR_tup, wR_ix, wR_var, wR_cst, wR_op, wR_cmp, wR_isc, wR_ite, wR_not, wR_bi1, wR_bi2, wR_call, wR_meth, wR_isi, wR_comp, wR_dct0, wR_glob, wT_not, wT_and, wT_or, wT_cmp, wT_isc, wT_var, wT_cst, wT_ix, wT_isi, wT_call, wT_ite, wI_enum, wI_seq, wI_range1, wI_zip, dC_v, dC_tmp, lC_tmp, tC_bl, okk_okr, put_n, put_2, put_3, put_5, setSlot, setAll, List.set, List.getElem?_cons_zero, List.getElem?_cons_succ, Option.some.injEq, exists_eq_left', add_i, sub_i, mul_i, mod_i, fdiv_i, pow_i, add_t, eq_i, ne_i, lt_i, le_i, gt_i, ge_i, eq_ni, eq_in, eq_nn, eq_s, b_tuple, b_list, b_len_t, b_abs, b_int, b_lrange, b_min, b_max, at0, at1, at2, at3, set0, set1, set2, set3, methOn, meth, okk_if, itemsOf, seqOf, src, guardOf, Option.map_some, List.length_cons, List.length_nil, List.append_assoc, List.cons_append, List.nil_append, List.length_append, Bool.not_eq_true', start, List.map_cons, List.map_nil, List.replicate, Nat.reduceSub, Nat.reduceAdd, true_and, and_true, if_true, eN, eW1, eW3, eN_at ho, eN_at hw, eff, gc_self, ln.2, df, d2]; simp [gc_self, ln.2, hpo, huv, hlt]
          · have d2 : decide ((u : Int) < (v : Int)) = false := by simp; omega
            have d3 : decide ((v : Int) < (u : Int)) = true := by simp; omega
            simp only [eO, D.same, wC_seq, wC_asg, wC_par, wC_sub, wC_ifc, wC_ret, wC_expr, wC_for, wC_skip, wD, wL, wR_lst, wR_nil, wR_cons, wR_cat, wR_tup, wR_ix, wR_var, wR_cst, wR_op, wR_cmp, wR_isc, wR_ite, wR_not, wR_bi1, wR_bi2, wR_call, wR_meth, wR_isi, wR_comp, wR_dct0, wR_glob, wT_not, wT_and, wT_or, wT_cmp, wT_isc, wT_var, wT_cst, wT_ix, wT_isi, wT_call, wT_ite, wI_enum, wI_seq, wI_range1, wI_zip, dC_v, dC_tmp, lC_tmp, tC_bl, okk_okr, put_n, put_2, put_3, put_5, setSlot, setAll, List.set, List.getElem?_cons_zero, List.getElem?_cons_succ, Option.some.injEq, exists_eq_left', add_i, sub_i, mul_i, mod_i, fdiv_i, pow_i, add_t, eq_i, ne_i, lt_i, le_i, gt_i, ge_i, eq_ni, eq_in, eq_nn, eq_s, b_tuple, b_list, b_len_t, b_abs, b_int, b_lrange, b_min, b_max, at0, at1, at2, at3, set0, set1, set2, set3, methOn, meth, okk_if, itemsOf, seqOf, src, guardOf, Option.map_some, List.length_cons, List.length_nil, List.append_assoc, List.cons_append, List.nil_append, List.length_append, Bool.not_eq_true', start, List.map_cons, List.map_nil, List.replicate, Nat.reduceSub, Nat.reduceAdd, true_and, and_true, if_true, eN, eW1, eW3, eN_at ho, eN_at hw, eff, gc_self, ln.2, df, d2, d3]; simp [gc_self, ln.2, hpo, huv, hlt]

/-! ### _law_same -/
mutual
def D.plain : D → Bool
  | .tup xs => D.plains xs
  | .loc _ => false
  | _ => true
def D.plains : List D → Bool
  | [] => true
  | x :: r => D.plain x && D.plains r
end
theorem plains_mem : ∀ {ds : List D} {d : D}, D.plains ds = true → d ∈ ds → d.plain = true ∧ d.depth ≤ D.depths ds
  | x :: r, d, h, hm => by
    simp only [D.plains, Bool.and_eq_true] at h
    simp only [D.depths]
    rcases List.mem_cons.mp hm with rfl | hm
    · exact ⟨h.1, Nat.le_max_left ..⟩
    · obtain ⟨h1, h2⟩ := plains_mem h.2 hm
      exact ⟨h1, Nat.le_trans h2 (Nat.le_max_right ..)⟩
theorem zip_at : ∀ {xs ys : List D} {j : Nat} {x : D}, (zipL xs ys)[j]? = some x → ∃ a b, xs[j]? = some a ∧ ys[j]? = some b ∧ x = .tup [a, b]
  | a :: xs, b :: ys, 0, x, h => by simp [zipL] at h; exact ⟨a, b, rfl, rfl, h.symm⟩
  | a :: xs, b :: ys, j + 1, x, h => by
    simp only [zipL, List.getElem?_cons_succ] at h ⊢
    exact zip_at h
  | [], _, _, _, h => by simp [zipL] at h
  | _ :: _, [], _, _, h => by simp [zipL] at h
theorem w_same0 {P : Prg} (hf : P.fn 9 = some lsame) {S : Store} (d : D) (hd : d.depth = 0) (hp : d.plain = true) (k : Nat) : Okk (run P (k + 1) 9 [d, d] S) fun r S' => S' = S ∧ r = .bl true := by
  refine okk_run hf rfl ?_
  rw [wC_i]
  cases d with
  | tup xs => simp [D.depth] at hd
  | loc n => simp [D.plain] at hp
  | non => simp [lsame, wC_seq, wC_asg, wC_par, wC_sub, wC_ifc, wC_ret, wC_expr, wC_for, wC_skip, wD, wL, wR_lst, wR_nil, wR_cons, wR_cat, wR_tup, wR_ix, wR_var, wR_cst, wR_op, wR_cmp, wR_isc, wR_ite, wR_not, wR_bi1, wR_bi2, wR_call, wR_meth, wR_isi, wR_comp, wR_dct0, wR_glob, wT_not, wT_and, wT_or, wT_cmp, wT_isc, wT_var, wT_cst, wT_ix, wT_isi, wT_call, wT_ite, wI_enum, wI_seq, wI_range1, wI_zip, dC_v, dC_tmp, lC_tmp, tC_bl, okk_okr, put_n, put_2, put_3, put_5, setSlot, setAll, List.set, List.getElem?_cons_zero, List.getElem?_cons_succ, Option.some.injEq, exists_eq_left', add_i, sub_i, mul_i, mod_i, fdiv_i, pow_i, add_t, eq_i, ne_i, lt_i, le_i, gt_i, ge_i, eq_ni, eq_in, eq_nn, eq_s, b_tuple, b_list, b_len_t, b_abs, b_int, b_lrange, b_min, b_max, at0, at1, at2, at3, set0, set1, set2, set3, methOn, meth, okk_if, itemsOf, seqOf, src, guardOf, Option.map_some, List.length_cons, List.length_nil, List.append_assoc, List.cons_append, List.nil_append, List.length_append, Bool.not_eq_true', start, List.map_cons, List.map_nil, List.replicate, Nat.reduceSub, Nat.reduceAdd, true_and, and_true, if_true, tyOf, D.same, isTy, gc_self]
  | bl b => cases b <;> simp [lsame, wC_seq, wC_asg, wC_par, wC_sub, wC_ifc, wC_ret, wC_expr, wC_for, wC_skip, wD, wL, wR_lst, wR_nil, wR_cons, wR_cat, wR_tup, wR_ix, wR_var, wR_cst, wR_op, wR_cmp, wR_isc, wR_ite, wR_not, wR_bi1, wR_bi2, wR_call, wR_meth, wR_isi, wR_comp, wR_dct0, wR_glob, wT_not, wT_and, wT_or, wT_cmp, wT_isc, wT_var, wT_cst, wT_ix, wT_isi, wT_call, wT_ite, wI_enum, wI_seq, wI_range1, wI_zip, dC_v, dC_tmp, lC_tmp, tC_bl, okk_okr, put_n, put_2, put_3, put_5, setSlot, setAll, List.set, List.getElem?_cons_zero, List.getElem?_cons_succ, Option.some.injEq, exists_eq_left', add_i, sub_i, mul_i, mod_i, fdiv_i, pow_i, add_t, eq_i, ne_i, lt_i, le_i, gt_i, ge_i, eq_ni, eq_in, eq_nn, eq_s, b_tuple, b_list, b_len_t, b_abs, b_int, b_lrange, b_min, b_max, at0, at1, at2, at3, set0, set1, set2, set3, methOn, meth, okk_if, itemsOf, seqOf, src, guardOf, Option.map_some, List.length_cons, List.length_nil, List.append_assoc, List.cons_append, List.nil_append, List.length_append, Bool.not_eq_true', start, List.map_cons, List.map_nil, List.replicate, Nat.reduceSub, Nat.reduceAdd, true_and, and_true, if_true, wR_and, tyOf, D.same, isTy, gc_self, truth, cmpop, eqD, D.fine, D.lay, D.depth, D.eqv]
  | int i => simp [lsame, wC_seq, wC_asg, wC_par, wC_sub, wC_ifc, wC_ret, wC_expr, wC_for, wC_skip, wD, wL, wR_lst, wR_nil, wR_cons, wR_cat, wR_tup, wR_ix, wR_var, wR_cst, wR_op, wR_cmp, wR_isc, wR_ite, wR_not, wR_bi1, wR_bi2, wR_call, wR_meth, wR_isi, wR_comp, wR_dct0, wR_glob, wT_not, wT_and, wT_or, wT_cmp, wT_isc, wT_var, wT_cst, wT_ix, wT_isi, wT_call, wT_ite, wI_enum, wI_seq, wI_range1, wI_zip, dC_v, dC_tmp, lC_tmp, tC_bl, okk_okr, put_n, put_2, put_3, put_5, setSlot, setAll, List.set, List.getElem?_cons_zero, List.getElem?_cons_succ, Option.some.injEq, exists_eq_left', add_i, sub_i, mul_i, mod_i, fdiv_i, pow_i, add_t, eq_i, ne_i, lt_i, le_i, gt_i, ge_i, eq_ni, eq_in, eq_nn, eq_s, b_tuple, b_list, b_len_t, b_abs, b_int, b_lrange, b_min, b_max, at0, at1, at2, at3, set0, set1, set2, set3, methOn, meth, okk_if, itemsOf, seqOf, src, guardOf, Option.map_some, List.length_cons, List.length_nil, List.append_assoc, List.cons_append, List.nil_append, List.length_append, Bool.not_eq_true', start, List.map_cons, List.map_nil, List.replicate, Nat.reduceSub, Nat.reduceAdd, true_and, and_true, if_true, wR_and, tyOf, D.same, isTy, gc_self, truth]
  | str x =>
    have a1 : ([Ty.tuple].any (isTy Ty.str)) = false := rfl
    have a2 : ([Ty.int].any (isTy Ty.str)) = false := rfl
    have a3 : ([Ty.str].any (isTy Ty.str)) = true := rfl
    have t1 : ∀ S, truth S (.bl true) = some true := fun _ => rfl
    have s1 : D.same (.str x) .non = false := rfl
    have s2 : D.same (.str x) (.bl true) = false := rfl
    have s3 : D.same (.str x) (.bl false) = false := rfl
    have ty : ∀ S, tyOf S (.str x) = some .str := fun _ => rfl
    have ee : ∀ S, cmpop .eq (.str x) (.str x) S = some true := fun S => by rw [eq_s]; simp
    have ff : (false != false) = false := rfl
    generalize D.str x = z at *
    simp only [lsame, wC_seq, wC_ifc, wT_isi, wT_isc, wT_or, wC_skip, wD, wR_var, start, List.map_cons, List.map_nil, List.length_cons, List.length_nil, List.replicate, Nat.reduceSub, Nat.reduceAdd, List.cons_append, List.nil_append, List.getElem?_cons_zero, List.getElem?_cons_succ, Option.some.injEq, exists_eq_left', dC_v, ty, s1, s2, s3, ff, a1, a2, Bool.false_eq_true, if_false]
    simp only [wC_ret, wD, wR_and, wR_isi, wR_cmp, wR_var, List.getElem?_cons_zero, List.getElem?_cons_succ, Option.some.injEq, exists_eq_left', dC_v, ty, a3, t1, ee, if_true]
    exact ⟨gc_self, trivial⟩
theorem w_same {P : Prg} (hf : P.fn 9 = some lsame) {S : Store} : ∀ (n : Nat) (d : D), d.depth ≤ n → d.plain = true → ∀ k, Okk (run P (k + n + 1) 9 [d, d] S) fun r S' => S' = S ∧ r = .bl true := by
  intro n
  induction n with
  | zero => intro d hd hp k; exact w_same0 hf d (by omega) hp k
  | succ n ih =>
    intro d hd hp k
    cases d with
    | tup xs =>
      have hxs : ∀ x ∈ xs, x.plain = true ∧ x.depth ≤ n := fun x hx => by
        obtain ⟨h1, h2⟩ := plains_mem (by simpa [D.plain] using hp) hx
        simp only [D.depth] at hd
        exact ⟨h1, by omega⟩
      refine okk_run hf rfl ?_
      rw [wC_i]
      simp only [lsame, wC_seq, wC_asg, wC_par, wC_sub, wC_ifc, wC_ret, wC_expr, wC_for, wC_skip, wD, wL, wR_lst, wR_nil, wR_cons, wR_cat, wR_tup, wR_ix, wR_var, wR_cst, wR_op, wR_cmp, wR_isc, wR_ite, wR_not, wR_bi1, wR_bi2, wR_call, wR_meth, wR_isi, wR_comp, wR_dct0, wR_glob, wT_not, wT_and, wT_or, wT_cmp, wT_isc, wT_var, wT_cst, wT_ix, wT_isi, wT_call, wT_ite, wI_enum, wI_seq, wI_range1, wI_zip, dC_v, dC_tmp, lC_tmp, tC_bl, okk_okr, put_n, put_2, put_3, put_5, setSlot, setAll, List.set, List.getElem?_cons_zero, List.getElem?_cons_succ, Option.some.injEq, exists_eq_left', add_i, sub_i, mul_i, mod_i, fdiv_i, pow_i, add_t, eq_i, ne_i, lt_i, le_i, gt_i, ge_i, eq_ni, eq_in, eq_nn, eq_s, b_tuple, b_list, b_len_t, b_abs, b_int, b_lrange, b_min, b_max, at0, at1, at2, at3, set0, set1, set2, set3, methOn, meth, okk_if, itemsOf, seqOf, src, guardOf, Option.map_some, List.length_cons, List.length_nil, List.append_assoc, List.cons_append, List.nil_append, List.length_append, Bool.not_eq_true', start, List.map_cons, List.map_nil, List.replicate, Nat.reduceSub, Nat.reduceAdd, true_and, and_true, if_true, tyOf, D.same, List.any, isTy, decide_true, Bool.or_false, beq_self_eq_true, Bool.true_eq_false, if_false]
      refine okk_for (fun j env S' => j ≤ xs.length ∧ S' = S ∧ ∃ x2 x3, env = [some (.tup xs), some (.tup xs), x2, x3]) ?_ ?_ ?_ ?_
      · exact ⟨Nat.zero_le _, rfl, _, _, rfl⟩
      · intros; rfl
      · rintro j x env S' hx ⟨hj, rfl, x2, x3, rfl⟩
        obtain ⟨a, b, h1, h2, rfl⟩ := zip_at hx
        rw [h1] at h2
        cases h2
        have hj' : j < xs.length := (List.getElem?_eq_some_iff.mp h1).1
        refine ⟨_, rfl, ?_⟩
        simp only [wC_i, wC_seq, wC_asg, wC_par, wC_sub, wC_ifc, wC_ret, wC_expr, wC_for, wC_skip, wD, wL, wR_lst, wR_nil, wR_cons, wR_cat, wR_tup, wR_ix, wR_var, wR_cst, wR_op, wR_cmp, wR_isc, wR_ite, wR_not, wR_bi1, wR_bi2, wR_call, wR_meth, wR_isi, wR_comp, wR_dct0, wR_glob, wT_not, wT_and, wT_or, wT_cmp, wT_isc, wT_var, wT_cst, wT_ix, wT_isi, wT_call, wT_ite, wI_enum, wI_seq, wI_range1, wI_zip, dC_v, dC_tmp, lC_tmp, tC_bl, okk_okr, put_n, put_2, put_3, put_5, setSlot, setAll, List.set, List.getElem?_cons_zero, List.getElem?_cons_succ, Option.some.injEq, exists_eq_left', add_i, sub_i, mul_i, mod_i, fdiv_i, pow_i, add_t, eq_i, ne_i, lt_i, le_i, gt_i, ge_i, eq_ni, eq_in, eq_nn, eq_s, b_tuple, b_list, b_len_t, b_abs, b_int, b_lrange, b_min, b_max, at0, at1, at2, at3, set0, set1, set2, set3, methOn, meth, okk_if, itemsOf, seqOf, src, guardOf, Option.map_some, List.length_cons, List.length_nil, List.append_assoc, List.cons_append, List.nil_append, List.length_append, Bool.not_eq_true', start, List.map_cons, List.map_nil, List.replicate, Nat.reduceSub, Nat.reduceAdd, true_and, and_true, if_true]
        obtain ⟨p1, p2⟩ := hxs a (List.mem_of_getElem? h1)
        have e : k + (n + 1) = k + n + 1 := by omega
        rw [e]
        refine okk_imp (ih a p2 p1 k) fun r S2 h => ?_
        obtain ⟨rfl, rfl⟩ := h
        simp [tC, truth]
        omega
      · rintro env S' ⟨_, rfl, x2, x3, rfl⟩
        simp only [wC_seq, wC_asg, wC_par, wC_sub, wC_ifc, wC_ret, wC_expr, wC_for, wC_skip, wD, wL, wR_lst, wR_nil, wR_cons, wR_cat, wR_tup, wR_ix, wR_var, wR_cst, wR_op, wR_cmp, wR_isc, wR_ite, wR_not, wR_bi1, wR_bi2, wR_call, wR_meth, wR_isi, wR_comp, wR_dct0, wR_glob, wT_not, wT_and, wT_or, wT_cmp, wT_isc, wT_var, wT_cst, wT_ix, wT_isi, wT_call, wT_ite, wI_enum, wI_seq, wI_range1, wI_zip, dC_v, dC_tmp, lC_tmp, tC_bl, okk_okr, put_n, put_2, put_3, put_5, setSlot, setAll, List.set, List.getElem?_cons_zero, List.getElem?_cons_succ, Option.some.injEq, exists_eq_left', add_i, sub_i, mul_i, mod_i, fdiv_i, pow_i, add_t, eq_i, ne_i, lt_i, le_i, gt_i, ge_i, eq_ni, eq_in, eq_nn, eq_s, b_tuple, b_list, b_len_t, b_abs, b_int, b_lrange, b_min, b_max, at0, at1, at2, at3, set0, set1, set2, set3, methOn, meth, okk_if, itemsOf, seqOf, src, guardOf, Option.map_some, List.length_cons, List.length_nil, List.append_assoc, List.cons_append, List.nil_append, List.length_append, Bool.not_eq_true', start, List.map_cons, List.map_nil, List.replicate, Nat.reduceSub, Nat.reduceAdd, true_and, and_true, if_true]
        exact gc_self
    | loc m => simp [D.plain] at hp
    | non => have e : k + (n + 1) + 1 = (k + n + 1) + 1 := by omega
             rw [e]; exact w_same0 hf _ rfl hp _
    | bl b => have e : k + (n + 1) + 1 = (k + n + 1) + 1 := by omega
              rw [e]; exact w_same0 hf _ rfl hp _
    | int i => have e : k + (n + 1) + 1 = (k + n + 1) + 1 := by omega
               rw [e]; exact w_same0 hf _ rfl hp _
    | str x => have e : k + (n + 1) + 1 = (k + n + 1) + 1 := by omega
               rw [e]; exact w_same0 hf _ rfl hp _
theorem eff_plain (a b : Option Nat) (o : Bool) (c : Nat) : (eff a b o c).plain = true ∧ (eff a b o c).depth ≤ 1 := by
  cases a <;> cases b <;> simp only [eff]
  · exact ⟨rfl, Nat.le_refl _⟩
  · exact ⟨rfl, Nat.le_refl _⟩
  · exact ⟨rfl, Nat.le_refl _⟩
  · split
    · exact ⟨rfl, Nat.le_refl _⟩
    · split
      · exact ⟨rfl, Nat.le_refl _⟩
      · split <;> exact ⟨rfl, Nat.le_refl _⟩
theorem plains_eO : ∀ f : Fl, D.plains (f.map eO) = true ∧ D.depths (f.map eO) = 0
  | [] => ⟨rfl, rfl⟩
  | a :: r => by
    obtain ⟨h1, h2⟩ := plains_eO r
    simp only [List.map_cons, D.plains, D.depths, h1, h2]
    cases a <;> exact ⟨rfl, rfl⟩
end MP

set_option linter.all false
set_option maxRecDepth 100000
set_option autoImplicit false
namespace MP
open PySem (Str)
/-! ### the box of draws -/
theorem gc_set {S : Store} {n : Nat} {c : Cell} {d : D} : gc S d (S.set n c) = S.set n c := by
  unfold gc
  split
  · rw [List.take_of_length_le (by simp)]
  · rfl
theorem kept_set : ∀ (S T : Store) (n : Nat) (c : Cell), c.flat = true → kept S (S.set n c ++ T) = true
  | [], T, n, c, h => by cases T <;> rfl
  | x :: r, T, 0, c, h => by simp only [List.set_cons_zero, List.cons_append, kept, h, Bool.true_or, Bool.true_and]; exact kept_refl r T
  | x :: r, T, n + 1, c, h => by simp only [List.set_cons_succ, List.cons_append, kept, csame_refl, Bool.or_true, Bool.true_and]; exact kept_set r T n c h
theorem gc_box {S T : Store} {n : Nat} {c : Cell} {d : D} (hd : d.flat = true) (hc : c.flat = true) : gc S d (S.set n c ++ T) = S.set n c := by
  unfold gc
  rw [hd, kept_set S T n c hc]
  simp [List.take_append_of_le_length]
/-- S0 is S but for the draws left in the box at n -/
structure Bx (S : Store) (n : Nat) (S0 : Store) : Prop where
  lt : n < S.length
  ex : ∃ a b, S0 = S.set n (.lst [.int a, .int b])
theorem Bx.len {S S0 : Store} {n : Nat} (h : Bx S n S0) : S0.length = S.length := by
  obtain ⟨a, b, rfl⟩ := h.ex
  simp
theorem Bx.at_ {S S0 T : Store} {n : Nat} (h : Bx S n S0) : ∃ a b, (S0 ++ T)[n]? = some (.lst [.int a, .int b]) := by
  obtain ⟨a, b, rfl⟩ := h.ex
  have := h.lt
  refine ⟨a, b, ?_⟩
  rw [List.getElem?_append_left (by simpa using this), List.getElem?_set_self this]
theorem Bx.set {S S0 T : Store} {n : Nat} (h : Bx S n S0) (a b : Int) : ∃ S1, Bx S n S1 ∧ (S0 ++ T).set n (.lst [.int a, .int b]) = S1 ++ T := by
  obtain ⟨a', b', rfl⟩ := h.ex
  have := h.lt
  refine ⟨S.set n (.lst [.int a, .int b]), ⟨this, a, b, rfl⟩, ?_⟩
  rw [List.set_append_left _ _ (by simpa using this), List.set_set]
theorem Bx.self {S : Store} {n : Nat} {a b : Int} (h : S[n]? = some (.lst [.int a, .int b])) : Bx S n S := by
  refine ⟨(List.getElem?_eq_some_iff.mp h).1, a, b, ?_⟩
  apply List.ext_getElem?
  intro i
  by_cases hi : i = n
  · subst hi
    rw [List.getElem?_set_self (List.getElem?_eq_some_iff.mp h).1, h]
  · rw [List.getElem?_set_ne (Ne.symm hi)]
theorem Bx.gc {S S0 T : Store} {n : Nat} {d : D} (h : Bx S n S0) (hd : d.flat = true) : MP.gc S d (S0 ++ T) = S0 := by
  obtain ⟨a, b, rfl⟩ := h.ex
  exact gc_box hd rfl
theorem ix0 (S : Store) {n : Nat} {a b : D} (h : S[n]? = some (.lst [a, b])) : getIx S (.loc n) (.int 0) = some a := getIx_lst (i := 0) h rfl
theorem ix1 (S : Store) {n : Nat} {a b : D} (h : S[n]? = some (.lst [a, b])) : getIx S (.loc n) (.int 1) = some b := getIx_lst (i := 1) h rfl
theorem st0 (S : Store) {n : Nat} {a b v : D} (h : S[n]? = some (.lst [a, b])) : setIx S (.loc n) (.int 0) v = some (S.set n (.lst [v, b])) := setIx_lst (i := 0) h (by simp)
theorem st1 (S : Store) {n : Nat} {a b v : D} (h : S[n]? = some (.lst [a, b])) : setIx S (.loc n) (.int 1) v = some (S.set n (.lst [a, v])) := setIx_lst (i := 1) h (by simp)
theorem emod_nat (i : Int) {m : Nat} (h : 0 < m) : ∃ r : Nat, i % (m : Int) = (r : Int) ∧ r < m := by
  have h1 := Int.emod_nonneg i (b := (m : Int)) (by omega)
  have h2 := Int.emod_lt_of_pos i (b := (m : Int)) (by omega)
  exact ⟨(i % (m : Int)).toNat, by omega, by omega⟩
theorem w_take {P : Prg} (hf : P.fn 7 = some ltake) {k n m : Nat} {S : Store} {a b : Int} (hS : S[n]? = some (.lst [.int a, .int b])) (hm : 0 < m) (hm2 : m < 1000) :
    Okk (run P (k + 1) 7 [.loc n, eN m] S) fun d S' => ∃ a' b' r, S' = S.set n (.lst [.int a', .int b']) ∧ d = eN r ∧ r < m := by
  refine okk_run hf rfl ?_
  rw [wC_i]
  have c1 : 0 < (m : Int) := by omega
  have c2 : (m : Int) < 1073741824 := by omega
  have hn := (List.getElem?_eq_some_iff.mp hS).1
  have s1 : small64 39373 = true := by decide
  have s2 : small64 40692 = true := by decide
  have s3 : small64 2147483629 = true := by decide
  simp only [ltake, wC_seq, wC_asg, wC_par, wC_sub, wC_ifc, wC_ret, wC_expr, wC_for, wC_skip, wD, wL, wR_lst, wR_nil, wR_cons, wR_cat, wR_tup, wR_ix, wR_var, wR_cst, wR_op, wR_cmp, wR_isc, wR_ite, wR_not, wR_bi1, wR_bi2, wR_call, wR_meth, wR_isi, wR_comp, wR_dct0, wR_glob, wT_not, wT_and, wT_or, wT_cmp, wT_isc, wT_var, wT_cst, wT_ix, wT_isi, wT_call, wT_ite, wI_enum, wI_seq, wI_range1, wI_zip, dC_v, dC_tmp, lC_tmp, tC_bl, okk_okr, put_n, put_2, put_3, put_5, setSlot, setAll, List.set, List.getElem?_cons_zero, List.getElem?_cons_succ, Option.some.injEq, exists_eq_left', add_i, sub_i, mul_i, mod_i, fdiv_i, add_t, eq_i, ne_i, lt_i, le_i, gt_i, ge_i, eq_ni, eq_in, eq_nn, eq_s, b_tuple, b_list, b_len_t, b_abs, b_int, b_lrange, b_min, b_max, at0, at1, at2, at3, set0, set1, set2, set3, methOn, meth, okk_if, itemsOf, seqOf, src, guardOf, Option.map_some, List.length_cons, List.length_nil, List.append_assoc, List.cons_append, List.nil_append, List.length_append, Bool.not_eq_true', start, List.map_cons, List.map_nil, List.replicate, Nat.reduceSub, Nat.reduceAdd, true_and, and_true, if_true, eN, ix0 S hS]
  by_cases ha : 0 < a
  · have : decide (0 < a) = true := by simp [ha]
    simp only [this, wC_seq, wC_asg, wC_par, wC_sub, wC_ifc, wC_ret, wC_expr, wC_for, wC_skip, wD, wL, wR_lst, wR_nil, wR_cons, wR_cat, wR_tup, wR_ix, wR_var, wR_cst, wR_op, wR_cmp, wR_isc, wR_ite, wR_not, wR_bi1, wR_bi2, wR_call, wR_meth, wR_isi, wR_comp, wR_dct0, wR_glob, wT_not, wT_and, wT_or, wT_cmp, wT_isc, wT_var, wT_cst, wT_ix, wT_isi, wT_call, wT_ite, wI_enum, wI_seq, wI_range1, wI_zip, dC_v, dC_tmp, lC_tmp, tC_bl, okk_okr, put_n, put_2, put_3, put_5, setSlot, setAll, List.set, List.getElem?_cons_zero, List.getElem?_cons_succ, Option.some.injEq, exists_eq_left', add_i, sub_i, mul_i, mod_i, fdiv_i, add_t, eq_i, ne_i, lt_i, le_i, gt_i, ge_i, eq_ni, eq_in, eq_nn, eq_s, b_tuple, b_list, b_len_t, b_abs, b_int, b_lrange, b_min, b_max, at0, at1, at2, at3, set0, set1, set2, set3, methOn, meth, okk_if, itemsOf, seqOf, src, guardOf, Option.map_some, List.length_cons, List.length_nil, List.append_assoc, List.cons_append, List.nil_append, List.length_append, Bool.not_eq_true', start, List.map_cons, List.map_nil, List.replicate, Nat.reduceSub, Nat.reduceAdd, true_and, and_true, if_true, ix0 S hS, st0 S hS, c1, c2, gc_set]
    obtain ⟨r, e, hr⟩ := emod_nat a hm
    exact ⟨_, _, r, rfl, by rw [e], hr⟩
  · have : decide (0 < a) = false := by simp [ha]
    simp only [this, Bool.false_eq_true, if_false, wC_seq, wC_asg, wC_par, wC_sub, wC_ifc, wC_ret, wC_expr, wC_for, wC_skip, wD, wL, wR_lst, wR_nil, wR_cons, wR_cat, wR_tup, wR_ix, wR_var, wR_cst, wR_op, wR_cmp, wR_isc, wR_ite, wR_not, wR_bi1, wR_bi2, wR_call, wR_meth, wR_isi, wR_comp, wR_dct0, wR_glob, wT_not, wT_and, wT_or, wT_cmp, wT_isc, wT_var, wT_cst, wT_ix, wT_isi, wT_call, wT_ite, wI_enum, wI_seq, wI_range1, wI_zip, dC_v, dC_tmp, lC_tmp, tC_bl, okk_okr, put_n, put_2, put_3, put_5, setSlot, setAll, List.set, List.getElem?_cons_zero, List.getElem?_cons_succ, Option.some.injEq, exists_eq_left', add_i, sub_i, mul_i, mod_i, fdiv_i, add_t, eq_i, ne_i, lt_i, le_i, gt_i, ge_i, eq_ni, eq_in, eq_nn, eq_s, b_tuple, b_list, b_len_t, b_abs, b_int, b_lrange, b_min, b_max, at0, at1, at2, at3, set0, set1, set2, set3, methOn, meth, okk_if, itemsOf, seqOf, src, guardOf, Option.map_some, List.length_cons, List.length_nil, List.append_assoc, List.cons_append, List.nil_append, List.length_append, Bool.not_eq_true', start, List.map_cons, List.map_nil, List.replicate, Nat.reduceSub, Nat.reduceAdd, true_and, and_true, if_true, ix1 S hS, st1 S hS, s1, s2, s3, Bool.or_true]
    have hS' : ∀ v : Int, (S.set n (.lst [.int a, .int v]))[n]? = some (.lst [.int a, .int v]) := fun v => by rw [List.getElem?_set_self hn]
    have c3 : (0 : Int) < 2147483647 := by decide
    have c4 : (0 : Int) < 2147483563 := by decide
    have c5 : (0 : Int) < 8273 ∧ (8273 : Int) < 1073741824 := by decide
    refine ⟨c3, c4, ?_⟩
    rw [ix1 _ (hS' _)]
    simp only [wC_seq, wC_asg, wC_par, wC_sub, wC_ifc, wC_ret, wC_expr, wC_for, wC_skip, wD, wL, wR_lst, wR_nil, wR_cons, wR_cat, wR_tup, wR_ix, wR_var, wR_cst, wR_op, wR_cmp, wR_isc, wR_ite, wR_not, wR_bi1, wR_bi2, wR_call, wR_meth, wR_isi, wR_comp, wR_dct0, wR_glob, wT_not, wT_and, wT_or, wT_cmp, wT_isc, wT_var, wT_cst, wT_ix, wT_isi, wT_call, wT_ite, wI_enum, wI_seq, wI_range1, wI_zip, dC_v, dC_tmp, lC_tmp, tC_bl, okk_okr, put_n, put_2, put_3, put_5, setSlot, setAll, List.set, List.getElem?_cons_zero, List.getElem?_cons_succ, Option.some.injEq, exists_eq_left', add_i, sub_i, mul_i, mod_i, fdiv_i, add_t, eq_i, ne_i, lt_i, le_i, gt_i, ge_i, eq_ni, eq_in, eq_nn, eq_s, b_tuple, b_list, b_len_t, b_abs, b_int, b_lrange, b_min, b_max, at0, at1, at2, at3, set0, set1, set2, set3, methOn, meth, okk_if, itemsOf, seqOf, src, guardOf, Option.map_some, List.length_cons, List.length_nil, List.append_assoc, List.cons_append, List.nil_append, List.length_append, Bool.not_eq_true', start, List.map_cons, List.map_nil, List.replicate, Nat.reduceSub, Nat.reduceAdd, true_and, and_true, if_true, c5]
    obtain ⟨r, e, hr⟩ := emod_nat ((b * 39373 + 229) % 2147483647 * 2147483629 + (((b * 39373 + 229) % 2147483647 * 40692 + 103) % 2147483563 + 1) |> fun x => x / 8273) hm
    refine ⟨c1, ?_⟩
    rw [gc_set]
    exact ⟨_, _, r, rfl, by rw [← e], hr⟩
theorem take_in {P : Prg} (hf : P.fn 7 = some ltake) {k n m : Nat} {S S0 T : Store} (h : Bx S n S0) (hm : 0 < m) (hm2 : m < 1000) {Φ : D → Store → Prop} (hΦ : ∀ S1 r, Bx S n S1 → r < m → Φ (eN r) (S1 ++ T)) :
    Okk (run P (k + 1) 7 [.loc n, eN m] (S0 ++ T)) Φ := by
  obtain ⟨a, b, h1⟩ := h.at_ (T := T)
  refine okk_imp (w_take hf h1 hm hm2) fun d S' hq => ?_
  obtain ⟨a', b', r, rfl, rfl, hr⟩ := hq
  obtain ⟨S1, h2, h3⟩ := h.set (T := T) a' b'
  rw [h3]
  exact hΦ S1 r h2 hr
theorem w_pick {P : Prg} (h7 : P.fn 7 = some ltake) (hf : P.fn 8 = some lpick) {k n : Nat} {S S0 T : Store} (h : Bx S n S0) {Φ : D → Store → Prop} (hΦ : ∀ S1 r, Bx S n S1 → Φ (eN r) (S1 ++ (T ++ [.lst [.int 0, .int 1, .int 1, .int 2, .int 3]]))) :
    Okk (run P (k + 2) 8 [.loc n, .loc (S0 ++ T).length] (S0 ++ T ++ [.lst [.int 0, .int 1, .int 1, .int 2, .int 3]])) Φ := by
  refine okk_run hf rfl ?_
  rw [wC_i]
  have hl := h.len
  have e : ∀ S1 : Store, S1.length = S0.length → (S1 ++ (T ++ [Cell.lst [.int 0, .int 1, .int 1, .int 2, .int 3]]))[S0.length + T.length]? = some (.lst [.int 0, .int 1, .int 1, .int 2, .int 3]) := fun S1 h1 => by
    rw [← List.append_assoc, List.getElem?_append_right (by simp; omega)]
    simp [h1]
  simp only [lpick, wC_seq, wC_asg, wC_par, wC_sub, wC_ifc, wC_ret, wC_expr, wC_for, wC_skip, wD, wL, wR_lst, wR_nil, wR_cons, wR_cat, wR_tup, wR_ix, wR_var, wR_cst, wR_op, wR_cmp, wR_isc, wR_ite, wR_not, wR_bi1, wR_bi2, wR_call, wR_meth, wR_isi, wR_comp, wR_dct0, wR_glob, wT_not, wT_and, wT_or, wT_cmp, wT_isc, wT_var, wT_cst, wT_ix, wT_isi, wT_call, wT_ite, wI_enum, wI_seq, wI_range1, wI_zip, dC_v, dC_tmp, lC_tmp, tC_bl, okk_okr, put_n, put_2, put_3, put_5, setSlot, setAll, List.set, List.getElem?_cons_zero, List.getElem?_cons_succ, Option.some.injEq, exists_eq_left', add_i, sub_i, mul_i, mod_i, fdiv_i, add_t, eq_i, ne_i, lt_i, le_i, gt_i, ge_i, eq_ni, eq_in, eq_nn, eq_s, b_tuple, b_list, b_len_t, b_abs, b_int, b_lrange, b_min, b_max, at0, at1, at2, at3, set0, set1, set2, set3, methOn, meth, okk_if, itemsOf, seqOf, src, guardOf, Option.map_some, List.length_cons, List.length_nil, List.append_assoc, List.cons_append, List.nil_append, List.length_append, Bool.not_eq_true', start, List.map_cons, List.map_nil, List.replicate, Nat.reduceSub, Nat.reduceAdd, true_and, and_true, if_true, List.length_append, b_len_l (e S0 rfl)]
  refine take_in h7 h (m := 5) (by omega) (by omega) fun S1 r h1 hr => ?_
  have hl1 : S1.length = S0.length := by rw [h1.len, hl]
  have hx : ∃ x : Nat, ([.int 0, .int 1, .int 1, .int 2, .int 3] : List D)[r]? = some (eN x) := by
    match r, hr with
    | 0, _ => exact ⟨0, rfl⟩
    | 1, _ => exact ⟨1, rfl⟩
    | 2, _ => exact ⟨1, rfl⟩
    | 3, _ => exact ⟨2, rfl⟩
    | 4, _ => exact ⟨3, rfl⟩
  obtain ⟨x, hx⟩ := hx
  refine ⟨eN x, getIx_lst (e S1 hl1) hx, ?_⟩
  have hgc : gc (S0 ++ (T ++ [Cell.lst [.int 0, .int 1, .int 1, .int 2, .int 3]])) (eN x) (S1 ++ (T ++ [Cell.lst [.int 0, .int 1, .int 1, .int 2, .int 3]])) = S1 ++ (T ++ [Cell.lst [.int 0, .int 1, .int 1, .int 2, .int 3]]) := by
    unfold gc
    split
    · exact List.take_of_length_le (by simp [hl1])
    · rfl
  rw [hgc]
  exact hΦ S1 x h1
/-! ### the drawn lists -/
theorem pow18 : ∃ t : Int, ∀ (S : Store) (Φ : R → Store → Prop), Okk (binop .pow (.int 10) (.int 18) S) Φ = Φ (.v (.int t)) S := by
  generalize hx : (10 : Int) = x
  generalize hy : (18 : Int) = y
  refine ⟨x ^ y.toNat, fun S Φ => ?_⟩
  rw [pow_i, ← hx, ← hy]
  rw [show ((0 : Int) ≤ 18 ∧ (18 : Int) ≤ 1000000 ∧ Int.natAbs 10 < 18446744073709551616) = True from by simp, true_and]
theorem wC_cut {G : Nat → Option D} {cl : Nat → List D → Store → Out D} {a b : C} {env : Env} {S : Store} {Θ : Flow → Store → Prop} (M : Env → Store → Prop) (h1 : wC G cl a env S fun f S1 => ∃ e, f = .nxt e ∧ M e S1) (h2 : ∀ e S1, M e S1 → wC G cl b e S1 Θ) : wC G cl (.seq a b) env S Θ := by
  rw [wC_seq]
  exact okk_imp h1 fun f S1 ⟨e, he, hm⟩ => by subst he; exact h2 e S1 hm
theorem wC_end {G : Nat → Option D} {cl : Nat → List D → Store → Out D} {a : C} {env : Env} {S : Store} {Θ Θ' : Flow → Store → Prop} (h1 : wC G cl a env S Θ) (h2 : ∀ f S1, Θ f S1 → Θ' f S1) : wC G cl a env S Θ' := okk_imp h1 h2
theorem box_c {P : Prg} {k j : Nat} {S : Store} (x : Int) : wC P.gl (run P k) (.asg (.name 3) (.ite (.cmp .ge (.var 2) (.op .pow (.cst (.int 10)) (.cst (.int 18)))) (.var 2) (.cst (.int 0)))) [some (.loc 0), some (.int (j : Int)), some (.int x), none] S
    fun f S1 => ∃ e, f = .nxt e ∧ S1 = S ∧ ∃ x i : Int, e = [some (.loc 0), some (.int (j : Int)), some (.int x), some (.int i)] := by
  obtain ⟨t18, cp⟩ := pow18
  simp only [wC_asg, wD, wR_ite, wT_cmp, wR_var, wR_op, wR_cst, dC_v, List.getElem?_cons_zero, List.getElem?_cons_succ, Option.some.injEq, exists_eq_left', cp, ge_i, put_n, setSlot, List.set]
  by_cases h1 : t18 ≤ x
  · rw [if_pos (decide_eq_true h1)]; exact ⟨_, rfl, trivial, _, _, rfl⟩
  · rw [if_neg (by simp [h1])]; exact ⟨_, rfl, trivial, _, _, rfl⟩
theorem box_d {P : Prg} {k j : Nat} {S : Store} (x i : Int) : wC P.gl (run P k) (.ret (.lst (.cons (.var 3) (.cons (.op .add (.op .mod (.bi1 .int (.op .add (.op .mul (.op .mod (.bi1 .int (.var 2)) (.cst (.int 2147483563))) (.cst (.int 54250027))) (.op .mul (.cst (.int 8101)) (.var 1)))) (.cst (.int 2147483563))) (.cst (.int 1))) .nil))))
    [some (.loc 0), some (.int (j : Int)), some (.int x), some (.int i)] S fun f S1 => f = .ret (.loc S.length) ∧ ∃ a b, S1 = S ++ [.lst [.int a, .int b]] := by
  have s3 : small64 54250027 = true := by decide
  have s4 : small64 8101 = true := by decide
  have c4 : (0 : Int) < 2147483563 := by decide
  have ln2 : 2 ≤ line := by simp [line]
  simp only [wC_seq, wC_asg, wC_par, wC_sub, wC_ifc, wC_ret, wC_expr, wC_for, wC_skip, wD, wL, wR_lst, wR_nil, wR_cons, wR_cat, wR_tup, wR_ix, wR_var, wR_cst, wR_op, wR_cmp, wR_isc, wR_ite, wR_not, wR_bi1, wR_bi2, wR_call, wR_meth, wR_isi, wR_comp, wR_dct0, wR_glob, wT_not, wT_and, wT_or, wT_cmp, wT_isc, wT_var, wT_cst, wT_ix, wT_isi, wT_call, wT_ite, wI_enum, wI_seq, wI_range1, wI_zip, dC_v, dC_tmp, lC_tmp, tC_bl, okk_okr, put_n, put_2, put_3, put_5, setSlot, setAll, List.set, List.getElem?_cons_zero, List.getElem?_cons_succ, Option.some.injEq, exists_eq_left', add_i, sub_i, mul_i, mod_i, fdiv_i, add_t, eq_i, ne_i, lt_i, le_i, gt_i, ge_i, eq_ni, eq_in, eq_nn, eq_s, b_tuple, b_list, b_len_t, b_abs, b_int, b_lrange, b_min, b_max, at0, at1, at2, at3, set0, set1, set2, set3, methOn, meth, okk_if, itemsOf, seqOf, src, guardOf, Option.map_some, List.length_cons, List.length_nil, List.append_assoc, List.cons_append, List.nil_append, List.length_append, Bool.not_eq_true', start, List.map_cons, List.map_nil, List.replicate, Nat.reduceSub, Nat.reduceAdd, true_and, and_true, if_true, s3, s4, c4, Bool.or_true, Bool.true_or, ln2]
  exact ⟨_, _, rfl⟩
theorem box_b {P : Prg} {k j : Nat} {S : Store} {ns : List Int} (hS : S[0]? = some (.rol (ns.map .int))) (x : Int) : wC P.gl (run P k) (.ifc (.cmp .lt (.var 1) (.bi1 .len (.var 0)))
  (.asg (.name 2) (.bi1 .abs (.bi1 .int (.ix (.var 0) (.var 1)))))
  (.ifc (.cmp .gt (.bi1 .len (.var 0)) (.cst (.int 0)))
  (.asg (.name 2) (.op .add (.var 2) (.op .mul (.op .mod (.bi1 .int (.bi1 .abs (.bi1 .int (.ix (.var 0) (.op .mod (.bi1 .int (.var 1)) (.bi1 .len (.var 0))))))) (.cst (.int 2147483563))) (.cst (.int 96137)))))
  .skip)) [some (.loc 0), some (.int (j : Int)), some (.int x), none] S
    fun f S1 => ∃ e, f = .nxt e ∧ S1 = S ∧ ∃ x : Int, e = [some (.loc 0), some (.int (j : Int)), some (.int x), none] := by
  have s2 : small64 96137 = true := by decide
  have c4 : (0 : Int) < 2147483563 := by decide
  simp only [wC_seq, wC_asg, wC_par, wC_sub, wC_ifc, wC_ret, wC_expr, wC_for, wC_skip, wD, wL, wR_lst, wR_nil, wR_cons, wR_cat, wR_tup, wR_ix, wR_var, wR_cst, wR_op, wR_cmp, wR_isc, wR_ite, wR_not, wR_bi1, wR_bi2, wR_call, wR_meth, wR_isi, wR_comp, wR_dct0, wR_glob, wT_not, wT_and, wT_or, wT_cmp, wT_isc, wT_var, wT_cst, wT_ix, wT_isi, wT_call, wT_ite, wI_enum, wI_seq, wI_range1, wI_zip, dC_v, dC_tmp, lC_tmp, tC_bl, okk_okr, put_n, put_2, put_3, put_5, setSlot, setAll, List.set, List.getElem?_cons_zero, List.getElem?_cons_succ, Option.some.injEq, exists_eq_left', add_i, sub_i, mul_i, mod_i, fdiv_i, add_t, eq_i, ne_i, lt_i, le_i, gt_i, ge_i, eq_ni, eq_in, eq_nn, eq_s, b_tuple, b_list, b_len_t, b_abs, b_int, b_lrange, b_min, b_max, at0, at1, at2, at3, set0, set1, set2, set3, methOn, meth, okk_if, itemsOf, seqOf, src, guardOf, Option.map_some, List.length_cons, List.length_nil, List.append_assoc, List.cons_append, List.nil_append, List.length_append, Bool.not_eq_true', start, List.map_cons, List.map_nil, List.replicate, Nat.reduceSub, Nat.reduceAdd, true_and, and_true, if_true, b_len_r hS, List.length_map]
  by_cases h1 : (j : Int) < (ns.length : Int)
  · have hj : j < ns.length := by omega
    have g1 : getIx S (.loc 0) (.int (j : Int)) = some (.int ns[j]) := getIx_rol hS (by rw [List.getElem?_map, List.getElem?_eq_getElem hj]; rfl)
    rw [if_pos (decide_eq_true h1)]
    simp only [wC_seq, wC_asg, wC_par, wC_sub, wC_ifc, wC_ret, wC_expr, wC_for, wC_skip, wD, wL, wR_lst, wR_nil, wR_cons, wR_cat, wR_tup, wR_ix, wR_var, wR_cst, wR_op, wR_cmp, wR_isc, wR_ite, wR_not, wR_bi1, wR_bi2, wR_call, wR_meth, wR_isi, wR_comp, wR_dct0, wR_glob, wT_not, wT_and, wT_or, wT_cmp, wT_isc, wT_var, wT_cst, wT_ix, wT_isi, wT_call, wT_ite, wI_enum, wI_seq, wI_range1, wI_zip, dC_v, dC_tmp, lC_tmp, tC_bl, okk_okr, put_n, put_2, put_3, put_5, setSlot, setAll, List.set, List.getElem?_cons_zero, List.getElem?_cons_succ, Option.some.injEq, exists_eq_left', add_i, sub_i, mul_i, mod_i, fdiv_i, add_t, eq_i, ne_i, lt_i, le_i, gt_i, ge_i, eq_ni, eq_in, eq_nn, eq_s, b_tuple, b_list, b_len_t, b_abs, b_int, b_lrange, b_min, b_max, at0, at1, at2, at3, set0, set1, set2, set3, methOn, meth, okk_if, itemsOf, seqOf, src, guardOf, Option.map_some, List.length_cons, List.length_nil, List.append_assoc, List.cons_append, List.nil_append, List.length_append, Bool.not_eq_true', start, List.map_cons, List.map_nil, List.replicate, Nat.reduceSub, Nat.reduceAdd, true_and, and_true, if_true, g1]
    exact ⟨_, rfl, _, rfl⟩
  · rw [if_neg (by simp; omega)]
    by_cases h2 : 0 < ns.length
    · have c5 : (0 : Int) < (ns.length : Int) := by omega
      obtain ⟨r, er, hr⟩ := emod_nat (j : Int) h2
      have g1 : getIx S (.loc 0) (.int (r : Int)) = some (.int ns[r]) := getIx_rol hS (by rw [List.getElem?_map, List.getElem?_eq_getElem hr]; rfl)
      rw [if_pos (decide_eq_true c5)]
      simp only [wC_seq, wC_asg, wC_par, wC_sub, wC_ifc, wC_ret, wC_expr, wC_for, wC_skip, wD, wL, wR_lst, wR_nil, wR_cons, wR_cat, wR_tup, wR_ix, wR_var, wR_cst, wR_op, wR_cmp, wR_isc, wR_ite, wR_not, wR_bi1, wR_bi2, wR_call, wR_meth, wR_isi, wR_comp, wR_dct0, wR_glob, wT_not, wT_and, wT_or, wT_cmp, wT_isc, wT_var, wT_cst, wT_ix, wT_isi, wT_call, wT_ite, wI_enum, wI_seq, wI_range1, wI_zip, dC_v, dC_tmp, lC_tmp, tC_bl, okk_okr, put_n, put_2, put_3, put_5, setSlot, setAll, List.set, List.getElem?_cons_zero, List.getElem?_cons_succ, Option.some.injEq, exists_eq_left', add_i, sub_i, mul_i, mod_i, fdiv_i, add_t, eq_i, ne_i, lt_i, le_i, gt_i, ge_i, eq_ni, eq_in, eq_nn, eq_s, b_tuple, b_list, b_len_t, b_abs, b_int, b_lrange, b_min, b_max, at0, at1, at2, at3, set0, set1, set2, set3, methOn, meth, okk_if, itemsOf, seqOf, src, guardOf, Option.map_some, List.length_cons, List.length_nil, List.append_assoc, List.cons_append, List.nil_append, List.length_append, Bool.not_eq_true', start, List.map_cons, List.map_nil, List.replicate, Nat.reduceSub, Nat.reduceAdd, true_and, and_true, if_true, c5, er, g1, c4, s2, Bool.or_true]
      exact ⟨_, rfl, _, rfl⟩
    · rw [if_neg (by rw [decide_eq_false (by omega)]; simp)]
      exact ⟨_, rfl, _, rfl⟩
theorem w_box {P : Prg} (hf : P.fn 6 = some lbox) {k j : Nat} {S : Store} {ns : List Int} (hS : S[0]? = some (.rol (ns.map .int))) :
    Okk (run P (k + 1) 6 [.loc 0, eN j] S) fun d S' => ∃ a b, S' = S ++ [.lst [.int a, .int b]] ∧ d = .loc S.length := by
  refine okk_run hf rfl ?_
  have nf : ∀ S1, gc S (D.loc S.length) S1 = S1 := fun S1 => by simp [gc, D.flat]
  have s1 : small64 29131 = true := by decide
  show wC P.gl (run P k) (.seq (.asg (.name 2) (.op .add (.op .mul (.cst (.int 29131)) (.var 1)) (.cst (.int 8221)))) (.seq _ (.seq _ _))) [some (.loc 0), some (.int (j : Int)), none, none] S _
  refine wC_cut (fun e S1 => S1 = S ∧ ∃ x : Int, e = [some (.loc 0), some (.int (j : Int)), some (.int x), none]) ?_ fun e S1 ⟨h1, x, h2⟩ => ?_
  · simp only [wC_seq, wC_asg, wC_par, wC_sub, wC_ifc, wC_ret, wC_expr, wC_for, wC_skip, wD, wL, wR_lst, wR_nil, wR_cons, wR_cat, wR_tup, wR_ix, wR_var, wR_cst, wR_op, wR_cmp, wR_isc, wR_ite, wR_not, wR_bi1, wR_bi2, wR_call, wR_meth, wR_isi, wR_comp, wR_dct0, wR_glob, wT_not, wT_and, wT_or, wT_cmp, wT_isc, wT_var, wT_cst, wT_ix, wT_isi, wT_call, wT_ite, wI_enum, wI_seq, wI_range1, wI_zip, dC_v, dC_tmp, lC_tmp, tC_bl, okk_okr, put_n, put_2, put_3, put_5, setSlot, setAll, List.set, List.getElem?_cons_zero, List.getElem?_cons_succ, Option.some.injEq, exists_eq_left', add_i, sub_i, mul_i, mod_i, fdiv_i, add_t, eq_i, ne_i, lt_i, le_i, gt_i, ge_i, eq_ni, eq_in, eq_nn, eq_s, b_tuple, b_list, b_len_t, b_abs, b_int, b_lrange, b_min, b_max, at0, at1, at2, at3, set0, set1, set2, set3, methOn, meth, okk_if, itemsOf, seqOf, src, guardOf, Option.map_some, List.length_cons, List.length_nil, List.append_assoc, List.cons_append, List.nil_append, List.length_append, Bool.not_eq_true', start, List.map_cons, List.map_nil, List.replicate, Nat.reduceSub, Nat.reduceAdd, true_and, and_true, if_true, s1, Bool.true_or]
    exact ⟨_, rfl, _, rfl⟩
  subst h1 h2
  refine wC_cut _ (box_b hS x) fun e S2 ⟨h1, x, h2⟩ => ?_
  subst h1 h2
  refine wC_cut _ (box_c x) fun e S3 ⟨h1, x, i, h2⟩ => ?_
  subst h1 h2
  refine wC_end (box_d x i) fun f S4 ⟨h1, a, b, h2⟩ => ?_
  subst h1 h2
  refine ⟨a, b, ?_, rfl⟩
  show (if lbox.gc = true then _ else _) = _
  rw [nf]
  simp
end MP

set_option linter.all false
set_option maxRecDepth 100000
set_option autoImplicit false
namespace MP
open PySem (Str)
/-! ### _law_least -/
theorem eN_key (n : Nat) : (eN n).key = some false := rfl
def lk (l : List Nat) (b : Nat) : Nat := (l[b]?).getD 0
def spotsOf (l : List Nat) : List Nat → Nat → List (D × D)
  | [], _ => []
  | b :: r, i => (eN (lk l b), eN i) :: spotsOf l r (i + 1)
theorem spots_app (l : List Nat) : ∀ (r s : List Nat) (i : Nat), spotsOf l (r ++ s) i = spotsOf l r i ++ spotsOf l s (i + r.length)
  | [], s, i => by simp [spotsOf]
  | b :: r, s, i => by
    simp only [List.cons_append, spotsOf, spots_app l r s (i + 1), List.length_cons]
    have : i + 1 + r.length = i + (r.length + 1) := by omega
    rw [this]
theorem spots_len (l : List Nat) : ∀ (r : List Nat) (i : Nat), (spotsOf l r i).length = r.length
  | [], _ => rfl
  | b :: r, i => by simp [spotsOf, spots_len l r]
theorem spots_fit (l : List Nat) (k : Nat) : ∀ (r : List Nat) (i : Nat), keyFits (eN k) (spotsOf l r i) = true := by
  intro r i
  unfold keyFits
  rw [eN_key]
  simp only
  rw [List.all_eq_true]
  induction r generalizing i with
  | nil => intro x hx; simp [spotsOf] at hx
  | cons b r ih =>
    intro x hx
    simp only [spotsOf, List.mem_cons] at hx
    rcases hx with rfl | hx
    · rfl
    · exact ih (i + 1) x hx
theorem eqv_N (a b : Nat) : (eN a).eqv (eN b) = decide (a = b) := by
  simp only [eN, D.eqv]
  by_cases h : a = b
  · simp [h]
  · simp [h]; omega
theorem spots_find (l : List Nat) (k : Nat) : ∀ (r : List Nat) (i : Nat), (k ∈ r.map (lk l) → ∃ idx, findKey (eN k) (spotsOf l r i) = some (eN idx) ∧ idx < i + r.length) ∧ (k ∉ r.map (lk l) → findKey (eN k) (spotsOf l r i) = none)
  | [], i => by simp [spotsOf, findKey]
  | b :: r, i => by
    obtain ⟨h1, h2⟩ := spots_find l k r (i + 1)
    simp only [spotsOf, findKey, eqv_N, List.map_cons, List.mem_cons, List.length_cons]
    by_cases h : lk l b = k
    · simp [h]; exact ⟨i, rfl, by omega⟩
    · have h' : ¬ k = lk l b := fun e => h e.symm
      simp only [h, h', decide_false, false_or]
      refine ⟨fun hm => ?_, fun hm => ?_⟩
      · obtain ⟨idx, e, hlt⟩ := h1 hm
        exact ⟨idx, by simpa using e, by omega⟩
      · simpa using h2 hm
theorem find_put {k v : D} {kvs : List (D × D)} (h : findKey k kvs = none) : putKey k v kvs = kvs ++ [(k, v)] := by
  have : kvs.any (fun kv => kv.1.eqv k) = false := by
    induction kvs with
    | nil => rfl
    | cons p r ih =>
      obtain ⟨j, w⟩ := p
      simp only [findKey] at h
      split at h
      · cases h
      · rename_i hj
        simp only [List.any_cons, ih h, Bool.or_false]
        simpa using hj
  unfold putKey
  rw [this]
  simp
theorem nodup_le : ∀ (n : Nat) (l : List Nat), l.Nodup → (∀ x ∈ l, x < n) → l.length ≤ n
  | 0, l, _, h => by
    cases l with
    | nil => simp
    | cons x r => exact absurd (h x List.mem_cons_self) (by omega)
  | n + 1, l, hd, h => by
    by_cases hm : n ∈ l
    · have := nodup_le n (l.erase n) (hd.erase n) fun x hx => by
        have h1 := h x (List.mem_of_mem_erase hx)
        have h2 : x ≠ n := fun e => by subst e; exact (List.Nodup.not_mem_erase hd) hx
        omega
      rw [List.length_erase_of_mem hm] at this
      omega
    · have := nodup_le n l hd fun x hx => by
        have h1 := h x hx
        have h2 : x ≠ n := fun e => by subst e; exact hm hx
        omega
      omega
/-- what a row tells of the kinds -/
def tl (ks : List D) (s : Option (Nat × Nat)) : D := match s with
  | none => .non
  | some (t, c) => .tup [(ks[t]?).getD .non, eN c]
structure KOk (n : Nat) (ks : List D) : Prop where
  len : ks.length = n
  flat : ∀ d ∈ ks, d.flat = true ∧ d.depth ≤ 1
theorem tl_ok {n : Nat} {ks : List D} (h : KOk n ks) (s : Option (Nat × Nat)) : (tl ks s).flat = true ∧ (tl ks s).depth ≤ 2 := by
  cases s with
  | none => exact ⟨rfl, by simp [tl, D.depth]⟩
  | some s =>
    obtain ⟨t, c⟩ := s
    have : ((ks[t]?).getD .non).flat = true ∧ ((ks[t]?).getD .non).depth ≤ 1 := by
      cases q : ks[t]? with
      | none => exact ⟨rfl, by simp [D.depth]⟩
      | some d => exact h.flat d (List.mem_of_getElem? q)
    simp only [tl, D.flat, D.flats, D.depth, D.depths, this.1, eN]
    exact ⟨rfl, by have := this.2; omega⟩
theorem depths_le {m : Nat} : ∀ {l : List D}, (∀ d ∈ l, d.depth ≤ m) → D.depths l ≤ m
  | [], _ => by simp [D.depths]
  | d :: r, h => by
    simp only [D.depths]
    have h1 := h d List.mem_cons_self
    have h2 := depths_le (m := m) (l := r) fun x hx => h x (List.mem_cons_of_mem _ hx)
    omega
theorem key_ok {n : Nat} {ks : List D} (h : KOk n ks) {d : D} (hd : d ∈ ks) (r : List (Option (Nat × Nat))) : (D.tup [d, .tup (r.map (tl ks))]).key = some true := by
  have h1 := h.flat d hd
  have h2 : D.flats (r.map (tl ks)) = true := flats_mem' fun x hx => by
    obtain ⟨s, _, rfl⟩ := List.mem_map.mp hx
    exact (tl_ok h s).1
  have h3 : D.depths (r.map (tl ks)) ≤ 2 := depths_le fun x hx => by
    obtain ⟨s, _, rfl⟩ := List.mem_map.mp hx
    exact (tl_ok h s).2
  have h4 := h1.2
  simp only [D.key, D.flats, D.flat, D.depths, D.depth, h1.1, h2]
  rw [if_pos]
  simp; omega
def NmOk (kvs : List (D × D)) : Prop := ∀ p ∈ kvs, p.1.key = some true ∧ ∃ v, p.2 = eN v
theorem nm_fit {kvs : List (D × D)} (h : NmOk kvs) {k : D} (hk : k.key = some true) : keyFits k kvs = true := by
  unfold keyFits
  rw [hk]
  simp only
  rw [List.all_eq_true]
  intro x hx
  rw [(h x hx).1]
  rfl
theorem nm_find {k w : D} : ∀ {kvs : List (D × D)}, NmOk kvs → findKey k kvs = some w → ∃ v, w = eN v
  | (j, v) :: r, h, e => by
    simp only [findKey] at e
    split at e
    · cases e; exact (h _ List.mem_cons_self).2
    · exact nm_find (fun p hp => h p (List.mem_cons_of_mem _ hp)) e
  | [], _, e => by simp [findKey] at e
def envL (w : Wd) (x6 x7 x8 x9 x10 x11 x12 x13 x14 x15 x16 : Option D) : Env := [some (eW w), some (.tup (w.steps.map eRow)), some (.tup (w.whose.map eN)), some (.tup (w.goals.map eG)), some (.tup (w.owners.map eN)), some (eN w.people), x6, x7, x8, x9, x10, x11, x12, x13, x14, x15, x16]
theorem app_at {U T : Store} {m : Nat} {c : Cell} (h : U[m]? = some c) : (U ++ T)[m]? = some c := by
  rw [List.getElem?_append_left (List.getElem?_eq_some_iff.mp h).1]; exact h
/-- one turn of the kinds -/
theorem least_turn {P : Prg} {k : Nat} {w : Wd} (ok : w.Ok) {U : Store} {ks : List D} {m : Nat} (hm : U[m]? = some (.lst ks)) (hk : KOk w.steps.length ks) (x7 x8 x9 x10 x11 x12 x13 x14 x15 x16 : Option D) :
    wC P.gl (run P k) (.seq (.par [8, 9] (.cons (.dct .nil) (.cons (.lst .nil) .nil)))
  (.seq (.forc (.tup (.cons (.name 10) (.cons (.name 11) .nil))) .enum (.var 1) .nil
  (.seq (.asg (.name 12) (.bi1 .tuple (.comp [13] (.name 13) .seq (.var 11) .nil (.cst (.bl true)) (.ite (.isc false (.var 13) .non) (.cst .non) (.tup (.cons (.ix (.var 6) (.ix (.var 13) (.cst (.int 0)))) (.cons (.ix (.var 13) (.cst (.int 1))) .nil)))))))
  (.expr (.meth .append (.var 9) (.cons (.meth .setdefault (.var 8) (.cons (.tup (.cons (.ix (.var 6) (.var 10)) (.cons (.var 12) .nil))) (.cons (.bi1 .len (.var 8)) .nil))) .nil)))))
  (.asg (.name 6) (.var 9)))) (envL w (some (.loc m)) x7 x8 x9 x10 x11 x12 x13 x14 x15 x16) U
    fun f S1 => ∃ (l : List Nat) (kvs : List (D × D)) (y8 y9 y10 y11 y12 y13 : Option D), l.length = w.steps.length ∧ S1 = U ++ [.dct kvs, .lst (l.map eN)] ∧ f = .nxt (envL w (some (.loc (U.length + 1))) x7 y8 y9 y10 y11 y12 y13 x14 x15 x16) := by
  simp only [wC_seq, wC_asg, wC_par, wC_sub, wC_ifc, wC_ret, wC_expr, wC_for, wC_skip, wD, wL, wR_lst, wR_nil, wR_cons, wR_cat, wR_tup, wR_ix, wR_var, wR_cst, wR_op, wR_cmp, wR_isc, wR_ite, wR_not, wR_bi1, wR_bi2, wR_call, wR_meth, wR_isi, wR_comp, wR_dct0, wR_glob, wT_not, wT_and, wT_or, wT_cmp, wT_isc, wT_var, wT_cst, wT_ix, wT_isi, wT_call, wT_ite, wI_enum, wI_seq, wI_range1, wI_zip, dC_v, dC_tmp, lC_tmp, tC_bl, okk_okr, put_n, put_2, put_3, put_5, setSlot, setAll, List.set, List.getElem?_cons_zero, List.getElem?_cons_succ, Option.some.injEq, exists_eq_left', add_i, sub_i, mul_i, mod_i, fdiv_i, add_t, eq_i, ne_i, lt_i, le_i, gt_i, ge_i, eq_ni, eq_in, eq_nn, eq_s, b_tuple, b_list, b_len_t, b_abs, b_int, b_lrange, b_min, b_max, at0, at1, at2, at3, set0, set1, set2, set3, methOn, meth, okk_if, itemsOf, seqOf, src, guardOf, Option.map_some, List.length_cons, List.length_nil, List.append_assoc, List.cons_append, List.nil_append, List.length_append, Bool.not_eq_true', start, List.map_cons, List.map_nil, List.replicate, Nat.reduceSub, Nat.reduceAdd, true_and, and_true, if_true, envL]
  refine ⟨Nat.zero_le _, okk_for (fun j env S => j ≤ w.steps.length ∧ ∃ (l : List Nat) (kvs : List (D × D)) (y10 y11 y12 y13 : Option D), l.length = j ∧ kvs.length ≤ j ∧ NmOk kvs ∧ S = U ++ [.dct kvs, .lst (l.map eN)] ∧
    env = envL w (some (.loc m)) x7 (some (.loc U.length)) (some (.loc (U.length + 1))) y10 y11 y12 y13 x14 x15 x16) ?_ ?_ ?_ ?_⟩
  · exact ⟨Nat.zero_le _, [], [], _, _, _, _, rfl, Nat.le_refl _, fun _ h => by simp at h, rfl, rfl⟩
  · intros; rfl
  · rintro j x env S hx ⟨hj, l, kvs, y10, y11, y12, y13, hl, hkl, hnm, rfl, rfl⟩
    obtain ⟨d, hd, rfl⟩ := enum_at hx
    rw [List.getElem?_map] at hd
    cases hs : w.steps[j]? with
    | none => rw [hs] at hd; cases hd
    | some r =>
      rw [hs] at hd
      cases hd
      have hj' : j < w.steps.length := (List.getElem?_eq_some_iff.mp hs).1
      have sm := ok.small
      have fw := ok.few
      have hrl : r.length = w.whose.length := ok.row r (List.mem_of_getElem? hs)
      refine ⟨_, rfl, ?_⟩
      rw [wC_i]
      refine wC_cut (fun e S1 => S1 = U ++ [.dct kvs, .lst (l.map eN)] ∧ e = envL w (some (.loc m)) x7 (some (.loc U.length)) (some (.loc (U.length + 1))) (some (eN j)) (some (eRow r)) (some (.tup (r.map (tl ks)))) y13 x14 x15 x16) ?_ fun e S1 ⟨h1, h2⟩ => ?_
      · simp only [wC_seq, wC_asg, wC_par, wC_sub, wC_ifc, wC_ret, wC_expr, wC_for, wC_skip, wD, wL, wR_lst, wR_nil, wR_cons, wR_cat, wR_tup, wR_ix, wR_var, wR_cst, wR_op, wR_cmp, wR_isc, wR_ite, wR_not, wR_bi1, wR_bi2, wR_call, wR_meth, wR_isi, wR_comp, wR_dct0, wR_glob, wT_not, wT_and, wT_or, wT_cmp, wT_isc, wT_var, wT_cst, wT_ix, wT_isi, wT_call, wT_ite, wI_enum, wI_seq, wI_range1, wI_zip, dC_v, dC_tmp, lC_tmp, tC_bl, okk_okr, put_n, put_2, put_3, put_5, setSlot, setAll, List.set, List.getElem?_cons_zero, List.getElem?_cons_succ, Option.some.injEq, exists_eq_left', add_i, sub_i, mul_i, mod_i, fdiv_i, add_t, eq_i, ne_i, lt_i, le_i, gt_i, ge_i, eq_ni, eq_in, eq_nn, eq_s, b_tuple, b_list, b_len_t, b_abs, b_int, b_lrange, b_min, b_max, at0, at1, at2, at3, set0, set1, set2, set3, methOn, meth, okk_if, itemsOf, seqOf, src, guardOf, Option.map_some, List.length_cons, List.length_nil, List.append_assoc, List.cons_append, List.nil_append, List.length_append, Bool.not_eq_true', start, List.map_cons, List.map_nil, List.replicate, Nat.reduceSub, Nat.reduceAdd, true_and, and_true, if_true, envL, eRow]
        refine okk_comp (fun q acc S => q ≤ r.length ∧ acc = (r.take q).map (tl ks) ∧ S = U ++ [.dct kvs, .lst (l.map eN)]) ?_ ?_ ?_ ?_
        · exact ⟨Nat.zero_le _, rfl, rfl⟩
        · intros; rfl
        · rintro q x acc S hx ⟨hq, rfl, rfl⟩
          rw [List.getElem?_map] at hx
          cases hs2 : r[q]? with
          | none => rw [hs2] at hx; cases hx
          | some s =>
            rw [hs2] at hx
            cases hx
            have hq' : q < r.length := (List.getElem?_eq_some_iff.mp hs2).1
            have htk : r.take (q + 1) = r.take q ++ [s] := by rw [List.take_add_one, hs2]; rfl
            rw [wStep_i]
            unfold wStep
            rw [htk]
            cases s with
            | none =>
              simp only [wC_seq, wC_asg, wC_par, wC_sub, wC_ifc, wC_ret, wC_expr, wC_for, wC_skip, wD, wL, wR_lst, wR_nil, wR_cons, wR_cat, wR_tup, wR_ix, wR_var, wR_cst, wR_op, wR_cmp, wR_isc, wR_ite, wR_not, wR_bi1, wR_bi2, wR_call, wR_meth, wR_isi, wR_comp, wR_dct0, wR_glob, wT_not, wT_and, wT_or, wT_cmp, wT_isc, wT_var, wT_cst, wT_ix, wT_isi, wT_call, wT_ite, wI_enum, wI_seq, wI_range1, wI_zip, dC_v, dC_tmp, lC_tmp, tC_bl, okk_okr, put_n, put_2, put_3, put_5, setSlot, setAll, List.set, List.getElem?_cons_zero, List.getElem?_cons_succ, Option.some.injEq, exists_eq_left', add_i, sub_i, mul_i, mod_i, fdiv_i, add_t, eq_i, ne_i, lt_i, le_i, gt_i, ge_i, eq_ni, eq_in, eq_nn, eq_s, b_tuple, b_list, b_len_t, b_abs, b_int, b_lrange, b_min, b_max, at0, at1, at2, at3, set0, set1, set2, set3, methOn, meth, okk_if, itemsOf, seqOf, src, guardOf, Option.map_some, List.length_cons, List.length_nil, List.append_assoc, List.cons_append, List.nil_append, List.length_append, Bool.not_eq_true', start, List.map_cons, List.map_nil, List.replicate, Nat.reduceSub, Nat.reduceAdd, true_and, and_true, if_true, wipe, envL, eS, D.same]
              simp [tl]; omega
            | some s =>
              obtain ⟨t, c⟩ := s
              have ht : t < w.steps.length := ok.to r (List.mem_of_getElem? hs) t c (List.mem_of_getElem? hs2)
              have ix0 : ∀ S, getIx S (.tup [.int (t : Int), .int (c : Int)]) (.int 0) = some (.int (t : Int)) := fun _ => rfl
              have ix1 : ∀ S, getIx S (.tup [.int (t : Int), .int (c : Int)]) (.int 1) = some (.int (c : Int)) := fun _ => rfl
              obtain ⟨kd, hkd⟩ : ∃ kd, ks[t]? = some kd := ⟨_, List.getElem?_eq_getElem (by rw [hk.len]; exact ht)⟩
              have g1 : getIx (U ++ [.dct kvs, .lst (l.map eN)]) (.loc m) (.int (t : Int)) = some kd := getIx_lst (app_at hm) hkd
              have ln : 2 ≤ line := by simp [line]
              simp only [wC_seq, wC_asg, wC_par, wC_sub, wC_ifc, wC_ret, wC_expr, wC_for, wC_skip, wD, wL, wR_lst, wR_nil, wR_cons, wR_cat, wR_tup, wR_ix, wR_var, wR_cst, wR_op, wR_cmp, wR_isc, wR_ite, wR_not, wR_bi1, wR_bi2, wR_call, wR_meth, wR_isi, wR_comp, wR_dct0, wR_glob, wT_not, wT_and, wT_or, wT_cmp, wT_isc, wT_var, wT_cst, wT_ix, wT_isi, wT_call, wT_ite, wI_enum, wI_seq, wI_range1, wI_zip, dC_v, dC_tmp, lC_tmp, tC_bl, okk_okr, put_n, put_2, put_3, put_5, setSlot, setAll, List.set, List.getElem?_cons_zero, List.getElem?_cons_succ, Option.some.injEq, exists_eq_left', add_i, sub_i, mul_i, mod_i, fdiv_i, add_t, eq_i, ne_i, lt_i, le_i, gt_i, ge_i, eq_ni, eq_in, eq_nn, eq_s, b_tuple, b_list, b_len_t, b_abs, b_int, b_lrange, b_min, b_max, at0, at1, at2, at3, set0, set1, set2, set3, methOn, meth, okk_if, itemsOf, seqOf, src, guardOf, Option.map_some, List.length_cons, List.length_nil, List.append_assoc, List.cons_append, List.nil_append, List.length_append, Bool.not_eq_true', start, List.map_cons, List.map_nil, List.replicate, Nat.reduceSub, Nat.reduceAdd, true_and, and_true, if_true, wipe, envL, eS, D.same, ix0, ix1, g1, ln]
              simp [tl, hkd, eN]; omega
        · rintro acc S ⟨_, rfl, rfl⟩
          have tk : List.take (List.map eS r).length r = r := List.take_of_length_le (by simp)
          simp only [tk]
          refine ⟨by simp [line]; omega, ?_⟩
          simp only [wC_seq, wC_asg, wC_par, wC_sub, wC_ifc, wC_ret, wC_expr, wC_for, wC_skip, wD, wL, wR_lst, wR_nil, wR_cons, wR_cat, wR_tup, wR_ix, wR_var, wR_cst, wR_op, wR_cmp, wR_isc, wR_ite, wR_not, wR_bi1, wR_bi2, wR_call, wR_meth, wR_isi, wR_comp, wR_dct0, wR_glob, wT_not, wT_and, wT_or, wT_cmp, wT_isc, wT_var, wT_cst, wT_ix, wT_isi, wT_call, wT_ite, wI_enum, wI_seq, wI_range1, wI_zip, dC_v, dC_tmp, lC_tmp, tC_bl, okk_okr, put_n, put_2, put_3, put_5, setSlot, setAll, List.set, List.getElem?_cons_zero, List.getElem?_cons_succ, Option.some.injEq, exists_eq_left', add_i, sub_i, mul_i, mod_i, fdiv_i, add_t, eq_i, ne_i, lt_i, le_i, gt_i, ge_i, eq_ni, eq_in, eq_nn, eq_s, b_tuple, b_list, b_len_t, b_abs, b_int, b_lrange, b_min, b_max, at0, at1, at2, at3, set0, set1, set2, set3, methOn, meth, okk_if, itemsOf, seqOf, src, guardOf, Option.map_some, List.length_cons, List.length_nil, List.append_assoc, List.cons_append, List.nil_append, List.length_append, Bool.not_eq_true', start, List.map_cons, List.map_nil, List.replicate, Nat.reduceSub, Nat.reduceAdd, true_and, and_true, if_true]
          first | exact ⟨_, rfl, trivial, rfl⟩ | exact ⟨_, rfl, rfl⟩ | rfl
      · subst h1 h2
        obtain ⟨kd, hkd⟩ : ∃ kd, ks[j]? = some kd := ⟨_, List.getElem?_eq_getElem (by rw [hk.len]; exact hj')⟩
        have g1 : getIx (U ++ [.dct kvs, .lst (l.map eN)]) (.loc m) (.int (j : Int)) = some kd := getIx_lst (app_at hm) hkd
        have hkey := key_ok hk (List.mem_of_getElem? hkd) r
        have hfit := nm_fit hnm hkey
        have ln : 2 ≤ line := by simp [line]
        have hdl : decide (kvs.length < line) = true := decide_eq_true (by simp only [line]; omega)
        have hll : l.length < line := by simp only [line]; omega
        cases hfk : findKey (D.tup [kd, .tup (r.map (tl ks))]) kvs with
        | some v =>
          obtain ⟨v', rfl⟩ := nm_find hnm hfk
          simp only [wC_seq, wC_asg, wC_par, wC_sub, wC_ifc, wC_ret, wC_expr, wC_for, wC_skip, wD, wL, wR_lst, wR_nil, wR_cons, wR_cat, wR_tup, wR_ix, wR_var, wR_cst, wR_op, wR_cmp, wR_isc, wR_ite, wR_not, wR_bi1, wR_bi2, wR_call, wR_meth, wR_isi, wR_comp, wR_dct0, wR_glob, wT_not, wT_and, wT_or, wT_cmp, wT_isc, wT_var, wT_cst, wT_ix, wT_isi, wT_call, wT_ite, wI_enum, wI_seq, wI_range1, wI_zip, dC_v, dC_tmp, lC_tmp, tC_bl, okk_okr, put_n, put_2, put_3, put_5, setSlot, setAll, List.set, List.getElem?_cons_zero, List.getElem?_cons_succ, Option.some.injEq, exists_eq_left', add_i, sub_i, mul_i, mod_i, fdiv_i, add_t, eq_i, ne_i, lt_i, le_i, gt_i, ge_i, eq_ni, eq_in, eq_nn, eq_s, b_tuple, b_list, b_len_t, b_abs, b_int, b_lrange, b_min, b_max, at0, at1, at2, at3, set0, set1, set2, set3, methOn, meth, okk_if, itemsOf, seqOf, src, guardOf, Option.map_some, List.length_cons, List.length_nil, List.append_assoc, List.cons_append, List.nil_append, List.length_append, Bool.not_eq_true', start, List.map_cons, List.map_nil, List.replicate, Nat.reduceSub, Nat.reduceAdd, true_and, and_true, if_true, envL, eN, g1, ln, bi1, hfit, hdl, hfk, Bool.and_self, List.length_map, hll]
          refine ⟨hj', l ++ [v'], kvs, _, _, _, _, by simp [hl], by omega, hnm, ?_, rfl⟩
          simp [eN]
        | none =>
          simp only [wC_seq, wC_asg, wC_par, wC_sub, wC_ifc, wC_ret, wC_expr, wC_for, wC_skip, wD, wL, wR_lst, wR_nil, wR_cons, wR_cat, wR_tup, wR_ix, wR_var, wR_cst, wR_op, wR_cmp, wR_isc, wR_ite, wR_not, wR_bi1, wR_bi2, wR_call, wR_meth, wR_isi, wR_comp, wR_dct0, wR_glob, wT_not, wT_and, wT_or, wT_cmp, wT_isc, wT_var, wT_cst, wT_ix, wT_isi, wT_call, wT_ite, wI_enum, wI_seq, wI_range1, wI_zip, dC_v, dC_tmp, lC_tmp, tC_bl, okk_okr, put_n, put_2, put_3, put_5, setSlot, setAll, List.set, List.getElem?_cons_zero, List.getElem?_cons_succ, Option.some.injEq, exists_eq_left', add_i, sub_i, mul_i, mod_i, fdiv_i, add_t, eq_i, ne_i, lt_i, le_i, gt_i, ge_i, eq_ni, eq_in, eq_nn, eq_s, b_tuple, b_list, b_len_t, b_abs, b_int, b_lrange, b_min, b_max, at0, at1, at2, at3, set0, set1, set2, set3, methOn, meth, okk_if, itemsOf, seqOf, src, guardOf, Option.map_some, List.length_cons, List.length_nil, List.append_assoc, List.cons_append, List.nil_append, List.length_append, Bool.not_eq_true', start, List.map_cons, List.map_nil, List.replicate, Nat.reduceSub, Nat.reduceAdd, true_and, and_true, if_true, envL, eN, g1, ln, bi1, hfit, hdl, hfk, Bool.and_self, List.length_map, hll]
          refine ⟨hj', l ++ [kvs.length], kvs ++ [(D.tup [kd, .tup (r.map (tl ks))], eN kvs.length)], _, _, _, _, by simp [hl], by simp; omega, fun p hp => ?_, ?_, rfl⟩
          · rcases List.mem_append.mp hp with hp | hp
            · exact hnm p hp
            · simp only [List.mem_singleton] at hp
              subst hp
              exact ⟨hkey, _, rfl⟩
          · simp [eN]
  · rintro env S ⟨hj, l, kvs, y10, y11, y12, y13, hl, hkl, hnm, rfl, rfl⟩
    simp only [wC_seq, wC_asg, wC_par, wC_sub, wC_ifc, wC_ret, wC_expr, wC_for, wC_skip, wD, wL, wR_lst, wR_nil, wR_cons, wR_cat, wR_tup, wR_ix, wR_var, wR_cst, wR_op, wR_cmp, wR_isc, wR_ite, wR_not, wR_bi1, wR_bi2, wR_call, wR_meth, wR_isi, wR_comp, wR_dct0, wR_glob, wT_not, wT_and, wT_or, wT_cmp, wT_isc, wT_var, wT_cst, wT_ix, wT_isi, wT_call, wT_ite, wI_enum, wI_seq, wI_range1, wI_zip, dC_v, dC_tmp, lC_tmp, tC_bl, okk_okr, put_n, put_2, put_3, put_5, setSlot, setAll, List.set, List.getElem?_cons_zero, List.getElem?_cons_succ, Option.some.injEq, exists_eq_left', add_i, sub_i, mul_i, mod_i, fdiv_i, add_t, eq_i, ne_i, lt_i, le_i, gt_i, ge_i, eq_ni, eq_in, eq_nn, eq_s, b_tuple, b_list, b_len_t, b_abs, b_int, b_lrange, b_min, b_max, at0, at1, at2, at3, set0, set1, set2, set3, methOn, meth, okk_if, itemsOf, seqOf, src, guardOf, Option.map_some, List.length_cons, List.length_nil, List.append_assoc, List.cons_append, List.nil_append, List.length_append, Bool.not_eq_true', start, List.map_cons, List.map_nil, List.replicate, Nat.reduceSub, Nat.reduceAdd, true_and, and_true, if_true, envL]
    rw [enum_len, List.length_map] at hl
    exact ⟨l, kvs, _, _, _, _, _, _, hl, rfl, rfl⟩
end MP

set_option linter.all false
set_option maxRecDepth 100000
set_option autoImplicit false
namespace MP
open PySem (Str)
section
variable (U G : Store) (a b c r x : Cell)
theorem atR : (U ++ a :: b :: c :: (G ++ [r]))[U.length + (G.length + 1 + 1 + 1)]? = some r := by
  rw [List.getElem?_append_right (by omega)]
  have : U.length + (G.length + 1 + 1 + 1) - U.length = G.length + 1 + 1 + 1 := by omega
  rw [this]
  simp
theorem setR : (U ++ a :: b :: c :: (G ++ [r])).set (U.length + (G.length + 1 + 1 + 1)) x = U ++ a :: b :: c :: (G ++ [x]) := by
  rw [List.set_append_right _ _ (by omega)]
  have : U.length + (G.length + 1 + 1 + 1) - U.length = G.length + 1 + 1 + 1 := by omega
  rw [this]
  simp
end
theorem b_tf : (true != false) = true := rfl
theorem b_ft : (false != true) = true := rfl
theorem isin_sp (S : Store) (n : Nat) (kvs : List (D × D)) (k : D) (hS : S[n]? = some (.dct kvs)) (hf : keyFits k kvs = true) : cmpop .notin k (.loc n) S = some (!(findKey k kvs).isSome) := by
  simp only [cmpop, isIn, hS, hf, if_true, Option.map_some]
theorem get_sp {S : Store} {n : Nat} {kvs : List (D × D)} {k v : D} (hS : S[n]? = some (.dct kvs)) (hf : keyFits k kvs = true) (h : findKey k kvs = some v) : getIx S (.loc n) k = some v := by
  simp only [getIx, hS, hf, if_true, h]
theorem set_sp {S : Store} {n : Nat} {kvs : List (D × D)} {k v : D} (hS : S[n]? = some (.dct kvs)) (hf : keyFits k kvs = true) (hl : kvs.length < line) (h : findKey k kvs = none) : setIx S (.loc n) k v = some (S.set n (.dct (kvs ++ [(k, v)]))) := by
  simp only [setIx, hS, hf, hl, decide_true, Bool.and_self, if_true, find_put h]
/-- the walked order -/
structure OrdOk (w : Wd) (l ord : List Nat) : Prop where
  lt : ∀ x ∈ ord, x < w.steps.length
  nd : (ord.map (lk l)).Nodup
theorem OrdOk.le {w : Wd} {l ord : List Nat} (h : OrdOk w l ord) : ord.length ≤ w.steps.length := by
  have hn : ord.Nodup := by
    have := h.nd
    unfold List.Nodup at this ⊢
    rw [List.pairwise_map] at this
    exact this.imp fun h e => h (by rw [e])
  exact nodup_le _ _ hn h.lt
def RowIn (m : Nat) (r : List (Option (Nat × Nat))) : Prop := ∀ t c, some (t, c) ∈ r → t < m
theorem RowIn.mono {m m' : Nat} {r : List (Option (Nat × Nat))} (h : RowIn m r) (hm : m ≤ m') : RowIn m' r := fun t c h' => Nat.lt_of_lt_of_le (h t c h') hm
/-- one step of a row -/
theorem least_step {P : Prg} {k : Nat} {w : Wd} (ok : w.Ok) {U G : Store} {l : List Nat} {m : Nat} (hm : U[m]? = some (.lst (l.map eN))) (hl : l.length = w.steps.length) {ord : List Nat} {row : List (Option (Nat × Nat))} {C : Cell} (ho : OrdOk w l ord) (hr : RowIn ord.length row)
    (hrl : row.length < 1000) {s : Option (Nat × Nat)} (hs : ∀ t c, s = some (t, c) → t < w.steps.length) (x7 x8 x9 x10 x12 : Option D) :
    wC P.gl (run P k) (.seq (.ifc (.and (.isc true (.var 13) .non) (.cmp .notin (.ix (.var 6) (.ix (.var 13) (.cst (.int 0)))) (.var 15)))
  (.seq (.sub (.var 15) (.ix (.var 6) (.ix (.var 13) (.cst (.int 0)))) (.bi1 .len (.var 14)))
  (.expr (.meth .append (.var 14) (.cons (.ix (.var 13) (.cst (.int 0))) .nil))))
  .skip)
  (.expr (.meth .append (.var 11) (.cons (.ite (.isc false (.var 13) .non) (.cst .non) (.tup (.cons (.ix (.var 15) (.ix (.var 6) (.ix (.var 13) (.cst (.int 0))))) (.cons (.ix (.var 13) (.cst (.int 1))) .nil)))) .nil))))
      (envL w (some (.loc m)) x7 x8 x9 x10 (some (.loc (U.length + (G.length + 1 + 1 + 1)))) x12 (some (eS s)) (some (.loc U.length)) (some (.loc (U.length + 1))) (some (.loc (U.length + 2))))
      (U ++ .lst (ord.map eN) :: .dct (spotsOf l ord 0) :: C :: (G ++ [.lst (row.map eS)]))
    fun f S1 => ∃ (ord' : List Nat) (s' : Option (Nat × Nat)), OrdOk w l ord' ∧ ord.length ≤ ord'.length ∧ RowIn ord'.length (row ++ [s']) ∧
      S1 = U ++ .lst (ord'.map eN) :: .dct (spotsOf l ord' 0) :: C :: (G ++ [.lst ((row ++ [s']).map eS)]) ∧
      f = .nxt (envL w (some (.loc m)) x7 x8 x9 x10 (some (.loc (U.length + (G.length + 1 + 1 + 1)))) x12 (some (eS s)) (some (.loc U.length)) (some (.loc (U.length + 1))) (some (.loc (U.length + 2)))) := by
  have sm := ok.small
  have hle := ho.le
  have rl : row.length < line := by simp only [line]; omega
  cases s with
  | none =>
    have ma := fun (y : D) (Φ : R → Store → Prop) => m_append (S := U ++ .lst (ord.map eN) :: .dct (spotsOf l ord 0) :: C :: (G ++ [.lst (row.map eS)])) (n := U.length + (G.length + 1 + 1 + 1)) (x := y) (xs := row.map eS) (Φ := Φ) (atR U G _ _ C _)
    simp only [wC_seq, wC_asg, wC_par, wC_sub, wC_ifc, wC_ret, wC_expr, wC_for, wC_skip, wD, wL, wR_lst, wR_nil, wR_cons, wR_cat, wR_tup, wR_ix, wR_var, wR_cst, wR_op, wR_cmp, wR_isc, wR_ite, wR_not, wR_bi1, wR_bi2, wR_call, wR_meth, wR_isi, wR_comp, wR_dct0, wR_glob, wT_not, wT_and, wT_or, wT_cmp, wT_isc, wT_var, wT_cst, wT_ix, wT_isi, wT_call, wT_ite, wI_enum, wI_seq, wI_range1, wI_zip, dC_v, dC_tmp, lC_tmp, tC_bl, okk_okr, put_n, put_2, put_3, put_5, setSlot, setAll, List.set, List.getElem?_cons_zero, List.getElem?_cons_succ, Option.some.injEq, exists_eq_left', add_i, sub_i, mul_i, mod_i, fdiv_i, add_t, eq_i, ne_i, lt_i, le_i, gt_i, ge_i, eq_ni, eq_in, eq_nn, eq_s, b_tuple, b_list, b_len_t, b_abs, b_int, b_lrange, b_min, b_max, at0, at1, at2, at3, set0, set1, set2, set3, okk_if, itemsOf, seqOf, src, guardOf, Option.map_some, List.length_cons, List.length_nil, List.append_assoc, List.cons_append, List.nil_append, List.length_append, Bool.not_eq_true', start, List.map_cons, List.map_nil, List.replicate, Nat.reduceSub, Nat.reduceAdd, true_and, and_true, if_true, envL, eS, D.same, methOn, atR, b_tf, b_ft, bne_self_eq_false, Bool.false_eq_true, if_false, ma, setR, List.length_map]
    refine ⟨rl, ord, none, ho, Nat.le_refl _, fun t c h => ?_, ?_⟩
    · rcases List.mem_append.mp h with h | h
      · exact hr t c h
      · simp at h
    · simp [eS]
  | some s =>
    obtain ⟨t, c⟩ := s
    have ht := hs t c rfl
    have ix0 : ∀ S, getIx S (.tup [.int (t : Int), .int (c : Int)]) (.int 0) = some (.int (t : Int)) := fun _ => rfl
    have ix1 : ∀ S, getIx S (.tup [.int (t : Int), .int (c : Int)]) (.int 1) = some (.int (c : Int)) := fun _ => rfl
    have hkt : l[t]? = some (lk l t) := by
      unfold lk
      rw [List.getElem?_eq_getElem (by omega)]; rfl
    have g0 : ∀ T, getIx (U ++ T) (.loc m) (.int (t : Int)) = some (eN (lk l t)) := fun T => getIx_lst (app_at hm) (by rw [List.getElem?_map, hkt]; rfl)
    have ln : 2 ≤ line := by simp [line]
    have sl : ord.length < line := by simp only [line]; omega
    refine wC_cut (fun e S1 => ∃ ord', OrdOk w l ord' ∧ ord.length ≤ ord'.length ∧ lk l t ∈ ord'.map (lk l) ∧ S1 = U ++ .lst (ord'.map eN) :: .dct (spotsOf l ord' 0) :: C :: (G ++ [.lst (row.map eS)]) ∧
      e = envL w (some (.loc m)) x7 x8 x9 x10 (some (.loc (U.length + (G.length + 1 + 1 + 1)))) x12 (some (eS (some (t, c)))) (some (.loc U.length)) (some (.loc (U.length + 1))) (some (.loc (U.length + 2)))) ?_ fun e S1 ⟨ord', ho', hlo, hin, h1, h2⟩ => ?_
    · obtain ⟨f1, f2⟩ := spots_find l (lk l t) ord 0
      have hfit := spots_fit l (lk l t) ord 0
      have hni := isin_sp (U ++ .lst (ord.map eN) :: .dct (spotsOf l ord 0) :: C :: (G ++ [.lst (row.map eS)])) (U.length + 1) (spotsOf l ord 0) (eN (lk l t)) (by simp) hfit
      by_cases hin : lk l t ∈ ord.map (lk l)
      · obtain ⟨idx, hf, hlt⟩ := f1 hin
        rw [hf] at hni
        simp only [wC_seq, wC_asg, wC_par, wC_sub, wC_ifc, wC_ret, wC_expr, wC_for, wC_skip, wD, wL, wR_lst, wR_nil, wR_cons, wR_cat, wR_tup, wR_ix, wR_var, wR_cst, wR_op, wR_cmp, wR_isc, wR_ite, wR_not, wR_bi1, wR_bi2, wR_call, wR_meth, wR_isi, wR_comp, wR_dct0, wR_glob, wT_not, wT_and, wT_or, wT_cmp, wT_isc, wT_var, wT_cst, wT_ix, wT_isi, wT_call, wT_ite, wI_enum, wI_seq, wI_range1, wI_zip, dC_v, dC_tmp, lC_tmp, tC_bl, okk_okr, put_n, put_2, put_3, put_5, setSlot, setAll, List.set, List.getElem?_cons_zero, List.getElem?_cons_succ, Option.some.injEq, exists_eq_left', add_i, sub_i, mul_i, mod_i, fdiv_i, add_t, eq_i, ne_i, lt_i, le_i, gt_i, ge_i, eq_ni, eq_in, eq_nn, eq_s, b_tuple, b_list, b_len_t, b_abs, b_int, b_lrange, b_min, b_max, at0, at1, at2, at3, set0, set1, set2, set3, methOn, meth, okk_if, itemsOf, seqOf, src, guardOf, Option.map_some, List.length_cons, List.length_nil, List.append_assoc, List.cons_append, List.nil_append, List.length_append, Bool.not_eq_true', start, List.map_cons, List.map_nil, List.replicate, Nat.reduceSub, Nat.reduceAdd, true_and, and_true, if_true, envL, eS, D.same, ix0, g0, hni]
        exact ⟨_, rfl, ord, ho, Nat.le_refl _, hin, rfl, rfl⟩
      · have hf := f2 hin
        rw [hf] at hni
        have hset := set_sp (S := U ++ .lst (ord.map eN) :: .dct (spotsOf l ord 0) :: C :: (G ++ [.lst (row.map eS)])) (n := U.length + 1) (v := eN ord.length) (by simp) hfit (by rw [spots_len]; exact sl) hf
        simp only [wC_seq, wC_asg, wC_par, wC_sub, wC_ifc, wC_ret, wC_expr, wC_for, wC_skip, wD, wL, wR_lst, wR_nil, wR_cons, wR_cat, wR_tup, wR_ix, wR_var, wR_cst, wR_op, wR_cmp, wR_isc, wR_ite, wR_not, wR_bi1, wR_bi2, wR_call, wR_meth, wR_isi, wR_comp, wR_dct0, wR_glob, wT_not, wT_and, wT_or, wT_cmp, wT_isc, wT_var, wT_cst, wT_ix, wT_isi, wT_call, wT_ite, wI_enum, wI_seq, wI_range1, wI_zip, dC_v, dC_tmp, lC_tmp, tC_bl, okk_okr, put_n, put_2, put_3, put_5, setSlot, setAll, List.set, List.getElem?_cons_zero, List.getElem?_cons_succ, Option.some.injEq, exists_eq_left', add_i, sub_i, mul_i, mod_i, fdiv_i, add_t, eq_i, ne_i, lt_i, le_i, gt_i, ge_i, eq_ni, eq_in, eq_nn, eq_s, b_tuple, b_list, b_len_t, b_abs, b_int, b_lrange, b_min, b_max, at0, at1, at2, at3, set0, set1, set2, set3, methOn, meth, okk_if, itemsOf, seqOf, src, guardOf, Option.map_some, List.length_cons, List.length_nil, List.append_assoc, List.cons_append, List.nil_append, List.length_append, Bool.not_eq_true', start, List.map_cons, List.map_nil, List.replicate, Nat.reduceSub, Nat.reduceAdd, true_and, and_true, if_true, envL, eS, D.same, ix0, g0, hni, bi1, List.length_map]
        simp only [eN] at hset ⊢
        rw [hset]
        simp only [wC_seq, wC_asg, wC_par, wC_sub, wC_ifc, wC_ret, wC_expr, wC_for, wC_skip, wD, wL, wR_lst, wR_nil, wR_cons, wR_cat, wR_tup, wR_ix, wR_var, wR_cst, wR_op, wR_cmp, wR_isc, wR_ite, wR_not, wR_bi1, wR_bi2, wR_call, wR_meth, wR_isi, wR_comp, wR_dct0, wR_glob, wT_not, wT_and, wT_or, wT_cmp, wT_isc, wT_var, wT_cst, wT_ix, wT_isi, wT_call, wT_ite, wI_enum, wI_seq, wI_range1, wI_zip, dC_v, dC_tmp, lC_tmp, tC_bl, okk_okr, put_n, put_2, put_3, put_5, setSlot, setAll, List.set, List.getElem?_cons_zero, List.getElem?_cons_succ, Option.some.injEq, exists_eq_left', add_i, sub_i, mul_i, mod_i, fdiv_i, add_t, eq_i, ne_i, lt_i, le_i, gt_i, ge_i, eq_ni, eq_in, eq_nn, eq_s, b_tuple, b_list, b_len_t, b_abs, b_int, b_lrange, b_min, b_max, at0, at1, at2, at3, set0, set1, set2, set3, methOn, meth, okk_if, itemsOf, seqOf, src, guardOf, Option.map_some, List.length_cons, List.length_nil, List.append_assoc, List.cons_append, List.nil_append, List.length_append, Bool.not_eq_true', start, List.map_cons, List.map_nil, List.replicate, Nat.reduceSub, Nat.reduceAdd, true_and, and_true, if_true, List.length_map, sl]
        refine ⟨_, rfl, ord ++ [t], ⟨fun x hx => ?_, ?_⟩, by simp, by simp, ?_, rfl⟩
        · rcases List.mem_append.mp hx with hx | hx
          · exact ho.lt x hx
          · simp only [List.mem_singleton] at hx
            subst hx
            exact ht
        · rw [List.map_append, List.nodup_append]
          refine ⟨ho.nd, by simp, fun a ha b hb => ?_⟩
          simp only [List.map_cons, List.map_nil, List.mem_singleton] at hb
          subst hb
          rintro rfl
          exact hin ha
        · rw [spots_app]
          simp [spotsOf, eN]
    · subst h1 h2
      have hle' := ho'.le
      obtain ⟨idx, hf, hlt⟩ := (spots_find l (lk l t) ord' 0).1 hin
      have hfit := spots_fit l (lk l t) ord' 0
      have gs := get_sp (S := U ++ .lst (ord'.map eN) :: .dct (spotsOf l ord' 0) :: C :: (G ++ [.lst (row.map eS)])) (n := U.length + 1) (by simp) hfit hf
      simp only [eN] at gs g0
      have ma := fun (y : D) (Φ : R → Store → Prop) => m_append (S := U ++ .lst (ord'.map eN) :: .dct (spotsOf l ord' 0) :: C :: (G ++ [.lst (row.map eS)])) (n := U.length + (G.length + 1 + 1 + 1)) (x := y) (xs := row.map eS) (Φ := Φ) (atR U G _ _ C _)
      simp only [wC_seq, wC_asg, wC_par, wC_sub, wC_ifc, wC_ret, wC_expr, wC_for, wC_skip, wD, wL, wR_lst, wR_nil, wR_cons, wR_cat, wR_tup, wR_ix, wR_var, wR_cst, wR_op, wR_cmp, wR_isc, wR_ite, wR_not, wR_bi1, wR_bi2, wR_call, wR_meth, wR_isi, wR_comp, wR_dct0, wR_glob, wT_not, wT_and, wT_or, wT_cmp, wT_isc, wT_var, wT_cst, wT_ix, wT_isi, wT_call, wT_ite, wI_enum, wI_seq, wI_range1, wI_zip, dC_v, dC_tmp, lC_tmp, tC_bl, okk_okr, put_n, put_2, put_3, put_5, setSlot, setAll, List.set, List.getElem?_cons_zero, List.getElem?_cons_succ, Option.some.injEq, exists_eq_left', add_i, sub_i, mul_i, mod_i, fdiv_i, add_t, eq_i, ne_i, lt_i, le_i, gt_i, ge_i, eq_ni, eq_in, eq_nn, eq_s, b_tuple, b_list, b_len_t, b_abs, b_int, b_lrange, b_min, b_max, at0, at1, at2, at3, set0, set1, set2, set3, okk_if, itemsOf, seqOf, src, guardOf, Option.map_some, List.length_cons, List.length_nil, List.append_assoc, List.cons_append, List.nil_append, List.length_append, Bool.not_eq_true', start, List.map_cons, List.map_nil, List.replicate, Nat.reduceSub, Nat.reduceAdd, true_and, and_true, if_true, envL, eS, D.same, ix0, ix1, eN, g0, gs, ln, methOn, atR, b_tf, b_ft, bne_self_eq_false, Bool.false_eq_true, if_false, ma, setR, List.length_map]
      refine ⟨rl, ord', some (idx, c), ho', hlo, fun t' c' h => ?_, ?_⟩
      · rcases List.mem_append.mp h with h | h
        · exact Nat.lt_of_lt_of_le (hr t' c' h) hlo
        · simp only [List.mem_singleton, Option.some.injEq, Prod.mk.injEq] at h
          obtain ⟨rfl, rfl⟩ := h
          omega
      · simp [eS]
end MP

set_option linter.all false
set_option maxRecDepth 100000
set_option autoImplicit false
namespace MP
open PySem (Str)
theorem flat_eW (w : Wd) : (eW w).flat = true := by
  refine flat_tup fun d hd => ?_
  simp only [List.mem_cons, List.not_mem_nil, or_false] at hd
  have hN : ∀ l : List Nat, (D.tup (l.map eN)).flat = true := fun l => flat_tup fun d hd => by
    obtain ⟨t, _, rfl⟩ := List.mem_map.mp hd
    rfl
  rcases hd with rfl | rfl | rfl | rfl | rfl
  · refine flat_tup fun d hd => ?_
    obtain ⟨r, _, rfl⟩ := List.mem_map.mp hd
    refine flat_tup fun d hd => ?_
    obtain ⟨s, _, rfl⟩ := List.mem_map.mp hd
    cases s with
    | none => rfl
    | some s => rfl
  · exact hN _
  · refine flat_tup fun d hd => ?_
    obtain ⟨r, _, rfl⟩ := List.mem_map.mp hd
    refine flat_tup fun d hd => ?_
    obtain ⟨s, _, rfl⟩ := List.mem_map.mp hd
    rfl
  · exact hN _
  · rfl
theorem kok_goals {w : Wd} (ok : w.Ok) : KOk w.steps.length (w.goals.map eG) := by
  refine ⟨by rw [List.length_map, ok.gl], fun d hd => ?_⟩
  obtain ⟨r, _, rfl⟩ := List.mem_map.mp hd
  refine ⟨flat_tup fun d hd => ?_, ?_⟩
  · obtain ⟨s, _, rfl⟩ := List.mem_map.mp hd
    rfl
  · have : D.depths (r.map D.bl) ≤ 0 := depths_le fun d hd => by
      obtain ⟨s, _, rfl⟩ := List.mem_map.mp hd
      exact Nat.le_refl _
    simp only [eG, D.depth]; omega
theorem kok_N {n : Nat} {l : List Nat} (h : l.length = n) : KOk n (l.map eN) := by
  refine ⟨by rw [List.length_map, h], fun d hd => ?_⟩
  obtain ⟨r, _, rfl⟩ := List.mem_map.mp hd
  exact ⟨rfl, Nat.zero_le _⟩
theorem w_least {P : Prg} (hf : P.fn 13 = some lleast) {k : Nat} {S : Store} {w : Wd} (ok : w.Ok) (h0 : 0 < w.steps.length) :
    Okk (run P (k + 1) 13 [eW w] S) fun d S' => S' = S ∧ ∃ w' : Wd, w'.Ok ∧ d = eW w' := by
  refine okk_run hf rfl ?_
  have sm := ok.small
  have fw := ok.few
  rw [wC_i]
  simp only [lleast, start, List.map_cons, List.map_nil, List.length_cons, List.length_nil, List.replicate, Nat.reduceSub, Nat.reduceAdd, List.cons_append, List.nil_append]
  with_reducible refine wC_cut (fun e S1 => S1 = S ∧ e = envL w none none none none none none none none none none none) ?_ ?_
  · simp only [wC_asg, wD, wR_var, List.getElem?_cons_zero, Option.some.injEq, exists_eq_left', dC_v]
    first | exact ⟨_, rfl, _, rfl, rfl, rfl⟩ | exact ⟨_, rfl, _, rfl, trivial, rfl⟩ | exact ⟨_, rfl, rfl, rfl⟩ | exact ⟨_, rfl, trivial, rfl⟩ | exact ⟨_, rfl, rfl⟩ | rfl | exact ⟨_, rfl, Nat.zero_le _, _, rfl, rfl, rfl⟩ | exact ⟨Nat.zero_le _, _, rfl, rfl⟩
  rintro e S1 ⟨h1, h2⟩
  subst h1 h2
  with_reducible refine wC_cut (fun e S2 => S2 = S1 ++ [.lst (w.goals.map eG)] ∧ e = envL w (some (.loc S1.length)) none none none none none none none none none none) ?_ ?_
  · simp only [wC_seq, wC_asg, wC_par, wC_sub, wC_ifc, wC_ret, wC_expr, wC_for, wC_skip, wD, wL, wR_lst, wR_nil, wR_cons, wR_cat, wR_tup, wR_ix, wR_var, wR_cst, wR_op, wR_cmp, wR_isc, wR_ite, wR_not, wR_bi1, wR_bi2, wR_call, wR_meth, wR_isi, wR_comp, wR_dct0, wR_glob, wT_not, wT_and, wT_or, wT_cmp, wT_isc, wT_var, wT_cst, wT_ix, wT_isi, wT_call, wT_ite, wI_enum, wI_seq, wI_range1, wI_zip, dC_v, dC_tmp, lC_tmp, tC_bl, okk_okr, put_n, put_2, put_3, put_5, setSlot, setAll, List.set, List.getElem?_cons_zero, List.getElem?_cons_succ, Option.some.injEq, exists_eq_left', add_i, sub_i, mul_i, mod_i, fdiv_i, add_t, eq_i, ne_i, lt_i, le_i, gt_i, ge_i, eq_ni, eq_in, eq_nn, eq_s, b_tuple, b_list, b_len_t, b_abs, b_int, b_lrange, b_min, b_max, at0, at1, at2, at3, set0, set1, set2, set3, methOn, meth, okk_if, itemsOf, seqOf, src, guardOf, Option.map_some, List.length_cons, List.length_nil, List.append_assoc, List.cons_append, List.nil_append, List.length_append, Bool.not_eq_true', start, List.map_cons, List.map_nil, List.replicate, Nat.reduceSub, Nat.reduceAdd, true_and, and_true, if_true, envL]
    first | exact ⟨_, rfl, _, rfl, rfl, rfl⟩ | exact ⟨_, rfl, _, rfl, trivial, rfl⟩ | exact ⟨_, rfl, rfl, rfl⟩ | exact ⟨_, rfl, trivial, rfl⟩ | exact ⟨_, rfl, rfl⟩ | rfl | exact ⟨_, rfl, Nat.zero_le _, _, rfl, rfl, rfl⟩ | exact ⟨Nat.zero_le _, _, rfl, rfl⟩
  rintro e S2 ⟨h1, h2⟩
  subst h1 h2
  with_reducible refine wC_cut (fun e S2 => ∃ (G : Store) (l : List Nat) (m : Nat) (x7 x8 x9 x10 x11 x12 x13 : Option D), S2 = S1 ++ G ∧ (S1 ++ G)[m]? = some (.lst (l.map eN)) ∧ l.length = w.steps.length ∧ e = envL w (some (.loc m)) x7 x8 x9 x10 x11 x12 x13 none none none) ?_ ?_
  · have fr : (-far ≤ ((w.goals.length : Nat) : Int) + 1 ∧ ((w.goals.length : Nat) : Int) + 1 < far) := by have := ok.gl; simp only [far]; omega
    simp only [wC_for, wI_range1, wR_op, wR_bi1, wD, wR_var, wR_cst, envL, List.getElem?_cons_zero, List.getElem?_cons_succ, Option.some.injEq, exists_eq_left', dC_v, b_len_t, add_i, src, List.length_map]
    refine ⟨_, if_pos (by simpa using fr), ?_⟩
    refine okk_for (fun j env S2 => ∃ (G : Store) (ks : List D) (m : Nat) (x7 x8 x9 x10 x11 x12 x13 : Option D), S2 = S1 ++ G ∧ (S1 ++ G)[m]? = some (.lst ks) ∧ KOk w.steps.length ks ∧ (0 < j → ∃ l : List Nat, l.length = w.steps.length ∧ ks = l.map eN) ∧
      env = envL w (some (.loc m)) x7 x8 x9 x10 x11 x12 x13 none none none) ?_ ?_ ?_ ?_
    · exact ⟨[.lst (w.goals.map eG)], w.goals.map eG, S1.length, _, _, _, _, _, _, _, rfl, by simp, kok_goals ok, fun h => absurd h (by omega), rfl⟩
    · intros; rfl
    · rintro j x env S2 hx ⟨G, ks, m, x7, x8, x9, x10, x11, x12, x13, rfl, hm, hk, _, rfl⟩
      obtain ⟨hj, rfl⟩ := range_at hx
      refine ⟨_, rfl, ?_⟩
      rw [wC_i]
      refine wC_end (least_turn ok (U := S1 ++ G) hm hk (some (.int (j : Int))) x8 x9 x10 x11 x12 x13 none none none) fun f S3 h => ?_
      obtain ⟨l, kvs, y8, y9, y10, y11, y12, y13, hl, rfl, rfl⟩ := h
      refine ⟨G ++ [.dct kvs, .lst (l.map eN)], l.map eN, (S1 ++ G).length + 1, _, _, _, _, _, _, _, by rw [List.append_assoc], ?_, kok_N hl, fun _ => ⟨l, hl, rfl⟩, rfl⟩
      rw [← List.append_assoc]
      exact at1 _ _ _ _
    · rintro env S2 ⟨G, ks, m, x7, x8, x9, x10, x11, x12, x13, rfl, hm, hk, hi, rfl⟩
      obtain ⟨l, hl, rfl⟩ := hi (by rw [range_len]; omega)
      exact ⟨_, rfl, G, l, m, _, _, _, _, _, _, _, rfl, hm, hl, rfl⟩
  rintro e S2 ⟨G, l, m, x7, x8, x9, x10, x11, x12, x13, h1, hm, hl, h2⟩
  subst h1 h2
  generalize hU : S1 ++ G = U at hm
  have hk0 : l[0]? = some (lk l 0) := by unfold lk; rw [List.getElem?_eq_getElem (by omega)]; rfl
  with_reducible refine wC_cut (fun e S2 => S2 = U ++ .lst (([0] : List Nat).map eN) :: .dct (spotsOf l [0] 0) :: .lst (([] : List (List (Option (Nat × Nat)))).map eRow) :: [] ∧ e = envL w (some (.loc m)) x7 x8 x9 x10 x11 x12 x13 (some (.loc U.length)) (some (.loc (U.length + 1))) (some (.loc (U.length + 2)))) ?_ ?_
  · have g0 : ∀ T, getIx (U ++ T) (.loc m) (.int 0) = some (eN (lk l 0)) := fun T => getIx_lst (i := 0) (app_at hm) (by rw [List.getElem?_map, hk0]; rfl)
    have ln : 1 ≤ line := by simp [line]
    simp only [wC_seq, wC_asg, wC_par, wC_sub, wC_ifc, wC_ret, wC_expr, wC_for, wC_skip, wD, wL, wR_lst, wR_nil, wR_cons, wR_cat, wR_tup, wR_ix, wR_var, wR_cst, wR_op, wR_cmp, wR_isc, wR_ite, wR_not, wR_bi1, wR_bi2, wR_call, wR_meth, wR_isi, wR_comp, wR_dct0, wR_glob, wT_not, wT_and, wT_or, wT_cmp, wT_isc, wT_var, wT_cst, wT_ix, wT_isi, wT_call, wT_ite, wI_enum, wI_seq, wI_range1, wI_zip, dC_v, dC_tmp, lC_tmp, tC_bl, okk_okr, put_n, put_2, put_3, put_5, setSlot, setAll, List.set, List.getElem?_cons_zero, List.getElem?_cons_succ, Option.some.injEq, exists_eq_left', add_i, sub_i, mul_i, mod_i, fdiv_i, add_t, eq_i, ne_i, lt_i, le_i, gt_i, ge_i, eq_ni, eq_in, eq_nn, eq_s, b_tuple, b_list, b_len_t, b_abs, b_int, b_lrange, b_min, b_max, at0, at1, at2, at3, set0, set1, set2, set3, methOn, meth, okk_if, itemsOf, seqOf, src, guardOf, Option.map_some, List.length_cons, List.length_nil, List.append_assoc, List.cons_append, List.nil_append, List.length_append, Bool.not_eq_true', start, List.map_cons, List.map_nil, List.replicate, Nat.reduceSub, Nat.reduceAdd, true_and, and_true, if_true, wR_dct1, envL, g0, ln]
    simp only [eN]
    first | exact ⟨_, rfl, _, rfl, rfl, rfl⟩ | exact ⟨_, rfl, _, rfl, trivial, rfl⟩ | exact ⟨_, rfl, rfl, rfl⟩ | exact ⟨_, rfl, trivial, rfl⟩ | exact ⟨_, rfl, rfl⟩ | rfl | exact ⟨_, rfl, Nat.zero_le _, _, rfl, rfl, rfl⟩ | exact ⟨Nat.zero_le _, _, rfl, rfl⟩
  rintro e S2 ⟨h1, h2⟩
  subst h1 h2
  refine wC_cut (fun e S2 => ∃ (ord : List Nat) (fnd : List (List (Option (Nat × Nat)))) (G' : Store) (x11 x13 : Option D), OrdOk w l ord ∧ fnd.length = ord.length ∧ (∀ r ∈ fnd, r.length = w.whose.length ∧ RowIn ord.length r) ∧
    S2 = U ++ .lst (ord.map eN) :: .dct (spotsOf l ord 0) :: .lst (fnd.map eRow) :: G' ∧ e = envL w (some (.loc m)) x7 x8 x9 x10 x11 x12 x13 (some (.loc U.length)) (some (.loc (U.length + 1))) (some (.loc (U.length + 2)))) ?_ fun e S2 ⟨ord, fnd, G', y11, y13, ho, hfl, hfr, h1, h2⟩ => ?_
  · rw [wC_whl]
    refine okk_while (fun mm env S2 => ∃ (ord : List Nat) (fnd : List (List (Option (Nat × Nat)))) (G' : Store) (x11 x13 : Option D), OrdOk w l ord ∧ fnd.length ≤ ord.length ∧ (∀ r ∈ fnd, r.length = w.whose.length ∧ RowIn ord.length r) ∧ mm + fnd.length = w.steps.length ∧
      S2 = U ++ .lst (ord.map eN) :: .dct (spotsOf l ord 0) :: .lst (fnd.map eRow) :: G' ∧ env = envL w (some (.loc m)) x7 x8 x9 x10 x11 x12 x13 (some (.loc U.length)) (some (.loc (U.length + 1))) (some (.loc (U.length + 2)))) ?_ _ w.steps.length _ _ (by simp only [fuel]; omega) ⟨[0], [], [], x11, x13, ⟨fun x hx => by simp at hx; omega, by simp⟩, by simp, fun r hr => by simp at hr, by simp, rfl, rfl⟩
    rintro mm env S2 ⟨ord, fnd, G', y11, y13, ho, hfl, hfr, hmm, rfl, rfl⟩
    have hle := ho.le
    rw [wT_i]
    simp only [wC_seq, wC_asg, wC_par, wC_sub, wC_ifc, wC_ret, wC_expr, wC_for, wC_skip, wD, wL, wR_lst, wR_nil, wR_cons, wR_cat, wR_tup, wR_ix, wR_var, wR_cst, wR_op, wR_cmp, wR_isc, wR_ite, wR_not, wR_bi1, wR_bi2, wR_call, wR_meth, wR_isi, wR_comp, wR_dct0, wR_glob, wT_not, wT_and, wT_or, wT_cmp, wT_isc, wT_var, wT_cst, wT_ix, wT_isi, wT_call, wT_ite, wI_enum, wI_seq, wI_range1, wI_zip, dC_v, dC_tmp, lC_tmp, tC_bl, okk_okr, put_n, put_2, put_3, put_5, setSlot, setAll, List.set, List.getElem?_cons_zero, List.getElem?_cons_succ, Option.some.injEq, exists_eq_left', add_i, sub_i, mul_i, mod_i, fdiv_i, add_t, eq_i, ne_i, lt_i, le_i, gt_i, ge_i, eq_ni, eq_in, eq_nn, eq_s, b_tuple, b_list, b_len_t, b_abs, b_int, b_lrange, b_min, b_max, at0, at1, at2, at3, set0, set1, set2, set3, methOn, meth, okk_if, itemsOf, seqOf, src, guardOf, Option.map_some, List.length_cons, List.length_nil, List.append_assoc, List.cons_append, List.nil_append, List.length_append, Bool.not_eq_true', start, List.map_cons, List.map_nil, List.replicate, Nat.reduceSub, Nat.reduceAdd, true_and, and_true, if_true, envL, bi1, List.length_map]
    by_cases hlt : fnd.length < ord.length
    · rw [decide_eq_true (by omega)]
      simp only
      rw [wC_i]
      obtain ⟨b, hb⟩ : ∃ b, ord[fnd.length]? = some b := ⟨_, List.getElem?_eq_getElem hlt⟩
      have hbl := ho.lt b (List.mem_of_getElem? hb)
      obtain ⟨r, hr⟩ : ∃ r, w.steps[b]? = some r := ⟨_, List.getElem?_eq_getElem hbl⟩
      have hrl : r.length = w.whose.length := ok.row r (List.mem_of_getElem? hr)
      have gb : ∀ T, getIx (U ++ .lst (ord.map eN) :: T) (.loc U.length) (.int (fnd.length : Int)) = some (eN b) := fun T => getIx_lst (at0 _ _ _) (by rw [List.getElem?_map, hb]; rfl)
      with_reducible refine wC_cut (fun e S3 => S3 = U ++ .lst (ord.map eN) :: .dct (spotsOf l ord 0) :: .lst (fnd.map eRow) :: (G' ++ [.lst []]) ∧ e = envL w (some (.loc m)) x7 x8 x9 x10 (some (.loc (U.length + (G'.length + 1 + 1 + 1)))) x12 y13 (some (.loc U.length)) (some (.loc (U.length + 1))) (some (.loc (U.length + 2)))) ?_ ?_
      · simp only [wC_seq, wC_asg, wC_par, wC_sub, wC_ifc, wC_ret, wC_expr, wC_for, wC_skip, wD, wL, wR_lst, wR_nil, wR_cons, wR_cat, wR_tup, wR_ix, wR_var, wR_cst, wR_op, wR_cmp, wR_isc, wR_ite, wR_not, wR_bi1, wR_bi2, wR_call, wR_meth, wR_isi, wR_comp, wR_dct0, wR_glob, wT_not, wT_and, wT_or, wT_cmp, wT_isc, wT_var, wT_cst, wT_ix, wT_isi, wT_call, wT_ite, wI_enum, wI_seq, wI_range1, wI_zip, dC_v, dC_tmp, lC_tmp, tC_bl, okk_okr, put_n, put_2, put_3, put_5, setSlot, setAll, List.set, List.getElem?_cons_zero, List.getElem?_cons_succ, Option.some.injEq, exists_eq_left', add_i, sub_i, mul_i, mod_i, fdiv_i, add_t, eq_i, ne_i, lt_i, le_i, gt_i, ge_i, eq_ni, eq_in, eq_nn, eq_s, b_tuple, b_list, b_len_t, b_abs, b_int, b_lrange, b_min, b_max, at0, at1, at2, at3, set0, set1, set2, set3, methOn, meth, okk_if, itemsOf, seqOf, src, guardOf, Option.map_some, List.length_cons, List.length_nil, List.append_assoc, List.cons_append, List.nil_append, List.length_append, Bool.not_eq_true', start, List.map_cons, List.map_nil, List.replicate, Nat.reduceSub, Nat.reduceAdd, true_and, and_true, if_true, envL]
        first | exact ⟨_, rfl, _, rfl, rfl, rfl⟩ | exact ⟨_, rfl, _, rfl, trivial, rfl⟩ | exact ⟨_, rfl, rfl, rfl⟩ | exact ⟨_, rfl, trivial, rfl⟩ | exact ⟨_, rfl, rfl⟩ | rfl | exact ⟨_, rfl, Nat.zero_le _, _, rfl, rfl, rfl⟩ | exact ⟨Nat.zero_le _, _, rfl, rfl⟩
      rintro e S3 ⟨h1, h2⟩
      subst h1 h2
      refine wC_cut (fun e S3 => ∃ (ord' : List Nat) (row : List (Option (Nat × Nat))) (z13 : Option D), OrdOk w l ord' ∧ ord.length ≤ ord'.length ∧ row.length = w.whose.length ∧ RowIn ord'.length row ∧
        S3 = U ++ .lst (ord'.map eN) :: .dct (spotsOf l ord' 0) :: .lst (fnd.map eRow) :: (G' ++ [.lst (row.map eS)]) ∧ e = envL w (some (.loc m)) x7 x8 x9 x10 (some (.loc (U.length + (G'.length + 1 + 1 + 1)))) x12 z13 (some (.loc U.length)) (some (.loc (U.length + 1))) (some (.loc (U.length + 2)))) ?_ fun e S3 ⟨ord', row, z13, ho', hlo, hrw, hri, h1, h2⟩ => ?_
      · rw [wC_for, wI_seq]
        simp only [wC_seq, wC_asg, wC_par, wC_sub, wC_ifc, wC_ret, wC_expr, wC_for, wC_skip, wD, wL, wR_lst, wR_nil, wR_cons, wR_cat, wR_tup, wR_ix, wR_var, wR_cst, wR_op, wR_cmp, wR_isc, wR_ite, wR_not, wR_bi1, wR_bi2, wR_call, wR_meth, wR_isi, wR_comp, wR_dct0, wR_glob, wT_not, wT_and, wT_or, wT_cmp, wT_isc, wT_var, wT_cst, wT_ix, wT_isi, wT_call, wT_ite, wI_enum, wI_seq, wI_range1, wI_zip, dC_v, dC_tmp, lC_tmp, tC_bl, okk_okr, put_n, put_2, put_3, put_5, setSlot, setAll, List.set, List.getElem?_cons_zero, List.getElem?_cons_succ, Option.some.injEq, exists_eq_left', add_i, sub_i, mul_i, mod_i, fdiv_i, add_t, eq_i, ne_i, lt_i, le_i, gt_i, ge_i, eq_ni, eq_in, eq_nn, eq_s, b_tuple, b_list, b_len_t, b_abs, b_int, b_lrange, b_min, b_max, at0, at1, at2, at3, set0, set1, set2, set3, methOn, meth, okk_if, itemsOf, seqOf, src, guardOf, Option.map_some, List.length_cons, List.length_nil, List.append_assoc, List.cons_append, List.nil_append, List.length_append, Bool.not_eq_true', start, List.map_cons, List.map_nil, List.replicate, Nat.reduceSub, Nat.reduceAdd, true_and, and_true, if_true, envL, bi1, List.length_map, gb, eRow_at hr, eN]
        simp only [eRow]
        refine ⟨_, rfl, ?_⟩
        refine okk_for (fun q env S3 => ∃ (ord' : List Nat) (row : List (Option (Nat × Nat))) (z13 : Option D), OrdOk w l ord' ∧ ord.length ≤ ord'.length ∧ row.length = q ∧ q ≤ r.length ∧ RowIn ord'.length row ∧
          S3 = U ++ .lst (ord'.map eN) :: .dct (spotsOf l ord' 0) :: .lst (fnd.map eRow) :: (G' ++ [.lst (row.map eS)]) ∧ env = envL w (some (.loc m)) x7 x8 x9 x10 (some (.loc (U.length + (G'.length + 1 + 1 + 1)))) x12 z13 (some (.loc U.length)) (some (.loc (U.length + 1))) (some (.loc (U.length + 2)))) ?_ ?_ ?_ ?_
        · exact ⟨ord, [], _, ho, Nat.le_refl _, rfl, Nat.zero_le _, fun t c h => by simp at h, rfl, rfl⟩
        · intros; rfl
        · rintro q x env S3 hx ⟨ord', row, z13, ho', hlo, hrw, hq, hri, rfl, rfl⟩
          rw [List.getElem?_map] at hx
          cases hs : r[q]? with
          | none => rw [hs] at hx; cases hx
          | some s =>
            rw [hs] at hx
            cases hx
            have hq' : q < r.length := (List.getElem?_eq_some_iff.mp hs).1
            refine ⟨_, rfl, ?_⟩
            rw [wC_i]
            refine wC_end (least_step ok (G := G') (C := .lst (fnd.map eRow)) hm hl ho' hri (by omega) (s := s) (fun t c e => by subst e; exact ok.to r (List.mem_of_getElem? hr) t c (List.mem_of_getElem? hs)) x7 x8 x9 x10 x12) fun f S4 h => ?_
            obtain ⟨ord2, s', ho2, hlo2, hri2, rfl, rfl⟩ := h
            exact ⟨ord2, row ++ [s'], _, ho2, by omega, by simp [hrw], hq', hri2, rfl, rfl⟩
        · rintro env S3 ⟨ord', row, z13, ho', hlo, hrw, hq, hri, rfl, rfl⟩
          rw [List.length_map] at hrw
          exact ⟨_, rfl, ord', row, z13, ho', hlo, by omega, hri, rfl, rfl⟩
      · subst h1 h2
        have ma := fun (y : D) (Φ : R → Store → Prop) => m_append (S := U ++ .lst (ord'.map eN) :: .dct (spotsOf l ord' 0) :: .lst (fnd.map eRow) :: (G' ++ [.lst (row.map eS)])) (n := U.length + 2) (x := y) (xs := fnd.map eRow) (Φ := Φ) (at2 _ _ _ _ _)
        have fl : fnd.length < line := by simp only [line]; omega
        simp only [wC_seq, wC_asg, wC_par, wC_sub, wC_ifc, wC_ret, wC_expr, wC_for, wC_skip, wD, wL, wR_lst, wR_nil, wR_cons, wR_cat, wR_tup, wR_ix, wR_var, wR_cst, wR_op, wR_cmp, wR_isc, wR_ite, wR_not, wR_bi1, wR_bi2, wR_call, wR_meth, wR_isi, wR_comp, wR_dct0, wR_glob, wT_not, wT_and, wT_or, wT_cmp, wT_isc, wT_var, wT_cst, wT_ix, wT_isi, wT_call, wT_ite, wI_enum, wI_seq, wI_range1, wI_zip, dC_v, dC_tmp, lC_tmp, tC_bl, okk_okr, put_n, put_2, put_3, put_5, setSlot, setAll, List.set, List.getElem?_cons_zero, List.getElem?_cons_succ, Option.some.injEq, exists_eq_left', add_i, sub_i, mul_i, mod_i, fdiv_i, add_t, eq_i, ne_i, lt_i, le_i, gt_i, ge_i, eq_ni, eq_in, eq_nn, eq_s, b_tuple, b_list, b_len_t, b_abs, b_int, b_lrange, b_min, b_max, at0, at1, at2, at3, set0, set1, set2, set3, okk_if, itemsOf, seqOf, src, guardOf, Option.map_some, List.length_cons, List.length_nil, List.append_assoc, List.cons_append, List.nil_append, List.length_append, Bool.not_eq_true', start, List.map_cons, List.map_nil, List.replicate, Nat.reduceSub, Nat.reduceAdd, true_and, and_true, if_true, envL, methOn, atR, ma, List.length_map, fl]
        refine ⟨mm - 1, by omega, ord', fnd ++ [row], G' ++ [.lst (row.map eS)], _, _, ho', by simp; omega, fun r' hr' => ?_, by simp; omega, ?_, rfl⟩
        · rcases List.mem_append.mp hr' with h | h
          · exact ⟨(hfr r' h).1, (hfr r' h).2.mono hlo⟩
          · simp only [List.mem_singleton] at h
            subst h
            exact ⟨hrw, hri⟩
        · simp [eRow]
    · rw [decide_eq_false (by omega)]
      simp only
      exact ⟨_, rfl, ord, fnd, G', y11, y13, ho, by omega, hfr, rfl, rfl⟩
  · subst h1 h2
    have hle := ho.le
    have ln : 5 ≤ line := by simp [line]
    have ol : ord.length ≤ line := by simp only [line]; omega
    let w' : Wd := { steps := fnd, whose := w.whose, goals := ord.map fun b => (w.goals[b]?).getD [], owners := w.owners, people := w.people }
    have okw : w'.Ok := ⟨fun r hr => (hfr r hr).1, fun r hr b c h => by rw [show w'.steps.length = ord.length from hfl]; exact (hfr r hr).2 b c h, by simp [w', hfl], fun r hr => by
      obtain ⟨b, hb, rfl⟩ := List.mem_map.mp hr
      have hbl := ho.lt b hb
      have : b < w.goals.length := by rw [ok.gl]; exact hbl
      rw [List.getElem?_eq_getElem this]
      exact ok.gw _ (List.getElem_mem this), by rw [show w'.steps.length = ord.length from hfl]; omega, ok.few, ok.own⟩
    simp only [wC_seq, wC_asg, wC_par, wC_sub, wC_ifc, wC_ret, wC_expr, wC_for, wC_skip, wD, wL, wR_lst, wR_nil, wR_cons, wR_cat, wR_tup, wR_ix, wR_var, wR_cst, wR_op, wR_cmp, wR_isc, wR_ite, wR_not, wR_bi1, wR_bi2, wR_call, wR_meth, wR_isi, wR_comp, wR_dct0, wR_glob, wT_not, wT_and, wT_or, wT_cmp, wT_isc, wT_var, wT_cst, wT_ix, wT_isi, wT_call, wT_ite, wI_enum, wI_seq, wI_range1, wI_zip, dC_v, dC_tmp, lC_tmp, tC_bl, okk_okr, put_n, put_2, put_3, put_5, setSlot, setAll, List.set, List.getElem?_cons_zero, List.getElem?_cons_succ, Option.some.injEq, exists_eq_left', add_i, sub_i, mul_i, mod_i, fdiv_i, add_t, eq_i, ne_i, lt_i, le_i, gt_i, ge_i, eq_ni, eq_in, eq_nn, eq_s, b_tuple, b_list, b_len_t, b_abs, b_int, b_lrange, b_min, b_max, at0, at1, at2, at3, set0, set1, set2, set3, methOn, meth, okk_if, itemsOf, seqOf, src, guardOf, Option.map_some, List.length_cons, List.length_nil, List.append_assoc, List.cons_append, List.nil_append, List.length_append, Bool.not_eq_true', start, List.map_cons, List.map_nil, List.replicate, Nat.reduceSub, Nat.reduceAdd, true_and, and_true, if_true, envL]
    refine okk_comp (fun j acc S3 => j ≤ ord.length ∧ acc = ((ord.take j).map fun b => eG ((w.goals[b]?).getD [])) ∧ S3 = U ++ .lst (ord.map eN) :: .dct (spotsOf l ord 0) :: .lst (fnd.map eRow) :: G') ?_ ?_ ?_ ?_
    · exact ⟨Nat.zero_le _, rfl, rfl⟩
    · rintro j acc S3 ⟨_, _, rfl⟩
      exact guard1 (at0 _ _ _)
    · rintro j x acc S3 hx ⟨hj, rfl, rfl⟩
      rw [List.getElem?_map] at hx
      cases hs : ord[j]? with
      | none => rw [hs] at hx; cases hx
      | some b =>
        rw [hs] at hx
        cases hx
        have hj' : j < ord.length := (List.getElem?_eq_some_iff.mp hs).1
        have hbl := ho.lt b (List.mem_of_getElem? hs)
        have hg : w.goals[b]? = some ((w.goals[b]?).getD []) := by
          rw [List.getElem?_eq_getElem (by rw [ok.gl]; exact hbl)]; rfl
        have gg : ∀ S, getIx S (.tup (w.goals.map eG)) (.int (b : Int)) = some (eG ((w.goals[b]?).getD [])) := fun S => getIx_tup (by rw [List.getElem?_map, hg]; rfl)
        rw [wStep_i]
        unfold wStep
        simp only [wC_seq, wC_asg, wC_par, wC_sub, wC_ifc, wC_ret, wC_expr, wC_for, wC_skip, wD, wL, wR_lst, wR_nil, wR_cons, wR_cat, wR_tup, wR_ix, wR_var, wR_cst, wR_op, wR_cmp, wR_isc, wR_ite, wR_not, wR_bi1, wR_bi2, wR_call, wR_meth, wR_isi, wR_comp, wR_dct0, wR_glob, wT_not, wT_and, wT_or, wT_cmp, wT_isc, wT_var, wT_cst, wT_ix, wT_isi, wT_call, wT_ite, wI_enum, wI_seq, wI_range1, wI_zip, dC_v, dC_tmp, lC_tmp, tC_bl, okk_okr, put_n, put_2, put_3, put_5, setSlot, setAll, List.set, List.getElem?_cons_zero, List.getElem?_cons_succ, Option.some.injEq, exists_eq_left', add_i, sub_i, mul_i, mod_i, fdiv_i, add_t, eq_i, ne_i, lt_i, le_i, gt_i, ge_i, eq_ni, eq_in, eq_nn, eq_s, b_tuple, b_list, b_len_t, b_abs, b_int, b_lrange, b_min, b_max, at0, at1, at2, at3, set0, set1, set2, set3, methOn, meth, okk_if, itemsOf, seqOf, src, guardOf, Option.map_some, List.length_cons, List.length_nil, List.append_assoc, List.cons_append, List.nil_append, List.length_append, Bool.not_eq_true', start, List.map_cons, List.map_nil, List.replicate, Nat.reduceSub, Nat.reduceAdd, true_and, and_true, if_true, wipe, envL, eN, gg]
        rw [List.take_add_one, hs]
        exact ⟨hj', by simp⟩
    · rintro acc S3 ⟨_, rfl, rfl⟩
      have tk : List.take (List.map eN ord).length ord = ord := List.take_of_length_le (by simp)
      have tk' : List.take ord.length ord = ord := List.take_length
      simp only [List.length_map, tk', ol, wC_seq, wC_asg, wC_par, wC_sub, wC_ifc, wC_ret, wC_expr, wC_for, wC_skip, wD, wL, wR_lst, wR_nil, wR_cons, wR_cat, wR_tup, wR_ix, wR_var, wR_cst, wR_op, wR_cmp, wR_isc, wR_ite, wR_not, wR_bi1, wR_bi2, wR_call, wR_meth, wR_isi, wR_comp, wR_dct0, wR_glob, wT_not, wT_and, wT_or, wT_cmp, wT_isc, wT_var, wT_cst, wT_ix, wT_isi, wT_call, wT_ite, wI_enum, wI_seq, wI_range1, wI_zip, dC_v, dC_tmp, lC_tmp, tC_bl, okk_okr, put_n, put_2, put_3, put_5, setSlot, setAll, List.set, List.getElem?_cons_zero, List.getElem?_cons_succ, Option.some.injEq, exists_eq_left', add_i, sub_i, mul_i, mod_i, fdiv_i, add_t, eq_i, ne_i, lt_i, le_i, gt_i, ge_i, eq_ni, eq_in, eq_nn, eq_s, b_tuple, b_list, b_len_t, b_abs, b_int, b_lrange, b_min, b_max, at0, at1, at2, at3, set0, set1, set2, set3, methOn, meth, okk_if, itemsOf, seqOf, src, guardOf, Option.map_some, List.length_cons, List.length_nil, List.append_assoc, List.cons_append, List.nil_append, List.length_append, Bool.not_eq_true', start, List.map_cons, List.map_nil, List.replicate, Nat.reduceSub, Nat.reduceAdd, true_and, and_true, if_true, ln]
      have he : D.tup [.tup (fnd.map eRow), .tup (w.whose.map eN), .tup (ord.map fun b => eG ((w.goals[b]?).getD [])), .tup (w.owners.map eN), eN w.people] = eW w' := by
        simp [eW, w', List.map_map, Function.comp_def]
      rw [he]
      refine ⟨?_, w', okw, rfl⟩
      rw [← hU, List.append_assoc]
      exact gc_pre (flat_eW w')
end MP

set_option linter.all false
set_option maxRecDepth 100000
set_option autoImplicit false
namespace MP
open PySem (Str)
/-! ### the fixed worlds -/
def wGate : Wd := ⟨[[some (1, 1), some (1, 4), some (2, 0), none], [none, none, none, none], [none, some (1, 4), none, some (0, 2)]], [0, 0, 1, 1], [[false, false], [true, false], [false, true]], [0, 1], 2⟩
def wPlank : Wd := ⟨[[some (1, 1), some (2, 1)], [none, some (3, 4)], [some (3, 4), none], [none, none]], [0, 1], [[false, false], [true, false], [false, true], [true, true]], [0, 1], 2⟩
def wBridges : Wd := ⟨[[some (1, 2), some (2, 0), some (3, 0), none], [none, none, none, none], [some (1, 3), none, some (4, 0), some (0, 1)], [some (1, 3), some (4, 0), none, none], [none, none, none, some (3, 1)]], [0, 1, 2, 1],
  [[false, false, false], [true, false, false], [false, true, false], [false, false, true], [false, true, true]], [0, 1, 2], 3⟩
theorem ok_fin (w : Wd) (h : (w.steps.all fun r => decide (r.length = w.whose.length) && r.all fun s => match s with
    | none => true
    | some (b, _) => decide (b < w.steps.length)) = true ∧ w.goals.length = w.steps.length ∧ (w.goals.all fun r => decide (r.length = w.owners.length)) = true ∧ w.steps.length ≤ 1000 ∧ w.whose.length ≤ 1000 ∧ w.owners.length ≤ 1000) : w.Ok := by
  obtain ⟨h1, h2, h3, h4, h5, h6⟩ := h
  simp only [List.all_eq_true, Bool.and_eq_true, decide_eq_true_eq] at h1 h3
  exact ⟨fun r hr => (h1 r hr).1, fun r hr b c hb => by simpa using (h1 r hr).2 _ hb, h2, h3, h4, h5, h6⟩
theorem ok_gate : wGate.Ok := ok_fin _ (by decide)
theorem ok_plank : wPlank.Ok := ok_fin _ (by decide)
theorem ok_bridges : wBridges.Ok := ok_fin _ (by decide)
theorem w_gate {P : Prg} (hf : P.fn 10 = some lgate) {k : Nat} {S : Store} : Okk (run P (k + 1) 10 [] S) fun d S' => S' = S ∧ d = eW wGate := by
  refine okk_run hf rfl ?_
  rw [wC_i]
  have l1 : 1 ≤ line ∧ 2 ≤ line ∧ 3 ≤ line ∧ 4 ≤ line ∧ 5 ≤ line := by simp [line]
  simp only [lgate, wC_seq, wC_asg, wC_par, wC_sub, wC_ifc, wC_ret, wC_expr, wC_for, wC_skip, wD, wL, wR_lst, wR_nil, wR_cons, wR_cat, wR_tup, wR_ix, wR_var, wR_cst, wR_op, wR_cmp, wR_isc, wR_ite, wR_not, wR_bi1, wR_bi2, wR_call, wR_meth, wR_isi, wR_comp, wR_dct0, wR_glob, wT_not, wT_and, wT_or, wT_cmp, wT_isc, wT_var, wT_cst, wT_ix, wT_isi, wT_call, wT_ite, wI_enum, wI_seq, wI_range1, wI_zip, dC_v, dC_tmp, lC_tmp, tC_bl, okk_okr, put_n, put_2, put_3, put_5, setSlot, setAll, List.set, List.getElem?_cons_zero, List.getElem?_cons_succ, Option.some.injEq, exists_eq_left', add_i, sub_i, mul_i, mod_i, fdiv_i, add_t, eq_i, ne_i, lt_i, le_i, gt_i, ge_i, eq_ni, eq_in, eq_nn, eq_s, b_tuple, b_list, b_len_t, b_abs, b_int, b_lrange, b_min, b_max, at0, at1, at2, at3, set0, set1, set2, set3, methOn, meth, okk_if, itemsOf, seqOf, src, guardOf, Option.map_some, List.length_cons, List.length_nil, List.append_assoc, List.cons_append, List.nil_append, List.length_append, Bool.not_eq_true', start, List.map_cons, List.map_nil, List.replicate, Nat.reduceSub, Nat.reduceAdd, true_and, and_true, if_true, l1, gc_self]
  rfl
theorem w_plank {P : Prg} (hf : P.fn 11 = some lplank) {k : Nat} {S : Store} : Okk (run P (k + 1) 11 [] S) fun d S' => S' = S ∧ d = eW wPlank := by
  refine okk_run hf rfl ?_
  rw [wC_i]
  have l1 : 1 ≤ line ∧ 2 ≤ line ∧ 3 ≤ line ∧ 4 ≤ line ∧ 5 ≤ line := by simp [line]
  simp only [lplank, wC_seq, wC_asg, wC_par, wC_sub, wC_ifc, wC_ret, wC_expr, wC_for, wC_skip, wD, wL, wR_lst, wR_nil, wR_cons, wR_cat, wR_tup, wR_ix, wR_var, wR_cst, wR_op, wR_cmp, wR_isc, wR_ite, wR_not, wR_bi1, wR_bi2, wR_call, wR_meth, wR_isi, wR_comp, wR_dct0, wR_glob, wT_not, wT_and, wT_or, wT_cmp, wT_isc, wT_var, wT_cst, wT_ix, wT_isi, wT_call, wT_ite, wI_enum, wI_seq, wI_range1, wI_zip, dC_v, dC_tmp, lC_tmp, tC_bl, okk_okr, put_n, put_2, put_3, put_5, setSlot, setAll, List.set, List.getElem?_cons_zero, List.getElem?_cons_succ, Option.some.injEq, exists_eq_left', add_i, sub_i, mul_i, mod_i, fdiv_i, add_t, eq_i, ne_i, lt_i, le_i, gt_i, ge_i, eq_ni, eq_in, eq_nn, eq_s, b_tuple, b_list, b_len_t, b_abs, b_int, b_lrange, b_min, b_max, at0, at1, at2, at3, set0, set1, set2, set3, methOn, meth, okk_if, itemsOf, seqOf, src, guardOf, Option.map_some, List.length_cons, List.length_nil, List.append_assoc, List.cons_append, List.nil_append, List.length_append, Bool.not_eq_true', start, List.map_cons, List.map_nil, List.replicate, Nat.reduceSub, Nat.reduceAdd, true_and, and_true, if_true, l1, gc_self]
  rfl
theorem w_bridges {P : Prg} (hf : P.fn 12 = some ltwo_bridges) {k : Nat} {S : Store} : Okk (run P (k + 1) 12 [] S) fun d S' => S' = S ∧ d = eW wBridges := by
  refine okk_run hf rfl ?_
  rw [wC_i]
  have l1 : 1 ≤ line ∧ 2 ≤ line ∧ 3 ≤ line ∧ 4 ≤ line ∧ 5 ≤ line := by simp [line]
  simp only [ltwo_bridges, wC_seq, wC_asg, wC_par, wC_sub, wC_ifc, wC_ret, wC_expr, wC_for, wC_skip, wD, wL, wR_lst, wR_nil, wR_cons, wR_cat, wR_tup, wR_ix, wR_var, wR_cst, wR_op, wR_cmp, wR_isc, wR_ite, wR_not, wR_bi1, wR_bi2, wR_call, wR_meth, wR_isi, wR_comp, wR_dct0, wR_glob, wT_not, wT_and, wT_or, wT_cmp, wT_isc, wT_var, wT_cst, wT_ix, wT_isi, wT_call, wT_ite, wI_enum, wI_seq, wI_range1, wI_zip, dC_v, dC_tmp, lC_tmp, tC_bl, okk_okr, put_n, put_2, put_3, put_5, setSlot, setAll, List.set, List.getElem?_cons_zero, List.getElem?_cons_succ, Option.some.injEq, exists_eq_left', add_i, sub_i, mul_i, mod_i, fdiv_i, add_t, eq_i, ne_i, lt_i, le_i, gt_i, ge_i, eq_ni, eq_in, eq_nn, eq_s, b_tuple, b_list, b_len_t, b_abs, b_int, b_lrange, b_min, b_max, at0, at1, at2, at3, set0, set1, set2, set3, methOn, meth, okk_if, itemsOf, seqOf, src, guardOf, Option.map_some, List.length_cons, List.length_nil, List.append_assoc, List.cons_append, List.nil_append, List.length_append, Bool.not_eq_true', start, List.map_cons, List.map_nil, List.replicate, Nat.reduceSub, Nat.reduceAdd, true_and, and_true, if_true, l1, gc_self]
  rfl
structure HasW (P : Prg) : Prop where
  f7 : P.fn 7 = some ltake
  f8 : P.fn 8 = some lpick
  f10 : P.fn 10 = some lgate
  f11 : P.fn 11 = some lplank
  f12 : P.fn 12 = some ltwo_bridges
  f13 : P.fn 13 = some lleast
  f14 : P.fn 14 = some lany_world
def envA (n : Nat) (x1 x2 x3 x4 x5 x6 x7 x8 x9 x10 x11 : Option D) : Env := [some (.loc n), x1, x2, x3, x4, x5, x6, x7, x8, x9, x10, x11]
theorem rg_nat (p : Nat) : rangeL 0 p = (List.range p).map eN := by
  apply List.ext_getElem?
  intro j
  rw [List.getElem?_map]
  by_cases h : j < p
  · obtain ⟨x, hx⟩ : ∃ x, (rangeL 0 p)[j]? = some x := ⟨_, List.getElem?_eq_getElem (by rw [range_len]; exact h)⟩
    rw [hx, List.getElem?_range h, (range_at hx).2]
    rfl
  · rw [List.getElem?_eq_none (by rw [range_len]; omega), List.getElem?_eq_none (by simp; omega)]
    rfl
theorem wC_cut2 {G : Nat → Option D} {cl : Nat → List D → Store → Out D} {a b : C} {env : Env} {S : Store} {Θ : Flow → Store → Prop} (M : Env → Store → Prop) (h1 : wC G cl a env S fun f S1 => match f with
    | .nxt e => M e S1
    | f => Θ f S1) (h2 : ∀ e S1, M e S1 → wC G cl b e S1 Θ) : wC G cl (.seq a b) env S Θ := by
  rw [wC_seq]
  refine okk_imp h1 fun f S1 h => ?_
  cases f with
  | nxt e => exact h2 e S1 h
  | _ => exact h
theorem take0 {P : Prg} (hf : P.fn 7 = some ltake) {k n m : Nat} {S S0 : Store} (h : Bx S n S0) (hm : 0 < m) (hm2 : m < 1000) {Φ : D → Store → Prop} (hΦ : ∀ S1 r, Bx S n S1 → r < m → Φ (eN r) S1) :
    Okk (run P (k + 1) 7 [.loc n, eN m] S0) Φ := by
  have := take_in (P := P) hf (k := k) (T := []) h hm hm2 (Φ := Φ) fun S1 r h1 hr => by simpa using hΦ S1 r h1 hr
  simpa using this
theorem pick' {P : Prg} (h7 : P.fn 7 = some ltake) (hf : P.fn 8 = some lpick) {k n : Nat} {S S0 T : Store} (h : Bx S n S0) {Φ : D → Store → Prop} (hΦ : ∀ S1 r, Bx S n S1 → Φ (eN r) (S1 ++ (T ++ [.lst [.int 0, .int 1, .int 1, .int 2, .int 3]]))) :
    Okk (run P (k + 2) 8 [.loc n, .loc (S0.length + T.length)] (S0 ++ (T ++ [.lst [.int 0, .int 1, .int 1, .int 2, .int 3]]))) Φ := by
  have := w_pick (P := P) h7 hf (k := k) (T := T) h hΦ
  rw [List.append_assoc, List.length_append] at this
  exact this
theorem row_draw {P : Prg} (hp : HasW P) {k n B Q Dn : Nat} {S S0 T : Store} (h : Bx S n S0) (hB : 0 < B) (hB2 : B < 1000) (x1 x5 x6 x7 x8 x9 x10 x11 : Option D) :
    Okk (compL [] (compStep [6] (.name 6) (fun env S => ev P.gl (run P (k + 2)) (.cst (.bl true)) env S) (fun env S => ev P.gl (run P (k + 2)) (.ite (.cmp .eq (.call 7 (.cons (.var 0) (.cons (.cst (.int 3)) .nil))) (.cst (.int 0))) (.cst .non) (.tup (.cons (.call 7 (.cons (.var 0) (.cons (.var 2) .nil))) (.cons (.call 8 (.cons (.var 0) (.cons (.lst (.cons (.cst (.int 0)) (.cons (.cst (.int 1)) (.cons (.cst (.int 1)) (.cons (.cst (.int 2)) (.cons (.cst (.int 3)) .nil)))))) .nil))) .nil)))) env S)
      (envA n x1 (some (eN B)) (some (eN Q)) (some (eN Dn)) x5 x6 x7 x8 x9 x10 x11)) (rangeL 0 Dn) (S0 ++ T)) (fun ds S' => ∃ row S1 G, ds = row.map eS ∧ row.length = Dn ∧ RowIn B row ∧ Bx S n S1 ∧ S' = S1 ++ (T ++ G)) := by
  refine okk_comp (fun j acc S' => ∃ row S1 G, acc = row.map eS ∧ row.length = j ∧ RowIn B row ∧ Bx S n S1 ∧ S' = S1 ++ (T ++ G)) ?_ ?_ ?_ ?_
  · exact ⟨[], S0, [], rfl, rfl, fun t c h => by simp at h, h, by simp⟩
  · intros; rfl
  · rintro j x acc S' hx ⟨row, S1, G, rfl, hl, hr, h1, rfl⟩
    obtain ⟨hj, rfl⟩ := range_at hx
    generalize hT : T ++ G = T'
    rw [wStep_i]
    unfold wStep
    have l5 : 5 ≤ line ∧ 2 ≤ line := by simp [line]
    simp only [wC_seq, wC_asg, wC_par, wC_sub, wC_ifc, wC_ret, wC_expr, wC_for, wC_skip, wD, wL, wR_lst, wR_nil, wR_cons, wR_cat, wR_tup, wR_ix, wR_var, wR_cst, wR_op, wR_cmp, wR_isc, wR_ite, wR_not, wR_bi1, wR_bi2, wR_call, wR_meth, wR_isi, wR_comp, wR_dct0, wR_glob, wT_not, wT_and, wT_or, wT_cmp, wT_isc, wT_var, wT_cst, wT_ix, wT_isi, wT_call, wT_ite, wI_enum, wI_seq, wI_range1, wI_zip, dC_v, dC_tmp, lC_tmp, tC_bl, okk_okr, put_n, put_2, put_3, put_5, setSlot, setAll, List.set, List.getElem?_cons_zero, List.getElem?_cons_succ, Option.some.injEq, exists_eq_left', add_i, sub_i, mul_i, mod_i, fdiv_i, add_t, eq_i, ne_i, lt_i, le_i, gt_i, ge_i, eq_ni, eq_in, eq_nn, eq_s, b_tuple, b_list, b_len_t, b_abs, b_int, b_lrange, b_min, b_max, at0, at1, at2, at3, set0, set1, set2, set3, methOn, meth, okk_if, itemsOf, seqOf, src, guardOf, Option.map_some, List.length_cons, List.length_nil, List.append_assoc, List.cons_append, List.nil_append, List.length_append, Bool.not_eq_true', start, List.map_cons, List.map_nil, List.replicate, Nat.reduceSub, Nat.reduceAdd, true_and, and_true, if_true, wipe, envA, l5]
    refine take_in hp.f7 h1 (m := 3) (by omega) (by omega) fun S2 r h2 hr2 => ?_
    simp only [eN, wC_seq, wC_asg, wC_par, wC_sub, wC_ifc, wC_ret, wC_expr, wC_for, wC_skip, wD, wL, wR_lst, wR_nil, wR_cons, wR_cat, wR_tup, wR_ix, wR_var, wR_cst, wR_op, wR_cmp, wR_isc, wR_ite, wR_not, wR_bi1, wR_bi2, wR_call, wR_meth, wR_isi, wR_comp, wR_dct0, wR_glob, wT_not, wT_and, wT_or, wT_cmp, wT_isc, wT_var, wT_cst, wT_ix, wT_isi, wT_call, wT_ite, wI_enum, wI_seq, wI_range1, wI_zip, dC_v, dC_tmp, lC_tmp, tC_bl, okk_okr, put_n, put_2, put_3, put_5, setSlot, setAll, List.set, List.getElem?_cons_zero, List.getElem?_cons_succ, Option.some.injEq, exists_eq_left', add_i, sub_i, mul_i, mod_i, fdiv_i, add_t, eq_i, ne_i, lt_i, le_i, gt_i, ge_i, eq_ni, eq_in, eq_nn, eq_s, b_tuple, b_list, b_len_t, b_abs, b_int, b_lrange, b_min, b_max, at0, at1, at2, at3, set0, set1, set2, set3, methOn, meth, okk_if, itemsOf, seqOf, src, guardOf, Option.map_some, List.length_cons, List.length_nil, List.append_assoc, List.cons_append, List.nil_append, List.length_append, Bool.not_eq_true', start, List.map_cons, List.map_nil, List.replicate, Nat.reduceSub, Nat.reduceAdd, true_and, and_true, if_true]
    by_cases h0 : r = 0
    · subst h0
      rw [if_pos (by simp)]
      refine ⟨row ++ [none], S2, G, by simp [eS], by simp [hl], fun t c h => ?_, h2, by rw [hT]⟩
      rcases List.mem_append.mp h with h | h
      · exact hr t c h
      · simp at h
    · rw [if_neg (by simp; omega)]
      refine take_in hp.f7 h2 (m := B) hB hB2 fun S3 t h3 ht => ?_
      refine w_pick hp.f7 hp.f8 h3 fun S4 c h4 => ?_
      refine ⟨row ++ [some (t, c)], S4, G ++ [.lst [.int 0, .int 1, .int 1, .int 2, .int 3]], by simp [eS, eN], by simp [hl], fun t' c' h => ?_, h4, by rw [← hT, List.append_assoc]⟩
      rcases List.mem_append.mp h with h | h
      · exact hr t' c' h
      · simp only [List.mem_singleton, Option.some.injEq, Prod.mk.injEq] at h
        obtain ⟨rfl, rfl⟩ := h
        exact ht
  · rintro acc S' ⟨row, S1, G, rfl, hl, hr, h1, rfl⟩
    rw [range_len] at hl
    exact ⟨row, S1, G, rfl, hl, hr, h1, rfl⟩
theorem goal_draw {P : Prg} (hp : HasW P) {k n B Q Ow j : Nat} {S S0 T : Store} (h : Bx S n S0) (hB : 2 ≤ B) (hB2 : B < 1000) (x1 x4 x5 x6 x7 x8 x9 x11 : Option D) :
    Okk (compL [] (compStep [11] (.name 11) (fun env S => ev P.gl (run P (k + 2)) (.cst (.bl true)) env S) (fun env S => ev P.gl (run P (k + 2)) (.or (.and (.cmp .gt (.var 10) (.cst (.int 0))) (.cmp .eq (.call 7 (.cons (.var 0) (.cons (.cst (.int 3)) .nil))) (.cst (.int 0)))) (.cmp .eq (.var 10) (.op .add (.cst (.int 1)) (.op .mod (.var 11) (.op .sub (.var 2) (.cst (.int 1))))))) env S)
      (envA n x1 (some (eN B)) (some (eN Q)) x4 x5 x6 x7 x8 x9 (some (eN j)) x11)) (rangeL 0 Ow) (S0 ++ T)) (fun ds S' => ∃ (row : List Bool) (S1 : Store), ds = row.map .bl ∧ row.length = Ow ∧ Bx S n S1 ∧ S' = S1 ++ T) := by
  refine okk_comp (fun q acc S' => ∃ (row : List Bool) (S1 : Store), acc = row.map .bl ∧ row.length = q ∧ Bx S n S1 ∧ S' = S1 ++ T) ?_ ?_ ?_ ?_
  · exact ⟨[], S0, rfl, rfl, h, rfl⟩
  · intros; rfl
  · rintro q x acc S' hx ⟨row, S1, rfl, hl, h1, rfl⟩
    obtain ⟨hj, rfl⟩ := range_at hx
    rw [wStep_i]
    unfold wStep
    have c1 : (0 : Int) < (B : Int) - 1 := by omega
    have t1 : ∀ S b, truth S (.bl b) = some b := fun _ _ => rfl
    have fin : ∀ (b : Bool) (S2 : Store), Bx S n S2 → ∃ (row_1 : List Bool) (S1 : Store), row.map D.bl ++ (some (D.bl b)).toList = row_1.map .bl ∧ row_1.length = q + 1 ∧ Bx S n S1 ∧ S2 ++ T = S1 ++ T := fun b S2 h2 => ⟨row ++ [b], S2, by simp, by simp [hl], h2, rfl⟩
    simp only [wC_seq, wC_asg, wC_par, wC_sub, wC_ifc, wC_ret, wC_expr, wC_for, wC_skip, wD, wL, wR_lst, wR_nil, wR_cons, wR_cat, wR_tup, wR_ix, wR_var, wR_cst, wR_op, wR_cmp, wR_isc, wR_ite, wR_not, wR_bi1, wR_bi2, wR_call, wR_meth, wR_isi, wR_comp, wR_dct0, wR_glob, wT_not, wT_and, wT_or, wT_cmp, wT_isc, wT_var, wT_cst, wT_ix, wT_isi, wT_call, wT_ite, wI_enum, wI_seq, wI_range1, wI_zip, dC_v, dC_tmp, lC_tmp, tC_bl, okk_okr, put_n, put_2, put_3, put_5, setSlot, setAll, List.set, List.getElem?_cons_zero, List.getElem?_cons_succ, Option.some.injEq, exists_eq_left', add_i, sub_i, mul_i, mod_i, fdiv_i, add_t, eq_i, ne_i, lt_i, le_i, gt_i, ge_i, eq_ni, eq_in, eq_nn, eq_s, b_tuple, b_list, b_len_t, b_abs, b_int, b_lrange, b_min, b_max, at0, at1, at2, at3, set0, set1, set2, set3, methOn, meth, okk_if, itemsOf, seqOf, src, guardOf, Option.map_some, List.length_cons, List.length_nil, List.append_assoc, List.cons_append, List.nil_append, List.length_append, Bool.not_eq_true', start, List.map_cons, List.map_nil, List.replicate, Nat.reduceSub, Nat.reduceAdd, true_and, and_true, if_true, wR_or, wR_and, wipe, envA, eN, c1, t1]
    by_cases h0 : 0 < (j : Int)
    · rw [if_pos (decide_eq_true h0)]
      refine take_in hp.f7 h1 (m := 3) (by omega) (by omega) fun S2 r h2 hr2 => ?_
      simp only [eN, wC_seq, wC_asg, wC_par, wC_sub, wC_ifc, wC_ret, wC_expr, wC_for, wC_skip, wD, wL, wR_lst, wR_nil, wR_cons, wR_cat, wR_tup, wR_ix, wR_var, wR_cst, wR_op, wR_cmp, wR_isc, wR_ite, wR_not, wR_bi1, wR_bi2, wR_call, wR_meth, wR_isi, wR_comp, wR_dct0, wR_glob, wT_not, wT_and, wT_or, wT_cmp, wT_isc, wT_var, wT_cst, wT_ix, wT_isi, wT_call, wT_ite, wI_enum, wI_seq, wI_range1, wI_zip, dC_v, dC_tmp, lC_tmp, tC_bl, okk_okr, put_n, put_2, put_3, put_5, setSlot, setAll, List.set, List.getElem?_cons_zero, List.getElem?_cons_succ, Option.some.injEq, exists_eq_left', add_i, sub_i, mul_i, mod_i, fdiv_i, add_t, eq_i, ne_i, lt_i, le_i, gt_i, ge_i, eq_ni, eq_in, eq_nn, eq_s, b_tuple, b_list, b_len_t, b_abs, b_int, b_lrange, b_min, b_max, at0, at1, at2, at3, set0, set1, set2, set3, methOn, meth, okk_if, itemsOf, seqOf, src, guardOf, Option.map_some, List.length_cons, List.length_nil, List.append_assoc, List.cons_append, List.nil_append, List.length_append, Bool.not_eq_true', start, List.map_cons, List.map_nil, List.replicate, Nat.reduceSub, Nat.reduceAdd, true_and, and_true, if_true, t1]
      by_cases h3 : (r : Int) = 0
      · rw [if_pos (decide_eq_true h3)]; exact fin _ S2 h2
      · rw [if_neg (by simp; omega)]; exact fin _ S2 h2
    · rw [if_neg (by simp; omega)]
      rw [if_neg (by simp; omega)]
      exact fin _ S1 h1
  · rintro acc S' ⟨row, S1, rfl, hl, h1, rfl⟩
    rw [range_len] at hl
    exact ⟨row, S1, rfl, hl, h1, rfl⟩
theorem two_add (r : Nat) : ((2 : Int) + (r : Int)) = ((2 + r : Nat) : Int) := by omega
theorem nat_add (q r : Nat) : ((q : Int) + (r : Int)) = ((q + r : Nat) : Int) := by omega
theorem w_any {P : Prg} (hp : HasW P) {k n : Nat} {S : Store} (h0 : Bx S n S) : Okk (run P (k + 3) 14 [.loc n] S) fun d S' => Bx S n S' ∧ ∃ w : Wd, w.Ok ∧ d = eW w := by
  refine okk_run hp.f14 rfl ?_
  rw [wC_i]
  simp only [lany_world, start, List.map_cons, List.map_nil, List.length_cons, List.length_nil, List.replicate, Nat.reduceSub, Nat.reduceAdd, List.cons_append, List.nil_append]
  have gcB : ∀ (S1 : Store) (w : Wd), Bx S n S1 → gc S (eW w) S1 = S1 := fun S1 w h => by
    have := h.gc (T := []) (flat_eW w)
    simpa using this
  with_reducible refine wC_cut2 (fun e S1 => Bx S n S1 ∧ ∃ y : Nat, e = envA n (some (eN y)) none none none none none none none none none none) ?_ ?_
  · simp only [wC_seq, wC_asg, wC_par, wC_sub, wC_ifc, wC_ret, wC_expr, wC_for, wC_skip, wD, wL, wR_lst, wR_nil, wR_cons, wR_cat, wR_tup, wR_ix, wR_var, wR_cst, wR_op, wR_cmp, wR_isc, wR_ite, wR_not, wR_bi1, wR_bi2, wR_call, wR_meth, wR_isi, wR_comp, wR_dct0, wR_glob, wT_not, wT_and, wT_or, wT_cmp, wT_isc, wT_var, wT_cst, wT_ix, wT_isi, wT_call, wT_ite, wI_enum, wI_seq, wI_range1, wI_zip, dC_v, dC_tmp, lC_tmp, tC_bl, okk_okr, put_n, put_2, put_3, put_5, setSlot, setAll, List.set, List.getElem?_cons_zero, List.getElem?_cons_succ, Option.some.injEq, exists_eq_left', add_i, sub_i, mul_i, mod_i, fdiv_i, add_t, eq_i, ne_i, lt_i, le_i, gt_i, ge_i, eq_ni, eq_in, eq_nn, eq_s, b_tuple, b_list, b_len_t, b_abs, b_int, b_lrange, b_min, b_max, at0, at1, at2, at3, set0, set1, set2, set3, methOn, meth, okk_if, itemsOf, seqOf, src, guardOf, Option.map_some, List.length_cons, List.length_nil, List.append_assoc, List.cons_append, List.nil_append, List.length_append, Bool.not_eq_true', start, List.map_cons, List.map_nil, List.replicate, Nat.reduceSub, Nat.reduceAdd, true_and, and_true, if_true]
    refine take0 hp.f7 h0 (m := 8) (by omega) (by omega) fun S1 r h hr => ?_
    exact ⟨h, r, rfl⟩
  rintro e S1 ⟨h1, y, rfl⟩
  with_reducible refine wC_cut2 (fun e S2 => S2 = S1 ∧ e = envA n (some (eN y)) none none none none none none none none none none) ?_ ?_
  · simp only [wC_seq, wC_asg, wC_par, wC_sub, wC_ifc, wC_ret, wC_expr, wC_for, wC_skip, wD, wL, wR_lst, wR_nil, wR_cons, wR_cat, wR_tup, wR_ix, wR_var, wR_cst, wR_op, wR_cmp, wR_isc, wR_ite, wR_not, wR_bi1, wR_bi2, wR_call, wR_meth, wR_isi, wR_comp, wR_dct0, wR_glob, wT_not, wT_and, wT_or, wT_cmp, wT_isc, wT_var, wT_cst, wT_ix, wT_isi, wT_call, wT_ite, wI_enum, wI_seq, wI_range1, wI_zip, dC_v, dC_tmp, lC_tmp, tC_bl, okk_okr, put_n, put_2, put_3, put_5, setSlot, setAll, List.set, List.getElem?_cons_zero, List.getElem?_cons_succ, Option.some.injEq, exists_eq_left', add_i, sub_i, mul_i, mod_i, fdiv_i, add_t, eq_i, ne_i, lt_i, le_i, gt_i, ge_i, eq_ni, eq_in, eq_nn, eq_s, b_tuple, b_list, b_len_t, b_abs, b_int, b_lrange, b_min, b_max, at0, at1, at2, at3, set0, set1, set2, set3, methOn, meth, okk_if, itemsOf, seqOf, src, guardOf, Option.map_some, List.length_cons, List.length_nil, List.append_assoc, List.cons_append, List.nil_append, List.length_append, Bool.not_eq_true', start, List.map_cons, List.map_nil, List.replicate, Nat.reduceSub, Nat.reduceAdd, true_and, and_true, if_true, envA, eN]
    by_cases hy : (y : Int) < 3
    · rw [if_pos (decide_eq_true hy)]
      by_cases hy0 : (y : Int) = 0
      · rw [if_pos (decide_eq_true hy0)]
        refine okk_imp (w_gate hp.f10) fun d S2 h => ?_
        obtain ⟨rfl, rfl⟩ := h
        rw [gcB _ _ h1]
        exact ⟨h1, wGate, ok_gate, rfl⟩
      · rw [if_neg (by simp; omega)]
        by_cases hy1 : (y : Int) = 1
        · rw [if_pos (decide_eq_true hy1)]
          refine okk_imp (w_plank hp.f11) fun d S2 h => ?_
          obtain ⟨rfl, rfl⟩ := h
          rw [gcB _ _ h1]
          exact ⟨h1, wPlank, ok_plank, rfl⟩
        · rw [if_neg (by simp; omega)]
          refine okk_imp (w_bridges hp.f12) fun d S2 h => ?_
          obtain ⟨rfl, rfl⟩ := h
          rw [gcB _ _ h1]
          exact ⟨h1, wBridges, ok_bridges, rfl⟩
    · rw [if_neg (by simp; omega)]
      trivial
  rintro e S2 ⟨rfl, rfl⟩
  with_reducible refine wC_cut2 (fun e S3 => Bx S n S3 ∧ ∃ B Q : Nat, 2 ≤ B ∧ B ≤ 5 ∧ 2 ≤ Q ∧ Q ≤ 3 ∧ e = envA n (some (eN y)) (some (eN B)) (some (eN Q)) none none none none none none none none) ?_ ?_
  · have l2 : 2 ≤ line := by simp [line]
    simp only [wC_seq, wC_asg, wC_par, wC_sub, wC_ifc, wC_ret, wC_expr, wC_for, wC_skip, wD, wL, wR_lst, wR_nil, wR_cons, wR_cat, wR_tup, wR_ix, wR_var, wR_cst, wR_op, wR_cmp, wR_isc, wR_ite, wR_not, wR_bi1, wR_bi2, wR_call, wR_meth, wR_isi, wR_comp, wR_dct0, wR_glob, wT_not, wT_and, wT_or, wT_cmp, wT_isc, wT_var, wT_cst, wT_ix, wT_isi, wT_call, wT_ite, wI_enum, wI_seq, wI_range1, wI_zip, dC_v, dC_tmp, lC_tmp, tC_bl, okk_okr, put_n, put_2, put_3, put_5, setSlot, setAll, List.set, List.getElem?_cons_zero, List.getElem?_cons_succ, Option.some.injEq, exists_eq_left', add_i, sub_i, mul_i, mod_i, fdiv_i, add_t, eq_i, ne_i, lt_i, le_i, gt_i, ge_i, eq_ni, eq_in, eq_nn, eq_s, b_tuple, b_list, b_len_t, b_abs, b_int, b_lrange, b_min, b_max, at0, at1, at2, at3, set0, set1, set2, set3, methOn, meth, okk_if, itemsOf, seqOf, src, guardOf, Option.map_some, List.length_cons, List.length_nil, List.append_assoc, List.cons_append, List.nil_append, List.length_append, Bool.not_eq_true', start, List.map_cons, List.map_nil, List.replicate, Nat.reduceSub, Nat.reduceAdd, true_and, and_true, if_true, envA]
    refine take0 hp.f7 h1 (m := 4) (by omega) (by omega) fun S3 r3 h3 hr3 => ?_
    simp only [eN, wC_seq, wC_asg, wC_par, wC_sub, wC_ifc, wC_ret, wC_expr, wC_for, wC_skip, wD, wL, wR_lst, wR_nil, wR_cons, wR_cat, wR_tup, wR_ix, wR_var, wR_cst, wR_op, wR_cmp, wR_isc, wR_ite, wR_not, wR_bi1, wR_bi2, wR_call, wR_meth, wR_isi, wR_comp, wR_dct0, wR_glob, wT_not, wT_and, wT_or, wT_cmp, wT_isc, wT_var, wT_cst, wT_ix, wT_isi, wT_call, wT_ite, wI_enum, wI_seq, wI_range1, wI_zip, dC_v, dC_tmp, lC_tmp, tC_bl, okk_okr, put_n, put_2, put_3, put_5, setSlot, setAll, List.set, List.getElem?_cons_zero, List.getElem?_cons_succ, Option.some.injEq, exists_eq_left', add_i, sub_i, mul_i, mod_i, fdiv_i, add_t, eq_i, ne_i, lt_i, le_i, gt_i, ge_i, eq_ni, eq_in, eq_nn, eq_s, b_tuple, b_list, b_len_t, b_abs, b_int, b_lrange, b_min, b_max, at0, at1, at2, at3, set0, set1, set2, set3, methOn, meth, okk_if, itemsOf, seqOf, src, guardOf, Option.map_some, List.length_cons, List.length_nil, List.append_assoc, List.cons_append, List.nil_append, List.length_append, Bool.not_eq_true', start, List.map_cons, List.map_nil, List.replicate, Nat.reduceSub, Nat.reduceAdd, true_and, and_true, if_true]
    refine take0 hp.f7 h3 (m := 2) (by omega) (by omega) fun S4 r4 h4 hr4 => ?_
    simp only [eN, wC_seq, wC_asg, wC_par, wC_sub, wC_ifc, wC_ret, wC_expr, wC_for, wC_skip, wD, wL, wR_lst, wR_nil, wR_cons, wR_cat, wR_tup, wR_ix, wR_var, wR_cst, wR_op, wR_cmp, wR_isc, wR_ite, wR_not, wR_bi1, wR_bi2, wR_call, wR_meth, wR_isi, wR_comp, wR_dct0, wR_glob, wT_not, wT_and, wT_or, wT_cmp, wT_isc, wT_var, wT_cst, wT_ix, wT_isi, wT_call, wT_ite, wI_enum, wI_seq, wI_range1, wI_zip, dC_v, dC_tmp, lC_tmp, tC_bl, okk_okr, put_n, put_2, put_3, put_5, setSlot, setAll, List.set, List.getElem?_cons_zero, List.getElem?_cons_succ, Option.some.injEq, exists_eq_left', add_i, sub_i, mul_i, mod_i, fdiv_i, add_t, eq_i, ne_i, lt_i, le_i, gt_i, ge_i, eq_ni, eq_in, eq_nn, eq_s, b_tuple, b_list, b_len_t, b_abs, b_int, b_lrange, b_min, b_max, at0, at1, at2, at3, set0, set1, set2, set3, methOn, meth, okk_if, itemsOf, seqOf, src, guardOf, Option.map_some, List.length_cons, List.length_nil, List.append_assoc, List.cons_append, List.nil_append, List.length_append, Bool.not_eq_true', start, List.map_cons, List.map_nil, List.replicate, Nat.reduceSub, Nat.reduceAdd, true_and, and_true, if_true, l2, two_add]
    exact ⟨h4, 2 + r3, 2 + r4, by omega, by omega, by omega, by omega, rfl⟩
  rintro e S3 ⟨h3, B, Q, hB1, hB2, hQ1, hQ2, rfl⟩
  with_reducible refine wC_cut2 (fun e S4 => Bx S n S4 ∧ ∃ Dn : Nat, Dn ≤ 5 ∧ e = envA n (some (eN y)) (some (eN B)) (some (eN Q)) (some (eN Dn)) none none none none none none none) ?_ ?_
  · simp only [wC_seq, wC_asg, wC_par, wC_sub, wC_ifc, wC_ret, wC_expr, wC_for, wC_skip, wD, wL, wR_lst, wR_nil, wR_cons, wR_cat, wR_tup, wR_ix, wR_var, wR_cst, wR_op, wR_cmp, wR_isc, wR_ite, wR_not, wR_bi1, wR_bi2, wR_call, wR_meth, wR_isi, wR_comp, wR_dct0, wR_glob, wT_not, wT_and, wT_or, wT_cmp, wT_isc, wT_var, wT_cst, wT_ix, wT_isi, wT_call, wT_ite, wI_enum, wI_seq, wI_range1, wI_zip, dC_v, dC_tmp, lC_tmp, tC_bl, okk_okr, put_n, put_2, put_3, put_5, setSlot, setAll, List.set, List.getElem?_cons_zero, List.getElem?_cons_succ, Option.some.injEq, exists_eq_left', add_i, sub_i, mul_i, mod_i, fdiv_i, add_t, eq_i, ne_i, lt_i, le_i, gt_i, ge_i, eq_ni, eq_in, eq_nn, eq_s, b_tuple, b_list, b_len_t, b_abs, b_int, b_lrange, b_min, b_max, at0, at1, at2, at3, set0, set1, set2, set3, methOn, meth, okk_if, itemsOf, seqOf, src, guardOf, Option.map_some, List.length_cons, List.length_nil, List.append_assoc, List.cons_append, List.nil_append, List.length_append, Bool.not_eq_true', start, List.map_cons, List.map_nil, List.replicate, Nat.reduceSub, Nat.reduceAdd, true_and, and_true, if_true, envA]
    refine take0 hp.f7 h3 (m := 3) (by omega) (by omega) fun S4 r h4 hr => ?_
    simp only [eN, wC_seq, wC_asg, wC_par, wC_sub, wC_ifc, wC_ret, wC_expr, wC_for, wC_skip, wD, wL, wR_lst, wR_nil, wR_cons, wR_cat, wR_tup, wR_ix, wR_var, wR_cst, wR_op, wR_cmp, wR_isc, wR_ite, wR_not, wR_bi1, wR_bi2, wR_call, wR_meth, wR_isi, wR_comp, wR_dct0, wR_glob, wT_not, wT_and, wT_or, wT_cmp, wT_isc, wT_var, wT_cst, wT_ix, wT_isi, wT_call, wT_ite, wI_enum, wI_seq, wI_range1, wI_zip, dC_v, dC_tmp, lC_tmp, tC_bl, okk_okr, put_n, put_2, put_3, put_5, setSlot, setAll, List.set, List.getElem?_cons_zero, List.getElem?_cons_succ, Option.some.injEq, exists_eq_left', add_i, sub_i, mul_i, mod_i, fdiv_i, add_t, eq_i, ne_i, lt_i, le_i, gt_i, ge_i, eq_ni, eq_in, eq_nn, eq_s, b_tuple, b_list, b_len_t, b_abs, b_int, b_lrange, b_min, b_max, at0, at1, at2, at3, set0, set1, set2, set3, methOn, meth, okk_if, itemsOf, seqOf, src, guardOf, Option.map_some, List.length_cons, List.length_nil, List.append_assoc, List.cons_append, List.nil_append, List.length_append, Bool.not_eq_true', start, List.map_cons, List.map_nil, List.replicate, Nat.reduceSub, Nat.reduceAdd, true_and, and_true, if_true, nat_add]
    exact ⟨h4, Q + r, by omega, rfl⟩
  rintro e S4 ⟨h4, Dn, hD, rfl⟩
  with_reducible refine wC_cut2 (fun e S5 => Bx S n S5 ∧ ∃ wh : List Nat, wh.length = Dn ∧ e = envA n (some (eN y)) (some (eN B)) (some (eN Q)) (some (eN Dn)) (some (.tup (wh.map eN))) none none none none none none) ?_ ?_
  · have fr : (-far ≤ (Dn : Int) ∧ (Dn : Int) < far) := by simp only [far]; omega
    simp only [wC_seq, wC_asg, wC_par, wC_sub, wC_ifc, wC_ret, wC_expr, wC_for, wC_skip, wD, wL, wR_lst, wR_nil, wR_cons, wR_cat, wR_tup, wR_ix, wR_var, wR_cst, wR_op, wR_cmp, wR_isc, wR_ite, wR_not, wR_bi1, wR_bi2, wR_call, wR_meth, wR_isi, wR_comp, wR_dct0, wR_glob, wT_not, wT_and, wT_or, wT_cmp, wT_isc, wT_var, wT_cst, wT_ix, wT_isi, wT_call, wT_ite, wI_enum, wI_seq, wI_range1, wI_zip, dC_v, dC_tmp, lC_tmp, tC_bl, okk_okr, put_n, put_2, put_3, put_5, setSlot, setAll, List.set, List.getElem?_cons_zero, List.getElem?_cons_succ, Option.some.injEq, exists_eq_left', add_i, sub_i, mul_i, mod_i, fdiv_i, add_t, eq_i, ne_i, lt_i, le_i, gt_i, ge_i, eq_ni, eq_in, eq_nn, eq_s, b_tuple, b_list, b_len_t, b_abs, b_int, b_lrange, b_min, b_max, at0, at1, at2, at3, set0, set1, set2, set3, methOn, meth, okk_if, itemsOf, seqOf, src, guardOf, Option.map_some, List.length_cons, List.length_nil, List.append_assoc, List.cons_append, List.nil_append, List.length_append, Bool.not_eq_true', start, List.map_cons, List.map_nil, List.replicate, Nat.reduceSub, Nat.reduceAdd, true_and, and_true, if_true, envA, eN]
    refine ⟨_, if_pos (by simpa using fr), ?_⟩
    refine okk_comp (fun j acc S' => Bx S n S' ∧ ∃ wh : List Nat, wh.length = j ∧ acc = wh.map eN) ?_ ?_ ?_ ?_
    · exact ⟨h4, [], rfl, rfl⟩
    · intros; rfl
    · rintro j x acc S' hx ⟨h5, wh, hl, rfl⟩
      obtain ⟨hj, rfl⟩ := range_at hx
      rw [wStep_i]
      unfold wStep
      simp only [wC_seq, wC_asg, wC_par, wC_sub, wC_ifc, wC_ret, wC_expr, wC_for, wC_skip, wD, wL, wR_lst, wR_nil, wR_cons, wR_cat, wR_tup, wR_ix, wR_var, wR_cst, wR_op, wR_cmp, wR_isc, wR_ite, wR_not, wR_bi1, wR_bi2, wR_call, wR_meth, wR_isi, wR_comp, wR_dct0, wR_glob, wT_not, wT_and, wT_or, wT_cmp, wT_isc, wT_var, wT_cst, wT_ix, wT_isi, wT_call, wT_ite, wI_enum, wI_seq, wI_range1, wI_zip, dC_v, dC_tmp, lC_tmp, tC_bl, okk_okr, put_n, put_2, put_3, put_5, setSlot, setAll, List.set, List.getElem?_cons_zero, List.getElem?_cons_succ, Option.some.injEq, exists_eq_left', add_i, sub_i, mul_i, mod_i, fdiv_i, add_t, eq_i, ne_i, lt_i, le_i, gt_i, ge_i, eq_ni, eq_in, eq_nn, eq_s, b_tuple, b_list, b_len_t, b_abs, b_int, b_lrange, b_min, b_max, at0, at1, at2, at3, set0, set1, set2, set3, methOn, meth, okk_if, itemsOf, seqOf, src, guardOf, Option.map_some, List.length_cons, List.length_nil, List.append_assoc, List.cons_append, List.nil_append, List.length_append, Bool.not_eq_true', start, List.map_cons, List.map_nil, List.replicate, Nat.reduceSub, Nat.reduceAdd, true_and, and_true, if_true, wipe]
      by_cases hjq : (j : Int) < (Q : Int)
      · rw [if_pos (decide_eq_true hjq)]
        exact ⟨h5, wh ++ [j], by simp [hl], by simp [eN]⟩
      · rw [if_neg (by simp; omega)]
        refine take0 hp.f7 h5 (m := Q) (by omega) (by omega) fun S6 r h6 hr => ?_
        exact ⟨h6, wh ++ [r], by simp [hl], by simp⟩
    · rintro acc S' ⟨h5, wh, hl, rfl⟩
      have hl' : wh.length = Dn := by rw [hl, range_len]; omega
      have wl : wh.length ≤ line := by simp only [line]; omega
      simp only [List.length_map, wl, wC_seq, wC_asg, wC_par, wC_sub, wC_ifc, wC_ret, wC_expr, wC_for, wC_skip, wD, wL, wR_lst, wR_nil, wR_cons, wR_cat, wR_tup, wR_ix, wR_var, wR_cst, wR_op, wR_cmp, wR_isc, wR_ite, wR_not, wR_bi1, wR_bi2, wR_call, wR_meth, wR_isi, wR_comp, wR_dct0, wR_glob, wT_not, wT_and, wT_or, wT_cmp, wT_isc, wT_var, wT_cst, wT_ix, wT_isi, wT_call, wT_ite, wI_enum, wI_seq, wI_range1, wI_zip, dC_v, dC_tmp, lC_tmp, tC_bl, okk_okr, put_n, put_2, put_3, put_5, setSlot, setAll, List.set, List.getElem?_cons_zero, List.getElem?_cons_succ, Option.some.injEq, exists_eq_left', add_i, sub_i, mul_i, mod_i, fdiv_i, add_t, eq_i, ne_i, lt_i, le_i, gt_i, ge_i, eq_ni, eq_in, eq_nn, eq_s, b_tuple, b_list, b_len_t, b_abs, b_int, b_lrange, b_min, b_max, at0, at1, at2, at3, set0, set1, set2, set3, methOn, meth, okk_if, itemsOf, seqOf, src, guardOf, Option.map_some, List.length_cons, List.length_nil, List.append_assoc, List.cons_append, List.nil_append, List.length_append, Bool.not_eq_true', start, List.map_cons, List.map_nil, List.replicate, Nat.reduceSub, Nat.reduceAdd, true_and, and_true, if_true]
      exact ⟨h5, wh, hl', rfl⟩
  rintro e S5 ⟨h5, wh, hwl, rfl⟩
  with_reducible refine wC_cut2 (fun e S6 => ∃ (ow : List Nat) (S0 : Store) (g1 g2 : Cell), Bx S n S0 ∧ S6 = S0 ++ [g1, g2] ∧ ow.length ≤ 4 ∧ e = envA n (some (eN y)) (some (eN B)) (some (eN Q)) (some (eN Dn)) (some (.tup (wh.map eN))) none (some (.tup (ow.map eN))) none none none none) ?_ ?_
  · have fr : ((-far ≤ (Q : Int) ∧ (Q : Int) < far) ∧ (Q : Int).toNat ≤ line) := by simp only [far, line]; omega
    have l1 : 1 ≤ line := by simp [line]
    have ql : (rangeL 0 (Q : Int).toNat).length = Q := by rw [range_len]; omega
    have qe : rangeL 0 (Q : Int).toNat = (List.range Q).map eN := by rw [← rg_nat]; simp
    have a1 : ∀ (S1 : Store) (a b : Cell) (L : Nat), S1.length = L → (S1 ++ [a, b])[L]? = some a := fun S1 a b L h => by rw [← h]; exact at0 _ _ _
    have a2 : ∀ (S1 : Store) (a b : Cell) (L : Nat), S1.length = L → (S1 ++ [a, b])[L + 1]? = some b := fun S1 a b L h => by rw [← h]; exact at1 _ _ _ _
    simp only [wC_seq, wC_asg, wC_par, wC_sub, wC_ifc, wC_ret, wC_expr, wC_for, wC_skip, wD, wL, wR_lst, wR_nil, wR_cons, wR_cat, wR_tup, wR_ix, wR_var, wR_cst, wR_op, wR_cmp, wR_isc, wR_ite, wR_not, wR_bi1, wR_bi2, wR_call, wR_meth, wR_isi, wR_comp, wR_dct0, wR_glob, wT_not, wT_and, wT_or, wT_cmp, wT_isc, wT_var, wT_cst, wT_ix, wT_isi, wT_call, wT_ite, wI_enum, wI_seq, wI_range1, wI_zip, dC_v, dC_tmp, lC_tmp, tC_bl, okk_okr, put_n, put_2, put_3, put_5, setSlot, setAll, List.set, List.getElem?_cons_zero, List.getElem?_cons_succ, Option.some.injEq, exists_eq_left', add_i, sub_i, mul_i, mod_i, fdiv_i, add_t, eq_i, ne_i, lt_i, le_i, gt_i, ge_i, eq_ni, eq_in, eq_nn, eq_s, b_tuple, b_list, b_len_t, b_abs, b_int, b_lrange, b_min, b_max, at0, at1, at2, at3, set0, set1, set2, set3, methOn, meth, okk_if, itemsOf, seqOf, src, guardOf, Option.map_some, List.length_cons, List.length_nil, List.append_assoc, List.cons_append, List.nil_append, List.length_append, Bool.not_eq_true', start, List.map_cons, List.map_nil, List.replicate, Nat.reduceSub, Nat.reduceAdd, true_and, and_true, if_true, envA, eN, fr, true_and]
    refine take_in hp.f7 h5 (m := 3) (by omega) (by omega) fun S6 r h6 hr => ?_
    have e56 : S6.length = S5.length := by rw [h6.len, h5.len]
    simp only [eN, wC_seq, wC_asg, wC_par, wC_sub, wC_ifc, wC_ret, wC_expr, wC_for, wC_skip, wD, wL, wR_lst, wR_nil, wR_cons, wR_cat, wR_tup, wR_ix, wR_var, wR_cst, wR_op, wR_cmp, wR_isc, wR_ite, wR_not, wR_bi1, wR_bi2, wR_call, wR_meth, wR_isi, wR_comp, wR_dct0, wR_glob, wT_not, wT_and, wT_or, wT_cmp, wT_isc, wT_var, wT_cst, wT_ix, wT_isi, wT_call, wT_ite, wI_enum, wI_seq, wI_range1, wI_zip, dC_v, dC_tmp, lC_tmp, tC_bl, okk_okr, put_n, put_2, put_3, put_5, setSlot, setAll, List.set, List.getElem?_cons_zero, List.getElem?_cons_succ, Option.some.injEq, exists_eq_left', add_i, sub_i, mul_i, mod_i, fdiv_i, add_t, eq_i, ne_i, lt_i, le_i, gt_i, ge_i, eq_ni, eq_in, eq_nn, eq_s, b_tuple, b_list, b_len_t, b_abs, b_int, b_lrange, b_min, b_max, at0, at1, at2, at3, set0, set1, set2, set3, methOn, meth, okk_if, itemsOf, seqOf, src, guardOf, Option.map_some, List.length_cons, List.length_nil, List.append_assoc, List.cons_append, List.nil_append, List.length_append, Bool.not_eq_true', start, List.map_cons, List.map_nil, List.replicate, Nat.reduceSub, Nat.reduceAdd, true_and, and_true, if_true]
    by_cases hr0 : (r : Int) = 0
    · rw [if_pos (decide_eq_true hr0)]
      refine take_in hp.f7 h6 (m := Q) (by omega) (by omega) fun S7 t h7 ht => ?_
      have e57 : S7.length = S5.length := by rw [h7.len, h5.len]
      simp only [wC_seq, wC_asg, wC_par, wC_sub, wC_ifc, wC_ret, wC_expr, wC_for, wC_skip, wD, wL, wR_lst, wR_nil, wR_cons, wR_cat, wR_tup, wR_ix, wR_var, wR_cst, wR_op, wR_cmp, wR_isc, wR_ite, wR_not, wR_bi1, wR_bi2, wR_call, wR_meth, wR_isi, wR_comp, wR_dct0, wR_glob, wT_not, wT_and, wT_or, wT_cmp, wT_isc, wT_var, wT_cst, wT_ix, wT_isi, wT_call, wT_ite, wI_enum, wI_seq, wI_range1, wI_zip, dC_v, dC_tmp, lC_tmp, tC_bl, okk_okr, put_n, put_2, put_3, put_5, setSlot, setAll, List.set, List.getElem?_cons_zero, List.getElem?_cons_succ, Option.some.injEq, exists_eq_left', add_i, sub_i, mul_i, mod_i, fdiv_i, add_t, eq_i, ne_i, lt_i, le_i, gt_i, ge_i, eq_ni, eq_in, eq_nn, eq_s, b_tuple, b_list, b_len_t, b_abs, b_int, b_lrange, b_min, b_max, at0, at1, at2, at3, set0, set1, set2, set3, methOn, meth, okk_if, itemsOf, seqOf, src, guardOf, Option.map_some, List.length_cons, List.length_nil, List.append_assoc, List.cons_append, List.nil_append, List.length_append, Bool.not_eq_true', start, List.map_cons, List.map_nil, List.replicate, Nat.reduceSub, Nat.reduceAdd, true_and, and_true, if_true, l1, e57]
      rw [add_l]
      refine ⟨_, a1 _ _ _ _ e57, _, a2 _ _ _ _ e57, by rw [ql]; simp [line]; omega, ?_⟩
      simp only [wC_seq, wC_asg, wC_par, wC_sub, wC_ifc, wC_ret, wC_expr, wC_for, wC_skip, wD, wL, wR_lst, wR_nil, wR_cons, wR_cat, wR_tup, wR_ix, wR_var, wR_cst, wR_op, wR_cmp, wR_isc, wR_ite, wR_not, wR_bi1, wR_bi2, wR_call, wR_meth, wR_isi, wR_comp, wR_dct0, wR_glob, wT_not, wT_and, wT_or, wT_cmp, wT_isc, wT_var, wT_cst, wT_ix, wT_isi, wT_call, wT_ite, wI_enum, wI_seq, wI_range1, wI_zip, dC_v, dC_tmp, lC_tmp, tC_bl, okk_okr, put_n, put_2, put_3, put_5, setSlot, setAll, List.set, List.getElem?_cons_zero, List.getElem?_cons_succ, Option.some.injEq, exists_eq_left', add_i, sub_i, mul_i, mod_i, fdiv_i, add_t, eq_i, ne_i, lt_i, le_i, gt_i, ge_i, eq_ni, eq_in, eq_nn, eq_s, b_tuple, b_list, b_len_t, b_abs, b_int, b_lrange, b_min, b_max, at0, at1, at2, at3, set0, set1, set2, set3, methOn, meth, okk_if, itemsOf, seqOf, src, guardOf, Option.map_some, List.length_cons, List.length_nil, List.append_assoc, List.cons_append, List.nil_append, List.length_append, Bool.not_eq_true', start, List.map_cons, List.map_nil, List.replicate, Nat.reduceSub, Nat.reduceAdd, true_and, and_true, if_true, qe]
      exact ⟨List.range Q ++ [t], S7, _, _, h7, rfl, by simp; omega, by simp⟩
    · rw [if_neg (by simp; omega)]
      simp only [wC_seq, wC_asg, wC_par, wC_sub, wC_ifc, wC_ret, wC_expr, wC_for, wC_skip, wD, wL, wR_lst, wR_nil, wR_cons, wR_cat, wR_tup, wR_ix, wR_var, wR_cst, wR_op, wR_cmp, wR_isc, wR_ite, wR_not, wR_bi1, wR_bi2, wR_call, wR_meth, wR_isi, wR_comp, wR_dct0, wR_glob, wT_not, wT_and, wT_or, wT_cmp, wT_isc, wT_var, wT_cst, wT_ix, wT_isi, wT_call, wT_ite, wI_enum, wI_seq, wI_range1, wI_zip, dC_v, dC_tmp, lC_tmp, tC_bl, okk_okr, put_n, put_2, put_3, put_5, setSlot, setAll, List.set, List.getElem?_cons_zero, List.getElem?_cons_succ, Option.some.injEq, exists_eq_left', add_i, sub_i, mul_i, mod_i, fdiv_i, add_t, eq_i, ne_i, lt_i, le_i, gt_i, ge_i, eq_ni, eq_in, eq_nn, eq_s, b_tuple, b_list, b_len_t, b_abs, b_int, b_lrange, b_min, b_max, at0, at1, at2, at3, set0, set1, set2, set3, methOn, meth, okk_if, itemsOf, seqOf, src, guardOf, Option.map_some, List.length_cons, List.length_nil, List.append_assoc, List.cons_append, List.nil_append, List.length_append, Bool.not_eq_true', start, List.map_cons, List.map_nil, List.replicate, Nat.reduceSub, Nat.reduceAdd, true_and, and_true, if_true, e56]
      refine ⟨Nat.zero_le _, ?_⟩
      rw [add_l]
      refine ⟨_, a1 _ _ _ _ e56, _, a2 _ _ _ _ e56, by rw [ql]; simp [line]; omega, ?_⟩
      simp only [wC_seq, wC_asg, wC_par, wC_sub, wC_ifc, wC_ret, wC_expr, wC_for, wC_skip, wD, wL, wR_lst, wR_nil, wR_cons, wR_cat, wR_tup, wR_ix, wR_var, wR_cst, wR_op, wR_cmp, wR_isc, wR_ite, wR_not, wR_bi1, wR_bi2, wR_call, wR_meth, wR_isi, wR_comp, wR_dct0, wR_glob, wT_not, wT_and, wT_or, wT_cmp, wT_isc, wT_var, wT_cst, wT_ix, wT_isi, wT_call, wT_ite, wI_enum, wI_seq, wI_range1, wI_zip, dC_v, dC_tmp, lC_tmp, tC_bl, okk_okr, put_n, put_2, put_3, put_5, setSlot, setAll, List.set, List.getElem?_cons_zero, List.getElem?_cons_succ, Option.some.injEq, exists_eq_left', add_i, sub_i, mul_i, mod_i, fdiv_i, add_t, eq_i, ne_i, lt_i, le_i, gt_i, ge_i, eq_ni, eq_in, eq_nn, eq_s, b_tuple, b_list, b_len_t, b_abs, b_int, b_lrange, b_min, b_max, at0, at1, at2, at3, set0, set1, set2, set3, methOn, meth, okk_if, itemsOf, seqOf, src, guardOf, Option.map_some, List.length_cons, List.length_nil, List.append_assoc, List.cons_append, List.nil_append, List.length_append, Bool.not_eq_true', start, List.map_cons, List.map_nil, List.replicate, Nat.reduceSub, Nat.reduceAdd, true_and, and_true, if_true, qe]
      exact ⟨List.range Q, S6, _, _, h6, rfl, by simp; omega, by simp⟩
  rintro e S6 ⟨ow, S0, g1, g2, hb, rfl, hol, rfl⟩
  with_reducible refine wC_cut2 (fun e S7 => S7 = S0 ++ [g1, g2, .lst [], .lst []] ∧ e = envA n (some (eN y)) (some (eN B)) (some (eN Q)) (some (eN Dn)) (some (.tup (wh.map eN))) none (some (.tup (ow.map eN))) (some (.loc (S.length + 2))) (some (.loc (S.length + 3))) none none) ?_ ?_
  · simp only [wC_seq, wC_asg, wC_par, wC_sub, wC_ifc, wC_ret, wC_expr, wC_for, wC_skip, wD, wL, wR_lst, wR_nil, wR_cons, wR_cat, wR_tup, wR_ix, wR_var, wR_cst, wR_op, wR_cmp, wR_isc, wR_ite, wR_not, wR_bi1, wR_bi2, wR_call, wR_meth, wR_isi, wR_comp, wR_dct0, wR_glob, wT_not, wT_and, wT_or, wT_cmp, wT_isc, wT_var, wT_cst, wT_ix, wT_isi, wT_call, wT_ite, wI_enum, wI_seq, wI_range1, wI_zip, dC_v, dC_tmp, lC_tmp, tC_bl, okk_okr, put_n, put_2, put_3, put_5, setSlot, setAll, List.set, List.getElem?_cons_zero, List.getElem?_cons_succ, Option.some.injEq, exists_eq_left', add_i, sub_i, mul_i, mod_i, fdiv_i, add_t, eq_i, ne_i, lt_i, le_i, gt_i, ge_i, eq_ni, eq_in, eq_nn, eq_s, b_tuple, b_list, b_len_t, b_abs, b_int, b_lrange, b_min, b_max, at0, at1, at2, at3, set0, set1, set2, set3, methOn, meth, okk_if, itemsOf, seqOf, src, guardOf, Option.map_some, List.length_cons, List.length_nil, List.append_assoc, List.cons_append, List.nil_append, List.length_append, Bool.not_eq_true', start, List.map_cons, List.map_nil, List.replicate, Nat.reduceSub, Nat.reduceAdd, true_and, and_true, if_true, envA, hb.len]
    exact ⟨Nat.zero_le _, Nat.zero_le _⟩
  rintro e S7 ⟨rfl, rfl⟩
  have b2 : ∀ (S1 : Store) (c d : Cell) (G : Store), Bx S n S1 → (S1 ++ g1 :: g2 :: c :: d :: G)[S.length + 2]? = some c := fun S1 c d G h => by rw [← h.len]; exact at2 _ _ _ _ _
  have b3 : ∀ (S1 : Store) (c d : Cell) (G : Store), Bx S n S1 → (S1 ++ g1 :: g2 :: c :: d :: G)[S.length + 3]? = some d := fun S1 c d G h => by rw [← h.len]; exact at3 _ _ _ _ _ _
  have c2 : ∀ (S1 : Store) (c d x : Cell) (G : Store), Bx S n S1 → (S1 ++ g1 :: g2 :: c :: d :: G).set (S.length + 2) x = S1 ++ g1 :: g2 :: x :: d :: G := fun S1 c d x G h => by rw [← h.len]; exact set2 _ _ _ _ _ _
  have c3 : ∀ (S1 : Store) (c d x : Cell) (G : Store), Bx S n S1 → (S1 ++ g1 :: g2 :: c :: d :: G).set (S.length + 3) x = S1 ++ g1 :: g2 :: c :: x :: G := fun S1 c d x G h => by rw [← h.len]; exact set3 _ _ _ _ _ _ _
  have rowOk : ∀ (m : Nat) (r : List (Option (Nat × Nat))), r.length = Dn → r.length = wh.length := fun m r h => by rw [h, hwl]
  with_reducible refine wC_cut2 (fun e S8 => ∃ (stp : List (List (Option (Nat × Nat)))) (gls : List (List Bool)) (S1 : Store) (G : Store) (x6 x10 x11 : Option D), Bx S n S1 ∧ S8 = S1 ++ g1 :: g2 :: .lst (stp.map eRow) :: .lst (gls.map eG) :: G ∧ stp.length = B ∧ gls.length = B ∧
    (∀ r ∈ stp, r.length = Dn ∧ RowIn B r) ∧ (∀ r ∈ gls, r.length = ow.length) ∧ e = envA n (some (eN y)) (some (eN B)) (some (eN Q)) (some (eN Dn)) (some (.tup (wh.map eN))) x6 (some (.tup (ow.map eN))) (some (.loc (S.length + 2))) (some (.loc (S.length + 3))) x10 x11) ?_ ?_
  · have fr : (-far ≤ (B : Int) ∧ (B : Int) < far) := by simp only [far]; omega
    simp only [wC_for, wI_range1, wD, wR_var, envA, List.getElem?_cons_zero, List.getElem?_cons_succ, Option.some.injEq, exists_eq_left', dC_v, src, eN]
    refine ⟨_, if_pos (by simpa using fr), ?_⟩
    refine okk_for (fun j env S8 => j ≤ B ∧ ∃ (stp : List (List (Option (Nat × Nat)))) (gls : List (List Bool)) (S1 : Store) (G : Store) (x6 x10 x11 : Option D), Bx S n S1 ∧ S8 = S1 ++ g1 :: g2 :: .lst (stp.map eRow) :: .lst (gls.map eG) :: G ∧ stp.length = j ∧ gls.length = j ∧
      (∀ r ∈ stp, r.length = Dn ∧ RowIn B r) ∧ (∀ r ∈ gls, r.length = ow.length) ∧ env = envA n (some (eN y)) (some (eN B)) (some (eN Q)) (some (eN Dn)) (some (.tup (wh.map eN))) x6 (some (.tup (ow.map eN))) (some (.loc (S.length + 2))) (some (.loc (S.length + 3))) x10 x11) ?_ ?_ ?_ ?_
    · exact ⟨Nat.zero_le _, [], [], S0, [], _, _, _, hb, rfl, rfl, rfl, fun r h => by simp at h, fun r h => by simp at h, rfl⟩
    · intros; rfl
    · rintro j x env S8 hx ⟨hj, stp, gls, S1, G, x6, x10, x11, h1, rfl, hsl, hgl, hst, hgs, rfl⟩
      obtain ⟨hj', rfl⟩ := range_at hx
      have hj' : j < B := by simpa using hj'
      refine ⟨_, rfl, ?_⟩
      rw [wC_i]
      with_reducible refine wC_cut2 (fun e S9 => ∃ (stp : List (List (Option (Nat × Nat)))) (S1 : Store) (G : Store) (x6 x11 : Option D), Bx S n S1 ∧ S9 = S1 ++ g1 :: g2 :: .lst (stp.map eRow) :: .lst (gls.map eG) :: G ∧ stp.length = j + 1 ∧
        (∀ r ∈ stp, r.length = Dn ∧ RowIn B r) ∧ e = envA n (some (eN y)) (some (eN B)) (some (eN Q)) (some (eN Dn)) (some (.tup (wh.map eN))) x6 (some (.tup (ow.map eN))) (some (.loc (S.length + 2))) (some (.loc (S.length + 3))) (some (eN j)) x11) ?_ ?_
      · have fr2 : (-far ≤ (Dn : Int) ∧ (Dn : Int) < far) := by simp only [far]; omega
        have bb := b2 S1 (.lst (stp.map eRow)) (.lst (gls.map eG)) G h1
        have on := on_append bb
        simp only [wC_expr, wR_meth, wD, wL, wR_cons, wR_bi1, wR_comp, wI_range1, wR_var, envA, List.getElem?_cons_zero, List.getElem?_cons_succ, Option.some.injEq, exists_eq_left', dC_v, src, eN, setSlot, List.set, on, true_and]
        refine ⟨_, if_pos (by simpa using fr2), ?_⟩
        simp only [Int.toNat_natCast]
        refine okk_imp (row_draw hp (Q := Q) h1 (by omega) (by omega) _ _ _ _ _ _ _ _) fun ds S' h => ?_
        obtain ⟨row, S2, G2, rfl, hrl, hri, h2, rfl⟩ := h
        have ma := fun (y : D) (Φ : R → Store → Prop) => m_append (x := y) (Φ := Φ) (b2 S2 (.lst (stp.map eRow)) (.lst (gls.map eG)) (G ++ G2) h2)
        have sl : stp.length < line := by simp only [line]; omega
        have rl : row.length ≤ line := by simp only [line]; omega
        refine ⟨by simpa using rl, ?_⟩
        simp only [b_tuple, itemsOf, Option.some.injEq, exists_eq_left', dC_v, wR_nil, lC_tmp, List.cons_append, ma, List.length_map, sl, true_and, c2 _ _ _ _ _ h2]
        refine ⟨stp ++ [row], S2, G ++ G2, _, _, h2, by simp [eRow], by simp [hsl], fun r hr => ?_, rfl⟩
        rcases List.mem_append.mp hr with h | h
        · exact hst r h
        · simp only [List.mem_singleton] at h
          subst h
          exact ⟨hrl, hri⟩
      rintro e S9 ⟨stp', S2, G2, z6, z11, h2, rfl, hsl', hst', rfl⟩
      have fr2 : (-far ≤ (ow.length : Int) ∧ (ow.length : Int) < far) := by simp only [far]; omega
      have on := on_append (b3 S2 (.lst (stp'.map eRow)) (.lst (gls.map eG)) G2 h2)
      simp only [wC_expr, wR_meth, wD, wL, wR_cons, wR_bi1, wR_comp, wI_range1, wR_var, envA, List.getElem?_cons_zero, List.getElem?_cons_succ, Option.some.injEq, exists_eq_left', dC_v, src, eN, setSlot, List.set, on, true_and, b_len_t, List.length_map]
      refine ⟨_, if_pos (by simpa using fr2), ?_⟩
      simp only [Int.toNat_natCast]
      refine okk_imp (goal_draw hp (Q := Q) (j := j) h2 hB1 (by omega) _ _ _ _ _ _ _ _) fun ds S' h => ?_
      obtain ⟨row, S3, rfl, hrl, h3, rfl⟩ := h
      have ma := fun (y : D) (Φ : R → Store → Prop) => m_append (x := y) (Φ := Φ) (b3 S3 (.lst (stp'.map eRow)) (.lst (gls.map eG)) G2 h3)
      have sl : gls.length < line := by simp only [line]; omega
      have rl : row.length ≤ line := by simp only [line]; omega
      refine ⟨by simpa using rl, ?_⟩
      simp only [b_tuple, itemsOf, Option.some.injEq, exists_eq_left', dC_v, wR_nil, lC_tmp, List.cons_append, ma, List.length_map, sl, true_and, c3 _ _ _ _ _ h3]
      refine ⟨hj', stp', gls ++ [row], S3, G2, _, _, _, h3, by simp [eG], hsl', by simp [hgl], hst', fun r hr => ?_, rfl⟩
      rcases List.mem_append.mp hr with h | h
      · exact hgs r h
      · simp only [List.mem_singleton] at h
        subst h
        exact hrl
    · rintro env S8 ⟨hj, stp, gls, S1, G, x6, x10, x11, h1, rfl, hsl, hgl, hst, hgs, rfl⟩
      have e1 : (rangeL 0 (B : Int).toNat).length = B := by rw [range_len]; omega
      rw [e1] at hsl hgl
      exact ⟨stp, gls, S1, G, x6, x10, x11, h1, rfl, hsl, hgl, hst, hgs, rfl⟩
  rintro e S8 ⟨stp, gls, S1, G, x6, x10, x11, h1, rfl, hsl, hgl, hst, hgs, rfl⟩
  have i2 : ∀ T, itemsOf (S1 ++ g1 :: g2 :: .lst (stp.map eRow) :: .lst (gls.map eG) :: T) (.v (.loc (S.length + 2))) = some (stp.map eRow) := fun T => it_loc (b2 _ _ _ _ h1)
  have i3 : ∀ T, itemsOf (S1 ++ g1 :: g2 :: .lst (stp.map eRow) :: .lst (gls.map eG) :: T) (.v (.loc (S.length + 3))) = some (gls.map eG) := fun T => it_loc (b3 _ _ _ _ h1)
  have l5 : 5 ≤ line := by simp [line]
  simp only [wC_ret, wD, wL, wR_call, wR_cons, wR_tup, wR_nil, wR_bi1, wR_var, envA, List.getElem?_cons_zero, List.getElem?_cons_succ, Option.some.injEq, exists_eq_left', dC_v, lC_tmp, b_tuple, i2, i3, List.length_cons, List.length_nil, Nat.reduceAdd, l5, true_and]
  let w : Wd := { steps := stp, whose := wh, goals := gls, owners := ow, people := Q }
  have okw : w.Ok := ⟨fun r hr => by rw [(hst r hr).1]; exact hwl.symm, fun r hr b c h => by rw [show w.steps.length = B from hsl]; exact (hst r hr).2 b c h, by rw [show w.steps.length = B from hsl]; exact hgl, hgs, by rw [show w.steps.length = B from hsl]; omega, by show wh.length ≤ 1000; omega, by show ow.length ≤ 1000; omega⟩
  refine okk_imp (w_least hp.f13 (k := k + 1) (w := w) okw (by rw [show w.steps.length = B from hsl]; omega)) fun d S9 h => ?_
  obtain ⟨rfl, w', ok', rfl⟩ := h
  rw [if_pos trivial, h1.gc (flat_eW w')]
  exact ⟨h1, w', ok', rfl⟩
end MP

set_option linter.all false
set_option maxRecDepth 100000
set_option autoImplicit false
namespace MP
open PySem (Str)
structure HasL (P : Prg) : Prop where
  h : Has P
  w : HasW P
  g : HasG P
  f4 : P.fn 4 = some fchange
  f5 : P.fn 5 = some feffect
  f6 : P.fn 6 = some lbox
  f9 : P.fn 9 = some lsame
  f15 : P.fn 15 = some lcosts
  f16 : P.fn 16 = some leffect
  f17 : P.fn 17 = some law_
theorem ownSt_mem {w : Wd} {p t c : Nat} : ∀ {r : List (Option (Nat × Nat))} {k q : Nat}, r[q]? = some (some (t, c)) → w.whose[k + q]? = some p → (k + q, t, c) ∈ ownSt w p r k
  | [], _, _, h, _ => by simp at h
  | s :: r, k, 0, h, hp => by
    simp at h
    subst h
    simp only [Nat.add_zero] at hp ⊢
    simp only [ownSt, hp, if_true]
    exact List.mem_cons_self
  | s :: r, k, q + 1, h, hp => by
    have e : k + (q + 1) = k + 1 + q := by omega
    rw [e] at hp ⊢
    have ih := ownSt_mem (r := r) (k := k + 1) (q := q) (by simpa using h) hp
    cases s with
    | none => simpa only [ownSt] using ih
    | some s =>
      obtain ⟨b', c'⟩ := s
      simp only [ownSt]
      split
      · exact List.mem_cons_of_mem _ ih
      · exact ih
abbrev sN : D := .tup [.str (Str.ofString "nothing")]
abbrev sSh : D := .tup [.str (Str.ofString "shuts")]
abbrev sWa (i : Int) : D := .tup [.str (Str.ofString "wastes"), .int i]
/-- what one's own deed can do -/
theorem eff_own {w : Wd} {g o b q t c : Nat} {r : List (Option (Nat × Nat))} (st : Stp w b q r t c) (hw : w.whose[q]? = some o) :
    eff ((best w g o).at b) ((best w g o).at t) true c = sN ∨ eff ((best w g o).at b) ((best w g o).at t) true c = sSh ∨ ∃ i, 0 ≤ i ∧ eff ((best w g o).at b) ((best w g o).at t) true c = sWa i := by
  have hr : (rowsOf w o)[b]? = some (ownSt w o r 0) := by unfold rowsOf; rw [List.getElem?_map, st.row]; rfl
  have hm := ownSt_mem (w := w) (p := o) (k := 0) st.st (by rw [Nat.zero_add]; exact hw)
  have hle := best_le w g o hr hm
  simp only at hle
  cases q1 : (best w g o).at b with
  | none =>
    cases q2 : (best w g o).at t with
    | none => exact .inl rfl
    | some v => rw [q1, q2] at hle; exact hle.elim
  | some u =>
    cases q2 : (best w g o).at t with
    | none => exact .inr (.inl rfl)
    | some v =>
      rw [q1, q2] at hle
      simp only [leO, addO] at hle
      refine .inr (.inr ⟨(c : Int) + v - u, by omega, ?_⟩)
      simp [eff]
theorem eff_stay (a : Option Nat) (c : Nat) : eff a a false c = sN := by
  cases a <;> simp [eff]
def envW (x1 x2 x3 x4 x5 x6 x7 x8 x9 x10 x11 x12 x13 : Option D) : Env := [some (.loc 0), x1, x2, x3, x4, x5, x6, x7, x8, x9, x10, x11, x12, x13]
abbrev three : E := .tup (.cons (.cst (.str (Str.ofString "wastes"))) (.cons (.cst (.str (Str.ofString "shuts"))) (.cons (.cst (.str (Str.ofString "nothing"))) .nil)))
abbrev three' : D := .tup [.str (Str.ofString "wastes"), .str (Str.ofString "shuts"), .str (Str.ofString "nothing")]
theorem in_N (S : Store) : cmpop .notin (.str (Str.ofString "nothing")) three' S = some false := by
  have f1 : (D.str (Str.ofString "nothing")).fine = true := by decide +kernel
  have f2 : D.fines [.str (Str.ofString "wastes"), .str (Str.ofString "shuts"), .str (Str.ofString "nothing")] = true := by decide +kernel
  have f3 : anyEqv (D.str (Str.ofString "nothing")) [.str (Str.ofString "wastes"), .str (Str.ofString "shuts"), .str (Str.ofString "nothing")] = true := by decide +kernel
  simp only [cmpop, isIn, f1, f2, f3, Bool.and_self, if_true, Option.map_some, Bool.not_true]
theorem in_S (S : Store) : cmpop .notin (.str (Str.ofString "shuts")) three' S = some false := by
  have f1 : (D.str (Str.ofString "shuts")).fine = true := by decide +kernel
  have f2 : D.fines [.str (Str.ofString "wastes"), .str (Str.ofString "shuts"), .str (Str.ofString "nothing")] = true := by decide +kernel
  have f3 : anyEqv (D.str (Str.ofString "shuts")) [.str (Str.ofString "wastes"), .str (Str.ofString "shuts"), .str (Str.ofString "nothing")] = true := by decide +kernel
  simp only [cmpop, isIn, f1, f2, f3, Bool.and_self, if_true, Option.map_some, Bool.not_true]
theorem in_W (S : Store) : cmpop .notin (.str (Str.ofString "wastes")) three' S = some false := by
  have f1 : (D.str (Str.ofString "wastes")).fine = true := by decide +kernel
  have f2 : D.fines [.str (Str.ofString "wastes"), .str (Str.ofString "shuts"), .str (Str.ofString "nothing")] = true := by decide +kernel
  have f3 : anyEqv (D.str (Str.ofString "wastes")) [.str (Str.ofString "wastes"), .str (Str.ofString "shuts"), .str (Str.ofString "nothing")] = true := by decide +kernel
  simp only [cmpop, isIn, f1, f2, f3, Bool.and_self, if_true, Option.map_some, Bool.not_true]
theorem nw : ¬ (Str.ofString "nothing" = Str.ofString "wastes") := by decide +kernel
theorem sw : ¬ (Str.ofString "shuts" = Str.ofString "wastes") := by decide +kernel
theorem ne_N (S : Store) : cmpop .ne sN sN S = some false := by
  have f1 : sN.fine = true := by decide +kernel
  have f2 : sN.eqv sN = true := by decide +kernel
  show (eqD S sN sN).map _ = _
  show ((if sN.fine && sN.fine then some (sN.eqv sN) else none) : Option Bool).map _ = _
  rw [f1, f2]
  rfl
theorem law_deed {P : Prg} (hp : HasL P) {k n : Nat} {S : Store} {w : Wd} (ok : w.Ok) {g o b q t c : Nat} {r : List (Option (Nat × Nat))} (ho : w.owners[g]? = some o) (st : Stp w b q r t c) (hS : S[n]? = some (.lst ((best w g o).map eO))) (x1 x2 x3 x4 x11 x12 x13 : Option D) :
    wC P.gl (run P (k + 4)) (.seq (.asg (.name 11) (.call 5 (.cons (.var 5) (.cons (.var 6) (.cons (.var 8) (.cons (.var 10) .nil))))))
  (.seq (.ifc (.not (.call 9 (.cons (.var 11) (.cons (.call 16 (.cons (.var 5) (.cons (.var 6) (.cons (.var 7) (.cons (.var 8) (.cons (.var 10) .nil)))))) .nil))))
  (.ret (.cst (.bl false)))
  .skip)
  (.seq (.asg (.name 12) (.cmp .eq (.ix (.ix (.var 5) (.cst (.int 1))) (.var 10)) (.ix (.ix (.var 5) (.cst (.int 3))) (.var 6))))
  (.seq (.ifc (.and (.var 12) (.or (.cmp .notin (.ix (.var 11) (.cst (.int 0))) three) (.and (.cmp .eq (.ix (.var 11) (.cst (.int 0))) (.cst (.str (Str.ofString "wastes")))) (.cmp .lt (.ix (.var 11) (.cst (.int 1))) (.cst (.int 0))))))
  (.ret (.cst (.bl false)))
  .skip)
  (.ifc (.and (.not (.var 12)) (.and (.cmp .eq (.ix (.ix (.var 9) (.var 10)) (.cst (.int 0))) (.var 8)) (.cmp .ne (.var 11) (.tup (.cons (.cst (.str (Str.ofString "nothing"))) .nil)))))
  (.ret (.cst (.bl false)))
  .skip)))))
      (envW x1 x2 x3 x4 (some (eW w)) (some (eN g)) (some (.loc n)) (some (eN b)) (some (eRow r)) (some (eN q)) x11 x12 x13) S
    fun f S1 => S1 = S ∧ ∃ y11 y12, f = .nxt (envW x1 x2 x3 x4 (some (eW w)) (some (eN g)) (some (.loc n)) (some (eN b)) (some (eRow r)) (some (eN q)) y11 y12 x13) := by
  have hr := ok.row r (List.mem_of_getElem? st.row)
  have hq : q < r.length := (List.getElem?_eq_some_iff.mp st.st).1
  obtain ⟨p, hw⟩ : ∃ p, w.whose[q]? = some p := ⟨_, List.getElem?_eq_getElem (by omega)⟩
  generalize hE : eff ((best w g o).at b) ((best w g o).at t) (decide (p = o)) c = told
  have hpl := eff_plain ((best w g o).at b) ((best w g o).at t) (decide (p = o)) c
  rw [hE] at hpl
  with_reducible refine wC_cut2 (fun e S1 => S1 = S ∧ e = envW x1 x2 x3 x4 (some (eW w)) (some (eN g)) (some (.loc n)) (some (eN b)) (some (eRow r)) (some (eN q)) (some told) x12 x13) ?_ ?_
  · simp only [wC_seq, wC_asg, wC_par, wC_sub, wC_ifc, wC_ret, wC_expr, wC_for, wC_skip, wD, wL, wR_lst, wR_nil, wR_cons, wR_cat, wR_tup, wR_ix, wR_var, wR_cst, wR_op, wR_cmp, wR_isc, wR_ite, wR_not, wR_bi1, wR_bi2, wR_call, wR_meth, wR_isi, wR_comp, wR_dct0, wR_glob, wT_not, wT_and, wT_or, wT_cmp, wT_isc, wT_var, wT_cst, wT_ix, wT_isi, wT_call, wT_ite, wI_enum, wI_seq, wI_range1, wI_zip, dC_v, dC_tmp, lC_tmp, tC_bl, okk_okr, put_n, put_2, put_3, put_5, setSlot, setAll, List.set, List.getElem?_cons_zero, List.getElem?_cons_succ, Option.some.injEq, exists_eq_left', add_i, sub_i, mul_i, mod_i, fdiv_i, add_t, eq_i, ne_i, lt_i, le_i, gt_i, ge_i, eq_ni, eq_in, eq_nn, eq_s, b_tuple, b_list, b_len_t, b_abs, b_int, b_lrange, b_min, b_max, at0, at1, at2, at3, set0, set1, set2, set3, methOn, meth, okk_if, itemsOf, seqOf, src, guardOf, Option.map_some, List.length_cons, List.length_nil, List.append_assoc, List.cons_append, List.nil_append, List.length_append, Bool.not_eq_true', start, List.map_cons, List.map_nil, List.replicate, Nat.reduceSub, Nat.reduceAdd, true_and, and_true, if_true, envW]
    refine okk_imp (w_effect hp.h hp.f5 hp.f4 hp.g (k := k) (S := S) ok ho hw st) fun d S1 h => ?_
    obtain ⟨rfl, rfl⟩ := h
    rw [hE]
    exact ⟨rfl, rfl⟩
  rintro e S1 ⟨rfl, rfl⟩
  with_reducible refine wC_cut2 (fun e S2 => S2 = S1 ∧ e = envW x1 x2 x3 x4 (some (eW w)) (some (eN g)) (some (.loc n)) (some (eN b)) (some (eRow r)) (some (eN q)) (some told) x12 x13) ?_ ?_
  · simp only [wC_seq, wC_asg, wC_par, wC_sub, wC_ifc, wC_ret, wC_expr, wC_for, wC_skip, wD, wL, wR_lst, wR_nil, wR_cons, wR_cat, wR_tup, wR_ix, wR_var, wR_cst, wR_op, wR_cmp, wR_isc, wR_ite, wR_not, wR_bi1, wR_bi2, wR_call, wR_meth, wR_isi, wR_comp, wR_dct0, wR_glob, wT_not, wT_and, wT_or, wT_cmp, wT_isc, wT_var, wT_cst, wT_ix, wT_isi, wT_call, wT_ite, wI_enum, wI_seq, wI_range1, wI_zip, dC_v, dC_tmp, lC_tmp, tC_bl, okk_okr, put_n, put_2, put_3, put_5, setSlot, setAll, List.set, List.getElem?_cons_zero, List.getElem?_cons_succ, Option.some.injEq, exists_eq_left', add_i, sub_i, mul_i, mod_i, fdiv_i, add_t, eq_i, ne_i, lt_i, le_i, gt_i, ge_i, eq_ni, eq_in, eq_nn, eq_s, b_tuple, b_list, b_len_t, b_abs, b_int, b_lrange, b_min, b_max, at0, at1, at2, at3, set0, set1, set2, set3, methOn, meth, okk_if, itemsOf, seqOf, src, guardOf, Option.map_some, List.length_cons, List.length_nil, List.append_assoc, List.cons_append, List.nil_append, List.length_append, Bool.not_eq_true', start, List.map_cons, List.map_nil, List.replicate, Nat.reduceSub, Nat.reduceAdd, true_and, and_true, if_true, envW]
    refine okk_imp (w_leffect hp.f16 (k := k + 3) (S := S1) ok hS (best_len w g o) ho hw st) fun d S2 h => ?_
    obtain ⟨rfl, rfl⟩ := h
    rw [hE]
    refine okk_imp (w_same hp.f9 (S := S2) 1 told hpl.2 hpl.1 (k + 2)) fun d S3 h => ?_
    obtain ⟨rfl, rfl⟩ := h
    simp [tC, truth]
  rintro e S2 ⟨rfl, rfl⟩
  with_reducible refine wC_cut2 (fun e S3 => S3 = S2 ∧ e = envW x1 x2 x3 x4 (some (eW w)) (some (eN g)) (some (.loc n)) (some (eN b)) (some (eRow r)) (some (eN q)) (some told) (some (.bl (decide (p = o)))) x13) ?_ ?_
  · simp only [wC_seq, wC_asg, wC_par, wC_sub, wC_ifc, wC_ret, wC_expr, wC_for, wC_skip, wD, wL, wR_lst, wR_nil, wR_cons, wR_cat, wR_tup, wR_ix, wR_var, wR_cst, wR_op, wR_cmp, wR_isc, wR_ite, wR_not, wR_bi1, wR_bi2, wR_call, wR_meth, wR_isi, wR_comp, wR_dct0, wR_glob, wT_not, wT_and, wT_or, wT_cmp, wT_isc, wT_var, wT_cst, wT_ix, wT_isi, wT_call, wT_ite, wI_enum, wI_seq, wI_range1, wI_zip, dC_v, dC_tmp, lC_tmp, tC_bl, okk_okr, put_n, put_2, put_3, put_5, setSlot, setAll, List.set, List.getElem?_cons_zero, List.getElem?_cons_succ, Option.some.injEq, exists_eq_left', add_i, sub_i, mul_i, mod_i, fdiv_i, add_t, eq_i, ne_i, lt_i, le_i, gt_i, ge_i, eq_ni, eq_in, eq_nn, eq_s, b_tuple, b_list, b_len_t, b_abs, b_int, b_lrange, b_min, b_max, at0, at1, at2, at3, set0, set1, set2, set3, methOn, meth, okk_if, itemsOf, seqOf, src, guardOf, Option.map_some, List.length_cons, List.length_nil, List.append_assoc, List.cons_append, List.nil_append, List.length_append, Bool.not_eq_true', start, List.map_cons, List.map_nil, List.replicate, Nat.reduceSub, Nat.reduceAdd, true_and, and_true, if_true, envW, eN, eW1, eW3, eN_at hw, eN_at ho]
    by_cases hpo : p = o
    · subst hpo; simp
    · have : ¬ (p : Int) = (o : Int) := by omega
      simp [hpo, this]
  rintro e S3 ⟨rfl, rfl⟩
  have l3 : 3 ≤ line := by simp [line]
  have l1 : 1 ≤ line := by simp [line]
  have j0 : ∀ (S : Store) (a : D) (l : List D), getIx S (.tup (a :: l)) (.int 0) = some a := fun S a l => getIx_tup (i := 0) rfl
  have j1 : ∀ (S : Store) (a b : D) (l : List D), getIx S (.tup (a :: b :: l)) (.int 1) = some b := fun S a b l => getIx_tup (i := 1) rfl
  have t1 : ∀ S b, truth S (.bl b) = some b := fun _ _ => rfl
  with_reducible refine wC_cut2 (fun e S4 => S4 = S3 ∧ e = envW x1 x2 x3 x4 (some (eW w)) (some (eN g)) (some (.loc n)) (some (eN b)) (some (eRow r)) (some (eN q)) (some told) (some (.bl (decide (p = o)))) x13) ?_ ?_
  · by_cases hpo : p = o
    · subst hpo
      have ho3 := eff_own (g := g) (o := p) st hw
      simp only [decide_true] at hE
      rw [hE] at ho3
      rcases ho3 with rfl | rfl | ⟨i, hi, rfl⟩
      · simp only [wC_seq, wC_asg, wC_par, wC_sub, wC_ifc, wC_ret, wC_expr, wC_for, wC_skip, wD, wL, wR_lst, wR_nil, wR_cons, wR_cat, wR_tup, wR_ix, wR_var, wR_cst, wR_op, wR_cmp, wR_isc, wR_ite, wR_not, wR_bi1, wR_bi2, wR_call, wR_meth, wR_isi, wR_comp, wR_dct0, wR_glob, wT_not, wT_and, wT_or, wT_cmp, wT_isc, wT_var, wT_cst, wT_ix, wT_isi, wT_call, wT_ite, wI_enum, wI_seq, wI_range1, wI_zip, dC_v, dC_tmp, lC_tmp, tC_bl, okk_okr, put_n, put_2, put_3, put_5, setSlot, setAll, List.set, List.getElem?_cons_zero, List.getElem?_cons_succ, Option.some.injEq, exists_eq_left', add_i, sub_i, mul_i, mod_i, fdiv_i, add_t, eq_i, ne_i, lt_i, le_i, gt_i, ge_i, eq_ni, eq_in, eq_nn, eq_s, b_tuple, b_list, b_len_t, b_abs, b_int, b_lrange, b_min, b_max, at0, at1, at2, at3, set0, set1, set2, set3, methOn, meth, okk_if, itemsOf, seqOf, src, guardOf, Option.map_some, List.length_cons, List.length_nil, List.append_assoc, List.cons_append, List.nil_append, List.length_append, Bool.not_eq_true', start, List.map_cons, List.map_nil, List.replicate, Nat.reduceSub, Nat.reduceAdd, true_and, and_true, if_true, envW, decide_true, j0, in_N, l3]; simp [nw]
      · simp only [wC_seq, wC_asg, wC_par, wC_sub, wC_ifc, wC_ret, wC_expr, wC_for, wC_skip, wD, wL, wR_lst, wR_nil, wR_cons, wR_cat, wR_tup, wR_ix, wR_var, wR_cst, wR_op, wR_cmp, wR_isc, wR_ite, wR_not, wR_bi1, wR_bi2, wR_call, wR_meth, wR_isi, wR_comp, wR_dct0, wR_glob, wT_not, wT_and, wT_or, wT_cmp, wT_isc, wT_var, wT_cst, wT_ix, wT_isi, wT_call, wT_ite, wI_enum, wI_seq, wI_range1, wI_zip, dC_v, dC_tmp, lC_tmp, tC_bl, okk_okr, put_n, put_2, put_3, put_5, setSlot, setAll, List.set, List.getElem?_cons_zero, List.getElem?_cons_succ, Option.some.injEq, exists_eq_left', add_i, sub_i, mul_i, mod_i, fdiv_i, add_t, eq_i, ne_i, lt_i, le_i, gt_i, ge_i, eq_ni, eq_in, eq_nn, eq_s, b_tuple, b_list, b_len_t, b_abs, b_int, b_lrange, b_min, b_max, at0, at1, at2, at3, set0, set1, set2, set3, methOn, meth, okk_if, itemsOf, seqOf, src, guardOf, Option.map_some, List.length_cons, List.length_nil, List.append_assoc, List.cons_append, List.nil_append, List.length_append, Bool.not_eq_true', start, List.map_cons, List.map_nil, List.replicate, Nat.reduceSub, Nat.reduceAdd, true_and, and_true, if_true, envW, decide_true, j0, in_S, l3]; simp [sw]
      · have : decide (i < 0) = false := by simp; omega
        simp only [wC_seq, wC_asg, wC_par, wC_sub, wC_ifc, wC_ret, wC_expr, wC_for, wC_skip, wD, wL, wR_lst, wR_nil, wR_cons, wR_cat, wR_tup, wR_ix, wR_var, wR_cst, wR_op, wR_cmp, wR_isc, wR_ite, wR_not, wR_bi1, wR_bi2, wR_call, wR_meth, wR_isi, wR_comp, wR_dct0, wR_glob, wT_not, wT_and, wT_or, wT_cmp, wT_isc, wT_var, wT_cst, wT_ix, wT_isi, wT_call, wT_ite, wI_enum, wI_seq, wI_range1, wI_zip, dC_v, dC_tmp, lC_tmp, tC_bl, okk_okr, put_n, put_2, put_3, put_5, setSlot, setAll, List.set, List.getElem?_cons_zero, List.getElem?_cons_succ, Option.some.injEq, exists_eq_left', add_i, sub_i, mul_i, mod_i, fdiv_i, add_t, eq_i, ne_i, lt_i, le_i, gt_i, ge_i, eq_ni, eq_in, eq_nn, eq_s, b_tuple, b_list, b_len_t, b_abs, b_int, b_lrange, b_min, b_max, at0, at1, at2, at3, set0, set1, set2, set3, methOn, meth, okk_if, itemsOf, seqOf, src, guardOf, Option.map_some, List.length_cons, List.length_nil, List.append_assoc, List.cons_append, List.nil_append, List.length_append, Bool.not_eq_true', start, List.map_cons, List.map_nil, List.replicate, Nat.reduceSub, Nat.reduceAdd, true_and, and_true, if_true, envW, decide_true, j0, j1, in_W, l3, this]; simp
    · simp only [wC_seq, wC_asg, wC_par, wC_sub, wC_ifc, wC_ret, wC_expr, wC_for, wC_skip, wD, wL, wR_lst, wR_nil, wR_cons, wR_cat, wR_tup, wR_ix, wR_var, wR_cst, wR_op, wR_cmp, wR_isc, wR_ite, wR_not, wR_bi1, wR_bi2, wR_call, wR_meth, wR_isi, wR_comp, wR_dct0, wR_glob, wT_not, wT_and, wT_or, wT_cmp, wT_isc, wT_var, wT_cst, wT_ix, wT_isi, wT_call, wT_ite, wI_enum, wI_seq, wI_range1, wI_zip, dC_v, dC_tmp, lC_tmp, tC_bl, okk_okr, put_n, put_2, put_3, put_5, setSlot, setAll, List.set, List.getElem?_cons_zero, List.getElem?_cons_succ, Option.some.injEq, exists_eq_left', add_i, sub_i, mul_i, mod_i, fdiv_i, add_t, eq_i, ne_i, lt_i, le_i, gt_i, ge_i, eq_ni, eq_in, eq_nn, eq_s, b_tuple, b_list, b_len_t, b_abs, b_int, b_lrange, b_min, b_max, at0, at1, at2, at3, set0, set1, set2, set3, methOn, meth, okk_if, itemsOf, seqOf, src, guardOf, Option.map_some, List.length_cons, List.length_nil, List.append_assoc, List.cons_append, List.nil_append, List.length_append, Bool.not_eq_true', start, List.map_cons, List.map_nil, List.replicate, Nat.reduceSub, Nat.reduceAdd, true_and, and_true, if_true, envW, hpo, decide_false]; simp
  rintro e S4 ⟨rfl, rfl⟩
  simp only [wC_seq, wC_asg, wC_par, wC_sub, wC_ifc, wC_ret, wC_expr, wC_for, wC_skip, wD, wL, wR_lst, wR_nil, wR_cons, wR_cat, wR_tup, wR_ix, wR_var, wR_cst, wR_op, wR_cmp, wR_isc, wR_ite, wR_not, wR_bi1, wR_bi2, wR_call, wR_meth, wR_isi, wR_comp, wR_dct0, wR_glob, wT_not, wT_and, wT_or, wT_cmp, wT_isc, wT_var, wT_cst, wT_ix, wT_isi, wT_call, wT_ite, wI_enum, wI_seq, wI_range1, wI_zip, dC_v, dC_tmp, lC_tmp, tC_bl, okk_okr, put_n, put_2, put_3, put_5, setSlot, setAll, List.set, List.getElem?_cons_zero, List.getElem?_cons_succ, Option.some.injEq, exists_eq_left', add_i, sub_i, mul_i, mod_i, fdiv_i, add_t, eq_i, ne_i, lt_i, le_i, gt_i, ge_i, eq_ni, eq_in, eq_nn, eq_s, b_tuple, b_list, b_len_t, b_abs, b_int, b_lrange, b_min, b_max, at0, at1, at2, at3, set0, set1, set2, set3, methOn, meth, okk_if, itemsOf, seqOf, src, guardOf, Option.map_some, List.length_cons, List.length_nil, List.append_assoc, List.cons_append, List.nil_append, List.length_append, Bool.not_eq_true', start, List.map_cons, List.map_nil, List.replicate, Nat.reduceSub, Nat.reduceAdd, true_and, and_true, if_true, envW, st_at st.st, eS, j0, eN]
  by_cases hpo : p = o
  · subst hpo
    simp only [decide_true]
    simp
  · simp only [hpo, decide_false]
    by_cases htb : t = b
    · subst htb
      have : told = sN := by rw [← hE]; simp only [hpo, decide_false]; exact eff_stay _ _
      subst this
      simp only [wC_seq, wC_asg, wC_par, wC_sub, wC_ifc, wC_ret, wC_expr, wC_for, wC_skip, wD, wL, wR_lst, wR_nil, wR_cons, wR_cat, wR_tup, wR_ix, wR_var, wR_cst, wR_op, wR_cmp, wR_isc, wR_ite, wR_not, wR_bi1, wR_bi2, wR_call, wR_meth, wR_isi, wR_comp, wR_dct0, wR_glob, wT_not, wT_and, wT_or, wT_cmp, wT_isc, wT_var, wT_cst, wT_ix, wT_isi, wT_call, wT_ite, wI_enum, wI_seq, wI_range1, wI_zip, dC_v, dC_tmp, lC_tmp, tC_bl, okk_okr, put_n, put_2, put_3, put_5, setSlot, setAll, List.set, List.getElem?_cons_zero, List.getElem?_cons_succ, Option.some.injEq, exists_eq_left', add_i, sub_i, mul_i, mod_i, fdiv_i, add_t, eq_i, ne_i, lt_i, le_i, gt_i, ge_i, eq_ni, eq_in, eq_nn, eq_s, b_tuple, b_list, b_len_t, b_abs, b_int, b_lrange, b_min, b_max, at0, at1, at2, at3, set0, set1, set2, set3, methOn, meth, okk_if, itemsOf, seqOf, src, guardOf, Option.map_some, List.length_cons, List.length_nil, List.append_assoc, List.cons_append, List.nil_append, List.length_append, Bool.not_eq_true', start, List.map_cons, List.map_nil, List.replicate, Nat.reduceSub, Nat.reduceAdd, true_and, and_true, if_true, st_at st.st, eS, j0, ne_N, l1, eN]
      simp
    · have : ¬ ((t : Int) = (b : Int)) := by omega
      simp only [wC_seq, wC_asg, wC_par, wC_sub, wC_ifc, wC_ret, wC_expr, wC_for, wC_skip, wD, wL, wR_lst, wR_nil, wR_cons, wR_cat, wR_tup, wR_ix, wR_var, wR_cst, wR_op, wR_cmp, wR_isc, wR_ite, wR_not, wR_bi1, wR_bi2, wR_call, wR_meth, wR_isi, wR_comp, wR_dct0, wR_glob, wT_not, wT_and, wT_or, wT_cmp, wT_isc, wT_var, wT_cst, wT_ix, wT_isi, wT_call, wT_ite, wI_enum, wI_seq, wI_range1, wI_zip, dC_v, dC_tmp, lC_tmp, tC_bl, okk_okr, put_n, put_2, put_3, put_5, setSlot, setAll, List.set, List.getElem?_cons_zero, List.getElem?_cons_succ, Option.some.injEq, exists_eq_left', add_i, sub_i, mul_i, mod_i, fdiv_i, add_t, eq_i, ne_i, lt_i, le_i, gt_i, ge_i, eq_ni, eq_in, eq_nn, eq_s, b_tuple, b_list, b_len_t, b_abs, b_int, b_lrange, b_min, b_max, at0, at1, at2, at3, set0, set1, set2, set3, methOn, meth, okk_if, itemsOf, seqOf, src, guardOf, Option.map_some, List.length_cons, List.length_nil, List.append_assoc, List.cons_append, List.nil_append, List.length_append, Bool.not_eq_true', start, List.map_cons, List.map_nil, List.replicate, Nat.reduceSub, Nat.reduceAdd, true_and, and_true, if_true, st_at st.st, eS, j0, eN, decide_eq_false this]
      simp
/-- a goal of a world -/
theorem law_goal {P : Prg} (hp : HasL P) {k : Nat} {S : Store} {w : Wd} (ok : w.Ok) {g : Nat} (hg : g < w.owners.length) {c0 : Cell} (hS : S[0]? = some c0) (x1 x2 x3 x4 x7 x8 x9 x10 x11 x12 x13 : Option D) :
    wC P.gl (run P (k + 4)) (.seq (.asg (.name 7) (.call 15 (.cons (.var 5) (.cons (.var 6) .nil))))
  (.seq (.ifc (.not (.call 9 (.cons (.bi1 .tuple (.call 3 (.cons (.var 5) (.cons (.var 6) .nil)))) (.cons (.bi1 .tuple (.var 7)) .nil))))
  (.ret (.cst (.bl false)))
  .skip)
  (.forc (.tup (.cons (.name 8) (.cons (.name 9) .nil))) .enum (.ix (.var 5) (.cst (.int 0))) .nil
  (.forc (.name 10) .seq (.comp [10, 13] (.tup (.cons (.name 10) (.cons (.name 13) .nil))) .enum (.var 9) .nil (.isc true (.var 13) .non) (.var 10)) .nil
  (.seq (.asg (.name 11) (.call 5 (.cons (.var 5) (.cons (.var 6) (.cons (.var 8) (.cons (.var 10) .nil))))))
  (.seq (.ifc (.not (.call 9 (.cons (.var 11) (.cons (.call 16 (.cons (.var 5) (.cons (.var 6) (.cons (.var 7) (.cons (.var 8) (.cons (.var 10) .nil)))))) .nil))))
  (.ret (.cst (.bl false)))
  .skip)
  (.seq (.asg (.name 12) (.cmp .eq (.ix (.ix (.var 5) (.cst (.int 1))) (.var 10)) (.ix (.ix (.var 5) (.cst (.int 3))) (.var 6))))
  (.seq (.ifc (.and (.var 12) (.or (.cmp .notin (.ix (.var 11) (.cst (.int 0))) three) (.and (.cmp .eq (.ix (.var 11) (.cst (.int 0))) (.cst (.str (Str.ofString "wastes")))) (.cmp .lt (.ix (.var 11) (.cst (.int 1))) (.cst (.int 0))))))
  (.ret (.cst (.bl false)))
  .skip)
  (.ifc (.and (.not (.var 12)) (.and (.cmp .eq (.ix (.ix (.var 9) (.var 10)) (.cst (.int 0))) (.var 8)) (.cmp .ne (.var 11) (.tup (.cons (.cst (.str (Str.ofString "nothing"))) .nil)))))
  (.ret (.cst (.bl false)))
  .skip)))))))))
      (envW x1 x2 x3 x4 (some (eW w)) (some (eN g)) x7 x8 x9 x10 x11 x12 x13) S
    fun f S1 => S1[0]? = some c0 ∧ ∃ y7 y8 y9 y10 y11 y12 y13, f = .nxt (envW x1 x2 x3 x4 (some (eW w)) (some (eN g)) y7 y8 y9 y10 y11 y12 y13) := by
  obtain ⟨o, ho⟩ : ∃ o, w.owners[g]? = some o := ⟨_, List.getElem?_eq_getElem hg⟩
  have sm := ok.small
  have fw := ok.few
  with_reducible refine wC_cut2 (fun e S1 => S1 = S ++ [.lst ((best w g o).map eO)] ∧ e = envW x1 x2 x3 x4 (some (eW w)) (some (eN g)) (some (.loc S.length)) x8 x9 x10 x11 x12 x13) ?_ ?_
  · simp only [wC_seq, wC_asg, wC_par, wC_sub, wC_ifc, wC_ret, wC_expr, wC_for, wC_skip, wD, wL, wR_lst, wR_nil, wR_cons, wR_cat, wR_tup, wR_ix, wR_var, wR_cst, wR_op, wR_cmp, wR_isc, wR_ite, wR_not, wR_bi1, wR_bi2, wR_call, wR_meth, wR_isi, wR_comp, wR_dct0, wR_glob, wT_not, wT_and, wT_or, wT_cmp, wT_isc, wT_var, wT_cst, wT_ix, wT_isi, wT_call, wT_ite, wI_enum, wI_seq, wI_range1, wI_zip, dC_v, dC_tmp, lC_tmp, tC_bl, okk_okr, put_n, put_2, put_3, put_5, setSlot, setAll, List.set, List.getElem?_cons_zero, List.getElem?_cons_succ, Option.some.injEq, exists_eq_left', add_i, sub_i, mul_i, mod_i, fdiv_i, add_t, eq_i, ne_i, lt_i, le_i, gt_i, ge_i, eq_ni, eq_in, eq_nn, eq_s, b_tuple, b_list, b_len_t, b_abs, b_int, b_lrange, b_min, b_max, at0, at1, at2, at3, set0, set1, set2, set3, methOn, meth, okk_if, itemsOf, seqOf, src, guardOf, Option.map_some, List.length_cons, List.length_nil, List.append_assoc, List.cons_append, List.nil_append, List.length_append, Bool.not_eq_true', start, List.map_cons, List.map_nil, List.replicate, Nat.reduceSub, Nat.reduceAdd, true_and, and_true, if_true, envW]
    refine okk_imp (w_costs hp.f15 (k := k + 3) (S := S) ok ho) fun d S1 h => ?_
    obtain ⟨rfl, rfl⟩ := h
    exact ⟨rfl, rfl⟩
  rintro e S1 ⟨rfl, rfl⟩
  have hc : (S ++ [Cell.lst ((best w g o).map eO)])[S.length]? = some (.lst ((best w g o).map eO)) := at0 _ _ _
  with_reducible refine wC_cut2 (fun e S2 => S2 = S ++ [.lst ((best w g o).map eO)] ∧ e = envW x1 x2 x3 x4 (some (eW w)) (some (eN g)) (some (.loc S.length)) x8 x9 x10 x11 x12 x13) ?_ ?_
  · obtain ⟨pl, dp⟩ := plains_eO (best w g o)
    simp only [wC_seq, wC_asg, wC_par, wC_sub, wC_ifc, wC_ret, wC_expr, wC_for, wC_skip, wD, wL, wR_lst, wR_nil, wR_cons, wR_cat, wR_tup, wR_ix, wR_var, wR_cst, wR_op, wR_cmp, wR_isc, wR_ite, wR_not, wR_bi1, wR_bi2, wR_call, wR_meth, wR_isi, wR_comp, wR_dct0, wR_glob, wT_not, wT_and, wT_or, wT_cmp, wT_isc, wT_var, wT_cst, wT_ix, wT_isi, wT_call, wT_ite, wI_enum, wI_seq, wI_range1, wI_zip, dC_v, dC_tmp, lC_tmp, tC_bl, okk_okr, put_n, put_2, put_3, put_5, setSlot, setAll, List.set, List.getElem?_cons_zero, List.getElem?_cons_succ, Option.some.injEq, exists_eq_left', add_i, sub_i, mul_i, mod_i, fdiv_i, add_t, eq_i, ne_i, lt_i, le_i, gt_i, ge_i, eq_ni, eq_in, eq_nn, eq_s, b_tuple, b_list, b_len_t, b_abs, b_int, b_lrange, b_min, b_max, at0, at1, at2, at3, set0, set1, set2, set3, methOn, meth, okk_if, itemsOf, seqOf, src, guardOf, Option.map_some, List.length_cons, List.length_nil, List.append_assoc, List.cons_append, List.nil_append, List.length_append, Bool.not_eq_true', start, List.map_cons, List.map_nil, List.replicate, Nat.reduceSub, Nat.reduceAdd, true_and, and_true, if_true, envW]
    refine okk_imp (w_own_floors hp.h (k := k + 1) (S := S ++ [.lst ((best w g o).map eO)]) ok ho) fun d S1 h => ?_
    obtain ⟨rfl, rfl⟩ := h
    simp only [wC_seq, wC_asg, wC_par, wC_sub, wC_ifc, wC_ret, wC_expr, wC_for, wC_skip, wD, wL, wR_lst, wR_nil, wR_cons, wR_cat, wR_tup, wR_ix, wR_var, wR_cst, wR_op, wR_cmp, wR_isc, wR_ite, wR_not, wR_bi1, wR_bi2, wR_call, wR_meth, wR_isi, wR_comp, wR_dct0, wR_glob, wT_not, wT_and, wT_or, wT_cmp, wT_isc, wT_var, wT_cst, wT_ix, wT_isi, wT_call, wT_ite, wI_enum, wI_seq, wI_range1, wI_zip, dC_v, dC_tmp, lC_tmp, tC_bl, okk_okr, put_n, put_2, put_3, put_5, setSlot, setAll, List.set, List.getElem?_cons_zero, List.getElem?_cons_succ, Option.some.injEq, exists_eq_left', add_i, sub_i, mul_i, mod_i, fdiv_i, add_t, eq_i, ne_i, lt_i, le_i, gt_i, ge_i, eq_ni, eq_in, eq_nn, eq_s, b_tuple, b_list, b_len_t, b_abs, b_int, b_lrange, b_min, b_max, at0, at1, at2, at3, set0, set1, set2, set3, methOn, meth, okk_if, itemsOf, seqOf, src, guardOf, Option.map_some, List.length_cons, List.length_nil, List.append_assoc, List.cons_append, List.nil_append, List.length_append, Bool.not_eq_true', start, List.map_cons, List.map_nil, List.replicate, Nat.reduceSub, Nat.reduceAdd, true_and, and_true, if_true]
    refine okk_imp (w_same hp.f9 (S := S ++ [.lst ((best w g o).map eO)]) 1 (.tup ((best w g o).map eO)) (by simp [D.depth, dp]) (by simpa [D.plain] using pl) (k + 2)) fun d S3 h => ?_
    obtain ⟨rfl, rfl⟩ := h
    simp [tC, truth]
  rintro e S2 ⟨rfl, rfl⟩
  simp only [wC_for, wI_enum, wR_ix, wR_var, wR_cst, wD, dC_v, envW, List.getElem?_cons_zero, List.getElem?_cons_succ, Option.some.injEq, exists_eq_left', eW0, src, itemsOf, seqOf, guardOf, Option.map_some]
  refine okk_for (fun j env S3 => S3 = S ++ [.lst ((best w g o).map eO)] ∧ ∃ x8 x9 x10 x11 x12 x13, env = envW x1 x2 x3 x4 (some (eW w)) (some (eN g)) (some (.loc S.length)) x8 x9 x10 x11 x12 x13) ?_ ?_ ?_ ?_
  · exact ⟨rfl, _, _, _, _, _, _, rfl⟩
  · intros; rfl
  · rintro b x env S3 hx ⟨rfl, z8, z9, z10, z11, z12, z13, rfl⟩
    obtain ⟨d, hd, rfl⟩ := enum_at hx
    rw [List.getElem?_map] at hd
    cases hs : w.steps[b]? with
    | none => rw [hs] at hd; cases hd
    | some r =>
      rw [hs] at hd
      cases hd
      have hrl := ok.row r (List.mem_of_getElem? hs)
      refine ⟨_, rfl, ?_⟩
      simp only [wC_i, wC_for, wI_seq, wR_comp, wI_enum, wR_var, envW, setSlot, List.set, List.getElem?_cons_zero, List.getElem?_cons_succ, Option.some.injEq, exists_eq_left', src, itemsOf, seqOf, guardOf, Option.map_some, eRow]
      refine okk_comp (fun q acc S4 => S4 = S ++ [.lst ((best w g o).map eO)] ∧ acc.length ≤ q ∧ ∀ x ∈ acc, ∃ q t c, x = eN q ∧ r[q]? = some (some (t, c))) ?_ ?_ ?_ ?_
      · exact ⟨rfl, Nat.le_refl _, fun x h => by simp at h⟩
      · intros; rfl
      · rintro q x acc S4 hx ⟨rfl, hal, hac⟩
        obtain ⟨d, hd, rfl⟩ := enum_at hx
        rw [List.getElem?_map] at hd
        cases hs2 : r[q]? with
        | none => rw [hs2] at hd; cases hd
        | some s =>
          rw [hs2] at hd
          cases hd
          rw [wStep_i]
          unfold wStep
          cases s with
          | none =>
            simp only [wC_seq, wC_asg, wC_par, wC_sub, wC_ifc, wC_ret, wC_expr, wC_for, wC_skip, wD, wL, wR_lst, wR_nil, wR_cons, wR_cat, wR_tup, wR_ix, wR_var, wR_cst, wR_op, wR_cmp, wR_isc, wR_ite, wR_not, wR_bi1, wR_bi2, wR_call, wR_meth, wR_isi, wR_comp, wR_dct0, wR_glob, wT_not, wT_and, wT_or, wT_cmp, wT_isc, wT_var, wT_cst, wT_ix, wT_isi, wT_call, wT_ite, wI_enum, wI_seq, wI_range1, wI_zip, dC_v, dC_tmp, lC_tmp, tC_bl, okk_okr, put_n, put_2, put_3, put_5, setSlot, setAll, List.set, List.getElem?_cons_zero, List.getElem?_cons_succ, Option.some.injEq, exists_eq_left', add_i, sub_i, mul_i, mod_i, fdiv_i, add_t, eq_i, ne_i, lt_i, le_i, gt_i, ge_i, eq_ni, eq_in, eq_nn, eq_s, b_tuple, b_list, b_len_t, b_abs, b_int, b_lrange, b_min, b_max, at0, at1, at2, at3, set0, set1, set2, set3, methOn, meth, okk_if, itemsOf, seqOf, src, guardOf, Option.map_some, List.length_cons, List.length_nil, List.append_assoc, List.cons_append, List.nil_append, List.length_append, Bool.not_eq_true', start, List.map_cons, List.map_nil, List.replicate, Nat.reduceSub, Nat.reduceAdd, true_and, and_true, if_true, wipe, eS, D.same, bne_self_eq_false, Bool.false_eq_true, if_false]
            refine ⟨by simp; omega, by simpa using hac⟩
          | some s =>
            obtain ⟨t, c⟩ := s
            simp only [wC_seq, wC_asg, wC_par, wC_sub, wC_ifc, wC_ret, wC_expr, wC_for, wC_skip, wD, wL, wR_lst, wR_nil, wR_cons, wR_cat, wR_tup, wR_ix, wR_var, wR_cst, wR_op, wR_cmp, wR_isc, wR_ite, wR_not, wR_bi1, wR_bi2, wR_call, wR_meth, wR_isi, wR_comp, wR_dct0, wR_glob, wT_not, wT_and, wT_or, wT_cmp, wT_isc, wT_var, wT_cst, wT_ix, wT_isi, wT_call, wT_ite, wI_enum, wI_seq, wI_range1, wI_zip, dC_v, dC_tmp, lC_tmp, tC_bl, okk_okr, put_n, put_2, put_3, put_5, setSlot, setAll, List.set, List.getElem?_cons_zero, List.getElem?_cons_succ, Option.some.injEq, exists_eq_left', add_i, sub_i, mul_i, mod_i, fdiv_i, add_t, eq_i, ne_i, lt_i, le_i, gt_i, ge_i, eq_ni, eq_in, eq_nn, eq_s, b_tuple, b_list, b_len_t, b_abs, b_int, b_lrange, b_min, b_max, at0, at1, at2, at3, set0, set1, set2, set3, methOn, meth, okk_if, itemsOf, seqOf, src, guardOf, Option.map_some, List.length_cons, List.length_nil, List.append_assoc, List.cons_append, List.nil_append, List.length_append, Bool.not_eq_true', start, List.map_cons, List.map_nil, List.replicate, Nat.reduceSub, Nat.reduceAdd, true_and, and_true, if_true, wipe, eS, D.same, b_ft]
            refine ⟨by simp; omega, fun x hx => ?_⟩
            simp only [Option.toList_some, List.mem_append, List.mem_singleton] at hx
            rcases hx with hx | rfl
            · exact hac x hx
            · exact ⟨q, t, c, rfl, hs2⟩
      · rintro acc S4 ⟨rfl, hal, hac⟩
        rw [enum_len, List.length_map] at hal
        refine ⟨by simp only [line]; omega, ?_⟩
        refine okk_for (fun j env S3 => S3 = S ++ [.lst ((best w g o).map eO)] ∧ ∃ x10 x11 x12 x13, env = envW x1 x2 x3 x4 (some (eW w)) (some (eN g)) (some (.loc S.length)) (some (eN b)) (some (eRow r)) x10 x11 x12 x13) ?_ ?_ ?_ ?_
        · exact ⟨rfl, _, _, _, _, rfl⟩
        · intros; rfl
        · rintro j x env S5 hx ⟨rfl, v10, v11, v12, v13, rfl⟩
          obtain ⟨q, t, c, rfl, hq⟩ := hac x (List.mem_of_getElem? hx)
          refine ⟨_, rfl, ?_⟩
          rw [wC_i]
          refine wC_end (law_deed hp ok ho ⟨hs, hq⟩ hc _ _ _ _ _ _ _) fun f S6 h => ?_
          obtain ⟨rfl, y11, y12, rfl⟩ := h
          exact ⟨rfl, _, _, _, _, rfl⟩
        · rintro env S5 ⟨rfl, v10, v11, v12, v13, rfl⟩
          exact ⟨rfl, _, _, _, _, _, _, rfl⟩
  · rintro env S3 ⟨rfl, z8, z9, z10, z11, z12, z13, rfl⟩
    exact ⟨app_at hS, _, _, _, _, _, _, _, rfl⟩
/-- what was heard of the gate -/
abbrev heard : D := .tup [.tup [.str (Str.ofString "costs"), .int 3], .tup [.str (Str.ofString "gives"), .int 3], .tup [.str (Str.ofString "wastes"), .int 3], .tup [.str (Str.ofString "shuts")], .tup [.str (Str.ofString "wastes"), .int 0]]
theorem gate_eff {P : Prg} (hp : HasL P) {k : Nat} {S : Store} {g o b q t c p : Nat} {r : List (Option (Nat × Nat))} {x : D} (ho : wGate.owners[g]? = some o) (hw : wGate.whose[q]? = some p) (st : Stp wGate b q r t c) (hx : eff ((best wGate g o).at b) ((best wGate g o).at t) (decide (p = o)) c = x) {Φ : D → Store → Prop} (hΦ : Φ x S) :
    Okk (run P (k + 4) 5 [eW wGate, eN g, eN b, eN q] S) Φ :=
  okk_imp (w_effect hp.h hp.f5 hp.f4 hp.g (k := k) (S := S) ok_gate ho hw st) fun d S' h => by
    obtain ⟨rfl, rfl⟩ := h
    rw [hx]
    exact hΦ
theorem w_law {P : Prg} (hp : HasL P) {k : Nat} {ns : List Int} (hn : ns.length ≤ 63) : Okk (run P (k + 5) 17 [.loc 0] [.rol (ns.map .int)]) fun d S' => d = .bl true := by
  refine okk_run hp.f17 rfl ?_
  rw [wC_i]
  simp only [law_, start, List.map_cons, List.map_nil, List.length_cons, List.length_nil, List.replicate, Nat.reduceSub, Nat.reduceAdd, List.cons_append, List.nil_append]
  generalize hS0 : ([.rol (ns.map .int)] : Store) = S0
  have h0 : S0[0]? = some (.rol (ns.map .int)) := by rw [← hS0]; rfl
  with_reducible refine wC_cut2 (fun e S1 => S1 = S0 ∧ e = envW (some (eW wGate)) none none none none none none none none none none none none) ?_ ?_
  · simp only [wC_seq, wC_asg, wC_par, wC_sub, wC_ifc, wC_ret, wC_expr, wC_for, wC_skip, wD, wL, wR_lst, wR_nil, wR_cons, wR_cat, wR_tup, wR_ix, wR_var, wR_cst, wR_op, wR_cmp, wR_isc, wR_ite, wR_not, wR_bi1, wR_bi2, wR_call, wR_meth, wR_isi, wR_comp, wR_dct0, wR_glob, wT_not, wT_and, wT_or, wT_cmp, wT_isc, wT_var, wT_cst, wT_ix, wT_isi, wT_call, wT_ite, wI_enum, wI_seq, wI_range1, wI_zip, dC_v, dC_tmp, lC_tmp, tC_bl, okk_okr, put_n, put_2, put_3, put_5, setSlot, setAll, List.set, List.getElem?_cons_zero, List.getElem?_cons_succ, Option.some.injEq, exists_eq_left', add_i, sub_i, mul_i, mod_i, fdiv_i, add_t, eq_i, ne_i, lt_i, le_i, gt_i, ge_i, eq_ni, eq_in, eq_nn, eq_s, b_tuple, b_list, b_len_t, b_abs, b_int, b_lrange, b_min, b_max, at0, at1, at2, at3, set0, set1, set2, set3, methOn, meth, okk_if, itemsOf, seqOf, src, guardOf, Option.map_some, List.length_cons, List.length_nil, List.append_assoc, List.cons_append, List.nil_append, List.length_append, Bool.not_eq_true', start, List.map_cons, List.map_nil, List.replicate, Nat.reduceSub, Nat.reduceAdd, true_and, and_true, if_true]
    refine okk_imp (w_gate hp.w.f10) fun d S1 h => ?_
    obtain ⟨rfl, rfl⟩ := h
    exact ⟨rfl, rfl⟩
  rintro e S1 ⟨rfl, rfl⟩
  with_reducible refine wC_cut2 (fun e S2 => S2 = S1 ∧ e = envW (some (eW wGate)) (some heard) none none none none none none none none none none none) ?_ ?_
  · have l5 : 5 ≤ line := by simp [line]
    simp only [wC_seq, wC_asg, wC_par, wC_sub, wC_ifc, wC_ret, wC_expr, wC_for, wC_skip, wD, wL, wR_lst, wR_nil, wR_cons, wR_cat, wR_tup, wR_ix, wR_var, wR_cst, wR_op, wR_cmp, wR_isc, wR_ite, wR_not, wR_bi1, wR_bi2, wR_call, wR_meth, wR_isi, wR_comp, wR_dct0, wR_glob, wT_not, wT_and, wT_or, wT_cmp, wT_isc, wT_var, wT_cst, wT_ix, wT_isi, wT_call, wT_ite, wI_enum, wI_seq, wI_range1, wI_zip, dC_v, dC_tmp, lC_tmp, tC_bl, okk_okr, put_n, put_2, put_3, put_5, setSlot, setAll, List.set, List.getElem?_cons_zero, List.getElem?_cons_succ, Option.some.injEq, exists_eq_left', add_i, sub_i, mul_i, mod_i, fdiv_i, add_t, eq_i, ne_i, lt_i, le_i, gt_i, ge_i, eq_ni, eq_in, eq_nn, eq_s, b_tuple, b_list, b_len_t, b_abs, b_int, b_lrange, b_min, b_max, at0, at1, at2, at3, set0, set1, set2, set3, methOn, meth, okk_if, itemsOf, seqOf, src, guardOf, Option.map_some, List.length_cons, List.length_nil, List.append_assoc, List.cons_append, List.nil_append, List.length_append, Bool.not_eq_true', start, List.map_cons, List.map_nil, List.replicate, Nat.reduceSub, Nat.reduceAdd, true_and, and_true, if_true, envW]
    refine gate_eff hp (k := k) (g := 0) (b := 0) (q := 2) (x := .tup [.str (Str.ofString "costs"), .int 3]) (o := 0) (p := 1) (t := 2) (c := 0) rfl rfl ⟨rfl, rfl⟩ rfl ?_
    refine gate_eff hp (k := k) (g := 0) (b := 2) (q := 3) (x := .tup [.str (Str.ofString "gives"), .int 3]) (o := 0) (p := 1) (t := 0) (c := 2) rfl rfl ⟨rfl, rfl⟩ rfl ?_
    refine gate_eff hp (k := k) (g := 0) (b := 0) (q := 1) (x := .tup [.str (Str.ofString "wastes"), .int 3]) (o := 0) (p := 0) (t := 1) (c := 4) rfl rfl ⟨rfl, rfl⟩ rfl ?_
    refine gate_eff hp (k := k) (g := 1) (b := 0) (q := 0) (x := .tup [.str (Str.ofString "shuts")]) (o := 1) (p := 0) (t := 1) (c := 1) rfl rfl ⟨rfl, rfl⟩ rfl ?_
    refine gate_eff hp (k := k) (g := 1) (b := 0) (q := 2) (x := .tup [.str (Str.ofString "wastes"), .int 0]) (o := 1) (p := 1) (t := 2) (c := 0) rfl rfl ⟨rfl, rfl⟩ rfl ?_
    simp only [l5, true_and]
  rintro e S2 ⟨rfl, rfl⟩
  with_reducible refine wC_cut2 (fun e S3 => S3 = S2 ∧ e = envW (some (eW wGate)) (some heard) none none none none none none none none none none none) ?_ ?_
  · have l5 : 5 ≤ line ∧ 1 ≤ line ∧ 2 ≤ line := by simp [line]
    simp only [wC_seq, wC_asg, wC_par, wC_sub, wC_ifc, wC_ret, wC_expr, wC_for, wC_skip, wD, wL, wR_lst, wR_nil, wR_cons, wR_cat, wR_tup, wR_ix, wR_var, wR_cst, wR_op, wR_cmp, wR_isc, wR_ite, wR_not, wR_bi1, wR_bi2, wR_call, wR_meth, wR_isi, wR_comp, wR_dct0, wR_glob, wT_not, wT_and, wT_or, wT_cmp, wT_isc, wT_var, wT_cst, wT_ix, wT_isi, wT_call, wT_ite, wI_enum, wI_seq, wI_range1, wI_zip, dC_v, dC_tmp, lC_tmp, tC_bl, okk_okr, put_n, put_2, put_3, put_5, setSlot, setAll, List.set, List.getElem?_cons_zero, List.getElem?_cons_succ, Option.some.injEq, exists_eq_left', add_i, sub_i, mul_i, mod_i, fdiv_i, add_t, eq_i, ne_i, lt_i, le_i, gt_i, ge_i, eq_ni, eq_in, eq_nn, eq_s, b_tuple, b_list, b_len_t, b_abs, b_int, b_lrange, b_min, b_max, at0, at1, at2, at3, set0, set1, set2, set3, methOn, meth, okk_if, itemsOf, seqOf, src, guardOf, Option.map_some, List.length_cons, List.length_nil, List.append_assoc, List.cons_append, List.nil_append, List.length_append, Bool.not_eq_true', start, List.map_cons, List.map_nil, List.replicate, Nat.reduceSub, Nat.reduceAdd, true_and, and_true, if_true, envW, l5]
    refine okk_imp (w_same hp.f9 (S := S2) 2 heard (by decide) (by decide) (k + 1)) fun d S3 h => ?_
    obtain ⟨rfl, rfl⟩ := h
    simp [tC, truth]
  rintro e S3 ⟨rfl, rfl⟩
  with_reducible refine wC_cut2 (fun e S4 => True) ?_ ?_
  · simp only [wC_for, wI_range1, wR_bi2, wR_bi1, wR_cst, wR_var, wD, dC_v, envW, List.getElem?_cons_zero, List.getElem?_cons_succ, Option.some.injEq, exists_eq_left', b_len_r h0, b_min, b_max, List.length_map]
    generalize hM : (if (if (6 : Int) < (ns.length : Int) then (6 : Int) else (ns.length : Int)) > 3 then (if (6 : Int) < (ns.length : Int) then (6 : Int) else (ns.length : Int)) else 3) = M
    have hM2 : 0 ≤ M ∧ M ≤ 100 := by
      rw [← hM]
      split <;> split <;> omega
    have fr : (-far ≤ M ∧ M < far) := by simp only [far]; omega
    refine ⟨_, src_rg fr, ?_⟩
    refine okk_for (fun j env S4 => S4[0]? = some (.rol (ns.map .int)) ∧ ∃ x3 x4 x5 x6 x7 x8 x9 x10 x11 x12 x13, env = envW (some (eW wGate)) (some heard) x3 x4 x5 x6 x7 x8 x9 x10 x11 x12 x13) ?_ ?_ ?_ ?_
    · exact ⟨h0, _, _, _, _, _, _, _, _, _, _, _, rfl⟩
    · intros; rfl
    · rintro j x env S4 hx ⟨h4, x3, x4, x5, x6, x7, x8, x9, x10, x11, x12, x13, rfl⟩
      obtain ⟨hj, rfl⟩ := range_at hx
      refine ⟨_, rfl, ?_⟩
      rw [wC_i]
      with_reducible refine wC_cut2 (fun e S5 => ∃ (n : Nat) (a b : Int), S5[0]? = some (.rol (ns.map .int)) ∧ S5[n]? = some (.lst [.int a, .int b]) ∧ e = envW (some (eW wGate)) (some heard) (some (eN j)) (some (.loc n)) x5 x6 x7 x8 x9 x10 x11 x12 x13) ?_ ?_
      · simp only [wC_seq, wC_asg, wC_par, wC_sub, wC_ifc, wC_ret, wC_expr, wC_for, wC_skip, wD, wL, wR_lst, wR_nil, wR_cons, wR_cat, wR_tup, wR_ix, wR_var, wR_cst, wR_op, wR_cmp, wR_isc, wR_ite, wR_not, wR_bi1, wR_bi2, wR_call, wR_meth, wR_isi, wR_comp, wR_dct0, wR_glob, wT_not, wT_and, wT_or, wT_cmp, wT_isc, wT_var, wT_cst, wT_ix, wT_isi, wT_call, wT_ite, wI_enum, wI_seq, wI_range1, wI_zip, dC_v, dC_tmp, lC_tmp, tC_bl, okk_okr, put_n, put_2, put_3, put_5, setSlot, setAll, List.set, List.getElem?_cons_zero, List.getElem?_cons_succ, Option.some.injEq, exists_eq_left', add_i, sub_i, mul_i, mod_i, fdiv_i, add_t, eq_i, ne_i, lt_i, le_i, gt_i, ge_i, eq_ni, eq_in, eq_nn, eq_s, b_tuple, b_list, b_len_t, b_abs, b_int, b_lrange, b_min, b_max, at0, at1, at2, at3, set0, set1, set2, set3, methOn, meth, okk_if, itemsOf, seqOf, src, guardOf, Option.map_some, List.length_cons, List.length_nil, List.append_assoc, List.cons_append, List.nil_append, List.length_append, Bool.not_eq_true', start, List.map_cons, List.map_nil, List.replicate, Nat.reduceSub, Nat.reduceAdd, true_and, and_true, if_true, envW]
        refine okk_imp (w_box hp.f6 (k := k + 3) (j := j) h4) fun d S5 h => ?_
        obtain ⟨a, b, rfl, rfl⟩ := h
        exact ⟨S4.length, a, b, app_at h4, at0 _ _ _, rfl⟩
      rintro e S5 ⟨n, a, b, h5, hb, rfl⟩
      with_reducible refine wC_cut2 (fun e S6 => ∃ (n : Nat) (w : Wd), w.Ok ∧ S6[0]? = some (.rol (ns.map .int)) ∧ e = envW (some (eW wGate)) (some heard) (some (eN j)) (some (.loc n)) (some (eW w)) x6 x7 x8 x9 x10 x11 x12 x13) ?_ ?_
      · simp only [wC_seq, wC_asg, wC_par, wC_sub, wC_ifc, wC_ret, wC_expr, wC_for, wC_skip, wD, wL, wR_lst, wR_nil, wR_cons, wR_cat, wR_tup, wR_ix, wR_var, wR_cst, wR_op, wR_cmp, wR_isc, wR_ite, wR_not, wR_bi1, wR_bi2, wR_call, wR_meth, wR_isi, wR_comp, wR_dct0, wR_glob, wT_not, wT_and, wT_or, wT_cmp, wT_isc, wT_var, wT_cst, wT_ix, wT_isi, wT_call, wT_ite, wI_enum, wI_seq, wI_range1, wI_zip, dC_v, dC_tmp, lC_tmp, tC_bl, okk_okr, put_n, put_2, put_3, put_5, setSlot, setAll, List.set, List.getElem?_cons_zero, List.getElem?_cons_succ, Option.some.injEq, exists_eq_left', add_i, sub_i, mul_i, mod_i, fdiv_i, add_t, eq_i, ne_i, lt_i, le_i, gt_i, ge_i, eq_ni, eq_in, eq_nn, eq_s, b_tuple, b_list, b_len_t, b_abs, b_int, b_lrange, b_min, b_max, at0, at1, at2, at3, set0, set1, set2, set3, methOn, meth, okk_if, itemsOf, seqOf, src, guardOf, Option.map_some, List.length_cons, List.length_nil, List.append_assoc, List.cons_append, List.nil_append, List.length_append, Bool.not_eq_true', start, List.map_cons, List.map_nil, List.replicate, Nat.reduceSub, Nat.reduceAdd, true_and, and_true, if_true, envW]
        refine okk_imp (w_any hp.w (k := k + 1) (n := n) (S := S5) (Bx.self hb)) fun d S6 h => ?_
        obtain ⟨hbx, w, okw, rfl⟩ := h
        obtain ⟨a', b', rfl⟩ := hbx.ex
        refine ⟨n, w, okw, ?_, rfl⟩
        have hn0 : n ≠ 0 := fun e => by
          subst e
          rw [h5] at hb
          cases hb
        rw [List.getElem?_set_ne hn0]
        exact h5
      rintro e S6 ⟨n, w, okw, h6, rfl⟩
      have ow := okw.own
      have fr2 : (-far ≤ ((w.owners.length : Nat) : Int) ∧ ((w.owners.length : Nat) : Int) < far) := by simp only [far]; omega
      simp only [wC_for, wI_range1, wR_bi1, wR_ix, wR_cst, wR_var, wD, dC_v, envW, List.getElem?_cons_zero, List.getElem?_cons_succ, Option.some.injEq, exists_eq_left', eW3, b_len_t, List.length_map]
      refine ⟨_, src_rg fr2, ?_⟩
      refine okk_for (fun g env S7 => S7[0]? = some (.rol (ns.map .int)) ∧ ∃ x6 x7 x8 x9 x10 x11 x12 x13, env = envW (some (eW wGate)) (some heard) (some (eN j)) (some (.loc n)) (some (eW w)) x6 x7 x8 x9 x10 x11 x12 x13) ?_ ?_ ?_ ?_
      · exact ⟨h6, _, _, _, _, _, _, _, _, rfl⟩
      · intros; rfl
      · rintro g x env S7 hx ⟨h7, y6, y7, y8, y9, y10, y11, y12, y13, rfl⟩
        obtain ⟨hg, rfl⟩ := range_at hx
        have hg : g < w.owners.length := by simpa using hg
        refine ⟨_, rfl, ?_⟩
        rw [wC_i]
        refine wC_end (law_goal hp (k := k) okw hg h7 _ _ _ _ _ _ _ _ _ _ _) fun f S8 h => ?_
        obtain ⟨h8, z7, z8, z9, z10, z11, z12, z13, rfl⟩ := h
        exact ⟨h8, _, _, _, _, _, _, _, _, rfl⟩
      · rintro env S7 ⟨h7, y6, y7, y8, y9, y10, y11, y12, y13, rfl⟩
        exact ⟨h7, _, _, _, _, _, _, _, _, _, _, _, rfl⟩
    · intros; trivial
  intro e S4 _
  simp only [wC_seq, wC_asg, wC_par, wC_sub, wC_ifc, wC_ret, wC_expr, wC_for, wC_skip, wD, wL, wR_lst, wR_nil, wR_cons, wR_cat, wR_tup, wR_ix, wR_var, wR_cst, wR_op, wR_cmp, wR_isc, wR_ite, wR_not, wR_bi1, wR_bi2, wR_call, wR_meth, wR_isi, wR_comp, wR_dct0, wR_glob, wT_not, wT_and, wT_or, wT_cmp, wT_isc, wT_var, wT_cst, wT_ix, wT_isi, wT_call, wT_ite, wI_enum, wI_seq, wI_range1, wI_zip, dC_v, dC_tmp, lC_tmp, tC_bl, okk_okr, put_n, put_2, put_3, put_5, setSlot, setAll, List.set, List.getElem?_cons_zero, List.getElem?_cons_succ, Option.some.injEq, exists_eq_left', add_i, sub_i, mul_i, mod_i, fdiv_i, add_t, eq_i, ne_i, lt_i, le_i, gt_i, ge_i, eq_ni, eq_in, eq_nn, eq_s, b_tuple, b_list, b_len_t, b_abs, b_int, b_lrange, b_min, b_max, at0, at1, at2, at3, set0, set1, set2, set3, methOn, meth, okk_if, itemsOf, seqOf, src, guardOf, Option.map_some, List.length_cons, List.length_nil, List.append_assoc, List.cons_append, List.nil_append, List.length_append, Bool.not_eq_true', start, List.map_cons, List.map_nil, List.replicate, Nat.reduceSub, Nat.reduceAdd, true_and, and_true, if_true]
end MP

set_option maxHeartbeats 0
namespace MP.Law
open PySem PySem.Spec PyProof.Rows L2 MP
def top (i : Nat) : Stmt := PySem.Challenge.pw_atwhosecost_k19_whole_what_deeds_do_to_g.main.body.getD i (.Pass ⟨0, 0, 0, 0⟩)
def cs : Ct := [("COSTS", 18, .s "costs"), ("GIVES", 19, .s "gives"), ("WASTES", 20, .s "wastes"), ("SHUTS", 21, .s "shuts"), ("OPENS", 22, .s "opens"), ("NOTHING", 23, .s "nothing")]
def kk : List (Str × Nat) := [("effect", 1)]
def t_fown_steps : Ent := ⟨"own_steps", 0, ["world", "person", "board"], ["world", "person", "board", "found", "deed", "step"], top 1, fown_steps⟩
def t_fgoal_boards : Ent := ⟨"goal_boards", 1, ["world", "goal"], ["world", "goal", "board", "row"], top 2, fgoal_boards⟩
def t_flot_floors : Ent := ⟨"lot_floors", 2, ["world", "person", "lot"], ["world", "person", "lot", "rows", "board", "floors", "is_still", "steps", "deed", "there", "cost"], top 3, flot_floors⟩
def t_fown_floors : Ent := ⟨"own_floors", 3, ["world", "goal"], ["world", "goal"], top 4, fown_floors⟩
def t_fchange : Ent := ⟨"change", 4, ["floors", "goal_owner", "person", "cost", "here", "there"], ["floors", "goal_owner", "person", "cost", "here", "there", "one", "two"], top 12, fchange⟩
def t_feffect : Ent := ⟨"effect", 5, ["world", "goal", "board", "deed"], ["world", "goal", "board", "deed", "there", "cost"], top 13, feffect⟩
def t_lbox : Ent := ⟨"_law_box", 6, ["script", "k"], ["script", "k", "cell", "great"], top 15, lbox⟩
def t_ltake : Ent := ⟨"_law_take", 7, ["box", "many"], ["box", "many", "digit", "raw"], top 16, ltake⟩
def t_lpick : Ent := ⟨"_law_pick", 8, ["box", "some"], ["box", "some"], top 17, lpick⟩
def t_lsame : Ent := ⟨"_law_same", 9, ["told", "due"], ["told", "due", "one", "other"], top 18, lsame⟩
def t_lgate : Ent := ⟨"_law_gate", 10, [], ["steps"], top 19, lgate⟩
def t_lplank : Ent := ⟨"_law_plank", 11, [], ["steps"], top 20, lplank⟩
def t_ltwo_bridges : Ent := ⟨"_law_two_bridges", 12, [], ["steps"], top 21, ltwo_bridges⟩
def t_lleast : Ent := ⟨"_law_least", 13, ["world"], ["world", "steps", "whose", "goals", "owners", "people", "kinds", "turn", "names", "later", "board", "row", "told", "step", "order", "spots", "found"], top 22, lleast⟩
def t_lany_world : Ent := ⟨"_law_any_world", 14, ["box"], ["box", "way", "boards", "people", "deeds", "whose", "deed", "owners", "steps", "goals", "board", "goal"], top 23, lany_world⟩
def t_lcosts : Ent := ⟨"_law_costs", 15, ["world", "goal"], ["world", "goal", "found", "told", "turn", "board", "row", "deed", "step", "cost"], top 24, lcosts⟩
def t_leffect : Ent := ⟨"_law_effect", 16, ["world", "goal", "costs", "board", "deed"], ["world", "goal", "costs", "board", "deed", "there", "paid", "one", "two"], top 25, leffect⟩
def t_law_ : Ent := ⟨"law", 17, ["script"], ["script", "gate", "heard", "k", "box", "world", "goal", "costs", "board", "row", "deed", "told", "is_own", "step"], top 26, law_⟩
def tab : List Ent := [t_fown_steps, t_fgoal_boards, t_flot_floors, t_fown_floors, t_fchange, t_feffect, t_lbox, t_ltake, t_lpick, t_lsame, t_lgate, t_lplank, t_ltwo_bridges, t_lleast, t_lany_world, t_lcosts, t_leffect, t_law_]
def prg : Prg := ⟨fun n => ([(0, fown_steps), (1, fgoal_boards), (2, flot_floors), (3, fown_floors), (4, fchange), (5, feffect), (6, lbox), (7, ltake), (8, lpick), (9, lsame), (10, lgate), (11, lplank), (12, ltwo_bridges), (13, lleast), (14, lany_world), (15, lcosts), (16, leffect), (17, law_)] : List (Nat × Fd)).lookup n, fun n => ([(18, .str "costs"), (19, .str "gives"), (20, .str "wastes"), (21, .str "shuts"), (22, .str "opens"), (23, .str "nothing")] : List (Nat × D)).lookup n⟩
theorem b_fown_steps : BindsAs t_fown_steps 3 := fun kV doc pm an cdv ct us ws h1 h2 => match us, ws, h1, h2 with | [_, _, _], [], _, _ => rfl
theorem k_fown_steps : ∀ n, (t_fown_steps.x, n) ∈ kk → BindsAs t_fown_steps n := by
  intro n hn
  have h := kk_of (l := []) (by decide +kernel) hn
  cases h
theorem o_fown_steps : EntOk prg tab (glsOf cs) kk t_fown_steps := ⟨⟨rfl, rfl, rfl, by decide +kernel, rfl, by decide +kernel, by decide +kernel⟩, rfl, rfl, rfl, by kernel_rfl, b_fown_steps, k_fown_steps⟩
theorem b_fgoal_boards : BindsAs t_fgoal_boards 2 := fun kV doc pm an cdv ct us ws h1 h2 => match us, ws, h1, h2 with | [_, _], [], _, _ => rfl
theorem k_fgoal_boards : ∀ n, (t_fgoal_boards.x, n) ∈ kk → BindsAs t_fgoal_boards n := by
  intro n hn
  have h := kk_of (l := []) (by decide +kernel) hn
  cases h
theorem o_fgoal_boards : EntOk prg tab (glsOf cs) kk t_fgoal_boards := ⟨⟨rfl, rfl, rfl, by decide +kernel, rfl, by decide +kernel, by decide +kernel⟩, rfl, rfl, rfl, by kernel_rfl, b_fgoal_boards, k_fgoal_boards⟩
theorem b_flot_floors : BindsAs t_flot_floors 3 := fun kV doc pm an cdv ct us ws h1 h2 => match us, ws, h1, h2 with | [_, _, _], [], _, _ => rfl
theorem k_flot_floors : ∀ n, (t_flot_floors.x, n) ∈ kk → BindsAs t_flot_floors n := by
  intro n hn
  have h := kk_of (l := []) (by decide +kernel) hn
  cases h
theorem o_flot_floors : EntOk prg tab (glsOf cs) kk t_flot_floors := ⟨⟨rfl, rfl, rfl, by decide +kernel, rfl, by decide +kernel, by decide +kernel⟩, rfl, rfl, rfl, by kernel_rfl, b_flot_floors, k_flot_floors⟩
theorem b_fown_floors : BindsAs t_fown_floors 2 := fun kV doc pm an cdv ct us ws h1 h2 => match us, ws, h1, h2 with | [_, _], [], _, _ => rfl
theorem k_fown_floors : ∀ n, (t_fown_floors.x, n) ∈ kk → BindsAs t_fown_floors n := by
  intro n hn
  have h := kk_of (l := []) (by decide +kernel) hn
  cases h
theorem o_fown_floors : EntOk prg tab (glsOf cs) kk t_fown_floors := ⟨⟨rfl, rfl, rfl, by decide +kernel, rfl, by decide +kernel, by decide +kernel⟩, rfl, rfl, rfl, by kernel_rfl, b_fown_floors, k_fown_floors⟩
theorem b_fchange : BindsAs t_fchange 6 := fun kV doc pm an cdv ct us ws h1 h2 => match us, ws, h1, h2 with | [_, _, _, _, _, _], [], _, _ => rfl
theorem k_fchange : ∀ n, (t_fchange.x, n) ∈ kk → BindsAs t_fchange n := by
  intro n hn
  have h := kk_of (l := []) (by decide +kernel) hn
  cases h
theorem o_fchange : EntOk prg tab (glsOf cs) kk t_fchange := ⟨⟨rfl, rfl, rfl, by decide +kernel, rfl, by decide +kernel, by decide +kernel⟩, rfl, rfl, rfl, by kernel_rfl, b_fchange, k_fchange⟩
theorem b_feffect : BindsAs t_feffect 4 := fun kV doc pm an cdv ct us ws h1 h2 => match us, ws, h1, h2 with | [_, _, _, _], [], _, _ => rfl
theorem k_feffect : ∀ n, (t_feffect.x, n) ∈ kk → BindsAs t_feffect n := by
  intro n hn
  have h := kk_of (l := [1]) (by decide +kernel) hn
  simp only [List.mem_cons, List.not_mem_nil, or_false] at h
  subst h
  exact fun kV doc pm an cdv ct us ws h1 h2 => match us, ws, h1, h2 with | [_], [_, _, _], _, _ => rfl
theorem o_feffect : EntOk prg tab (glsOf cs) kk t_feffect := ⟨⟨rfl, rfl, rfl, by decide +kernel, rfl, by decide +kernel, by decide +kernel⟩, rfl, rfl, rfl, by kernel_rfl, b_feffect, k_feffect⟩
theorem b_lbox : BindsAs t_lbox 2 := fun kV doc pm an cdv ct us ws h1 h2 => match us, ws, h1, h2 with | [_, _], [], _, _ => rfl
theorem k_lbox : ∀ n, (t_lbox.x, n) ∈ kk → BindsAs t_lbox n := by
  intro n hn
  have h := kk_of (l := []) (by decide +kernel) hn
  cases h
theorem o_lbox : EntOk prg tab (glsOf cs) kk t_lbox := ⟨⟨rfl, rfl, rfl, by decide +kernel, rfl, by decide +kernel, by decide +kernel⟩, rfl, rfl, rfl, by kernel_rfl, b_lbox, k_lbox⟩
theorem b_ltake : BindsAs t_ltake 2 := fun kV doc pm an cdv ct us ws h1 h2 => match us, ws, h1, h2 with | [_, _], [], _, _ => rfl
theorem k_ltake : ∀ n, (t_ltake.x, n) ∈ kk → BindsAs t_ltake n := by
  intro n hn
  have h := kk_of (l := []) (by decide +kernel) hn
  cases h
theorem o_ltake : EntOk prg tab (glsOf cs) kk t_ltake := ⟨⟨rfl, rfl, rfl, by decide +kernel, rfl, by decide +kernel, by decide +kernel⟩, rfl, rfl, rfl, by kernel_rfl, b_ltake, k_ltake⟩
theorem b_lpick : BindsAs t_lpick 2 := fun kV doc pm an cdv ct us ws h1 h2 => match us, ws, h1, h2 with | [_, _], [], _, _ => rfl
theorem k_lpick : ∀ n, (t_lpick.x, n) ∈ kk → BindsAs t_lpick n := by
  intro n hn
  have h := kk_of (l := []) (by decide +kernel) hn
  cases h
theorem o_lpick : EntOk prg tab (glsOf cs) kk t_lpick := ⟨⟨rfl, rfl, rfl, by decide +kernel, rfl, by decide +kernel, by decide +kernel⟩, rfl, rfl, rfl, by kernel_rfl, b_lpick, k_lpick⟩
theorem b_lsame : BindsAs t_lsame 2 := fun kV doc pm an cdv ct us ws h1 h2 => match us, ws, h1, h2 with | [_, _], [], _, _ => rfl
theorem k_lsame : ∀ n, (t_lsame.x, n) ∈ kk → BindsAs t_lsame n := by
  intro n hn
  have h := kk_of (l := []) (by decide +kernel) hn
  cases h
theorem o_lsame : EntOk prg tab (glsOf cs) kk t_lsame := ⟨⟨rfl, rfl, rfl, by decide +kernel, rfl, by decide +kernel, by decide +kernel⟩, rfl, rfl, rfl, by kernel_rfl, b_lsame, k_lsame⟩
theorem b_lgate : BindsAs t_lgate 0 := fun kV doc pm an cdv ct us ws h1 h2 => match us, ws, h1, h2 with | [], [], _, _ => rfl
theorem k_lgate : ∀ n, (t_lgate.x, n) ∈ kk → BindsAs t_lgate n := by
  intro n hn
  have h := kk_of (l := []) (by decide +kernel) hn
  cases h
theorem o_lgate : EntOk prg tab (glsOf cs) kk t_lgate := ⟨⟨rfl, rfl, rfl, by decide +kernel, rfl, by decide +kernel, by decide +kernel⟩, rfl, rfl, rfl, by kernel_rfl, b_lgate, k_lgate⟩
theorem b_lplank : BindsAs t_lplank 0 := fun kV doc pm an cdv ct us ws h1 h2 => match us, ws, h1, h2 with | [], [], _, _ => rfl
theorem k_lplank : ∀ n, (t_lplank.x, n) ∈ kk → BindsAs t_lplank n := by
  intro n hn
  have h := kk_of (l := []) (by decide +kernel) hn
  cases h
theorem o_lplank : EntOk prg tab (glsOf cs) kk t_lplank := ⟨⟨rfl, rfl, rfl, by decide +kernel, rfl, by decide +kernel, by decide +kernel⟩, rfl, rfl, rfl, by kernel_rfl, b_lplank, k_lplank⟩
theorem b_ltwo_bridges : BindsAs t_ltwo_bridges 0 := fun kV doc pm an cdv ct us ws h1 h2 => match us, ws, h1, h2 with | [], [], _, _ => rfl
theorem k_ltwo_bridges : ∀ n, (t_ltwo_bridges.x, n) ∈ kk → BindsAs t_ltwo_bridges n := by
  intro n hn
  have h := kk_of (l := []) (by decide +kernel) hn
  cases h
theorem o_ltwo_bridges : EntOk prg tab (glsOf cs) kk t_ltwo_bridges := ⟨⟨rfl, rfl, rfl, by decide +kernel, rfl, by decide +kernel, by decide +kernel⟩, rfl, rfl, rfl, by kernel_rfl, b_ltwo_bridges, k_ltwo_bridges⟩
theorem b_lleast : BindsAs t_lleast 1 := fun kV doc pm an cdv ct us ws h1 h2 => match us, ws, h1, h2 with | [_], [], _, _ => rfl
theorem k_lleast : ∀ n, (t_lleast.x, n) ∈ kk → BindsAs t_lleast n := by
  intro n hn
  have h := kk_of (l := []) (by decide +kernel) hn
  cases h
theorem o_lleast : EntOk prg tab (glsOf cs) kk t_lleast := ⟨⟨rfl, rfl, rfl, by decide +kernel, rfl, by decide +kernel, by decide +kernel⟩, rfl, rfl, rfl, by kernel_rfl, b_lleast, k_lleast⟩
theorem b_lany_world : BindsAs t_lany_world 1 := fun kV doc pm an cdv ct us ws h1 h2 => match us, ws, h1, h2 with | [_], [], _, _ => rfl
theorem k_lany_world : ∀ n, (t_lany_world.x, n) ∈ kk → BindsAs t_lany_world n := by
  intro n hn
  have h := kk_of (l := []) (by decide +kernel) hn
  cases h
theorem o_lany_world : EntOk prg tab (glsOf cs) kk t_lany_world := ⟨⟨rfl, rfl, rfl, by decide +kernel, rfl, by decide +kernel, by decide +kernel⟩, rfl, rfl, rfl, by kernel_rfl, b_lany_world, k_lany_world⟩
theorem b_lcosts : BindsAs t_lcosts 2 := fun kV doc pm an cdv ct us ws h1 h2 => match us, ws, h1, h2 with | [_, _], [], _, _ => rfl
theorem k_lcosts : ∀ n, (t_lcosts.x, n) ∈ kk → BindsAs t_lcosts n := by
  intro n hn
  have h := kk_of (l := []) (by decide +kernel) hn
  cases h
theorem o_lcosts : EntOk prg tab (glsOf cs) kk t_lcosts := ⟨⟨rfl, rfl, rfl, by decide +kernel, rfl, by decide +kernel, by decide +kernel⟩, rfl, rfl, rfl, by kernel_rfl, b_lcosts, k_lcosts⟩
theorem b_leffect : BindsAs t_leffect 5 := fun kV doc pm an cdv ct us ws h1 h2 => match us, ws, h1, h2 with | [_, _, _, _, _], [], _, _ => rfl
theorem k_leffect : ∀ n, (t_leffect.x, n) ∈ kk → BindsAs t_leffect n := by
  intro n hn
  have h := kk_of (l := []) (by decide +kernel) hn
  cases h
theorem o_leffect : EntOk prg tab (glsOf cs) kk t_leffect := ⟨⟨rfl, rfl, rfl, by decide +kernel, rfl, by decide +kernel, by decide +kernel⟩, rfl, rfl, rfl, by kernel_rfl, b_leffect, k_leffect⟩
theorem b_law_ : BindsAs t_law_ 1 := fun kV doc pm an cdv ct us ws h1 h2 => match us, ws, h1, h2 with | [_], [], _, _ => rfl
theorem k_law_ : ∀ n, (t_law_.x, n) ∈ kk → BindsAs t_law_ n := by
  intro n hn
  have h := kk_of (l := []) (by decide +kernel) hn
  cases h
theorem o_law_ : EntOk prg tab (glsOf cs) kk t_law_ := ⟨⟨rfl, rfl, rfl, by decide +kernel, rfl, by decide +kernel, by decide +kernel⟩, rfl, rfl, rfl, by kernel_rfl, b_law_, k_law_⟩
theorem tOk : TabOk prg tab (glsOf cs) kk (faOf tab cs) (dsOf tab) := tab_ok (List.forall_mem_cons.mpr ⟨o_fown_steps, (List.forall_mem_cons.mpr ⟨o_fgoal_boards, (List.forall_mem_cons.mpr ⟨o_flot_floors, (List.forall_mem_cons.mpr ⟨o_fown_floors, (List.forall_mem_cons.mpr ⟨o_fchange, (List.forall_mem_cons.mpr ⟨o_feffect, (List.forall_mem_cons.mpr ⟨o_lbox, (List.forall_mem_cons.mpr ⟨o_ltake, (List.forall_mem_cons.mpr ⟨o_lpick, (List.forall_mem_cons.mpr ⟨o_lsame, (List.forall_mem_cons.mpr ⟨o_lgate, (List.forall_mem_cons.mpr ⟨o_lplank, (List.forall_mem_cons.mpr ⟨o_ltwo_bridges, (List.forall_mem_cons.mpr ⟨o_lleast, (List.forall_mem_cons.mpr ⟨o_lany_world, (List.forall_mem_cons.mpr ⟨o_lcosts, (List.forall_mem_cons.mpr ⟨o_leffect, (List.forall_mem_cons.mpr ⟨o_law_, (fun _ h => nomatch h)⟩)⟩)⟩)⟩)⟩)⟩)⟩)⟩)⟩)⟩)⟩)⟩)⟩)⟩)⟩)⟩)⟩)⟩) (List.forall_mem_cons.mpr ⟨rfl, (List.forall_mem_cons.mpr ⟨rfl, (List.forall_mem_cons.mpr ⟨rfl, (List.forall_mem_cons.mpr ⟨rfl, (List.forall_mem_cons.mpr ⟨rfl, (List.forall_mem_cons.mpr ⟨rfl, (fun _ h => nomatch h)⟩)⟩)⟩)⟩)⟩)⟩)
abbrev R : PySem.W.OpenRow := PySem.W.OpenLaw.row PySem.Challenge.rw_atwhosecost_k19_whole_what_deeds_do_to_g
abbrev hk : PySem.W.Hook := He.hookD 4 (faOf tab cs) (dsOf tab)
def ob (s : PySem.W.SharedT) : He.AlD := He.obsDG 4 (faOf tab cs) (dsOf tab) (HandSHeadRun.getT s)
theorem ob_eq (s : PySem.W.SharedT) : ob s = hk.obs s.abs := He.obsDG_eq (HandSHeadRun.getT_eq s)
abbrev loose : List Str := (["own_steps", "goal_boards", "lot_floors", "own_floors", "COSTS", "GIVES", "WASTES", "SHUTS", "OPENS", "NOTHING", "change", "effect", "_law_box", "_law_take", "_law_pick", "_law_same", "_law_gate", "_law_plank", "_law_two_bridges", "_law_least", "_law_any_world", "_law_costs", "_law_effect"] : List Str)
theorem run_eq (w : World) : HandSHeadRun.RunEq R (PySem.W.view R.prog [26]) hk ob 4000 loose w := by
  intro os
  kernel_rfl
end MP.Law
theorem MP.Law.head (hrun : ∀ ns : List Int, ns.length ≤ 63 → ∃ S', MP.run MP.Law.prg 24 17 [.loc 0] [.rol (ns.map .int)] = .ok (.bl true) S') : PySem.Challenge.rw_atwhosecost_k19_whole_what_deeds_do_to_g.Holds := by
  open PySem PySem.W PySem.Calls PyProof.Rows in
  w_on; o_law
  refine HandSHeadRun.head_any (r := OpenLaw.row PySem.Challenge.rw_atwhosecost_k19_whole_what_deeds_do_to_g) (q := view (OpenLaw.row PySem.Challenge.rw_atwhosecost_k19_whole_what_deeds_do_to_g).prog [26]) (H := MP.Law.hk) (ob := MP.Law.ob) (M := 4000) (loose := MP.Law.loose) (d := HandSHeadRun.topDef (OpenLaw.row PySem.Challenge.rw_atwhosecost_k19_whole_what_deeds_do_to_g).prog 26) (kwd := []) MP.Law.ob_eq
    (by kernel_rfl) (fun s => by kernel_rfl) MP.Law.run_eq (by kernel_rfl) (by kernel_rfl) (by kernel_rfl) (by rfl) (by first | assumption | decide +kernel) (by decide +kernel) ⟨rfl, rfl, rfl, rfl, rfl, by decide +kernel⟩ ?hw ?hc
  case hw => w_witness2
  case hc =>
    refine L2.walk_ofE (l := PySem.Challenge.rw_atwhosecost_k19_whole_what_deeds_do_to_g) (n := 63) (k := 24) (x := "script") (CX := L2.CX0) rfl (by decide) (by kernel_rfl) ⟨rfl, by decide, by decide⟩ ?F (fun _ _ _ _ z => z)
    intro w mg fa h Y G hmg0
    obtain ⟨K, KX, c⟩ := Y
    have hmg : mg ("law" : PySem.Str) = some (.ref fa) := by
      have e : (HandSHeadRun.topDef (OpenLaw.row PySem.Challenge.rw_atwhosecost_k19_whole_what_deeds_do_to_g).prog 26).name = ("law" : PySem.Str) := by kernel_rfl
      rw [← e]
      exact hmg0
    obtain ⟨fd, hb, hF⟩ := MP.tab_facts (prog := (PySem.Challenge.rw_atwhosecost_k19_whole_what_deeds_do_to_g).prog) (w := w) (k := 24) (n := 63) MP.Law.tOk (x := "law") (f := 17) (ps := ["script"]) rfl rfl hrun KX G hmg c
    exact ⟨K, fd, MP.spLaw K 63, KX, fun s v => hb s [v] rfl, fun H a ns hl ho hS => ⟨a, ns, rfl, hl, ho, hS, fun _ => rfl⟩, fun base _ _ => hF base⟩

theorem MP.Law.has : MP.HasL MP.Law.prg := ⟨⟨rfl, rfl, rfl, rfl⟩, ⟨rfl, rfl, rfl, rfl, rfl, rfl, rfl⟩, ⟨rfl, rfl, rfl, rfl, rfl, rfl⟩, rfl, rfl, rfl, rfl, rfl, rfl, rfl⟩
theorem PySem.Challenge.cw_atwhosecost_k19_whole_what_deeds_do_to_g_holds : PySem.Challenge.rw_atwhosecost_k19_whole_what_deeds_do_to_g.Holds := by
  refine MP.Law.head fun ns hn => ?_
  obtain ⟨d, S', h1, h2⟩ := MP.okk_ex (MP.w_law MP.Law.has (k := 19) hn)
  exact ⟨S', by rw [h1, h2]⟩

