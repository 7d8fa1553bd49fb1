import PyProof.Rows.All
import Wide.All
import OpenK.AllK
import Wide.FinOn
import HandS.ForMost
import HandS.More
import HandS.Wide
import HandS.Style
import HandS.IsInst
import HandS.TupAny
import HandS.WordsDict
import HandS.Deep
import HandS.Strs
import HandS.NoneIn
import KE.KDictPairs
import HandS.Conv
import HandS.SetFor
import PySem.Challenge.RW_roundedwithin_k33_whole_rows_by_own_hand
set_option Elab.async false
set_option linter.all false
set_option maxRecDepth 100000
set_option Elab.async false
set_option linter.all false
/-! Pv0: values D, words Ex/Tx/St, and what they do (ev, exec, callO). -/
namespace Pv

inductive D where
  | non
  | bl (b : Bool)
  | int (i : Int)
  | str (n : Nat)
  | tup (xs : List D)
  | lst (xs : List D)
  | dic (ks vs : List D)
  | scr (ns : List Int)
  | wd
  deriving Inhabited

mutual
def deq : D → D → Bool
  | .non, .non => true
  | .bl a, .bl b => a == b
  | .bl a, .int j => (if a then 1 else 0) == j
  | .int i, .bl b => i == (if b then 1 else 0)
  | .int i, .int j => decide (i = j)
  | .str x, .str y => decide (x = y)
  | .lst xs, .lst ys => deqs xs ys
  | .tup xs, .tup ys => deqs xs ys
  | _, _ => false
def deqs : List D → List D → Bool
  | [], [] => true
  | x :: xs, y :: ys => deq x y && deqs xs ys
  | _, _ => false
end
mutual
/-- may be compared: no dict, of a depth of at most n -/
def okq : D → Nat → Bool
  | .non, _ => true
  | .bl _, _ => true
  | .int _, _ => true
  | .str k, _ => decide (k < 512)
  | .tup xs, n => match n with | 0 => false | n + 1 => okqs xs n
  | .lst xs, n => match n with | 0 => false | n + 1 => okqs xs n
  | _, _ => false
def okqs : List D → Nat → Bool
  | [], _ => true
  | x :: xs, n => okq x n && okqs xs n
end

inductive Slot where
  | un
  | va (d : D)
  | ow (d : D)
  deriving Inhabited
abbrev Env := List Slot
def eg : Env → Nat → Slot
  | [], _ => .un
  | s :: _, 0 => s
  | _ :: r, n + 1 => eg r n
def es : Env → Nat → Slot → Env
  | [], _, _ => []
  | _ :: r, 0, s => s :: r
  | x :: r, n + 1, s => x :: es r n s
/-- all that is one's own is one's own no longer -/
def frzS : Slot → Slot
  | .ow d => .va d
  | s => s
def frzA (env : Env) : Env := env.map frzS

abbrev WS := Option (List (Nat × D))
def wg : List (Nat × D) → Nat → Option D
  | [], _ => none
  | (k, d) :: r, n => if k = n then some d else wg r n
def wp : List (Nat × D) → Nat → D → List (Nat × D)
  | [], _, _ => []
  | (k, d) :: r, n, e => (k, if k = n then e else d) :: wp r n e

inductive Bop where | add | sub | mul | fdiv | mod | shl | shr | pow
  deriving DecidableEq
inductive Cop where | eq | ne | lt | le | gt | ge | isN | notN | isB | notB | isin | notin
  deriving DecidableEq
inductive Ty where | int | bool | tuple | list | dict | str
  deriving DecidableEq
inductive B1 where | len | abs | int | lstOf | tupOf | dictOf | sorted | sortedSet | all | any | maxL | minL | sumL
  deriving DecidableEq
inductive B2 where | max | min
  deriving DecidableEq
inductive Tg where
  | nm (i : Nat)
  | tp (is : List Nat)
  | tq (ts : List (List Nat))

mutual
inductive Ex where
  | bad
  | non
  | tt (b : Bool)
  | num (i : Int)
  | txt (n : Nat)
  | var (i : Nat)
  | con (k : Nat) (d : D)
  | bin (o : Bop) (a b : Ex)
  | neg (a : Ex)
  | cmp (o : Cop) (a b : Ex)
  | chain (o p : Cop) (a b c : Ex)
  | andv (a b : Ex)
  | orv (a b : Ex)
  | one (a : Ex)
  | notv (a : Ex)
  | ite (c : Tx) (a b : Ex)
  | tup (es : Exs)
  | lst (es : Exs)
  | dic (ks vs : Exs)
  | ix (a b : Ex)
  | sl (a lo hi : Ex)
  | call (f : Nat) (args : Exs)
  | b1 (f : B1) (a : Ex)
  | b2 (f : B2) (a b : Ex)
  | isi (t : Ty) (a : Ex)
  | get2 (d k e : Ex)
  | rng (a : Ex)
  | rng2 (a b : Ex)
  | comp (tg : Tg) (it elt : Ex)
  | compIf (tg : Tg) (it : Ex) (c : Tx) (elt : Ex)
  | comp2 (tg : Tg) (it : Ex) (tg2 : Tg) (it2 : Ex) (elt : Ex)
  | comp2If (tg : Tg) (it : Ex) (tg2 : Tg) (it2 : Ex) (c : Tx) (elt : Ex)
  | tupR (a : Ex)
inductive Exs where
  | nil
  | cons (e : Ex) (es : Exs)
inductive Tx where
  | val (e : Ex)
  | cmp (o : Cop) (a b : Ex)
  | chain (o p : Cop) (a b c : Ex)
  | not (a : Tx)
  | and2 (a b : Tx)
  | or2 (a b : Tx)
  | one (a : Tx)
  | ite (c a b : Tx)
end

mutual
inductive St where
  | bad
  | pass
  | set (tg : Tg) (e : Ex)
  | own (i : Nat) (e : Ex)
  | par (is : List (Nat × Bool)) (es : Exs)
  | aug (i : Nat) (o : Bop) (e : Ex)
  | dput (i : Nat) (k e : Ex)
  | waug (i : Nat) (k : Nat) (o : Bop) (e : Ex)
  | mkw (i k l : Nat) (a b : Ex)
  | app (i : Nat) (e : Ex)
  | ext (i : Nat) (e : Ex)
  | pop (tg : Tg) (i : Nat)
  | drop (e : Ex)
  | ite (c : Tx) (a b : Sts)
  | whl (c : Tx) (b : Sts)
  | for_ (tg : Tg) (it : Ex) (b : Sts)
  | ret (e : Ex)
  | retN
  | brk
  | cont
  | frz (i : Nat)
inductive Sts where
  | nil
  | cons (s : St) (r : Sts)
end

/-! ### operations by values -/
@[irreducible] def big : Nat := 2 ^ 8900

def okI (i : Int) : Bool := decide (i.natAbs < big)
def okLen (n : Nat) : Bool := decide (n ≤ 100000)

def bop : Bop → D → D → Option D
  | .add, .int i, .int j => some (.int (i + j))
  | .add, .tup xs, .tup ys => if okLen (xs.length + ys.length) then some (.tup (xs ++ ys)) else none
  | .add, .lst xs, .lst ys => if okLen (xs.length + ys.length) then some (.lst (xs ++ ys)) else none
  | .sub, .int i, .int j => some (.int (i - j))
  | .mul, .int i, .int j => if okI i && okI j then some (.int (i * j)) else none
  | .fdiv, .int i, .int j => if decide (0 < j) && okI j then some (.int (i / j)) else if decide (j < 0) && okI j then some (.int (i.fdiv j)) else none
  | .mod, .int i, .int j => if decide (0 < j) then some (.int (i % j)) else none
  | .shl, .int i, .int j => if decide (0 ≤ j) && decide (j ≤ 100000) && decide (i.natAbs < 18446744073709551616) then some (.int (i * 2 ^ j.toNat)) else none
  | .shr, .int i, .int j => if decide (0 ≤ j) then some (.int (i / 2 ^ j.toNat)) else none
  | .pow, .int i, .int j => if decide (0 ≤ j) && decide (j ≤ 1000) && decide (i.natAbs < 18446744073709551616) then some (.int (i ^ j.toNat)) else none
  | _, _, _ => none

def isFlat : D → Bool
  | .non => true
  | .bl _ => true
  | .int _ => true
  | .str k => decide (k < 512)
  | _ => false
def isK : D → Bool
  | .int _ => true
  | .str k => decide (k < 512)
  | _ => false
def keq : D → D → Bool
  | .int i, .int j => decide (i = j)
  | .str i, .str j => decide (i = j)
  | _, _ => false
def dget : List D → List D → D → Option D
  | k :: ks, v :: vs, x => if keq k x then some v else dget ks vs x
  | _, _, _ => none
def has (ks : List D) (x : D) : Bool := ks.any fun k => keq k x
def repl : List D → List D → D → D → List D
  | k :: ks, v :: vs, x, y => (if keq k x then y else v) :: repl ks vs x y
  | _, vs, _, _ => vs
def dputV (ks vs : List D) (x y : D) : List D := if has ks x then repl ks vs x y else vs ++ [y]
def dputK (ks : List D) (x : D) : List D := if has ks x then ks else ks ++ [x]

def cop : Cop → D → D → Option Bool
  | .eq, x, y => if okq x 64 && okq y 64 then some (deq x y) else none
  | .ne, x, y => if okq x 64 && okq y 64 then some (!deq x y) else none
  | .lt, .int i, .int j => some (decide (i < j))
  | .le, .int i, .int j => some (decide (i ≤ j))
  | .gt, .int i, .int j => some (decide (j < i))
  | .ge, .int i, .int j => some (decide (j ≤ i))
  | .isB, .bl a, .bl b => some (decide (a = b))
  | .notB, .bl a, .bl b => some (!decide (a = b))
  | .isin, x, .lst ys => if isFlat x && ys.all isFlat then some (ys.any fun y => deq y x) else if okq x 64 && okqs ys 63 then some (ys.any fun y => deq y x) else none
  | .isin, x, .tup ys => if isFlat x && ys.all isFlat then some (ys.any fun y => deq y x) else none
  | .isin, x, .dic ks _ => if isK x then some (has ks x) else none
  | .notin, x, .lst ys => if isFlat x && ys.all isFlat then some (!ys.any fun y => deq y x) else if okq x 64 && okqs ys 63 then some (!ys.any fun y => deq y x) else none
  | .notin, x, .tup ys => if isFlat x && ys.all isFlat then some (!ys.any fun y => deq y x) else none
  | .notin, x, .dic ks _ => if isK x then some (!has ks x) else none
  | _, _, _ => none
def isNone : D → Bool
  | .non => true
  | _ => false

def truth : D → Option Bool
  | .non => some false
  | .bl b => some b
  | .int i => some (i != 0)
  | _ => none

def atD (xs : List D) (i : Int) : Option D := L2.atI xs i
def ixD : D → D → Option D
  | .tup xs, .int i => atD xs i
  | .lst xs, .int i => atD xs i
  | .scr ns, .int i => (L2.atI ns i).map .int
  | .dic ks vs, k => if isK k then dget ks vs k else none
  | _, _ => none
def cutD (xs : List D) (lo hi : Option Int) : List D :=
  (xs.drop (HT.sIx xs.length 0 lo)).take (HT.sIx xs.length xs.length hi - HT.sIx xs.length 0 lo)
def bnd : Bool → D → Option (Option Int)
  | true, _ => some none
  | false, .int i => some (some i)
  | false, _ => none
def slD : D → Option Int → Option Int → Option D
  | .tup xs, lo, hi => some (.tup (cutD xs lo hi))
  | .lst xs, lo, hi => some (.lst (cutD xs lo hi))
  | _, _, _ => none

def intsOf : List D → Option (List Int)
  | [] => some []
  | .int i :: r => match intsOf r with
    | some is => some (i :: is)
    | none => none
  | _ :: _ => none
def blsOf : List D → Option (List Bool)
  | [] => some []
  | .bl i :: r => match blsOf r with
    | some is => some (i :: is)
    | none => none
  | _ :: _ => none
def ins (x : Int) : List Int → List Int
  | [] => [x]
  | y :: ys => if x ≤ y then x :: y :: ys else y :: ins x ys
def isort : List Int → List Int
  | [] => []
  | x :: xs => ins x (isort xs)
def insU (x : Int) : List Int → List Int
  | [] => [x]
  | y :: ys => if x < y then x :: y :: ys else if x = y then y :: ys else y :: insU x ys
def usort : List Int → List Int
  | [] => []
  | x :: xs => insU x (usort xs)
def maxI : Int → List Int → Int
  | m, [] => m
  | m, x :: xs => maxI (if m < x then x else m) xs
def minI : Int → List Int → Int
  | m, [] => m
  | m, x :: xs => minI (if x < m then x else m) xs
/-- dict(rows of (key, value)) -/
def dfold : List D → List D → List D → Option (List D × List D)
  | [], ks, vs => some (ks, vs)
  | .tup [k, v] :: r, ks, vs => if isK k then dfold r (dputK ks k) (dputV ks vs k v) else none
  | _ :: _, _, _ => none

def bf1 : B1 → D → Option D
  | .len, .tup xs => some (.int xs.length)
  | .len, .lst xs => some (.int xs.length)
  | .len, .scr xs => some (.int xs.length)
  | .len, .dic ks _ => some (.int ks.length)
  | .abs, .int i => some (.int (if i < 0 then -i else i))
  | .int, .int i => some (.int i)
  | .int, .bl b => some (.int (if b then 1 else 0))
  | .lstOf, .tup xs => some (.lst xs)
  | .lstOf, .lst xs => some (.lst xs)
  | .lstOf, .dic ks _ => some (.lst ks)
  | .tupOf, .tup xs => some (.tup xs)
  | .tupOf, .lst xs => some (.tup xs)
  | .dictOf, .tup xs => match dfold xs [] [] with
    | some (ks, vs) => some (.dic ks vs)
    | none => none
  | .dictOf, .lst xs => match dfold xs [] [] with
    | some (ks, vs) => some (.dic ks vs)
    | none => none
  | .dictOf, .dic ks vs => some (.dic ks vs)
  | .sorted, .dic ks _ => match intsOf ks with
    | some ns => if decide (ns.length < 64) then some (.lst ((isort ns).map .int)) else none
    | none => none
  | .sorted, .lst xs => match intsOf xs with
    | some ns => if decide (ns.length < 64) then some (.lst ((isort ns).map .int)) else none
    | none => none
  | .sortedSet, .lst xs => match intsOf xs with
    | some ns => if decide (ns.length < 64) then some (.lst ((usort ns).map .int)) else none
    | none => none
  | .all, .lst xs => match blsOf xs with
    | some bs => some (.bl (bs.all id))
    | none => none
  | .any, .lst xs => match blsOf xs with
    | some bs => some (.bl (bs.any id))
    | none => none
  | .maxL, .lst xs => match intsOf xs with
    | some (n :: ns) => some (.int (maxI n ns))
    | _ => none
  | .minL, .lst xs => match intsOf xs with
    | some (n :: ns) => some (.int (minI n ns))
    | _ => none
  | .sumL, .lst xs => match intsOf xs with
    | some ns => some (.int ns.sum)
    | none => none
  | _, _ => none
def bf2 : B2 → D → D → Option D
  | .max, .int i, .int j => some (.int (if j > i then j else i))
  | .min, .int i, .int j => some (.int (if j < i then j else i))
  | _, _, _ => none
def isiD : Ty → D → Option Bool
  | .int, .int _ => some true
  | .int, .bl _ => some true
  | .bool, .bl _ => some true
  | .tuple, .tup _ => some true
  | .list, .lst _ => some true
  | .dict, .dic _ _ => some true
  | .str, .str _ => some true
  | _, .wd => none
  | _, .scr _ => none
  | _, _ => some false
def itemsOf : D → Option (List D)
  | .tup xs => some xs
  | .lst xs => some xs
  | .scr ns => some (ns.map .int)
  | _ => none

def setAll : Env → List Nat → List D → Option Env
  | env, [], [] => some env
  | env, i :: is, d :: ds => setAll (es env i (.va d)) is ds
  | _, _, _ => none
def bind1 (env : Env) : List Nat → D → Option Env
  | [i], d => some (es env i (.va d))
  | is, .tup xs => setAll env is xs
  | _, _ => none
def setAllT : Env → List (List Nat) → List D → Option Env
  | env, [], [] => some env
  | env, t :: ts, d :: ds => match bind1 env t d with
    | none => none
    | some env1 => setAllT env1 ts ds
  | _, _, _ => none
def bindT (env : Env) : Tg → D → Option Env
  | .nm i, d => some (es env i (.va d))
  | .tp is, .tup ds => setAll env is ds
  | .tp is, .lst ds => setAll env is ds
  | .tq ts, .tup ds => setAllT env ts ds
  | _, _ => none
def wipeE (env : Env) : List Nat → Env
  | [] => env
  | i :: is => es (wipeE env is) i .un
def tgs : Tg → List Nat
  | .nm i => [i]
  | .tp is => is
  | .tq ts => ts.flatten

def isN : Ex → Bool
  | .non => true
  | _ => false
def vi : Ex → Option Nat
  | .var i => some i
  | _ => none
def bor (v : Option Nat) (env : Env) (ws : WS) (r : Option (D × WS)) : Option (D × WS) :=
  match v with
  | none => r
  | some i => match eg env i with
    | .va d => some (d, ws)
    | .ow d => some (d, ws)
    | .un => none

def compL (ct : Env → WS → Option (Bool × WS)) (el : Env → WS → Option (D × WS)) (tg : Tg) (env : Env) : List D → WS → Option (List D × WS)
  | [], ws => some ([], ws)
  | d :: ds, ws => match bindT env tg d with
    | none => none
    | some env1 => match ct env1 ws with
      | none => none
      | some (false, ws1) => compL ct el tg env ds ws1
      | some (true, ws1) => match el env1 ws1 with
        | none => none
        | some (y, ws2) => match compL ct el tg env ds ws2 with
          | none => none
          | some (r, ws3) => some (y :: r, ws3)
/-- two clauses -/
def compL2 (src : Env → WS → Option (D × WS)) (ct : Env → WS → Option (Bool × WS)) (el : Env → WS → Option (D × WS)) (tg tg2 : Tg) (env : Env) : List D → WS → Option (List D × WS)
  | [], ws => some ([], ws)
  | d :: ds, ws => match bindT env tg d with
    | none => none
    | some env1 => match src env1 ws with
      | none => none
      | some (x, ws1) => match itemsOf x with
        | none => none
        | some es => match compL ct el tg2 (wipeE env1 (tgs tg2)) es ws1 with
          | none => none
          | some (r, ws2) => match compL2 src ct el tg tg2 env ds ws2 with
            | none => none
            | some (r', ws3) => some (r ++ r', ws3)
abbrev Fns := Nat → List D → WS → Option (D × WS)

/-- w["at"] -/
def ixW (ws : WS) : D → D → Option D
  | .wd, .str k => match ws with
    | some kvs => wg kvs k
    | none => none
  | a, b => ixD a b

mutual
def ev (Φ : Fns) : Ex → Env → WS → Option (D × WS)
  | .bad, _, _ => none
  | .non, _, ws => some (.non, ws)
  | .tt b, _, ws => some (.bl b, ws)
  | .num i, _, ws => some (.int i, ws)
  | .txt n, _, ws => some (.str n, ws)
  | .var i, env, ws => match eg env i with
    | .va d => some (d, ws)
    | _ => none
  | .con _ d, _, ws => some (d, ws)
  | .bin o a b, env, ws => match bor (vi a) env ws (ev Φ a env ws) with
    | none => none
    | some (x, ws1) => match bor (vi b) env ws1 (ev Φ b env ws1) with
      | none => none
      | some (y, ws2) => match bop o x y with
        | none => none
        | some z => some (z, ws2)
  | .neg a, env, ws => match ev Φ a env ws with
    | some (.int i, ws1) => some (.int (-i), ws1)
    | _ => none
  | .cmp o a b, env, ws => match bor (vi a) env ws (ev Φ a env ws) with
    | none => none
    | some (x, ws1) => match o with
      | .isN => some (.bl (isNone x), ws1)
      | .notN => some (.bl (!isNone x), ws1)
      | _ => match bor (vi b) env ws1 (ev Φ b env ws1) with
        | none => none
        | some (y, ws2) => match cop o x y with
          | none => none
          | some z => some (.bl z, ws2)
  | .chain o p a b c, env, ws => match bor (vi a) env ws (ev Φ a env ws) with
    | none => none
    | some (x, ws1) => match bor (vi b) env ws1 (ev Φ b env ws1) with
      | none => none
      | some (y, ws2) => match cop o x y with
        | none => none
        | some false => some (.bl false, ws2)
        | some true => match bor (vi c) env ws2 (ev Φ c env ws2) with
          | none => none
          | some (z, ws3) => match cop p y z with
            | none => none
            | some t => some (.bl t, ws3)
  | .andv a b, env, ws => match ev Φ a env ws with
    | some (.bl true, ws1) => ev Φ b env ws1
    | some (.bl false, ws1) => some (.bl false, ws1)
    | _ => none
  | .orv a b, env, ws => match ev Φ a env ws with
    | some (.bl true, ws1) => some (.bl true, ws1)
    | some (.bl false, ws1) => ev Φ b env ws1
    | _ => none
  | .one a, env, ws => ev Φ a env ws
  | .notv a, env, ws => match ev Φ a env ws with
    | some (.bl b, ws1) => some (.bl (!b), ws1)
    | _ => none
  | .ite c a b, env, ws => match evT Φ c env ws with
    | none => none
    | some (t, ws1) => if t then ev Φ a env ws1 else ev Φ b env ws1
  | .tup es, env, ws => match evs Φ es env ws with
    | none => none
    | some (ds, ws1) => some (.tup ds, ws1)
  | .lst es, env, ws => match evs Φ es env ws with
    | none => none
    | some (ds, ws1) => some (.lst ds, ws1)
  | .dic ks vs, env, ws => match ks, vs with
    | .nil, .nil => some (.dic [] [], ws)
    | .cons k .nil, .cons v .nil => match ev Φ k env ws with
      | none => none
      | some (kd, ws1) => match ev Φ v env ws1 with
        | none => none
        | some (vd, ws2) => if isK kd then some (.dic [kd] [vd], ws2) else none
    | _, _ => none
  | .ix a b, env, ws => match bor (vi a) env ws (ev Φ a env ws) with
    | none => none
    | some (x, ws1) => match ev Φ b env ws1 with
      | none => none
      | some (y, ws2) => match ixW ws2 x y with
        | none => none
        | some z => some (z, ws2)
  | .sl a lo hi, env, ws => match bor (vi a) env ws (ev Φ a env ws) with
    | none => none
    | some (x, ws1) => match ev Φ lo env ws1 with
      | none => none
      | some (l, ws2) => match ev Φ hi env ws2 with
        | none => none
        | some (h, ws3) => match bnd (isN lo) l with
          | none => none
          | some lo' => match bnd (isN hi) h with
            | none => none
            | some hi' => match slD x lo' hi' with
              | none => none
              | some z => some (z, ws3)
  | .call f args, env, ws => match evs Φ args env ws with
    | none => none
    | some (ds, ws1) => Φ f ds ws1
  | .b1 f a, env, ws => match bor (vi a) env ws (ev Φ a env ws) with
    | none => none
    | some (x, ws1) => match bf1 f x with
      | none => none
      | some z => some (z, ws1)
  | .b2 f a b, env, ws => match ev Φ a env ws with
    | none => none
    | some (x, ws1) => match ev Φ b env ws1 with
      | none => none
      | some (y, ws2) => match bf2 f x y with
        | none => none
        | some z => some (z, ws2)
  | .isi t a, env, ws => match bor (vi a) env ws (ev Φ a env ws) with
    | none => none
    | some (x, ws1) => match isiD t x with
      | none => none
      | some z => some (.bl z, ws1)
  | .get2 d k e, env, ws => match bor (vi d) env ws (ev Φ d env ws) with
    | some (.dic ks vs, ws1) => match ev Φ k env ws1 with
      | none => none
      | some (kd, ws2) => match ev Φ e env ws2 with
        | none => none
        | some (ed, ws3) => if isK kd then some ((dget ks vs kd).getD ed, ws3) else none
    | _ => none
  | .rng a, env, ws => match ev Φ a env ws with
    | some (.int j, ws1) => if decide (-100000 ≤ j) && decide (j ≤ 100000) then some (.lst ((List.range j.toNat).map fun k : Nat => .int (0 + (k : Int))), ws1) else none
    | _ => none
  | .rng2 a b, env, ws => match ev Φ a env ws with
    | some (.int i, ws1) => match ev Φ b env ws1 with
      | some (.int j, ws2) => if decide (-100000 ≤ i) && decide (i ≤ 100000) && decide (-100000 ≤ j) && decide (j ≤ 100000) then
          some (.lst ((List.range (j - i).toNat).map fun k : Nat => .int (i + (k : Int))), ws2) else none
      | _ => none
    | _ => none
  | .comp tg it elt, env, ws => match bor (vi it) env ws (ev Φ it env ws) with
    | none => none
    | some (x, ws1) => match itemsOf x with
      | none => none
      | some ds => if okLen ds.length then match compL (fun _ ws => some (true, ws)) (fun env ws => ev Φ elt env ws) tg (wipeE env (tgs tg)) ds ws1 with
        | none => none
        | some (r, ws2) => some (.lst r, ws2) else none
  | .compIf tg it c elt, env, ws => match bor (vi it) env ws (ev Φ it env ws) with
    | none => none
    | some (x, ws1) => match itemsOf x with
      | none => none
      | some ds => if okLen ds.length then match compL (fun env ws => evT Φ c env ws) (fun env ws => ev Φ elt env ws) tg (wipeE env (tgs tg)) ds ws1 with
        | none => none
        | some (r, ws2) => some (.lst r, ws2) else none
  | .comp2 tg it tg2 it2 elt, env, ws => match bor (vi it) env ws (ev Φ it env ws) with
    | none => none
    | some (x, ws1) => match itemsOf x with
      | none => none
      | some ds => match compL2 (fun env ws => ev Φ it2 env ws) (fun _ ws => some (true, ws)) (fun env ws => ev Φ elt env ws) tg tg2 (wipeE env (tgs tg ++ tgs tg2)) ds ws1 with
        | none => none
        | some (r, ws2) => if okLen r.length then some (.lst r, ws2) else none
  | .comp2If tg it tg2 it2 c elt, env, ws => match bor (vi it) env ws (ev Φ it env ws) with
    | none => none
    | some (x, ws1) => match itemsOf x with
      | none => none
      | some ds => match compL2 (fun env ws => ev Φ it2 env ws) (fun env ws => evT Φ c env ws) (fun env ws => ev Φ elt env ws) tg tg2 (wipeE env (tgs tg ++ tgs tg2)) ds ws1 with
        | none => none
        | some (r, ws2) => if okLen r.length then some (.lst r, ws2) else none
  | .tupR a, env, ws => match ev Φ a env ws with
    | some (.int j, ws1) => if decide (0 ≤ j) && decide (j ≤ 100000) then some (.tup ((List.range j.toNat).map fun k : Nat => .int (k : Int)), ws1) else none
    | _ => none
def evs (Φ : Fns) : Exs → Env → WS → Option (List D × WS)
  | .nil, _, ws => some ([], ws)
  | .cons e r, env, ws => match ev Φ e env ws with
    | none => none
    | some (d, ws1) => match evs Φ r env ws1 with
      | none => none
      | some (ds, ws2) => some (d :: ds, ws2)
def evT (Φ : Fns) : Tx → Env → WS → Option (Bool × WS)
  | .val e, env, ws => match ev Φ e env ws with
    | none => none
    | some (d, ws1) => match truth d with
      | none => none
      | some b => some (b, ws1)
  | .cmp o a b, env, ws => match bor (vi a) env ws (ev Φ a env ws) with
    | none => none
    | some (x, ws1) => match o with
      | .isN => some (isNone x, ws1)
      | .notN => some (!isNone x, ws1)
      | _ => match bor (vi b) env ws1 (ev Φ b env ws1) with
        | none => none
        | some (y, ws2) => match cop o x y with
          | none => none
          | some z => some (z, ws2)
  | .chain o p a b c, env, ws => match bor (vi a) env ws (ev Φ a env ws) with
    | none => none
    | some (x, ws1) => match bor (vi b) env ws1 (ev Φ b env ws1) with
      | none => none
      | some (y, ws2) => match cop o x y with
        | none => none
        | some false => some (false, ws2)
        | some true => match bor (vi c) env ws2 (ev Φ c env ws2) with
          | none => none
          | some (z, ws3) => match cop p y z with
            | none => none
            | some t => some (t, ws3)
  | .not a, env, ws => match evT Φ a env ws with
    | none => none
    | some (b, ws1) => some (!b, ws1)
  | .and2 a b, env, ws => match evT Φ a env ws with
    | none => none
    | some (t, ws1) => if t then evT Φ b env ws1 else some (false, ws1)
  | .or2 a b, env, ws => match evT Φ a env ws with
    | none => none
    | some (t, ws1) => if t then some (true, ws1) else evT Φ b env ws1
  | .one a, env, ws => evT Φ a env ws
  | .ite c a b, env, ws => match evT Φ c env ws with
    | none => none
    | some (t, ws1) => if t then evT Φ a env ws1 else evT Φ b env ws1
end

def aop : Bop → Int → Int → Option Int
  | .add, a, b => some (a + b)
  | .sub, a, b => some (a - b)
  | .mul, a, b => if decide (b.natAbs < 18446744073709551616) then some (a * b) else none
  | _, _, _ => none
inductive Fl where
  | nx | br | ct | rt (d : D)
abbrev Out := Option (Fl × Env × WS)
def forL (body : Env → WS → Out) (tg : Tg) : List D → Env → WS → Out
  | [], env, ws => some (.nx, env, ws)
  | d :: ds, env, ws => match bindT env tg d with
    | none => none
    | some env1 => match body env1 ws with
      | none => none
      | some (.nx, env2, ws2) => forL body tg ds env2 ws2
      | some (.ct, env2, ws2) => forL body tg ds env2 ws2
      | some (.br, env2, ws2) => some (.nx, env2, ws2)
      | some (.rt v, env2, ws2) => some (.rt v, env2, ws2)
def whlN (c : Env → WS → Option (Bool × WS)) (body : Env → WS → Out) : Nat → Env → WS → Out
  | 0, _, _ => none
  | n + 1, env, ws => match c env ws with
    | none => none
    | some (false, ws1) => some (.nx, env, ws1)
    | some (true, ws1) => match body env ws1 with
      | none => none
      | some (.nx, env2, ws2) => whlN c body n env2 ws2
      | some (.ct, env2, ws2) => whlN c body n env2 ws2
      | some (.br, env2, ws2) => some (.nx, env2, ws2)
      | some (.rt v, env2, ws2) => some (.rt v, env2, ws2)
def fuel : Nat := 1000000

def setPar : Env → List (Nat × Bool) → List D → Option Env
  | env, [], [] => some env
  | env, (i, o) :: is, d :: ds => setPar (es env i (if o then .ow d else .va d)) is ds
  | _, _, _ => none
mutual
def exec (Φ : Fns) : St → Env → WS → Out
  | .bad, _, _ => none
  | .pass, env, ws => some (.nx, env, ws)
  | .set tg e, env, ws => match ev Φ e env ws with
    | none => none
    | some (d, ws1) => match bindT env tg d with
      | none => none
      | some env1 => some (.nx, env1, ws1)
  | .own i e, env, ws => match ev Φ e env ws with
    | none => none
    | some (d, ws1) => some (.nx, es env i (.ow d), ws1)
  | .par is xs, env, ws => match evs Φ xs env ws with
    | none => none
    | some (ds, ws1) => match setPar env is ds with
      | none => none
      | some env1 => some (.nx, env1, ws1)
  | .aug i o e, env, ws => match eg env i with
    | .va x => match ev Φ e env ws with
      | none => none
      | some (y, ws1) => match x, y with
        | .int a, .int b => match aop o a b with
          | none => none
          | some z => some (.nx, es env i (.va (.int z)), ws1)
        | _, _ => none
    | _ => none
  | .dput i k e, env, ws => match ev Φ e env ws with
    | none => none
    | some (y, ws1) => match ev Φ k env ws1 with
      | none => none
      | some (kd, ws2) => match eg env i with
        | .ow (.dic ks vs) => if isK kd && okLen ks.length then some (.nx, es env i (.ow (.dic (dputK ks kd) (dputV ks vs kd y))), ws2) else none
        | _ => none
  | .waug i k o e, env, ws => match eg env i with
    | .va .wd => match ws with
      | none => none
      | some kvs => match wg kvs k with
        | none => none
        | some x => match ev Φ e env ws with
          | none => none
          | some (y, ws1) => match x, y, ws1 with
            | .int a, .int b, some kvs1 => if okLen kvs1.length && (wg kvs1 k).isSome then match o with
              | .add => some (.nx, env, some (wp kvs1 k (.int (a + b))))
              | .sub => some (.nx, env, some (wp kvs1 k (.int (a - b))))
              | _ => none
              else none
            | _, _, _ => none
    | _ => none
  | .mkw i k l a b, env, ws => match ws with
    | some _ => none
    | none => match ev Φ a env none with
      | some (x, none) => match ev Φ b env none with
        | some (y, none) => if decide (k < 512) && decide (l < 512) && !decide (k = l) then some (.nx, es env i (.va .wd), some [(k, x), (l, y)]) else none
        | _ => none
      | _ => none
  | .app i e, env, ws => match ev Φ e env ws with
    | none => none
    | some (y, ws1) => match eg env i with
      | .ow (.lst xs) => if okLen xs.length then some (.nx, es env i (.ow (.lst (xs ++ [y]))), ws1) else none
      | _ => none
  | .ext i e, env, ws => match ev Φ e env ws with
    | some (.lst ys, ws1) => match eg env i with
      | .ow (.lst xs) => if okLen (xs.length + ys.length) then some (.nx, es env i (.ow (.lst (xs ++ ys))), ws1) else none
      | _ => none
    | _ => none
  | .pop tg i, env, ws => match eg env i with
    | .ow (.lst xs) => match xs.getLast? with
      | none => none
      | some y => match bindT (es env i (.ow (.lst xs.dropLast))) tg y with
        | none => none
        | some env1 => some (.nx, env1, ws)
    | _ => none
  | .drop e, env, ws => match ev Φ e env ws with
    | none => none
    | some (_, ws1) => some (.nx, env, ws1)
  | .ite c a b, env, ws => match evT Φ c env ws with
    | none => none
    | some (t, ws1) => if t then execs Φ a env ws1 else execs Φ b env ws1
  | .whl c b, env, ws => whlN (fun env ws => evT Φ c env ws) (fun env ws => execs Φ b env ws) fuel env ws
  | .for_ tg it b, env, ws => match ev Φ it env ws with
    | none => none
    | some (x, ws1) => match itemsOf x with
      | none => none
      | some ds => forL (fun env ws => execs Φ b env ws) tg ds env ws1
  | .ret e, env, ws => match ev Φ e (frzA env) ws with
    | none => none
    | some (d, ws1) => some (.rt d, env, ws1)
  | .retN, env, ws => some (.rt .non, env, ws)
  | .brk, env, ws => some (.br, env, ws)
  | .cont, env, ws => some (.ct, env, ws)
  | .frz i, env, ws => some (.nx, es env i (frzS (eg env i)), ws)
def execs (Φ : Fns) : Sts → Env → WS → Out
  | .nil, env, ws => some (.nx, env, ws)
  | .cons s r, env, ws => match exec Φ s env ws with
    | none => none
    | some (.nx, env1, ws1) => execs Φ r env1 ws1
    | some (fl, env1, ws1) => some (fl, env1, ws1)
end

structure Def where
  np : Nat
  ns : Nat
  body : Sts
def mkEnv (ds : List D) (n : Nat) : Env := ds.map .va ++ List.replicate (n - ds.length) .un
def fin : Out → Option (D × WS)
  | some (.rt d, _, ws) => some (d, ws)
  | some (.nx, _, ws) => some (.non, ws)
  | _ => none
/-- a def that is called makes no record -/
def chk : WS → Option (D × WS) → Option (D × WS)
  | none, some (_, some _) => none
  | _, r => r
def callO (P : Nat → Option Def) : Nat → Fns
  | 0, _, _, _ => none
  | n + 1, f, ds, ws => match P f with
    | none => none
    | some d => if ds.length = d.np then chk ws (fin (execs (callO P n) d.body (mkEnv ds d.ns) ws)) else none
/-- the law itself -/
def lawO (P : Nat → Option Def) (n : Nat) (d : Def) (ns : List Int) : Option D :=
  match fin (execs (callO P n) d.body (mkEnv [.scr ns] d.ns) none) with
  | some (r, _) => some r
  | none => none
end Pv

set_option Elab.async false
set_option linter.all false
set_option maxRecDepth 100000
set_option maxHeartbeats 4000000
/-! Pv1: how values D stand in the abstract heap, the state of a frame, the readings tE, tB, tF, tT, tA. -/
namespace Pv
open PySem PySem.Spec PyProof.Rows L2

/-! ### values in the heap -/
def keyOf (T : Nat → Str) : D → Option Key
  | .int i => some (.inl i)
  | .str n => if n < 512 then some (.inr (T n)) else none
  | _ => none
/-- a tuple without a dict of its own -/
def PlT (K : PySem.W.Frag) (H : Hp) (a : Addr) (vs : List V) : Prop :=
  (∃ o, H a = some (.frz o (.tup vs)) ∧ o.dict = none) ∨ ∃ (o : Obj) (its : Array Value) (n : Nat), K.lookup a = some o ∧ o.cls = .type "tuple" ∧ o.data = .seq its n ∧ its.size ≤ sizeLine ∧ Vals vs its.toList ∧ o.dict = none
theorem PlT.sq {K : PySem.W.Frag} {H : Hp} {a : Addr} {vs : List V} (h : PlT K H a vs) : SqT K H a vs := by
  rcases h with ⟨o, h, _⟩ | ⟨o, its, n, h1, h2, h3, h4, h5, _⟩
  · exact .inl (.inr ⟨o, h⟩)
  · exact .inr ⟨o, its, n, h1, h2, h3, h4, h5⟩
theorem PlT.mono {K : PySem.W.Frag} {H H' : Hp} {a : Addr} {vs : List V} (e : Same H H') (h : PlT K H a vs) : PlT K H' a vs := by
  rcases h with ⟨o, h, d⟩ | h
  · exact .inl ⟨o, e _ _ h, d⟩
  · exact .inr h
mutual
inductive Rep (T : Nat → Str) (K : PySem.W.Frag) (wa : Option Addr) (H : Hp) : D → V → Prop
  | non : Rep T K wa H .non .non
  | bl (b : Bool) : Rep T K wa H (.bl b) (.bl b)
  | int (i : Int) : Rep T K wa H (.int i) (.int i)
  | str (n : Nat) : Rep T K wa H (.str n) (.str (T n))
  | tup {a : Addr} {vs : List V} {ds : List D} : PlT K H a vs → Reps T K wa H ds vs → Rep T K wa H (.tup ds) (.ref a)
  | lst {a : Addr} {vs : List V} {ds : List D} : H a = some (.lst vs) → Reps T K wa H ds vs → Rep T K wa H (.lst ds) (.ref a)
  | dic {a : Addr} {kvs : List (Key × V)} {ks ds : List D} : H a = some (.dK kvs) → ks.map (keyOf T) = kvs.map (fun p => some p.1) → Reps T K wa H ds (kvs.map (·.2)) → Rep T K wa H (.dic ks ds) (.ref a)
  | scr {a : Addr} {ns : List Int} : SqL K H a (ns.map V.int) → Rep T K wa H (.scr ns) (.ref a)
  | wd {a : Addr} : wa = some a → Rep T K wa H .wd (.ref a)
inductive Reps (T : Nat → Str) (K : PySem.W.Frag) (wa : Option Addr) (H : Hp) : List D → List V → Prop
  | nil : Reps T K wa H [] []
  | cons {d : D} {v : V} {ds : List D} {vs : List V} : Rep T K wa H d v → Reps T K wa H ds vs → Reps T K wa H (d :: ds) (v :: vs)
end
section
variable {T : Nat → Str} {K : PySem.W.Frag} {wa : Option Addr} {H H' : Hp}
theorem sqT_mono {a : Addr} {xs : List V} (e : Same H H') (h : SqT K H a xs) : SqT K H' a xs := by
  rcases h with (h | ⟨o, h⟩) | h
  · exact .inl (.inl (e _ _ h))
  · exact .inl (.inr ⟨o, e _ _ h⟩)
  · exact .inr h
mutual
theorem Rep.mono (e : Same H H') : ∀ {d : D} {v : V}, Rep T K wa H d v → Rep T K wa H' d v
  | _, _, .non => .non
  | _, _, .bl b => .bl b
  | _, _, .int i => .int i
  | _, _, .str n => .str n
  | _, _, .tup h r => .tup (h.mono e) (Reps.mono e r)
  | _, _, .lst h r => .lst (e _ _ h) (Reps.mono e r)
  | _, _, .dic h k r => .dic (e _ _ h) k (Reps.mono e r)
  | _, _, .scr h => .scr (e.seq h)
  | _, _, .wd h => .wd h
theorem Reps.mono (e : Same H H') : ∀ {d : List D} {v : List V}, Reps T K wa H d v → Reps T K wa H' d v
  | _, _, .nil => .nil
  | _, _, .cons r t => .cons (Rep.mono e r) (Reps.mono e t)
end
theorem Reps.len : ∀ {d : List D} {v : List V}, Reps T K wa H d v → d.length = v.length
  | _, _, .nil => rfl
  | _, _, .cons _ t => congrArg (· + 1) (Reps.len t)
theorem Reps.get : ∀ {ds : List D} {vs : List V} {i : Nat} {d : D}, Reps T K wa H ds vs → ds[i]? = some d → ∃ v, vs[i]? = some v ∧ Rep T K wa H d v
  | _, _, _, _, .nil, e => by simp at e
  | _, _, 0, _, .cons r _, e => by simp at e; subst e; exact ⟨_, rfl, r⟩
  | _, _, i + 1, d, .cons _ t, e => by
    obtain ⟨v, h1, h2⟩ := Reps.get (i := i) (d := d) t (by simpa using e)
    exact ⟨v, by simpa using h1, h2⟩
theorem Reps.app : ∀ {ds es : List D} {vs us : List V}, Reps T K wa H ds vs → Reps T K wa H es us → Reps T K wa H (ds ++ es) (vs ++ us)
  | _, _, _, _, .nil, s => s
  | _, _, _, _, .cons r t, s => .cons r (Reps.app t s)
theorem Reps.take : ∀ {ds : List D} {vs : List V} (n : Nat), Reps T K wa H ds vs → Reps T K wa H (ds.take n) (vs.take n)
  | _, _, 0, _ => by simp; exact .nil
  | _, _, _ + 1, .nil => .nil
  | _, _, n + 1, .cons r t => .cons r (Reps.take n t)
theorem Reps.drop : ∀ {ds : List D} {vs : List V} (n : Nat), Reps T K wa H ds vs → Reps T K wa H (ds.drop n) (vs.drop n)
  | _, _, 0, r => by simpa using r
  | _, _, _ + 1, .nil => .nil
  | _, _, n + 1, .cons _ t => Reps.drop n t
theorem Reps.dropLast {ds : List D} {vs : List V} (r : Reps T K wa H ds vs) : Reps T K wa H ds.dropLast vs.dropLast := by
  rw [List.dropLast_eq_take, List.dropLast_eq_take, ← r.len]
  exact r.take _
theorem Reps.cut {ds : List D} {vs : List V} (r : Reps T K wa H ds vs) (lo hi : Option Int) : Reps T K wa H (cutD ds lo hi) (cutV vs lo hi) := by
  unfold cutD cutV
  rw [r.len]
  exact (r.drop _).take _
theorem Reps.ints : ∀ {ds : List D} {vs : List V} {ns : List Int}, Reps T K wa H ds vs → intsOf ds = some ns → vs = ns.map V.int
  | _, _, ns, .nil, e => by simp [intsOf] at e; subst e; rfl
  | .int i :: ds, _, ns, .cons r t, e => by
    cases r
    simp only [intsOf] at e
    split at e
    · rename_i is h
      cases e
      rw [Reps.ints t h]
      rfl
    · cases e
  | .non :: _, _, _, _, e => by simp [intsOf] at e
  | .bl _ :: _, _, _, _, e => by simp [intsOf] at e
  | .str _ :: _, _, _, _, e => by simp [intsOf] at e
  | .tup _ :: _, _, _, _, e => by simp [intsOf] at e
  | .lst _ :: _, _, _, _, e => by simp [intsOf] at e
  | .dic _ _ :: _, _, _, _, e => by simp [intsOf] at e
  | .scr _ :: _, _, _, _, e => by simp [intsOf] at e
  | .wd :: _, _, _, _, e => by simp [intsOf] at e
theorem Reps.bls : ∀ {ds : List D} {vs : List V} {ns : List Bool}, Reps T K wa H ds vs → blsOf ds = some ns → vs = ns.map V.bl
  | _, _, ns, .nil, e => by simp [blsOf] at e; subst e; rfl
  | .bl i :: ds, _, ns, .cons r t, e => by
    cases r
    simp only [blsOf] at e
    split at e
    · rename_i is h
      cases e
      rw [Reps.bls t h]
      rfl
    · cases e
  | .non :: _, _, _, _, e => by simp [blsOf] at e
  | .int _ :: _, _, _, _, e => by simp [blsOf] at e
  | .str _ :: _, _, _, _, e => by simp [blsOf] at e
  | .tup _ :: _, _, _, _, e => by simp [blsOf] at e
  | .lst _ :: _, _, _, _, e => by simp [blsOf] at e
  | .dic _ _ :: _, _, _, _, e => by simp [blsOf] at e
  | .scr _ :: _, _, _, _, e => by simp [blsOf] at e
  | .wd :: _, _, _, _, e => by simp [blsOf] at e
theorem reps_ints : ∀ (ns : List Int), Reps T K wa H (ns.map D.int) (ns.map V.int)
  | [] => .nil
  | n :: r => .cons (.int n) (reps_ints r)
end

/-! ### what is hidden -/
open Classical in
noncomputable def hid (S : Addr → Prop) (H : Hp) : Hp := fun a => if S a then none else H a
theorem hid_in {S : Addr → Prop} {H : Hp} {a : Addr} {o : HO} (h : hid S H a = some o) : H a = some o ∧ ¬ S a := by
  unfold hid at h
  by_cases s : S a
  · rw [if_pos s] at h; cases h
  · rw [if_neg s] at h; exact ⟨h, s⟩
theorem hid_of {S : Addr → Prop} {H : Hp} {a : Addr} {o : HO} (h : H a = some o) (s : ¬ S a) : hid S H a = some o := by
  unfold hid; rw [if_neg s]; exact h
theorem hid_le {S : Addr → Prop} {H : Hp} : Same (hid S H) H := fun _ _ h => (hid_in h).1
theorem hid_mono {S S' : Addr → Prop} {H H' : Hp} (e : ∀ a o, ¬ S a → H a = some o → H' a = some o) (s : ∀ a, S' a → S a) : Same (hid S H) (hid S' H') := fun a o h =>
  let ⟨h1, h2⟩ := hid_in h
  hid_of (e a o h2 h1) fun q => h2 (s a q)
def SS (O : Addr → Prop) (ω : Nat → Option Addr) (wa : Option Addr) (a : Addr) : Prop := O a ∨ (∃ i, ω i = some a) ∨ wa = some a

/-! ### an own object -/
def OwnAt (T : Nat → Str) (K : PySem.W.Frag) (wa : Option Addr) (hH H : Hp) (d : D) (a : Addr) : Prop :=
  match d with
  | .lst ds => ∃ vs, H a = some (.lst vs) ∧ Reps T K wa hH ds vs
  | .dic ks ds => ∃ kvs, H a = some (.dK kvs) ∧ ks.map (keyOf T) = kvs.map (fun p => some p.1) ∧ Reps T K wa hH ds (kvs.map (·.2))
  | _ => False
theorem OwnAt.mono {T : Nat → Str} {K : PySem.W.Frag} {wa : Option Addr} {hH hH' H H' : Hp} {d : D} {a : Addr} (h : OwnAt T K wa hH H d a) (e : Same hH hH') (e2 : ∀ o, H a = some o → H' a = some o) : OwnAt T K wa hH' H' d a := by
  cases d with
  | lst ds =>
    obtain ⟨vs, h1, h2⟩ := h
    exact ⟨vs, e2 _ h1, h2.mono e⟩
  | dic ks ds =>
    obtain ⟨vs, h1, h2, h3⟩ := h
    exact ⟨vs, e2 _ h1, h2, h3.mono e⟩
  | _ => exact h.elim
theorem OwnAt.dom {T : Nat → Str} {K : PySem.W.Frag} {wa : Option Addr} {hH H : Hp} {d : D} {a : Addr} (h : OwnAt T K wa hH H d a) : H a ≠ none := by
  cases d with
  | lst ds =>
    obtain ⟨vs, h1, h2⟩ := h
    rw [h1]; simp
  | dic ks ds =>
    obtain ⟨vs, h1, h2, h3⟩ := h
    rw [h1]; simp
  | _ => exact h.elim
theorem OwnAt.rep {T : Nat → Str} {K : PySem.W.Frag} {wa : Option Addr} {hH hH' H : Hp} {d : D} {a : Addr} (h : OwnAt T K wa hH H d a) (e : Same hH hH') (e2 : ∀ o, H a = some o → hH' a = some o) : Rep T K wa hH' d (.ref a) := by
  cases d with
  | lst ds =>
    obtain ⟨vs, h1, h2⟩ := h
    exact .lst (e2 _ h1) (h2.mono e)
  | dic ks ds =>
    obtain ⟨vs, h1, h2, h3⟩ := h
    exact .dic (e2 _ h1) h2 (h3.mono e)
  | _ => exact h.elim

/-! ### the record -/
def WsR (T : Nat → Str) (K : PySem.W.Frag) (hH H : Hp) : Option Addr → WS → Prop
  | none, none => True
  | some a, some kvs => ∃ kv', H a = some (.dK kv') ∧ kvs.map (fun p => (Sum.inr (T p.1) : Key)) = kv'.map (·.1) ∧ (∀ p ∈ kvs, p.1 < 512) ∧ Reps T K (some a) hH (kvs.map (·.2)) (kv'.map (·.2))
  | _, _ => False
theorem WsR.mono {T : Nat → Str} {K : PySem.W.Frag} {hH hH' H H' : Hp} {wa : Option Addr} {ws : WS} (h : WsR T K hH H wa ws) (e : Same hH hH') (e2 : ∀ a o, wa = some a → H a = some o → H' a = some o) : WsR T K hH' H' wa ws := by
  cases wa with
  | none =>
    cases ws with
    | none => trivial
    | some _ => exact h.elim
  | some a =>
    cases ws with
    | none => exact h.elim
    | some kvs =>
      obtain ⟨kv', h1, h2, h3, h4⟩ := h
      exact ⟨kv', e2 _ _ rfl h1, h2, h3, h4.mono e⟩

/-! ### a frame's state -/
def SlotR (T : Nat → Str) (K : PySem.W.Frag) (wa : Option Addr) (hH H : Hp) (ω : Nat → Option Addr) (σ : L2.St) (i : Nat) : Slot → Prop
  | .un => True
  | .va d => ∃ v, σ[i]? = some (some v) ∧ Rep T K wa hH d v
  | .ow d => ∃ a, ω i = some a ∧ σ[i]? = some (some (.ref a)) ∧ OwnAt T K wa hH H d a
structure StR (T : Nat → Str) (K : PySem.W.Frag) (O : Addr → Prop) (wa : Option Addr) (env : Env) (ω : Nat → Option Addr) (ws : WS) (σ : L2.St) (H : Hp) : Prop where
  len : σ.length = env.length
  slot : ∀ i, SlotR T K wa (hid (SS O ω wa) H) H ω σ i (eg env i)
  own : ∀ i a, ω i = some a → (∃ d, eg env i = .ow d) ∧ ¬ O a ∧ wa ≠ some a
  inj : ∀ i j a, ω i = some a → ω j = some a → i = j
  dom : ∀ a, O a → H a ≠ none
  wsr : WsR T K (hid (SS O ω wa) H) H wa ws
section
variable {T : Nat → Str} {K : PySem.W.Frag} {O O' : Addr → Prop} {wa : Option Addr} {env : Env} {ω : Nat → Option Addr} {ws ws' : WS} {σ : L2.St} {H H' H1 H2 : Hp}
theorem StR.sdom (h : StR T K O wa env ω ws σ H) {a : Addr} (s : SS O ω wa a) : H a ≠ none := by
  rcases s with s | ⟨i, s⟩ | s
  · exact h.dom a s
  · obtain ⟨⟨d, hd⟩, _⟩ := h.own i a s
    have q := h.slot i
    rw [hd] at q
    obtain ⟨b, e1, _, e2⟩ := q
    rw [s] at e1
    cases e1
    exact e2.dom
  · have q := h.wsr
    rw [s] at q
    cases ws with
    | none => exact q.elim
    | some kvs =>
      obtain ⟨kv', e, _⟩ := q
      rw [e]; simp
theorem StR.fresh (h : StR T K O wa env ω ws σ H) {a : Addr} (n : H a = none) : ¬ SS O ω wa a := fun s => h.sdom s n
/-- the heap grows -/
theorem StR.grow (h : StR T K O wa env ω ws σ H) (e : Same H H') : StR T K O wa env ω ws σ H' := by
  have m : Same (hid (SS O ω wa) H) (hid (SS O ω wa) H') := hid_mono (fun a o _ q => e a o q) fun _ q => q
  refine ⟨h.len, fun i => ?_, h.own, h.inj, fun a q z => h.dom a q (e.free z), h.wsr.mono m fun a o _ q => e a o q⟩
  have q := h.slot i
  cases hs : eg env i with
  | un => trivial
  | va d =>
    rw [hs] at q
    obtain ⟨v, h1, h2⟩ := q
    exact ⟨v, h1, h2.mono m⟩
  | ow d =>
    rw [hs] at q
    obtain ⟨a, h1, h2, h3⟩ := q
    exact ⟨a, h1, h2, h3.mono m fun o q => e a o q⟩
/-- less is hidden -/
theorem StR.less (h : StR T K O wa env ω ws σ H) (s : ∀ a, O' a → O a) : StR T K O' wa env ω ws σ H := by
  have m : Same (hid (SS O ω wa) H) (hid (SS O' ω wa) H) := hid_mono (fun a o _ q => q) fun a q => q.elim (fun z => .inl (s a z)) .inr
  refine ⟨h.len, fun i => ?_, fun i a q => ⟨(h.own i a q).1, fun z => (h.own i a q).2.1 (s a z), (h.own i a q).2.2⟩, h.inj, fun a q z => h.dom a (s a q) z, h.wsr.mono m fun a o _ q => q⟩
  have q := h.slot i
  cases hs : eg env i with
  | un => trivial
  | va d =>
    rw [hs] at q
    obtain ⟨v, h1, h2⟩ := q
    exact ⟨v, h1, h2.mono m⟩
  | ow d =>
    rw [hs] at q
    obtain ⟨a, h1, h2, h3⟩ := q
    exact ⟨a, h1, h2, h3.mono m fun o q => q⟩
/-- a new object is hidden -/
theorem StR.more (h : StR T K O wa env ω ws σ H) {p : Addr} (n : H p = none) (o : HO) : StR T K (fun x => O x ∨ x = p) wa env ω ws σ (upd H p o) := by
  have hf := h.fresh n
  have m : Same (hid (SS O ω wa) H) (hid (SS (fun x => O x ∨ x = p) ω wa) (upd H p o)) := fun a u q => by
    obtain ⟨q1, q2⟩ := hid_in q
    have ne : a ≠ p := ne_of_none q1 n
    refine hid_of (by rw [upd_ne ne]; exact q1) fun z => ?_
    rcases z with (z | z) | z
    · exact q2 (.inl z)
    · exact ne z
    · exact q2 (.inr z)
  have e : Same H (upd H p o) := fun a u q => by rw [upd_ne (ne_of_none q n)]; exact q
  refine ⟨h.len, fun i => ?_, fun i a q => ⟨(h.own i a q).1, fun z => ?_, (h.own i a q).2.2⟩, h.inj, fun a q z => ?_, h.wsr.mono m fun a o _ q => e _ _ q⟩
  · have q := h.slot i
    cases hs : eg env i with
    | un => trivial
    | va d =>
      rw [hs] at q
      obtain ⟨v, h1, h2⟩ := q
      exact ⟨v, h1, h2.mono m⟩
    | ow d =>
      rw [hs] at q
      obtain ⟨a, h1, h2, h3⟩ := q
      exact ⟨a, h1, h2, h3.mono m fun o q => e _ _ q⟩
  · rcases z with z | z
    · exact (h.own i a q).2.1 z
    · subst z
      exact hf (.inr (.inl ⟨i, q⟩))
  · rcases q with q | q
    · exact h.dom a q (e.free z)
    · subst q
      rw [upd_same] at z; cases z
end
end Pv

set_option Elab.async false
set_option linter.all false
set_option maxRecDepth 100000
set_option maxHeartbeats 4000000
/-! Pv2: the readings and the rules for expressions. -/
namespace Pv
open PySem PySem.Spec PyProof.Rows L2

def Stp (wa : Option Addr) (H H' : Hp) : Prop := ∀ a o, wa ≠ some a → H a = some o → H' a = some o
theorem Stp.refl (wa : Option Addr) (H : Hp) : Stp wa H H := fun _ _ _ h => h
theorem Stp.trans {wa : Option Addr} {H H1 H2 : Hp} (a : Stp wa H H1) (b : Stp wa H1 H2) : Stp wa H H2 := fun x o n h => b x o n (a x o n h)
theorem Stp.of {wa : Option Addr} {H H' : Hp} (e : Same H H') : Stp wa H H' := fun a o _ h => e a o h
theorem Stp.hid {O : Addr → Prop} {ω : Nat → Option Addr} {wa : Option Addr} {H H' : Hp} (e : Stp wa H H') : Same (hid (SS O ω wa) H) (hid (SS O ω wa) H') :=
  hid_mono (fun a o s h => e a o (fun z => s (.inr (.inr z))) h) fun _ q => q

/-- a value that is looked at: frozen, or an own object -/
def RepB (T : Nat → Str) (K : PySem.W.Frag) (wa : Option Addr) (hH H : Hp) (d : D) (v : V) : Prop :=
  Rep T K wa hH d v ∨ ∃ a, v = .ref a ∧ wa ≠ some a ∧ OwnAt T K wa hH H d a
theorem RepB.mono {T : Nat → Str} {K : PySem.W.Frag} {O : Addr → Prop} {ω : Nat → Option Addr} {wa : Option Addr} {H H' : Hp} {d : D} {v : V} (e : Stp wa H H')
    (h : RepB T K wa (hid (SS O ω wa) H) H d v) : RepB T K wa (hid (SS O ω wa) H') H' d v := by
  rcases h with h | ⟨a, h1, h2, h3⟩
  · exact .inl (h.mono e.hid)
  · exact .inr ⟨a, h1, h2, h3.mono e.hid fun o q => e a o h2 q⟩
/-- .. as it stands in the whole heap -/
theorem RepB.rep {T : Nat → Str} {K : PySem.W.Frag} {S : Addr → Prop} {wa : Option Addr} {H : Hp} {d : D} {v : V} (h : RepB T K wa (hid S H) H d v) : Rep T K wa H d v := by
  rcases h with h | ⟨a, h1, h2, h3⟩
  · exact h.mono hid_le
  · subst h1
    exact h3.rep hid_le fun _ q => q
theorem RepB.lst {T : Nat → Str} {K : PySem.W.Frag} {S : Addr → Prop} {wa : Option Addr} {H : Hp} {ds : List D} {v : V} (h : RepB T K wa (hid S H) H (.lst ds) v) :
    ∃ a vs, v = .ref a ∧ H a = some (.lst vs) ∧ Reps T K wa (hid S H) ds vs := by
  rcases h with h | ⟨a, h1, h2, vs, h3, h4⟩
  · cases h with
    | lst h r => exact ⟨_, _, rfl, (hid_in h).1, r⟩
  · exact ⟨a, vs, h1, h3, h4⟩
theorem RepB.dic {T : Nat → Str} {K : PySem.W.Frag} {S : Addr → Prop} {wa : Option Addr} {H : Hp} {ks ds : List D} {v : V} (h : RepB T K wa (hid S H) H (.dic ks ds) v) :
    ∃ a kvs, v = .ref a ∧ H a = some (.dK kvs) ∧ ks.map (keyOf T) = kvs.map (fun p => some p.1) ∧ Reps T K wa (hid S H) ds (kvs.map (·.2)) := by
  rcases h with h | ⟨a, h1, h2, vs, h3, h4, h5⟩
  · cases h with
    | dic h k r => exact ⟨_, _, rfl, (hid_in h).1, k, r⟩
  · exact ⟨a, vs, h1, h3, h4, h5⟩
theorem RepB.tup {T : Nat → Str} {K : PySem.W.Frag} {S : Addr → Prop} {wa : Option Addr} {H : Hp} {ds : List D} {v : V} (h : RepB T K wa (hid S H) H (.tup ds) v) :
    ∃ a vs, v = .ref a ∧ SqT K H a vs ∧ PlT K (hid S H) a vs ∧ Reps T K wa (hid S H) ds vs := by
  rcases h with h | ⟨a, h1, h2, h3⟩
  · cases h with
    | tup h r => exact ⟨_, _, rfl, (h.mono hid_le).sq, h, r⟩
  · exact h3.elim
theorem RepB.scr {T : Nat → Str} {K : PySem.W.Frag} {S : Addr → Prop} {wa : Option Addr} {H : Hp} {ns : List Int} {v : V} (h : RepB T K wa (hid S H) H (.scr ns) v) :
    ∃ a, v = .ref a ∧ SqL K H a (ns.map V.int) := by
  rcases h with h | ⟨a, h1, h2, h3⟩
  · cases h with
    | scr h => exact ⟨_, rfl, Same.seq hid_le h⟩
  · exact h3.elim
section
variable {T : Nat → Str} {K : PySem.W.Frag} {hH H : Hp} {wa : Option Addr} {v : V}
theorem RepB.int {i : Int} (h : RepB T K wa hH H (.int i) v) : v = .int i := by
  rcases h with h | ⟨a, h1, h2, h3⟩
  · cases h; rfl
  · exact h3.elim
theorem RepB.bl {i : Bool} (h : RepB T K wa hH H (.bl i) v) : v = .bl i := by
  rcases h with h | ⟨a, h1, h2, h3⟩
  · cases h; rfl
  · exact h3.elim
theorem RepB.non (h : RepB T K wa hH H .non v) : v = .non := by
  rcases h with h | ⟨a, h1, h2, h3⟩
  · cases h; rfl
  · exact h3.elim
theorem RepB.str {n : Nat} (h : RepB T K wa hH H (.str n) v) : v = .str (T n) := by
  rcases h with h | ⟨a, h1, h2, h3⟩
  · cases h; rfl
  · exact h3.elim
theorem RepB.wd (h : RepB T K wa hH H .wd v) : ∃ a, v = .ref a ∧ wa = some a := by
  rcases h with h | ⟨a, h1, h2, h3⟩
  · cases h; exact ⟨_, rfl, by assumption⟩
  · exact h3.elim
end

/-! ### readings -/
abbrev EvF := Env → WS → Option (D × WS)
abbrev EvTF := Env → WS → Option (Bool × WS)
abbrev EvAF := Env → WS → Option (List D × WS)
def tE (T : Nat → Str) (K : PySem.W.Frag) (f : EvF) : TE := fun σ H Q => ∃ O wa env ω ws d ws', StR T K O wa env ω ws σ H ∧ f env ws = some (d, ws') ∧
  ∀ v H', StR T K O wa env ω ws' σ H' → Stp wa H H' → Rep T K wa (hid (SS O ω wa) H') d v → Q v H'
def tB (T : Nat → Str) (K : PySem.W.Frag) (f : EvF) : TE := fun σ H Q => ∃ O wa env ω ws d ws', StR T K O wa env ω ws σ H ∧ f env ws = some (d, ws') ∧
  ∀ v H', StR T K O wa env ω ws' σ H' → Stp wa H H' → RepB T K wa (hid (SS O ω wa) H') H' d v → Q v H'
def tF (T : Nat → Str) (K : PySem.W.Frag) (f : EvF) : TE := fun σ H Q => ∃ O wa env ω ws d ws', StR T K O wa env ω ws σ H ∧ f env ws = some (d, ws') ∧
  ∀ a H', StR T K (fun x => O x ∨ x = a) wa env ω ws' σ H' → Stp wa H H' → ¬ SS O ω wa a → H a = none → OwnAt T K wa (hid (SS (fun x => O x ∨ x = a) ω wa) H') H' d a → Q (.ref a) H'
def tT (T : Nat → Str) (K : PySem.W.Frag) (f : EvTF) : TT := fun σ H Q => ∃ O wa env ω ws d ws', StR T K O wa env ω ws σ H ∧ f env ws = some (d, ws') ∧
  ∀ H', StR T K O wa env ω ws' σ H' → Stp wa H H' → Q d H'
def tA (T : Nat → Str) (K : PySem.W.Frag) (f : EvAF) : TA := fun σ H Q => ∃ O wa env ω ws d ws', StR T K O wa env ω ws σ H ∧ f env ws = some (d, ws') ∧
  ∀ v H', StR T K O wa env ω ws' σ H' → Stp wa H H' → Reps T K wa (hid (SS O ω wa) H') d v → Q v H'

theorem PE.mono {X : Cx} {e : Expr} {t t' : TE} (h : PE X e t) (m : ∀ σ H Q, t' σ H Q → t σ H Q) : PE X e t' := ⟨fun pins s σ H Q I q => h.run pins s σ H Q I (m σ H Q q)⟩
theorem PT.mono {X : Cx} {e : Expr} {t t' : TT} (h : PT X e t) (m : ∀ σ H Q, t' σ H Q → t σ H Q) : PT X e t' := ⟨fun pins s σ H Q I q => h.run pins s σ H Q I (m σ H Q q)⟩
theorem PA.mono {X : Cx} {e : List Expr} {t t' : TA} (h : PA X e t) (m : ∀ σ H Q, t' σ H Q → t σ H Q) : PA X e t' := ⟨fun pos pins s σ H Q I q => h.run pos pins s σ H Q I (m σ H Q q)⟩
theorem PW.mono {X : Cx} {e : Expr} {t t' : TT} (h : PW X e t) (m : ∀ σ H Q, t' σ H Q → t σ H Q) : PW X e t' := ⟨fun wh pins s σ H Q I q => h.run wh pins s σ H Q I (m σ H Q q)⟩
theorem PI.mono {X : Cx} {tg e : Expr} {t t' : TI} (h : PI X tg e t) (m : ∀ σ H Q, t' σ H Q → t σ H Q) : PI X tg e t' := ⟨fun pins s σ H Q I q => h.run pins s σ H Q I (m σ H Q q)⟩
theorem PS.mono {X : Cx} {e : Stmt} {t t' : TS} (h : PS X e t) (m : ∀ D σ H, t' D σ H → t D σ H) : PS X e t' := ⟨fun pins s σ H D I q => h.run pins s σ H D I (m D σ H q)⟩
theorem PSs.mono {X : Cx} {e : List Stmt} {t t' : TS} (h : PSs X e t) (m : ∀ D σ H, t' D σ H → t D σ H) : PSs X e t' := ⟨fun pins s σ H D I q => h.run pins s σ H D I (m D σ H q)⟩

section
variable {T : Nat → Str} {X : Cx} {e a b c : Expr} {fa fb fc : EvF} {pos : Pos}
theorem StR.back {T : Nat → Str} {K : PySem.W.Frag} {O : Addr → Prop} {wa : Option Addr} {env : Env} {ω : Nat → Option Addr} {ws : WS} {σ : L2.St} {H H' : Hp} (st : StR T K O wa env ω ws σ H') (sp : Stp wa H H') {p : Addr} (n : H' p = none) : H p = none := by
  cases c : H p with
  | none => rfl
  | some o =>
    by_cases nw : wa = some p
    · exact absurd (.inr (.inr nw)) (st.fresh n)
    · rw [sp p o nw c] at n; cases n
theorem tE_tB (h : PE X e (tE T X.K fa)) : PE X e (tB T X.K fa) :=
  PE.mono h fun σ H Q ⟨O, wa, env, ω, ws, d, ws', st, hf, k⟩ => ⟨O, wa, env, ω, ws, d, ws', st, hf, fun v H' st' sp r => k v H' st' sp (.inl r)⟩
theorem SS.weak {O : Addr → Prop} {ω : Nat → Option Addr} {wa : Option Addr} {a x : Addr} (h : SS O ω wa x) : SS (fun x => O x ∨ x = a) ω wa x :=
  h.elim (fun z => .inl (.inl z)) .inr
theorem tF_tE (h : PE X e (tF T X.K fa)) : PE X e (tE T X.K fa) :=
  PE.mono h fun σ H Q ⟨O, wa, env, ω, ws, d, ws', st, hf, k⟩ => ⟨O, wa, env, ω, ws, d, ws', st, hf, fun a H' st' sp ns _ ow =>
    k _ H' (st'.less fun _ z => .inl z) sp (ow.rep (hid_mono (fun _ _ _ q => q) fun _ => SS.weak) fun o q => hid_of q ns)⟩
theorem bor_none {env : Env} {ws : WS} {r : Option (D × WS)} : bor none env ws r = r := rfl

/-! ### constants, names -/
theorem pe_k {d : D} {v : V} (h : PE X e (tC v)) (r : ∀ wa H, Rep T X.K wa H d v) : PE X e (tE T X.K fun _ ws => some (d, ws)) :=
  PE.mono h fun σ H Q ⟨O, wa, env, ω, ws, d', ws', st, hf, k⟩ => by
    cases hf
    exact k v H st (Stp.refl _ _) (r _ _)
theorem pe_va {i : Nat} (h : PE X e (tVar i)) : PE X e (tE T X.K fun env ws => match eg env i with
    | .va d => some (d, ws)
    | _ => none) :=
  PE.mono h fun σ H Q ⟨O, wa, env, ω, ws, d', ws', st, hf, k⟩ => by
    have q := st.slot i
    dsimp only at hf
    split at hf
    · rename_i d hd
      cases hf
      rw [hd] at q
      obtain ⟨v, q1, q2⟩ := q
      exact ⟨v, q1, k v H st (Stp.refl _ _) q2⟩
    · cases hf
theorem pe_vb {i : Nat} {r : EvF} (h : PE X e (tVar i)) : PE X e (tB T X.K fun env ws => bor (some i) env ws (r env ws)) :=
  PE.mono h fun σ H Q ⟨O, wa, env, ω, ws, d', ws', st, hf, k⟩ => by
    have q := st.slot i
    simp only [bor] at hf
    split at hf
    · rename_i d hd
      cases hf
      rw [hd] at q
      obtain ⟨v, q1, q2⟩ := q
      exact ⟨v, q1, k v H st (Stp.refl _ _) (.inl q2)⟩
    · rename_i d hd
      cases hf
      rw [hd] at q
      obtain ⟨a, q0, q1, q2⟩ := q
      exact ⟨_, q1, k _ H st (Stp.refl _ _) (.inr ⟨a, rfl, (st.own i a q0).2.2, q2⟩)⟩
    · cases hf

/-! ### two parts, one part -/
def two (fa fb : EvF) (g : WS → D → D → Option D) : EvF := fun env ws => match fa env ws with
  | none => none
  | some (x, ws1) => match fb env ws1 with
    | none => none
    | some (y, ws2) => match g ws2 x y with
      | none => none
      | some z => some (z, ws2)
def un1 (fa : EvF) (g : D → Option D) : EvF := fun env ws => match fa env ws with
  | none => none
  | some (x, ws1) => match g x with
    | none => none
    | some z => some (z, ws1)
def ROk (T : Nat → Str) (K : PySem.W.Frag) (r : R2) (g : WS → D → D → Option D) : Prop :=
  ∀ (O : Addr → Prop) (wa : Option Addr) (env : Env) (ω : Nat → Option Addr) (ws : WS) (σ : L2.St) (H : Hp) (x y : V) (d1 d2 z : D) (Q : VK), StR T K O wa env ω ws σ H →
    RepB T K wa (hid (SS O ω wa) H) H d1 x → RepB T K wa (hid (SS O ω wa) H) H d2 y → g ws d1 d2 = some z →
    (∀ v H', Same H H' → Rep T K wa (hid (SS O ω wa) H') z v → Q v H') → r x y H Q
def UOk (T : Nat → Str) (K : PySem.W.Frag) (r : V → Hp → VK → Prop) (g : D → Option D) : Prop :=
  ∀ (O : Addr → Prop) (wa : Option Addr) (env : Env) (ω : Nat → Option Addr) (ws : WS) (σ : L2.St) (H : Hp) (x : V) (d1 z : D) (Q : VK), StR T K O wa env ω ws σ H →
    RepB T K wa (hid (SS O ω wa) H) H d1 x → g d1 = some z →
    (∀ v H', Same H H' → Rep T K wa (hid (SS O ω wa) H') z v → Q v H') → r x H Q
/-- .. making an object -/
def UFOk (T : Nat → Str) (K : PySem.W.Frag) (r : V → Hp → VK → Prop) (g : D → Option D) : Prop :=
  ∀ (O : Addr → Prop) (wa : Option Addr) (env : Env) (ω : Nat → Option Addr) (ws : WS) (σ : L2.St) (H : Hp) (x : V) (d1 z : D) (Q : VK), StR T K O wa env ω ws σ H →
    RepB T K wa (hid (SS O ω wa) H) H d1 x → g d1 = some z →
    (∀ p o, H p = none → OwnAt T K wa (hid (SS O ω wa) H) (upd H p o) z p → Q (.ref p) (upd H p o)) → r x H Q
theorem new_at {K : PySem.W.Frag} {O : Addr → Prop} {wa : Option Addr} {env : Env} {ω : Nat → Option Addr} {ws : WS} {σ : L2.St} {H : Hp} {p : Addr} {o : HO} (st : StR T K O wa env ω ws σ H) (n : H p = none) :
    Same (hid (SS O ω wa) H) (hid (SS (fun x => O x ∨ x = p) ω wa) (upd H p o)) := fun a u q => by
  obtain ⟨q1, q2⟩ := hid_in q
  have ne : a ≠ p := ne_of_none q1 n
  refine hid_of (by rw [upd_ne ne]; exact q1) fun z => ?_
  rcases z with (z | z) | z
  · exact q2 (.inl z)
  · exact ne z
  · exact q2 (.inr z)
theorem new_same {H : Hp} {p : Addr} {o : HO} (n : H p = none) : Same H (upd H p o) := fun a u q => by rw [upd_ne (ne_of_none q n)]; exact q
theorem pe_two {g : WS → D → D → Option D} {r : R2} (ht : ∀ ta tb, PE X a ta → PE X b tb → PE X e (tOp r ta tb)) (hr : ROk T X.K r g) (ha : PE X a (tB T X.K fa)) (hb : PE X b (tB T X.K fb)) :
    PE X e (tE T X.K (two fa fb g)) :=
  PE.mono (ht _ _ ha hb) fun σ H Q ⟨O, wa, env, ω, ws, d, ws', st, hf, k⟩ => by
    unfold two at hf
    split at hf
    · cases hf
    · rename_i x ws1 e1
      split at hf
      · cases hf
      · rename_i y ws2 e2
        split at hf
        · cases hf
        · rename_i z e3
          cases hf
          refine ⟨O, wa, env, ω, ws, x, ws1, st, e1, fun v1 H1 st1 sp1 r1 => ?_⟩
          refine ⟨O, wa, env, ω, ws1, y, _, st1, e2, fun v2 H2 st2 sp2 r2 => ?_⟩
          refine hr O wa env ω _ σ H2 v1 v2 x y _ Q st2 (r1.mono sp2) r2 e3 fun v H' sm rz => ?_
          exact k v H' (st2.grow sm) ((sp1.trans sp2).trans (Stp.of sm)) rz
theorem pe_un1 {g : D → Option D} {r : V → Hp → VK → Prop} (ht : ∀ ta, PE X a ta → PE X e (tUn r ta)) (hr : UOk T X.K r g) (ha : PE X a (tB T X.K fa)) : PE X e (tE T X.K (un1 fa g)) :=
  PE.mono (ht _ ha) fun σ H Q ⟨O, wa, env, ω, ws, d, ws', st, hf, k⟩ => by
    unfold un1 at hf
    split at hf
    · cases hf
    · rename_i x ws1 e1
      split at hf
      · cases hf
      · rename_i z e3
        cases hf
        refine ⟨O, wa, env, ω, ws, x, _, st, e1, fun v1 H1 st1 sp1 r1 => ?_⟩
        refine hr O wa env ω _ σ H1 v1 x _ Q st1 r1 e3 fun v H' sm rz => ?_
        exact k v H' (st1.grow sm) (sp1.trans (Stp.of sm)) rz
theorem pe_unF {g : D → Option D} {r : V → Hp → VK → Prop} (ht : ∀ ta, PE X a ta → PE X e (tUn r ta)) (hr : UFOk T X.K r g) (ha : PE X a (tB T X.K fa)) : PE X e (tF T X.K (un1 fa g)) :=
  PE.mono (ht _ ha) fun σ H Q ⟨O, wa, env, ω, ws, d, ws', st, hf, k⟩ => by
    unfold un1 at hf
    split at hf
    · cases hf
    · rename_i x ws1 e1
      split at hf
      · cases hf
      · rename_i z e3
        cases hf
        refine ⟨O, wa, env, ω, ws, x, _, st, e1, fun v1 H1 st1 sp1 r1 => ?_⟩
        refine hr O wa env ω _ σ H1 v1 x _ Q st1 r1 e3 fun p o n ow => ?_
        exact k p _ (st1.more n o) (sp1.trans (Stp.of (new_same n))) (st1.fresh n) (st1.back sp1 n) (ow.mono (new_at st1 n) fun _ q => q)
end
end Pv

set_option Elab.async false
set_option linter.all false
set_option maxRecDepth 100000
set_option maxHeartbeats 4000000
/-! Pv3: the operations by values. -/
namespace Pv
open PySem PySem.Spec PyProof.Rows L2

/-! ### the texts -/
structure TOk (T : Nat → Str) : Prop where
  inj : ∀ n m, n < 512 → m < 512 → T n = T m → n = m
  ok : ∀ n, n < 512 → PyData.strOk (T n) = true

mutual
def toPy (T : Nat → Str) : D → PyData
  | .non => .none
  | .bl b => .bool b
  | .int i => .int i
  | .str n => .str (T n)
  | .tup xs => .tuple (toPys T xs)
  | .lst xs => .list (toPys T xs)
  | .dic _ _ => .dict []
  | .scr _ => .dict []
  | .wd => .dict []
def toPys (T : Nat → Str) : List D → List PyData
  | [] => []
  | x :: xs => toPy T x :: toPys T xs
end
section
variable {T : Nat → Str} {K : PySem.W.Frag} {wa : Option Addr} {H : Hp}
mutual
theorem dp_of : ∀ {d : D} {v : V} {n : Nat}, Rep T K wa H d v → okq d n = true → Dp K H v (toPy T d)
  | _, _, _, .non, _ => by simp only [toPy]; exact .non
  | _, _, _, .bl b, _ => by simp only [toPy]; exact .bl b
  | _, _, _, .int i, _ => by simp only [toPy]; exact .int i
  | _, _, _, .str k, _ => by simp only [toPy]; exact .str _
  | _, _, 0, .tup h r, e => by simp [okq] at e
  | _, _, n + 1, .tup h r, e => by simp only [toPy]; exact .tup h.sq (dps_of r (by simpa [okq] using e))
  | _, _, 0, .lst h r, e => by simp [okq] at e
  | _, _, n + 1, .lst h r, e => by simp only [toPy]; exact .lst (.inl (.inl h)) (dps_of r (by simpa [okq] using e))
  | _, _, _, .dic _ _ _, e => by simp [okq] at e
  | _, _, _, .scr _, e => by simp [okq] at e
  | _, _, _, .wd _, e => by simp [okq] at e
theorem dps_of : ∀ {ds : List D} {vs : List V} {n : Nat}, Reps T K wa H ds vs → okqs ds n = true → DpAll K H vs (toPys T ds)
  | _, _, _, .nil, _ => by simp only [toPys]; exact .nil
  | _, _, n, .cons r t, e => by
    simp only [okqs, Bool.and_eq_true] at e
    simp only [toPys]
    exact .cons (dp_of r e.1) (dps_of t e.2)
end
mutual
theorem lay_of (hT : TOk T) : ∀ (d : D) (n : Nat), okq d n = true → (toPy T d).canLay0 = true ∧ (toPy T d).depth ≤ n
  | .non, _, _ => by simp [toPy, PyData.canLay0, PyData.depth]
  | .bl b, _, _ => by simp [toPy, PyData.canLay0, PyData.depth]
  | .int i, _, _ => by simp [toPy, PyData.canLay0, PyData.depth]
  | .str k, _, e => by
    simp only [okq, decide_eq_true_eq] at e
    simp [toPy, PyData.canLay0, PyData.depth, hT.ok k e]
  | .tup xs, 0, e => by simp [okq] at e
  | .tup xs, n + 1, e => by
    have := lays_of hT xs n (by simpa [okq] using e)
    simp only [toPy, PyData.canLay0, PyData.depth]
    exact ⟨this.1, Nat.succ_le_succ this.2⟩
  | .lst xs, 0, e => by simp [okq] at e
  | .lst xs, n + 1, e => by
    have := lays_of hT xs n (by simpa [okq] using e)
    simp only [toPy, PyData.canLay0, PyData.depth]
    exact ⟨this.1, Nat.succ_le_succ this.2⟩
  | .dic _ _, _, e => by simp [okq] at e
  | .scr _, _, e => by simp [okq] at e
  | .wd, _, e => by simp [okq] at e
theorem lays_of (hT : TOk T) : ∀ (ds : List D) (n : Nat), okqs ds n = true → PyData.canLayAll0 (toPys T ds) = true ∧ PyData.depthAll (toPys T ds) ≤ n
  | [], _, _ => by simp [toPys, PyData.canLayAll0, PyData.depthAll]
  | x :: xs, n, e => by
    simp only [okqs, Bool.and_eq_true] at e
    have h1 := lay_of hT x n e.1
    have h2 := lays_of hT xs n e.2
    simp only [toPys, PyData.canLayAll0, PyData.depthAll, Bool.and_eq_true]
    exact ⟨⟨h1.1, h2.1⟩, Nat.max_le.mpr ⟨h1.2, h2.2⟩⟩
end
mutual
theorem deq_py (hT : TOk T) : ∀ (d e : D) (n m : Nat), okq d n = true → okq e m = true → PyData.eqv (toPy T d) (toPy T e) = deq d e
  | .str x, .str y, _, _, hd, he => by
    simp only [okq, decide_eq_true_eq] at hd he
    simp only [toPy, PyData.eqv, deq]
    by_cases h : x = y
    · subst h; simp
    · have h' : T x ≠ T y := fun z => h (hT.inj x y hd he z)
      simp [h, h']
  | .tup xs, .tup ys, 0, _, hd, he => by simp [okq] at hd
  | .tup xs, .tup ys, _ + 1, 0, hd, he => by simp [okq] at he
  | .tup xs, .tup ys, n + 1, m + 1, hd, he => by
    simp only [toPy, PyData.eqv, deq]
    exact deqs_py hT xs ys n m (by simpa [okq] using hd) (by simpa [okq] using he)
  | .lst xs, .lst ys, 0, _, hd, he => by simp [okq] at hd
  | .lst xs, .lst ys, _ + 1, 0, hd, he => by simp [okq] at he
  | .lst xs, .lst ys, n + 1, m + 1, hd, he => by
    simp only [toPy, PyData.eqv, deq]
    exact deqs_py hT xs ys n m (by simpa [okq] using hd) (by simpa [okq] using he)
  | .int i, .int j, _, _, _, _ => by simp only [toPy, PyData.eqv, deq]; exact Bool.beq_eq_decide_eq i j
  | .non, .non, _, _, _, _ | .non, .bl _, _, _, _, _ | .non, .int _, _, _, _, _ | .non, .str _, _, _, _, _ | .non, .tup _, _, _, _, _ | .non, .lst _, _, _, _, _ => by simp [toPy, PyData.eqv, deq]
  | .bl _, .non, _, _, _, _ | .bl _, .bl _, _, _, _, _ | .bl _, .int _, _, _, _, _ | .bl _, .str _, _, _, _, _ | .bl _, .tup _, _, _, _, _ | .bl _, .lst _, _, _, _, _ => by simp [toPy, PyData.eqv, deq]
  | .int _, .non, _, _, _, _ | .int _, .bl _, _, _, _, _ | .int _, .str _, _, _, _, _ | .int _, .tup _, _, _, _, _ | .int _, .lst _, _, _, _, _ => by simp [toPy, PyData.eqv, deq]
  | .str _, .non, _, _, _, _ | .str _, .bl _, _, _, _, _ | .str _, .int _, _, _, _, _ | .str _, .tup _, _, _, _, _ | .str _, .lst _, _, _, _, _ => by simp [toPy, PyData.eqv, deq]
  | .tup _, .non, _, _, _, _ | .tup _, .bl _, _, _, _, _ | .tup _, .int _, _, _, _, _ | .tup _, .str _, _, _, _, _ | .tup _, .lst _, _, _, _, _ => by simp [toPy, PyData.eqv, deq]
  | .lst _, .non, _, _, _, _ | .lst _, .bl _, _, _, _, _ | .lst _, .int _, _, _, _, _ | .lst _, .str _, _, _, _, _ | .lst _, .tup _, _, _, _, _ => by simp [toPy, PyData.eqv, deq]
  | .dic _ _, _, _, _, h, _ => by simp [okq] at h
  | .scr _, _, _, _, h, _ => by simp [okq] at h
  | .wd, _, _, _, h, _ => by simp [okq] at h
  | .non, .dic _ _, _, _, _, h | .bl _, .dic _ _, _, _, _, h | .int _, .dic _ _, _, _, _, h | .str _, .dic _ _, _, _, _, h | .tup _, .dic _ _, _, _, _, h | .lst _, .dic _ _, _, _, _, h => by simp [okq] at h
  | .non, .scr _, _, _, _, h | .bl _, .scr _, _, _, _, h | .int _, .scr _, _, _, _, h | .str _, .scr _, _, _, _, h | .tup _, .scr _, _, _, _, h | .lst _, .scr _, _, _, _, h => by simp [okq] at h
  | .non, .wd, _, _, _, h | .bl _, .wd, _, _, _, h | .int _, .wd, _, _, _, h | .str _, .wd, _, _, _, h | .tup _, .wd, _, _, _, h | .lst _, .wd, _, _, _, h => by simp [okq] at h
theorem deqs_py (hT : TOk T) : ∀ (ds es : List D) (n m : Nat), okqs ds n = true → okqs es m = true → PyData.eqvAll (toPys T ds) (toPys T es) = deqs ds es
  | [], [], _, _, _, _ => by simp [toPys, PyData.eqvAll, deqs]
  | [], _ :: _, _, _, _, _ => by simp [toPys, PyData.eqvAll, deqs]
  | _ :: _, [], _, _, _, _ => by simp [toPys, PyData.eqvAll, deqs]
  | x :: xs, y :: ys, n, m, hd, he => by
    simp only [okqs, Bool.and_eq_true] at hd he
    simp only [toPys, PyData.eqvAll, deqs]
    rw [deq_py hT x y n m hd.1 he.1, deqs_py hT xs ys n m hd.2 he.2]
end
theorem shaped_of (hT : TOk T) {d : D} (h : okq d 64 = true) : SeqAt.shaped (toPy T d) = true := by
  have := lay_of hT d 64 h
  unfold SeqAt.shaped
  rw [this.1, Bool.true_and]
  exact decide_eq_true this.2
end

/-! ### tuples made here bear no dict -/
section
variable {X : Cx}
/-- the object of a new tuple -/
def tupO (us : List Value) : Obj := { cls := .type "tuple", data := .seq us.toArray }
theorem tup_new {pins : List (Addr × Obj)} {σ : L2.St} {H : Hp} {s : Shared} {Q : VK} {zs : List V} {us : List Value} (I : Inv X pins σ H s) (rz : Vals zs us) (hz : zs.length ≤ sizeLine)
    (q : ∀ p o, H p = none → o.dict = none → Q (.ref p) (upd H p (.frz o (.tup zs)))) : EP X pins σ Q (.ref s.heap.objs.size) { s with heap := s.heap.push (tupO us) } := by
  have at_ : (s.heap.push (tupO us)).get? s.heap.objs.size = some (tupO us) := Heap.get?_push_size _ rfl
  refine ⟨.ref s.heap.objs.size, upd H s.heap.objs.size (.frz (tupO us) (.tup zs)), I.laid (t' := s.toks) (fun c oc hc => Heap.get?_push_of_some _ hc) (Nat.le_refl _) ⟨at_, hz, us, rz, ⟨_, at_, rfl, _, rfl⟩⟩, rfl, ?_⟩
  exact q _ _ (I.hok.fresh (Nat.le_refl _)) rfl
def tTupP (t : TA) : TE := fun σ H Q => t σ H fun xs H1 => xs.length ≤ sizeLine ∧ ∀ p o, H1 p = none → o.dict = none → Q (.ref p) (upd H1 p (.frz o (.tup xs)))
theorem pe_tupP {es : List Expr} {t : TA} {pos : Pos} {x1} (h : PA X es t) : PE X (.Tuple es x1 pos) (tTupP t) :=
  ⟨fun pins s σ H Q I hq => wpAny_Tuple_spliced (thn (h.run pos pins s σ H _ I hq) fun us s1 ⟨zs, H1, I1, rz, hz, q⟩ => ⟨by rw [← rz.length]; exact hz, tup_new I1 rz hz q⟩)⟩
def rTupP (K : PySem.W.Frag) : List V → Hp → VK → Prop := fun xs H Q => ∃ p zs, xs = [.ref p] ∧ ((SqL K H p zs ∧ ∀ l o, H l = none → o.dict = none → Q (.ref l) (upd H l (.frz o (.tup zs)))) ∨ (SqT K H p zs ∧ Q (.ref p) H))
theorem call_tupP : CallR X (.type "tuple") (rTupP X.K) := by
  intro pins s σ H xs us Q I rs h
  obtain ⟨p, zs, ex, h⟩ := h
  subst ex
  obtain ⟨u, eu, ru⟩ := vals1 rs
  subst eu
  cases ru
  rcases h with ⟨hl, q⟩ | ⟨ht, q⟩
  · obtain ⟨its, rz, pl, hz⟩ := I.list hl
    have el := rz.length
    refine call_tuple_list pl.isList (fun hp kp => ?_) (by simp only [List.size_toArray]; omega)
    exact tup_new (I.kept (t' := s.toks) kp) rz hz q
  · exact call_tupleT pins s σ H [.ref p] _ Q I (.cons rfl .nil) ⟨p, zs, rfl, ht, q⟩
def rSlP (K : PySem.W.Frag) : V → Option Int → Option Int → Hp → VK → Prop := fun x lo hi H Q => ∃ a zs, x = .ref a ∧ SqT K H a zs ∧
  (HT.sIx zs.length 0 lo = 0 ∧ HT.sIx zs.length zs.length hi = zs.length → Q (.ref a) H) ∧ (¬ (HT.sIx zs.length 0 lo = 0 ∧ HT.sIx zs.length zs.length hi = zs.length) → ∀ p o, H p = none → o.dict = none → Q (.ref p) (upd H p (.frz o (.tup (cutV zs lo hi)))))
theorem sl_tupP : SlR X (rSlP X.K) := by
  intro pins s σ H x v vl vu lo hi sl Q I rx hs pl pu h
  obtain ⟨a, zs, ex, ht, q1, q2⟩ := h
  by_cases hw : HT.sIx zs.length 0 lo = 0 ∧ HT.sIx zs.length zs.length hi = zs.length
  · exact sl_tupA pins s σ H x v vl vu lo hi sl Q I rx hs pl pu ⟨a, zs, ex, ht, q1, fun nw => absurd hw nw⟩
  · subst ex
    cases rx
    obtain ⟨its, rz, tt, hz⟩ := I.tuple ht
    have el : its.toArray.size = zs.length := by rw [List.size_toArray, rz.length]
    refine ⟨_, _, PyProof.Rows.slot_tuple_getitem.lookup, tt.typeIs, HT.getItem_tuple_cut tt hs pl pu (by rw [el]; exact hw) ?_ (by rw [el]; exact hz)⟩
    rw [el]
    exact tup_new I ((rz.drop _).take _) (Nat.le_trans (cutV_length zs lo hi) hz) (q2 hw)
def rCatP (K : PySem.W.Frag) : R2 := fun x y H Q => ∃ a b xs ys, x = .ref a ∧ y = .ref b ∧ SqT K H a xs ∧ SqT K H b ys ∧ xs.length + ys.length ≤ sizeLine ∧
  (xs = [] → Q (.ref b) H) ∧ (xs ≠ [] → ys = [] → Q (.ref a) H) ∧ (xs ≠ [] → ys ≠ [] → ∀ p o, H p = none → o.dict = none → Q (.ref p) (upd H p (.frz o (.tup (xs ++ ys)))))
theorem op_catP : OpR X (binaryOp .Add) (rCatP X.K) := by
  intro pins s σ H x y v u Q I rx ry h
  obtain ⟨a, b, xs, ys, ex, ey, ta, tb, hz, q0, q1, q2⟩ := h
  by_cases hx : xs = []
  · exact op_catA pins s σ H x y v u Q I rx ry ⟨a, b, xs, ys, ex, ey, ta, tb, hz, q0, q1, fun n => absurd hx n⟩
  · by_cases hy : ys = []
    · exact op_catA pins s σ H x y v u Q I rx ry ⟨a, b, xs, ys, ex, ey, ta, tb, hz, q0, q1, fun _ n => absurd hy n⟩
    · subst ex ey
      cases rx
      cases ry
      obtain ⟨i1, r1, p1, _⟩ := I.tuple ta
      obtain ⟨i2, r2, p2, _⟩ := I.tuple tb
      exact HT.cat_tup p1 p2 (fun z => hx (r1.nil_iff.mp z)) (fun z => absurd (r2.nil_iff.mp z) hy) (fun _ => tup_new I (r1.append r2) (by rw [List.length_append]; exact hz) (q2 hx hy)) (by rw [← r1.length, ← r2.length]; exact hz)
end
/-! ### binary operations -/
theorem lt_big {i : Int} (h : okI i = true) : i.natAbs < 2 ^ 8900 := by
  have := of_decide_eq_true h
  unfold big at this
  exact this
theorem len_ok {n : Nat} (h : okLen n = true) : n ≤ sizeLine := Nat.le_trans (of_decide_eq_true h) (by decide)
theorem len_lt {n : Nat} (h : okLen n = true) : n < sizeLine := Nat.lt_of_le_of_lt (of_decide_eq_true h) (by decide)
def bopO : Bop → Operator
  | .add => .Add | .sub => .Sub | .mul => .Mult | .fdiv => .FloorDiv | .mod => .Mod | .shl => .LShift | .shr => .RShift | .pow => .Pow
/-- // by any divisor below 2 ^ 9000 in size -/
def CDivN (_ j : Int) : Prop := j ≠ 0 ∧ j.natAbs.log2 < 9000
theorem op_fdivN {X : Cx} : OpR X (binaryOp .FloorDiv) (rI CDivN fun i j => .int (i.fdiv j)) := opI fun i j _ _ _ _ _ hc q => floordiv_int hc.1 q (.inl (PyProof.noPylong_of_log2 hc.2))
def bopR (K : PySem.W.Frag) : Bop → R2
  | .add => fun x y H Q => (rI0 (fun i j => .int (i + j)) x y H Q ∨ rCatP K x y H Q) ∨ rCat x y H Q
  | .sub => rI0 fun i j => .int (i - j)
  | .mul => rI CMulW fun i j => .int (i * j)
  | .fdiv => rI CDivN fun i j => .int (i.fdiv j)
  | .mod => rI (fun _ j => 0 < j) fun i j => .int (i % j)
  | .shl => rI CPow fun i j => .int (i * 2 ^ j.toNat)
  | .shr => rI (fun _ j => 0 ≤ j) fun i j => .int (i / 2 ^ j.toNat)
  | .pow => rI CPow fun i j => .int (i ^ j.toNat)
theorem bop_opr {X : Cx} : ∀ o : Bop, OpR X (binaryOp (bopO o)) (bopR X.K o)
  | .add => OpR.or (OpR.or op_add op_catP) op_cat
  | .sub => op_sub
  | .mul => op_mulW
  | .fdiv => op_fdivN
  | .mod => op_mod
  | .shl => op_shl
  | .shr => op_shr
  | .pow => op_pow
section
variable {T : Nat → Str} {K : PySem.W.Frag} {S : Addr → Prop} {wa : Option Addr} {H : Hp}
theorem hid_new {p : Addr} {o : HO} {O : Addr → Prop} {env : Env} {ω : Nat → Option Addr} {ws : WS} {σ : L2.St} (st : StR T K O wa env ω ws σ H) (n : H p = none) :
    hid (SS O ω wa) (upd H p o) p = some o := hid_of upd_same (st.fresh n)
theorem hid_newS {p : Addr} {o : HO} {O : Addr → Prop} {env : Env} {ω : Nat → Option Addr} {ws : WS} {σ : L2.St} (st : StR T K O wa env ω ws σ H) (n : H p = none) :
    Same (hid (SS O ω wa) H) (hid (SS O ω wa) (upd H p o)) := hid_mono (fun a u _ q => new_same n a u q) fun _ q => q
end
theorem bop_ok {T : Nat → Str} {K : PySem.W.Frag} (o : Bop) : ROk T K (bopR K o) (fun _ => bop o) := by
  intro O wa env ω ws σ H x y d1 d2 z Q st r1 r2 e k
  dsimp only at e
  cases o with
  | add =>
    unfold bop at e
    split at e
    all_goals first | (rename_i h; cases h; done) | skip
    · cases e
      rename_i i j _
      exact .inl (.inl ⟨i, j, r1.int, r2.int, k _ H (fun _ _ h => h) (.int _)⟩)
    · rename_i xs ys _
      split at e
      · rename_i hl
        cases e
        obtain ⟨a, vs, rfl, h1, h1', q1⟩ := r1.tup
        obtain ⟨b, us, rfl, h2, h2', q2⟩ := r2.tup
        refine .inl (.inr ⟨a, b, vs, us, rfl, rfl, h1, h2, ?_, fun e => ?_, fun e e' => ?_, fun e e' p o n nd => ?_⟩)
        · rw [← q1.len, ← q2.len]; exact len_ok hl
        · subst e
          cases q1
          exact k _ H (fun _ _ h => h) (.tup h2' (by simpa using q2))
        · subst e'
          cases q2
          exact k _ H (fun _ _ h => h) (.tup h1' (by simpa using q1))
        · exact k _ _ (new_same n) (.tup (.inl ⟨o, hid_new st n, nd⟩) ((q1.app q2).mono (hid_newS st n)))
      · cases e
    · rename_i xs ys _
      split at e
      · rename_i hl
        cases e
        obtain ⟨a, vs, rfl, h1, q1⟩ := r1.lst
        obtain ⟨b, us, rfl, h2, q2⟩ := r2.lst
        refine .inr ⟨a, b, vs, us, rfl, rfl, h1, h2, ?_, fun p n => ?_⟩
        · rw [← q1.len, ← q2.len]; exact len_ok hl
        · exact k _ _ (new_same n) (.lst (hid_new st n) ((q1.app q2).mono (hid_newS st n)))
      · cases e
    all_goals cases e
  | sub =>
    cases d1 <;> cases d2 <;> simp only [bop] at e <;> try cases e
    exact ⟨_, _, r1.int, r2.int, k _ H (fun _ _ h => h) (.int _)⟩
  | mul =>
    cases d1 <;> cases d2 <;> simp only [bop] at e <;> try cases e
    split at e
    · rename_i hl
      rw [Bool.and_eq_true] at hl
      cases e
      exact ⟨_, _, r1.int, r2.int, wide_mul (lt_big hl.1) (lt_big hl.2) (by decide) (by decide) (by decide), k _ H (fun _ _ h => h) (.int _)⟩
    · cases e
  | fdiv =>
    cases d1 <;> cases d2 <;> simp only [bop] at e <;> try cases e
    split at e
    · rename_i hl
      rw [Bool.and_eq_true] at hl
      cases e
      have h1 := of_decide_eq_true hl.1
      exact ⟨_, _, r1.int, r2.int, ⟨by omega, Nat.lt_of_lt_of_le (PySem.Flt.log2_lt_of (by decide) (lt_big hl.2)) (by decide)⟩, k _ H (fun _ _ h => h) (by dsimp only; rw [Int.fdiv_eq_ediv_of_nonneg _ (by omega)]; exact .int _)⟩
    · split at e
      · rename_i hl
        rw [Bool.and_eq_true] at hl
        cases e
        have h1 := of_decide_eq_true hl.1
        exact ⟨_, _, r1.int, r2.int, ⟨by omega, Nat.lt_of_lt_of_le (PySem.Flt.log2_lt_of (by decide) (lt_big hl.2)) (by decide)⟩, k _ H (fun _ _ h => h) (.int _)⟩
      · cases e
  | mod =>
    cases d1 <;> cases d2 <;> simp only [bop] at e <;> try cases e
    split at e
    · rename_i hl
      cases e
      exact ⟨_, _, r1.int, r2.int, of_decide_eq_true hl, k _ H (fun _ _ h => h) (.int _)⟩
    · cases e
  | shl =>
    cases d1 <;> cases d2 <;> simp only [bop] at e <;> try cases e
    split at e
    · rename_i hl
      rw [Bool.and_eq_true, Bool.and_eq_true, decide_eq_true_eq, decide_eq_true_eq, decide_eq_true_eq] at hl
      cases e
      exact ⟨_, _, r1.int, r2.int, ⟨hl.1.1, by omega, hl.2⟩, k _ H (fun _ _ h => h) (.int _)⟩
    · cases e
  | shr =>
    cases d1 <;> cases d2 <;> simp only [bop] at e <;> try cases e
    split at e
    · rename_i hl
      cases e
      exact ⟨_, _, r1.int, r2.int, of_decide_eq_true hl, k _ H (fun _ _ h => h) (.int _)⟩
    · cases e
  | pow =>
    cases d1 <;> cases d2 <;> simp only [bop] at e <;> try cases e
    split at e
    · rename_i hl
      rw [Bool.and_eq_true, Bool.and_eq_true, decide_eq_true_eq, decide_eq_true_eq, decide_eq_true_eq] at hl
      cases e
      exact ⟨_, _, r1.int, r2.int, ⟨hl.1.1, by omega, hl.2⟩, k _ H (fun _ _ h => h) (.int _)⟩
    · cases e
end Pv

set_option Elab.async false
set_option linter.all false
set_option maxRecDepth 100000
set_option maxHeartbeats 4000000
/-! Pv4: keys and dicts, comparisons, subscripts, slices. -/
namespace Pv
open PySem PySem.Spec PyProof.Rows L2

section
variable {T : Nat → Str} {K : PySem.W.Frag} {wa : Option Addr} {H hH : Hp}
/-! ### keys -/
theorem isK_key : ∀ {k : D}, isK k = true → ∃ q, keyOf T k = some q
  | .int i, _ => ⟨_, rfl⟩
  | .str n, h => ⟨.inr (T n), by simp only [keyOf]; exact if_pos (of_decide_eq_true h)⟩
  | .non, h | .bl _, h | .tup _, h | .lst _, h | .dic _ _, h | .scr _, h | .wd, h => by simp [isK] at h
theorem key_rep {k : D} {q : Key} {v : V} (h : keyOf T k = some q) (r : RepB T K wa hH H k v) : v = kV q := by
  cases k <;> simp only [keyOf] at h <;> try cases h
  · exact r.int
  · split at h
    · cases h; exact r.str
    · cases h
theorem keq_key (hT : TOk T) {k x : D} {p q : Key} (hk : keyOf T k = some p) (hx : keyOf T x = some q) : keq k x = decide (p = q) := by
  cases k <;> simp only [keyOf] at hk <;> try cases hk
  · cases x <;> simp only [keyOf] at hx <;> try cases hx
    · rename_i i j
      simp only [keq]
      by_cases e : i = j
      · subst e; simp
      · simp [e]
    · split at hx
      · cases hx; simp [keq]
      · cases hx
  · split at hk
    · rename_i i hi
      cases hk
      cases x <;> simp only [keyOf] at hx <;> try cases hx
      · simp [keq]
      · split at hx
        · rename_i j hj
          cases hx
          simp only [keq]
          by_cases e : i = j
          · subst e; simp
          · have : T i ≠ T j := fun z => e (hT.inj _ _ hi hj z)
            simp [e, this]
        · cases hx
    · cases hk
theorem dget_ok (hT : TOk T) {x : D} {q : Key} (hx : keyOf T x = some q) : ∀ {ks ds : List D} {kvs : List (Key × V)}, ks.map (keyOf T) = kvs.map (fun p => some p.1) → Reps T K wa H ds (kvs.map (·.2)) →
    (∀ d, dget ks ds x = some d → ∃ v, valV kvs q = some v ∧ Rep T K wa H d v) ∧ (dget ks ds x = none → valV kvs q = none)
  | [], _, [], _, _ => ⟨fun d h => by simp [dget] at h, fun _ => rfl⟩
  | [], _, _ :: _, h, _ => by simp at h
  | _ :: _, _, [], h, _ => by simp at h
  | k :: ks, ds, p :: kvs, h, r => by
    simp only [List.map_cons, List.cons.injEq] at h
    cases r with
    | cons r t =>
      have ih := dget_ok hT hx h.2 t
      have e := keq_key hT h.1 hx
      by_cases c : p.1 = q
      · rw [decide_eq_true c] at e
        simp only [dget, e, if_true]
        refine ⟨fun d h => ?_, fun h => by cases h⟩
        cases h
        exact ⟨p.2, valV_pos c, r⟩
      · rw [decide_eq_false c] at e
        simp only [dget, e]
        rw [valV_neg c]
        exact ih
theorem has_any (hT : TOk T) {x : D} {q : Key} (hx : keyOf T x = some q) : ∀ {ks : List D} {kvs : List (Key × V)}, ks.map (keyOf T) = kvs.map (fun p => some p.1) →
    has ks x = kvs.any fun kv => decide (kv.1 = q)
  | [], [], _ => rfl
  | [], _ :: _, h => by simp at h
  | _ :: _, [], h => by simp at h
  | k :: ks, p :: kvs, h => by
    simp only [List.map_cons, List.cons.injEq] at h
    have ih := has_any hT hx h.2
    have e := keq_key hT h.1 hx
    unfold has at ih ⊢
    rw [List.any_cons, List.any_cons, e, ih]
theorem repl_ok (hT : TOk T) {x y : D} {v : V} {q : Key} (hx : keyOf T x = some q) (ry : Rep T K wa H y v) : ∀ {ks ds : List D} {kvs : List (Key × V)}, ks.map (keyOf T) = kvs.map (fun p => some p.1) → Reps T K wa H ds (kvs.map (·.2)) →
    Reps T K wa H (repl ks ds x y) ((kvs.map (fun kv => if kv.1 = q then (kv.1, v) else kv)).map (·.2))
  | [], _, [], _, r => by simpa [repl] using r
  | [], _, _ :: _, h, _ => by simp at h
  | _ :: _, _, [], h, _ => by simp at h
  | k :: ks, ds, p :: kvs, h, r => by
    simp only [List.map_cons, List.cons.injEq] at h
    cases r with
    | cons r t =>
      have ih := repl_ok hT hx ry h.2 t
      have e := keq_key hT h.1 hx
      simp only [repl, List.map_cons]
      refine .cons ?_ ih
      by_cases c : p.1 = q
      · rw [e, decide_eq_true c, if_pos rfl, if_pos c]; exact ry
      · rw [e, decide_eq_false c, if_neg (by decide), if_neg c]; exact r
theorem put_ok (hT : TOk T) {x y : D} {v : V} {q : Key} (hx : keyOf T x = some q) (ry : Rep T K wa H y v) {ks ds : List D} {kvs : List (Key × V)} (h : ks.map (keyOf T) = kvs.map (fun p => some p.1)) (r : Reps T K wa H ds (kvs.map (·.2))) :
    (dputK ks x).map (keyOf T) = (putK kvs q v).map (fun p => some p.1) ∧ Reps T K wa H (dputV ks ds x y) ((putK kvs q v).map (·.2)) := by
  have e := has_any hT hx h
  unfold dputK dputV putK
  by_cases c : (kvs.any fun kv => decide (kv.1 = q)) = true
  · rw [e, if_pos c, if_pos c, if_pos c]
    refine ⟨?_, repl_ok hT hx ry h r⟩
    rw [h, List.map_map]
    refine List.map_congr_left fun p _ => ?_
    show some p.1 = some (if p.1 = q then (p.1, v) else p).1
    split <;> rfl
  · rw [e, if_neg c, if_neg c, if_neg c]
    refine ⟨?_, ?_⟩
    · rw [List.map_append, List.map_append, h, List.map_singleton, List.map_singleton, hx]
    · rw [List.map_append]
      exact r.app (.cons ry .nil)
theorem dput_len (ks : List D) (x : D) : (dputK ks x).length ≤ ks.length + 1 := by
  unfold dputK
  split
  · exact Nat.le_succ _
  · simp
/-! ### flat values -/
theorem flat_rep {d : D} {v : V} (r : RepB T K wa hH H d v) (f : isFlat d = true) : flatV v = true := by
  cases d <;> simp only [isFlat] at f <;> try cases f
  · rw [r.non]; rfl
  · rw [r.bl]; rfl
  · rw [r.int]; rfl
  · rw [r.str]; rfl
theorem flat_eq (hT : TOk T) {wa' : Option Addr} {hH' H' : Hp} {d e : D} {v u : V} (r : RepB T K wa hH H d v) (r' : RepB T K wa' hH' H' e u) (f : isFlat d = true) (f' : isFlat e = true) : eqV v u = deq d e := by
  cases d <;> simp only [isFlat] at f <;> try cases f
  all_goals (cases e <;> simp only [isFlat] at f' <;> try cases f')
  all_goals first
    | rw [r.non, r'.non] | rw [r.non, r'.bl] | rw [r.non, r'.int] | rw [r.non, r'.str]
    | rw [r.bl, r'.non] | rw [r.bl, r'.bl] | rw [r.bl, r'.int] | rw [r.bl, r'.str]
    | rw [r.int, r'.non] | rw [r.int, r'.bl] | rw [r.int, r'.int] | rw [r.int, r'.str]
    | rw [r.str, r'.non] | rw [r.str, r'.bl] | rw [r.str, r'.int] | rw [r.str, r'.str]
  all_goals simp only [eqV, deq]
  · exact Bool.beq_eq_decide_eq _ _
  · rename_i i j
    simp only [decide_eq_true_eq] at f f'
    by_cases c : i = j
    · subst c; simp
    · have : T i ≠ T j := fun z => c (hT.inj _ _ f f' z)
      simp [c, this]
theorem flat_in (hT : TOk T) {x : D} {v : V} (rx : RepB T K wa hH H x v) (fx : isFlat x = true) : ∀ {ys : List D} {us : List V}, Reps T K wa H ys us → ys.all isFlat = true →
    us.all flatV = true ∧ inV v us = ys.any fun y => deq y x
  | _, _, .nil, _ => ⟨rfl, rfl⟩
  | y :: ys, u :: us, .cons r t, f => by
    rw [List.all_cons, Bool.and_eq_true] at f
    have ih := flat_in hT rx fx t f.2
    have r' : RepB T K wa H H y u := .inl r
    refine ⟨?_, ?_⟩
    · rw [List.all_cons, flat_rep r' f.1, ih.1]; rfl
    · have h2 := ih.2
      unfold inV at h2 ⊢
      rw [List.any_cons, List.any_cons, flat_eq hT r' rx f.1 fx, h2]
end

/-! ### comparisons -/
def copO : Cop → CmpOp
  | .eq => .Eq | .ne => .NotEq | .lt => .Lt | .le => .LtE | .gt => .Gt | .ge => .GtE | .isN => .Is | .notN => .IsNot | .isB => .Is | .notB => .IsNot | .isin => .In | .notin => .NotIn
def rDI (neg : Bool) : R2 := fun x y H Q => ∃ a o, y = .ref a ∧ DGet H a x o ∧ Q (.bl (if neg then !o.isSome else o.isSome)) H
theorem op_dI {X : Cx} (hu : X.A.units + 1 < cLine) : OpR X (compareOp .In) (rDI false) := by
  intro pins s σ H x y v u Q I rx ry h
  obtain ⟨a, o, rfl, g, q⟩ := h
  cases ry
  exact d_in hu I g rx fun s' I' => ⟨.bl o.isSome, H, I', rfl, q⟩
theorem op_dNI {X : Cx} (hu : X.A.units + 1 < cLine) : OpR X (compareOp .NotIn) (rDI true) := by
  intro pins s σ H x y v u Q I rx ry h
  obtain ⟨a, o, rfl, g, q⟩ := h
  cases ry
  exact d_notIn hu I g rx fun s' I' => ⟨.bl (!o.isSome), H, I', rfl, q⟩
def copR (K : PySem.W.Frag) : Cop → R2
  | .eq => rEqD K
  | .ne => rNeD K
  | .lt => rI0 fun i j => .bl (decide (i < j))
  | .le => rI0 fun i j => .bl (decide (i ≤ j))
  | .gt => rI0 fun i j => .bl (decide (j < i))
  | .ge => rI0 fun i j => .bl (decide (j ≤ i))
  | .isN => rIsB
  | .notN => rNotB
  | .isB => rIsB
  | .notB => rNotB
  | .isin => fun x y H Q => (rIn K false x y H Q ∨ rDI false x y H Q) ∨ rInD K x y H Q
  | .notin => fun x y H Q => (rIn K true x y H Q ∨ rDI true x y H Q) ∨ rNotInD K x y H Q
theorem cop_opr {X : Cx} (hu : X.A.units + 65 < cLine) : ∀ o : Cop, OpR X (compareOp (copO o)) (copR X.K o)
  | .eq => op_eqD (by omega)
  | .ne => op_neD (by omega)
  | .lt => op_lt
  | .le => op_le
  | .gt => op_gt
  | .ge => op_ge
  | .isN => op_isBl
  | .notN => op_notBl
  | .isB => op_isBl
  | .notB => op_notBl
  | .isin => OpR.or (OpR.or op_in_seq (op_dI (by omega))) (op_inD hu)
  | .notin => OpR.or (OpR.or op_notIn_seq (op_dNI (by omega))) (op_notInD hu)
def copD (o : Cop) (x y : D) : Option D := match cop o x y with
  | none => none
  | some z => some (.bl z)
theorem dget_of {T : Nat → Str} (hT : TOk T) {K : PySem.W.Frag} {wa : Option Addr} {H hH : Hp} {x : D} {v : V} {a : Addr} {ks ds : List D} {kvs : List (Key × V)} (rx : RepB T K wa hH H x v) (k : isK x = true) (h : H a = some (.dK kvs))
    (hk : ks.map (keyOf T) = kvs.map (fun p => some p.1)) (r : Reps T K wa hH ds (kvs.map (·.2))) :
    ∃ o, DGet H a v o ∧ (∀ d, dget ks ds x = some d → ∃ u, o = some u ∧ Rep T K wa hH d u) ∧ (dget ks ds x = none → o = none) ∧ o.isSome = has ks x := by
  obtain ⟨q, hq⟩ := isK_key (T := T) k
  have ev := key_rep hq rx
  subst ev
  have h1 := dget_ok hT hq hk r
  refine ⟨_, DGet.k h, h1.1, h1.2, ?_⟩
  rw [← valV_any, has_any hT hq hk]
theorem any_py {T : Nat → Str} (hT : TOk T) {x : D} (hx : okq x 64 = true) : ∀ {ys : List D}, okqs ys 63 = true → ((toPys T ys).any fun z => PyData.eqv z (toPy T x)) = ys.any fun y => deq y x
  | [], _ => by simp [toPys]
  | y :: ys, h => by
    simp only [okqs, Bool.and_eq_true] at h
    simp only [toPys, List.any_cons, deq_py hT y x _ _ h.1 hx, any_py hT hx h.2]
theorem cop_ok {T : Nat → Str} (hT : TOk T) {K : PySem.W.Frag} (o : Cop) : ROk T K (copR K o) (fun _ => copD o) := by
  intro O wa env ω ws σ H x y d1 d2 z Q st r1 r2 e k
  dsimp only [copD] at e
  split at e
  · cases e
  rename_i b eb
  cases e
  cases o with
  | eq =>
    simp only [cop] at eb
    split at eb
    · rename_i hl
      rw [Bool.and_eq_true] at hl
      cases eb
      refine ⟨_, _, dp_of r1.rep hl.1, dp_of r2.rep hl.2, shaped_of hT hl.1, shaped_of hT hl.2, ?_⟩
      rw [deq_py hT _ _ _ _ hl.1 hl.2]
      exact k _ H (fun _ _ h => h) (.bl _)
    · cases eb
  | ne =>
    simp only [cop] at eb
    split at eb
    · rename_i hl
      rw [Bool.and_eq_true] at hl
      cases eb
      refine ⟨_, _, dp_of r1.rep hl.1, dp_of r2.rep hl.2, shaped_of hT hl.1, shaped_of hT hl.2, ?_⟩
      rw [deq_py hT _ _ _ _ hl.1 hl.2]
      exact k _ H (fun _ _ h => h) (.bl _)
    · cases eb
  | lt =>
    cases d1 <;> cases d2 <;> simp only [cop] at eb <;> cases eb
    exact ⟨_, _, r1.int, r2.int, k _ H (fun _ _ h => h) (.bl _)⟩
  | le =>
    cases d1 <;> cases d2 <;> simp only [cop] at eb <;> cases eb
    exact ⟨_, _, r1.int, r2.int, k _ H (fun _ _ h => h) (.bl _)⟩
  | gt =>
    cases d1 <;> cases d2 <;> simp only [cop] at eb <;> cases eb
    exact ⟨_, _, r1.int, r2.int, k _ H (fun _ _ h => h) (.bl _)⟩
  | ge =>
    cases d1 <;> cases d2 <;> simp only [cop] at eb <;> cases eb
    exact ⟨_, _, r1.int, r2.int, k _ H (fun _ _ h => h) (.bl _)⟩
  | isN => simp [cop] at eb
  | notN => simp [cop] at eb
  | isB =>
    cases d1 <;> cases d2 <;> simp only [cop] at eb <;> cases eb
    exact ⟨_, _, r1.bl, r2.bl, k _ H (fun _ _ h => h) (.bl _)⟩
  | notB =>
    cases d1 <;> cases d2 <;> simp only [cop] at eb <;> cases eb
    exact ⟨_, _, r1.bl, r2.bl, k _ H (fun _ _ h => h) (.bl _)⟩
  | isin =>
    cases d2 <;> simp only [cop] at eb <;> try cases eb
    · split at eb
      · rename_i hl
        rw [Bool.and_eq_true] at hl
        cases eb
        obtain ⟨a, us, rfl, h1, h1', q1⟩ := r2.tup
        have h3 := flat_in hT (.inl r1.rep) hl.1 (q1.mono hid_le) hl.2
        refine .inl (.inl ⟨a, us, rfl, .inr h1, flat_rep r1 hl.1, h3.1, ?_⟩)
        rw [if_neg (by decide), h3.2]
        exact k _ H (fun _ _ h => h) (.bl _)
      · cases eb
    · split at eb
      · rename_i hl
        rw [Bool.and_eq_true] at hl
        cases eb
        obtain ⟨a, us, rfl, h1, q1⟩ := r2.lst
        have h3 := flat_in hT (.inl r1.rep) hl.1 (q1.mono hid_le) hl.2
        refine .inl (.inl ⟨a, us, rfl, .inl (.inl (.inl h1)), flat_rep r1 hl.1, h3.1, ?_⟩)
        rw [if_neg (by decide), h3.2]
        exact k _ H (fun _ _ h => h) (.bl _)
      · split at eb
        · rename_i hl
          rw [Bool.and_eq_true] at hl
          cases eb
          have o2 : okq (.lst _) 64 = true := hl.2
          refine .inr ⟨_, _, dp_of r1.rep hl.1, (by have := dp_of (T := T) r2.rep o2; simp only [toPy] at this; exact this), shaped_of hT hl.1, (by have := shaped_of hT o2; simp only [toPy] at this; exact this), ?_⟩
          rw [any_py hT hl.1 hl.2]
          exact k _ H (fun _ _ h => h) (.bl _)
        · cases eb
    · split at eb
      · rename_i hl
        cases eb
        obtain ⟨a, kvs, rfl, h1, h2, q1⟩ := r2.dic
        obtain ⟨o, g, _, _, h5⟩ := dget_of hT r1 hl h1 h2 q1
        refine .inl (.inr ⟨a, o, rfl, g, ?_⟩)
        rw [if_neg (by decide), h5]
        exact k _ H (fun _ _ h => h) (.bl _)
      · cases eb
  | notin =>
    cases d2 <;> simp only [cop] at eb <;> try cases eb
    · split at eb
      · rename_i hl
        rw [Bool.and_eq_true] at hl
        cases eb
        obtain ⟨a, us, rfl, h1, h1', q1⟩ := r2.tup
        have h3 := flat_in hT (.inl r1.rep) hl.1 (q1.mono hid_le) hl.2
        refine .inl (.inl ⟨a, us, rfl, .inr h1, flat_rep r1 hl.1, h3.1, ?_⟩)
        rw [if_pos rfl, h3.2]
        exact k _ H (fun _ _ h => h) (.bl _)
      · cases eb
    · split at eb
      · rename_i hl
        rw [Bool.and_eq_true] at hl
        cases eb
        obtain ⟨a, us, rfl, h1, q1⟩ := r2.lst
        have h3 := flat_in hT (.inl r1.rep) hl.1 (q1.mono hid_le) hl.2
        refine .inl (.inl ⟨a, us, rfl, .inl (.inl (.inl h1)), flat_rep r1 hl.1, h3.1, ?_⟩)
        rw [if_pos rfl, h3.2]
        exact k _ H (fun _ _ h => h) (.bl _)
      · split at eb
        · rename_i hl
          rw [Bool.and_eq_true] at hl
          cases eb
          have o2 : okq (.lst _) 64 = true := hl.2
          refine .inr ⟨_, _, dp_of r1.rep hl.1, (by have := dp_of (T := T) r2.rep o2; simp only [toPy] at this; exact this), shaped_of hT hl.1, (by have := shaped_of hT o2; simp only [toPy] at this; exact this), ?_⟩
          rw [any_py hT hl.1 hl.2]
          exact k _ H (fun _ _ h => h) (.bl _)
        · cases eb
    · split at eb
      · rename_i hl
        cases eb
        obtain ⟨a, kvs, rfl, h1, h2, q1⟩ := r2.dic
        obtain ⟨o, g, _, _, h5⟩ := dget_of hT r1 hl h1 h2 q1
        refine .inl (.inr ⟨a, o, rfl, g, ?_⟩)
        rw [if_pos rfl, h5]
        exact k _ H (fun _ _ h => h) (.bl _)
      · cases eb

/-! ### is None -/
theorem isNone_rep {T : Nat → Str} {K : PySem.W.Frag} {wa : Option Addr} {hH H : Hp} {d : D} {v : V} (r : RepB T K wa hH H d v) : decide (v = V.non) = isNone d := by
  rcases r with r | ⟨a, rfl, _, _⟩
  · cases r <;> rfl
  · cases d <;> first | rfl | (rename_i h; exact h.elim)

/-! ### subscripts -/
def ixR (K : PySem.W.Frag) : R2 := fun x y H Q => rIxL K x y H Q ∨ rIxT K x y H Q
theorem ix_okr {X : Cx} : IxR X (ixR X.K) := IxR.or ix_list ix_tup
def ixS : D → D → Option D
  | .tup xs, .int i => atD xs i
  | .lst xs, .int i => atD xs i
  | .scr ns, .int i => (L2.atI ns i).map .int
  | _, _ => none
theorem at_rep {T : Nat → Str} {K : PySem.W.Frag} {wa : Option Addr} {H : Hp} {ds : List D} {vs : List V} {i : Int} {d : D} (r : Reps T K wa H ds vs) (h : atD ds i = some d) : ∃ v, atI vs i = some v ∧ Rep T K wa H d v := by
  unfold atD atI at h
  cases e : ixN ds.length i with
  | none => rw [e] at h; cases h
  | some j =>
    rw [e] at h
    obtain ⟨v, h1, h2⟩ := r.get (i := j) h
    refine ⟨v, ?_, h2⟩
    unfold atI
    rw [← r.len, e]
    exact h1
theorem ix_ok {T : Nat → Str} {K : PySem.W.Frag} : ROk T K (ixR K) (fun _ => ixS) := by
  intro O wa env ω ws σ H x y d1 d2 z Q st r1 r2 e k
  dsimp only at e
  unfold ixS at e
  split at e
  · obtain ⟨a, us, rfl, h1, h1', q1⟩ := r1.tup
    obtain ⟨v, h2, h3⟩ := at_rep q1 e
    exact .inr ⟨a, us, _, v, rfl, r2.int, h1, h2, k v H (fun _ _ h => h) h3⟩
  · obtain ⟨a, us, rfl, h1, q1⟩ := r1.lst
    obtain ⟨v, h2, h3⟩ := at_rep q1 e
    exact .inl ⟨a, us, _, v, rfl, r2.int, .inl (.inl h1), h2, k v H (fun _ _ h => h) h3⟩
  · rename_i ns i
    obtain ⟨a, rfl, h1⟩ := r1.scr
    obtain ⟨n, h2, rfl⟩ := Option.map_eq_some_iff.mp e
    refine .inl ⟨a, _, _, .int n, rfl, r2.int, h1, ?_, k _ H (fun _ _ h => h) (.int n)⟩
    unfold atI at h2 ⊢
    rw [List.length_map]
    cases c : ixN ns.length i with
    | none => rw [c] at h2; cases h2
    | some j =>
      rw [c] at h2
      show (ns.map V.int)[j]? = some (V.int n)
      rw [List.getElem?_map, show ns[j]? = some n from h2]
      rfl
  · cases e
def rDG : R2 := fun x y H Q => ∃ a v, x = .ref a ∧ DGet H a y (some v) ∧ Q v H
def ixG (ws : WS) : D → D → Option D
  | .dic ks vs, k => if isK k then dget ks vs k else none
  | .wd, .str k => match ws with
    | some kvs => wg kvs k
    | none => none
  | _, _ => none
theorem wg_ok {T : Nat → Str} (hT : TOk T) {K : PySem.W.Frag} {wa : Option Addr} {H : Hp} {n : Nat} {d : D} (hn : n < 512) : ∀ {kvs : List (Nat × D)} {kv' : List (Key × V)}, kvs.map (fun p => (Sum.inr (T p.1) : Key)) = kv'.map (·.1) → (∀ p ∈ kvs, p.1 < 512) →
    Reps T K wa H (kvs.map (·.2)) (kv'.map (·.2)) → wg kvs n = some d → ∃ v, valV kv' (Sum.inr (T n)) = some v ∧ Rep T K wa H d v
  | [], _, _, _, _, h => by simp [wg] at h
  | _ :: _, [], h, _, _, _ => by simp at h
  | p :: kvs, q :: kv', h, hm, r, e => by
    simp only [List.map_cons, List.cons.injEq] at h
    cases r with
    | cons r t =>
      simp only [wg] at e
      split at e
      · rename_i c
        cases e
        exact ⟨q.2, valV_pos (by rw [← h.1, c]), r⟩
      · rename_i c
        have ne : ¬ q.1 = Sum.inr (T n) := fun z => by
          rw [← h.1] at z
          exact c (hT.inj _ _ (hm p List.mem_cons_self) hn (Sum.inr.inj z))
        rw [valV_neg ne]
        exact wg_ok hT hn h.2 (fun x hx => hm x (List.mem_cons_of_mem _ hx)) t e
theorem wg_mem : ∀ {kvs : List (Nat × D)} {n : Nat} {d : D}, wg kvs n = some d → ∃ p ∈ kvs, p.1 = n
  | [], _, _, h => by simp [wg] at h
  | p :: r, n, d, h => by
    simp only [wg] at h
    split at h
    · rename_i c; exact ⟨p, List.mem_cons_self, c⟩
    · obtain ⟨q, h1, h2⟩ := wg_mem h
      exact ⟨q, List.mem_cons_of_mem _ h1, h2⟩
theorem ixG_ok {T : Nat → Str} (hT : TOk T) {K : PySem.W.Frag} : ROk T K rDG ixG := by
  intro O wa env ω ws σ H x y d1 d2 z Q st r1 r2 e k
  unfold ixG at e
  split at e
  · split at e
    · rename_i hl
      obtain ⟨a, kvs, rfl, h1, h2, q1⟩ := r1.dic
      obtain ⟨o, g, h3, _, _⟩ := dget_of hT r2 hl h1 h2 q1
      obtain ⟨u, rfl, h4⟩ := h3 _ e
      exact ⟨a, u, rfl, g, k u H (fun _ _ h => h) h4⟩
    · cases e
  · split at e
    · rename_i kvs
      obtain ⟨a, rfl, ea⟩ := r1.wd
      have w := st.wsr
      subst ea
      obtain ⟨kv', h1, h2, h3, h4⟩ := w
      obtain ⟨p, hp, ep⟩ := wg_mem e
      obtain ⟨v, h5, h6⟩ := wg_ok hT (by rw [← ep]; exact h3 p hp) h2 h3 h4 e
      refine ⟨a, v, rfl, ?_, k v H (fun _ _ h => h) h6⟩
      rw [r2.str, ← h5]
      exact DGet.k (k := Sum.inr _) h1
    · cases e
  · cases e
end Pv

set_option Elab.async false
set_option linter.all false
set_option maxRecDepth 100000
set_option maxHeartbeats 4000000
/-! Pv5: slices, calls of built-ins, displays, arguments, tests. -/
namespace Pv
open PySem PySem.Spec PyProof.Rows L2

/-! ### slices -/
def tP (T : Nat → Str) (K : PySem.W.Frag) (n : Bool) (f : EvF) : TO := fun σ H Q => ∃ O wa env ω ws d o ws', StR T K O wa env ω ws σ H ∧ f env ws = some (d, ws') ∧ bnd n d = some o ∧
  ∀ H', StR T K O wa env ω ws' σ H' → Stp wa H H' → Q o H'
def sl3 (fa fl fh : EvF) (n1 n2 : Bool) : EvF := fun env ws => match fa env ws with
  | none => none
  | some (x, ws1) => match fl env ws1 with
    | none => none
    | some (l, ws2) => match fh env ws2 with
      | none => none
      | some (h, ws3) => match bnd n1 l with
        | none => none
        | some lo' => match bnd n2 h with
          | none => none
          | some hi' => match slD x lo' hi' with
            | none => none
            | some z => some (z, ws3)
section
variable {T : Nat → Str} {X : Cx} {e a b c : Expr} {fa fb fc fl fh : EvF} {pos p2 : Pos} {lo hi : Option Expr} {n1 n2 : Bool}
theorem PO.mono {e : Option Expr} {t t' : TO} (h : PO X e t) (m : ∀ σ H Q, t' σ H Q → t σ H Q) : PO X e t' := ⟨fun pins s σ H Q I q => h.run pins s σ H Q I (m σ H Q q)⟩
theorem po_n : PO X none (tP T X.K true fun _ ws => some (.non, ws)) :=
  PO.mono po_none fun σ H Q ⟨O, wa, env, ω, ws, d, o, ws', st, hf, hb, k⟩ => by
    cases hf
    cases hb
    exact k H st (Stp.refl _ _)
theorem po_s (h : PE X e (tE T X.K fa)) : PO X (some e) (tP T X.K false fa) :=
  PO.mono (po_some h) fun σ H Q ⟨O, wa, env, ω, ws, d, o, ws', st, hf, hb, k⟩ => by
    refine ⟨O, wa, env, ω, ws, d, ws', st, hf, fun v H' st' sp r => ?_⟩
    cases d <;> simp only [bnd] at hb <;> cases hb
    cases r
    exact ⟨_, rfl, k H' st' sp⟩
def slR (K : PySem.W.Frag) : V → Option Int → Option Int → Hp → VK → Prop := fun x lo hi H Q => rSlL K x lo hi H Q ∨ rSlP K x lo hi H Q
theorem cut_whole {xs : List V} {lo hi : Option Int} (h : HT.sIx xs.length 0 lo = 0 ∧ HT.sIx xs.length xs.length hi = xs.length) : cutV xs lo hi = xs := by
  unfold cutV
  rw [h.1, h.2, List.drop_zero, Nat.sub_zero, List.take_length]
theorem pe_slc (ha : PE X a (tB T X.K fa)) (hl : PO X lo (tP T X.K n1 fl)) (hh : PO X hi (tP T X.K n2 fh)) :
    PE X (.Subscript a (.Slice lo hi none p2) pos) (tE T X.K (sl3 fa fl fh n1 n2)) :=
  PE.mono (pe_slice (SlR.or sl_list sl_tupP) ha hl hh) fun σ H Q ⟨O, wa, env, ω, ws, d, ws', st, hf, k⟩ => by
    unfold sl3 at hf
    split at hf
    · cases hf
    rename_i x ws1 e1
    split at hf
    · cases hf
    rename_i l ws2 e2
    split at hf
    · cases hf
    rename_i h ws3 e3
    split at hf
    · cases hf
    rename_i lo' e4
    split at hf
    · cases hf
    rename_i hi' e5
    split at hf
    · cases hf
    rename_i z e6
    cases hf
    refine ⟨O, wa, env, ω, ws, x, _, st, e1, fun v1 H1 st1 sp1 r1 => ?_⟩
    refine ⟨O, wa, env, ω, _, l, lo', _, st1, e2, e4, fun H2 st2 sp2 => ?_⟩
    refine ⟨O, wa, env, ω, _, h, hi', _, st2, e3, e5, fun H3 st3 sp3 => ?_⟩
    have r3 := r1.mono (sp2.trans sp3)
    have sp := (sp1.trans sp2).trans sp3
    cases x <;> simp only [slD] at e6 <;> cases e6
    · obtain ⟨p, vs, rfl, h1, h1', q1⟩ := r3.tup
      refine .inr ⟨p, vs, rfl, h1, fun hw => ?_, fun hw p o n nd => ?_⟩
      · refine k _ H3 st3 sp (.tup (vs := vs) h1' ?_)
        have := q1.cut lo' hi'
        rw [cut_whole hw] at this
        exact this
      · exact k _ _ (st3.grow (new_same n)) (sp.trans (Stp.of (new_same n))) (.tup (.inl ⟨o, hid_new st3 n, nd⟩) ((q1.cut _ _).mono (hid_newS st3 n)))
    · obtain ⟨p, vs, rfl, h1, q1⟩ := r3.lst
      refine .inl ⟨p, vs, rfl, .inl (.inl h1), fun p n => ?_⟩
      exact k _ _ (st3.grow (new_same n)) (sp.trans (Stp.of (new_same n))) (.lst (hid_new st3 n) ((q1.cut _ _).mono (hid_newS st3 n)))
end

/-! ### no star -/
def noStar : Expr → Bool
  | .Starred .. => false
  | _ => true
theorem star_cons {e : Expr} (h : noStar e = true) (es : List Expr) (env : PySem.Env) : starEach (e :: es) env = (false, eval e env) :: starEach es env := by
  cases e <;> first | rfl | (simp [noStar] at h)
theorem star_any {pos : Pos} (env : PySem.Env) : ∀ {es : List Expr}, es.all noStar = true → (backTo pos (starEach es env)).any (·.1) = false
  | [], _ => rfl
  | e :: es, h => by
    rw [List.all_cons, Bool.and_eq_true] at h
    rw [star_cons h.1]
    exact star_any env h.2

/-! ### built-ins of one argument -/
section
variable {T : Nat → Str} {X : Cx} {e a b c : Expr} {fa fb fc fl fh : EvF} {pos p2 p : Pos}
theorem ht_b {id : String} {x : Str} {r : List V → Hp → VK → Prop} (hc : CallR X (.builtin id) r) (hg : Gl X x) (hm : X.mg x = none) (hv : bootBuiltins x = some (.builtin id)) (hn : x ≠ "__name__") (hdb : (x == ("__debug__" : Str)) = false) (hs : noStar a = true) :
    ∀ ta, PE X a ta → PE X (.Call (.Name x p) [a] [] pos) (tUn (fun x H Q => r [x] H Q) ta) := fun ta ha =>
  pe_callB hc hg hm hv (pa_cons ha pa_nil (star_cons hs _ _)) hn hdb (star_cons hs _ _)
theorem ht_t {id : String} {x : Str} {r : List V → Hp → VK → Prop} (hc : CallR X (.type id) r) (hg : Gl X x) (hm : X.mg x = none) (hv : bootBuiltins x = some (.type id)) (hn : x ≠ "__name__") (hdb : (x == ("__debug__" : Str)) = false) (hs : noStar a = true) :
    ∀ ta, PE X a ta → PE X (.Call (.Name x p) [a] [] pos) (tUn (fun x H Q => r [x] H Q) ta) := fun ta ha =>
  pe_callTy hc hg hm hv (pa_cons ha pa_nil (star_cons hs _ _)) hn hdb (star_cons hs _ _)
theorem ht_b2 {id : String} {x : Str} {r : List V → Hp → VK → Prop} (hc : CallR X (.builtin id) r) (hg : Gl X x) (hm : X.mg x = none) (hv : bootBuiltins x = some (.builtin id)) (hn : x ≠ "__name__") (hdb : (x == ("__debug__" : Str)) = false) (hs : noStar a = true) (hs2 : noStar b = true) :
    ∀ ta tb, PE X a ta → PE X b tb → PE X (.Call (.Name x p) [a, b] [] pos) (tOp (fun x y H Q => r [x, y] H Q) ta tb) := fun ta tb ha hb =>
  pe_callB hc hg hm hv (pa_cons ha (pa_cons hb pa_nil (star_cons hs2 _ _)) (star_cons hs _ _)) hn hdb (star_cons hs _ _) (star_any _ (by rw [List.all_cons, hs2]; rfl))
end
/-! #### what they give -/
section
variable {T : Nat → Str} {K : PySem.W.Frag}
def lenR (K : PySem.W.Frag) : List V → Hp → VK → Prop := fun xs H Q => (∃ x n, xs = [x] ∧ LenV K x H n ∧ Q (.int n) H) ∨ (∃ a kvs, xs = [V.ref a] ∧ H a = some (.dK kvs) ∧ Q (.int kvs.length) H)
theorem len_okr {X : Cx} : CallR X (.builtin "len") (lenR X.K) := CallR.or call_len call_lenD
theorem len_okU : UOk T K (fun x H Q => lenR K [x] H Q) (bf1 .len) := by
  intro O wa env ω ws σ H x d1 z Q st r e k
  cases d1 <;> simp only [bf1] at e <;> cases e
  · obtain ⟨a, vs, rfl, h1, h1', q1⟩ := r.tup
    refine .inl ⟨_, vs.length, rfl, .inr ⟨_, h1, rfl⟩, ?_⟩
    rw [← q1.len]
    exact k _ H (fun _ _ h => h) (.int _)
  · obtain ⟨a, vs, rfl, h1, q1⟩ := r.lst
    refine .inl ⟨_, vs.length, rfl, .inl ⟨_, .inl (.inl h1), rfl⟩, ?_⟩
    rw [← q1.len]
    exact k _ H (fun _ _ h => h) (.int _)
  · obtain ⟨a, kvs, rfl, h1, h2, q1⟩ := r.dic
    refine .inr ⟨a, kvs, rfl, h1, ?_⟩
    have := congrArg List.length h2
    rw [List.length_map, List.length_map] at this
    rw [← this]
    exact k _ H (fun _ _ h => h) (.int _)
  · obtain ⟨a, rfl, h1⟩ := r.scr
    refine .inl ⟨_, _, rfl, .inl ⟨_, h1, rfl⟩, ?_⟩
    rw [List.length_map]
    exact k _ H (fun _ _ h => h) (.int _)
theorem abs_okU : UOk T K (fun x H Q => (fun xs H (Q : VK) => ∃ i, xs = [V.int i] ∧ Q (.int (if i < 0 then -i else i)) H) [x] H Q) (bf1 .abs) := by
  intro O wa env ω ws σ H x d1 z Q st r e k
  cases d1 <;> simp only [bf1] at e <;> cases e
  exact ⟨_, congrArg (fun z => [z]) r.int, k _ H (fun _ _ h => h) (.int _)⟩
theorem int_okU : UOk T K (fun x H Q => (fun xs H (Q : VK) => (∃ i, xs = [V.int i] ∧ Q (.int i) H) ∨ ∃ k, xs = [V.bl k] ∧ Q (.int (if k then 1 else 0)) H) [x] H Q) (bf1 .int) := by
  intro O wa env ω ws σ H x d1 z Q st r e k
  cases d1 <;> simp only [bf1] at e <;> cases e
  · exact .inr ⟨_, congrArg (fun z => [z]) r.bl, k _ H (fun _ _ h => h) (.int _)⟩
  · exact .inl ⟨_, congrArg (fun z => [z]) r.int, k _ H (fun _ _ h => h) (.int _)⟩
theorem tup_okU : UOk T K (fun x H Q => rTupP K [x] H Q) (bf1 .tupOf) := by
  intro O wa env ω ws σ H x d1 z Q st r e k
  cases d1 <;> simp only [bf1] at e <;> cases e
  · obtain ⟨a, vs, rfl, h1, h1', q1⟩ := r.tup
    exact ⟨a, vs, rfl, .inr ⟨h1, k _ H (fun _ _ h => h) (.tup h1' q1)⟩⟩
  · obtain ⟨a, vs, rfl, h1, q1⟩ := r.lst
    exact ⟨a, vs, rfl, .inl ⟨.inl (.inl h1), fun p o n nd => k _ _ (new_same n) (.tup (.inl ⟨o, hid_new st n, nd⟩) (q1.mono (hid_newS st n)))⟩⟩
theorem all_okU : UOk T K (fun x H Q => rAll K [x] H Q) (bf1 .all) := by
  intro O wa env ω ws σ H x d1 z Q st r e k
  cases d1 <;> simp only [bf1] at e <;> try cases e
  split at e
  · rename_i bs hb
    cases e
    obtain ⟨a, vs, rfl, h1, q1⟩ := r.lst
    have := q1.bls hb
    subst this
    exact ⟨a, bs, rfl, .inl (.inl h1), k _ H (fun _ _ h => h) (.bl _)⟩
  · cases e
theorem any_okU : UOk T K (fun x H Q => rAny K [x] H Q) (bf1 .any) := by
  intro O wa env ω ws σ H x d1 z Q st r e k
  cases d1 <;> simp only [bf1] at e <;> try cases e
  split at e
  · rename_i bs hb
    cases e
    obtain ⟨a, vs, rfl, h1, q1⟩ := r.lst
    have := q1.bls hb
    subst this
    exact ⟨a, bs, rfl, .inl (.inl h1), k _ H (fun _ _ h => h) (.bl _)⟩
  · cases e
/-- list(..) -/
def lstR (K : PySem.W.Frag) : List V → Hp → VK → Prop := fun xs H Q => (∃ p ys, xs = [.ref p] ∧ (SqL K H p ys ∨ SqT K H p ys) ∧ ∀ l, H l = none → Q (.ref l) (upd H l (.lst ys))) ∨
  (∃ (a : Addr) (kvs : List (Key × V)), xs = [.ref a] ∧ Rd H a (.dK kvs) ∧ ∀ p, H p = none → Q (.ref p) (upd H p (.lst (kvs.map fun kv => kV kv.1))))
theorem lst_okr {X : Cx} (hc : X.calm = true) : CallR X (.type "list") (lstR X.K) := CallR.or call_list_of (call_listD hc)
theorem keys_rep {wa : Option Addr} {H : Hp} : ∀ {ks : List D} {kvs : List (Key × V)}, ks.map (keyOf T) = kvs.map (fun p => some p.1) → Reps T K wa H ks (kvs.map fun kv => kV kv.1)
  | [], [], _ => .nil
  | [], _ :: _, h => by simp at h
  | _ :: _, [], h => by simp at h
  | k :: ks, p :: kvs, h => by
    simp only [List.map_cons, List.cons.injEq] at h
    refine .cons ?_ (keys_rep h.2)
    have e := h.1
    show Rep T K wa H k (kV p.1)
    cases k <;> simp only [keyOf] at e <;> try cases e
    · rw [← Option.some.inj e]; exact .int _
    · split at e
      · rw [← Option.some.inj e]; exact .str _
      · cases e
theorem lst_okF : UFOk T K (fun x H Q => lstR K [x] H Q) (bf1 .lstOf) := by
  intro O wa env ω ws σ H x d1 z Q st r e k
  cases d1 <;> simp only [bf1] at e <;> cases e
  · obtain ⟨a, vs, rfl, h1, h1', q1⟩ := r.tup
    exact .inl ⟨a, vs, rfl, .inr h1, fun p n => k p _ n ⟨vs, upd_same, q1⟩⟩
  · obtain ⟨a, vs, rfl, h1, q1⟩ := r.lst
    exact .inl ⟨a, vs, rfl, .inl (.inl (.inl h1)), fun p n => k p _ n ⟨vs, upd_same, q1⟩⟩
  · obtain ⟨a, kvs, rfl, h1, h2, q1⟩ := r.dic
    exact .inr ⟨a, kvs, rfl, .inl h1, fun p n => k p _ n ⟨_, upd_same, keys_rep h2⟩⟩
/-! sorted -/
theorem ins_perm (x : Int) : ∀ ys : List Int, (ins x ys).Perm (x :: ys)
  | [] => .refl _
  | y :: ys => by
    unfold ins
    split
    · exact .refl _
    · exact ((ins_perm x ys).cons y).trans (.swap x y ys)
theorem isort_perm : ∀ xs : List Int, (isort xs).Perm xs
  | [] => .refl _
  | x :: xs => (ins_perm x _).trans ((isort_perm xs).cons x)
theorem ins_sorted (x : Int) : ∀ {ys : List Int}, ys.Pairwise (· ≤ ·) → (ins x ys).Pairwise (· ≤ ·)
  | [], _ => by simp [ins]
  | y :: ys, h => by
    unfold ins
    rw [List.pairwise_cons] at h
    split
    · rename_i c
      refine .cons (fun z hz => ?_) (.cons h.1 h.2)
      rcases List.mem_cons.mp hz with rfl | hz
      · exact c
      · exact Int.le_trans c (h.1 z hz)
    · rename_i c
      refine .cons (fun z hz => ?_) (ins_sorted x h.2)
      rcases List.mem_cons.mp ((ins_perm x ys).mem_iff.mp hz) with rfl | hz
      · omega
      · exact h.1 z hz
theorem isort_sorted : ∀ xs : List Int, (isort xs).Pairwise (· ≤ ·)
  | [] => .nil
  | x :: xs => ins_sorted x (isort_sorted xs)
theorem sorted_one : ∀ {l1 l2 : List Int}, l1.Perm l2 → l1.Pairwise (· ≤ ·) → l2.Pairwise (· ≤ ·) → l1 = l2
  | [], l2, h, _, _ => by
    have := h.length_eq
    cases l2 with
    | nil => rfl
    | cons _ _ => simp at this
  | x :: xs, [], h, _, _ => by
    have := h.length_eq
    simp at this
  | x :: xs, y :: ys, h, s1, s2 => by
    rw [List.pairwise_cons] at s1 s2
    have hx : x ∈ y :: ys := h.mem_iff.mp List.mem_cons_self
    have hy : y ∈ x :: xs := h.mem_iff.mpr List.mem_cons_self
    have e : x = y := by
      rcases List.mem_cons.mp hx with e | hx
      · exact e
      · rcases List.mem_cons.mp hy with e | hy
        · exact e.symm
        · have h1 := s1.1 y hy
          have h2 := s2.1 x hx
          omega
    subst e
    rw [sorted_one (List.Perm.cons_inv h) s1.2 s2.2]
def srtR (K : PySem.W.Frag) : List V → Hp → VK → Prop := fun xs H Q => rSorted K xs H Q ∨ (∃ (a : Addr) (kvs : List (Key × V)) (ks : List Int), xs = [.ref a] ∧ Rd H a (.dK kvs) ∧ kvs.map (·.1) = ks.map Sum.inl ∧ ks.length < 64 ∧
  ∀ (ys : List Int) (p : Addr), ys.Perm ks → ys.Pairwise (· ≤ ·) → H p = none → Q (.ref p) (upd H p (.lst (ys.map V.int))))
theorem srt_okr {X : Cx} (hc : X.calm = true) : CallR X (.builtin "sorted") (srtR X.K) := CallR.or cr_sorted (call_sortedDI hc)
theorem keys_ints : ∀ {ks : List D} {kvs : List (Key × V)} {ns : List Int}, ks.map (keyOf T) = kvs.map (fun p => some p.1) → intsOf ks = some ns → kvs.map (·.1) = ns.map Sum.inl
  | [], [], ns, _, e => by simp [intsOf] at e; subst e; rfl
  | [], _ :: _, _, h, _ => by simp at h
  | _ :: _, [], _, h, _ => by simp at h
  | k :: ks, p :: kvs, ns, h, e => by
    simp only [List.map_cons, List.cons.injEq] at h
    cases k <;> simp only [intsOf] at e <;> try cases e
    split at e
    · rename_i i is hi
      cases e
      have := h.1
      simp only [keyOf] at this
      rw [List.map_cons, List.map_cons, ← Option.some.inj this, keys_ints h.2 hi]
    · cases e
theorem srt_okF : UFOk T K (fun x H Q => srtR K [x] H Q) (bf1 .sorted) := by
  intro O wa env ω ws σ H x d1 z Q st r e k
  cases d1 <;> simp only [bf1] at e <;> try cases e
  · split at e
    · rename_i ns hn
      split at e
      · rename_i hl
        cases e
        obtain ⟨a, vs, rfl, h1, q1⟩ := r.lst
        have := q1.ints hn
        subst this
        refine .inl ⟨a, ns, rfl, .inl (.inl h1), of_decide_eq_true hl, fun ns' p hp hs n => k p _ n ⟨_, upd_same, ?_⟩⟩
        rw [sorted_one (hp.trans (isort_perm ns).symm) hs (isort_sorted ns)]
        exact reps_ints _
      · cases e
    · cases e
  · split at e
    · rename_i ns hn
      split at e
      · rename_i hl
        cases e
        obtain ⟨a, kvs, rfl, h1, h2, q1⟩ := r.dic
        refine .inr ⟨a, kvs, ns, rfl, .inl h1, keys_ints h2 hn, of_decide_eq_true hl, fun ns' p hp hs n => k p _ n ⟨_, upd_same, ?_⟩⟩
        rw [sorted_one (hp.trans (isort_perm ns).symm) hs (isort_sorted ns)]
        exact reps_ints _
      · cases e
    · cases e
/-! max, min, sum of a list -/
theorem maxI_ok : ∀ (ns : List Int) (m : Int), (maxI m ns = m ∨ maxI m ns ∈ ns) ∧ m ≤ maxI m ns ∧ ∀ y ∈ ns, y ≤ maxI m ns
  | [], m => ⟨.inl rfl, Int.le_refl _, by simp⟩
  | x :: xs, m => by
    obtain ⟨h1, h2, h3⟩ := maxI_ok xs (if m < x then x else m)
    unfold maxI
    refine ⟨?_, ?_, fun y hy => ?_⟩
    · rcases h1 with h1 | h1
      · rw [h1]
        split
        · exact .inr List.mem_cons_self
        · exact .inl rfl
      · exact .inr (List.mem_cons_of_mem _ h1)
    · refine Int.le_trans ?_ h2
      split <;> omega
    · rcases List.mem_cons.mp hy with e | hy
      · subst e
        refine Int.le_trans ?_ h2
        split <;> omega
      · exact h3 y hy
theorem minI_ok : ∀ (ns : List Int) (m : Int), (minI m ns = m ∨ minI m ns ∈ ns) ∧ minI m ns ≤ m ∧ ∀ y ∈ ns, minI m ns ≤ y
  | [], m => ⟨.inl rfl, Int.le_refl _, by simp⟩
  | x :: xs, m => by
    obtain ⟨h1, h2, h3⟩ := minI_ok xs (if x < m then x else m)
    unfold minI
    refine ⟨?_, ?_, fun y hy => ?_⟩
    · rcases h1 with h1 | h1
      · rw [h1]
        split
        · exact .inr List.mem_cons_self
        · exact .inl rfl
      · exact .inr (List.mem_cons_of_mem _ h1)
    · refine Int.le_trans h2 ?_
      split <;> omega
    · rcases List.mem_cons.mp hy with e | hy
      · subst e
        refine Int.le_trans h2 ?_
        split <;> omega
      · exact h3 y hy
theorem maxL_okU : UOk T K (fun x H Q => rMax K [x] H Q) (bf1 .maxL) := by
  intro O wa env ω ws σ H x d1 z Q st r e k
  cases d1 <;> simp only [bf1] at e <;> try cases e
  split at e
  · rename_i n ns hn
    cases e
    obtain ⟨a, vs, rfl, h1, q1⟩ := r.lst
    have := q1.ints hn
    subst this
    obtain ⟨g1, g2, g3⟩ := maxI_ok ns n
    refine ⟨a, n :: ns, rfl, .inl (.inl h1), by simp, fun m hm hy => ?_⟩
    have : m = maxI n ns := by
      have a1 : maxI n ns ≤ m := hy _ (g1.elim (fun z => by rw [z]; exact List.mem_cons_self) fun z => List.mem_cons_of_mem _ z)
      rcases List.mem_cons.mp hm with e | hm
      · omega
      · have := g3 m hm; omega
    subst this
    exact k _ H (fun _ _ h => h) (.int _)
  · cases e
theorem minL_okU : UOk T K (fun x H Q => rMin K [x] H Q) (bf1 .minL) := by
  intro O wa env ω ws σ H x d1 z Q st r e k
  cases d1 <;> simp only [bf1] at e <;> try cases e
  split at e
  · rename_i n ns hn
    cases e
    obtain ⟨a, vs, rfl, h1, q1⟩ := r.lst
    have := q1.ints hn
    subst this
    obtain ⟨g1, g2, g3⟩ := minI_ok ns n
    refine ⟨a, n :: ns, rfl, .inl (.inl h1), by simp, fun m hm hy => ?_⟩
    have : m = minI n ns := by
      have a1 : m ≤ minI n ns := hy _ (g1.elim (fun z => by rw [z]; exact List.mem_cons_self) fun z => List.mem_cons_of_mem _ z)
      rcases List.mem_cons.mp hm with e | hm
      · omega
      · have := g3 m hm; omega
    subst this
    exact k _ H (fun _ _ h => h) (.int _)
  · cases e
theorem sumL_okU : UOk T K (fun x H Q => rSum K [x] H Q) (bf1 .sumL) := by
  intro O wa env ω ws σ H x d1 z Q st r e k
  cases d1 <;> simp only [bf1] at e <;> try cases e
  split at e
  · rename_i ns hn
    cases e
    obtain ⟨a, vs, rfl, h1, q1⟩ := r.lst
    have := q1.ints hn
    subst this
    exact ⟨a, ns, rfl, .inl (.inl h1), k _ H (fun _ _ h => h) (.int _)⟩
  · cases e
/-! two ints -/
theorem max_ok : ROk T K (fun x y H Q => (fun xs H (Q : VK) => ∃ i j, xs = [V.int i, V.int j] ∧ Q (.int (if j > i then j else i)) H) [x, y] H Q) (fun _ => bf2 .max) := by
  intro O wa env ω ws σ H x y d1 d2 z Q st r1 r2 e k
  cases d1 <;> cases d2 <;> simp only [bf2] at e <;> cases e
  exact ⟨_, _, by rw [r1.int, r2.int], k _ H (fun _ _ h => h) (.int _)⟩
theorem min_ok : ROk T K (fun x y H Q => (fun xs H (Q : VK) => ∃ i j, xs = [V.int i, V.int j] ∧ Q (.int (if j < i then j else i)) H) [x, y] H Q) (fun _ => bf2 .min) := by
  intro O wa env ω ws σ H x y d1 d2 z Q st r1 r2 e k
  cases d1 <;> cases d2 <;> simp only [bf2] at e <;> cases e
  exact ⟨_, _, by rw [r1.int, r2.int], k _ H (fun _ _ h => h) (.int _)⟩
theorem neg_okU : UOk T K (rU fun i => .int (-i)) (fun d => match d with
    | .int i => some (.int (-i))
    | _ => none) := by
  intro O wa env ω ws σ H x d1 z Q st r e k
  cases d1 <;> simp only [] at e <;> cases e
  exact ⟨_, r.int, k _ H (fun _ _ h => h) (.int _)⟩
/-! isinstance -/
def tyN : Ty → String
  | .int => "int" | .bool => "bool" | .tuple => "tuple" | .list => "list" | .dict => "dict" | .str => "str"
theorem ty_rep {wa : Option Addr} {S : Addr → Prop} {H : Hp} {t : Ty} {d : D} {v : V} {z : Bool} (r : RepB T K wa (hid S H) H d v) (e : isiD t d = some z) :
    ∃ u, TyX K H v u ∧ PySem.W.kitOne K u (.type (tyN t)) = some z := by
  have tupK : ∀ {a : Addr} {vs : List V}, SqT K H a vs → TyX K H (.ref a) (.type "tuple") := fun h => by
    rcases h with (h | ⟨o, h⟩) | ⟨o, its, n, hk, hc, _⟩
    · exact .base (.tup h)
    · exact .fTuple h
    · exact .kTuple hk hc
  cases d with
  | non =>
    rw [r.non]
    refine ⟨_, .base .non, kit_ty ?_⟩
    cases t <;> simp only [isiD] at e <;> cases e <;> decide +kernel
  | bl b =>
    rw [r.bl]
    refine ⟨_, .base (.bl b), kit_ty ?_⟩
    cases t <;> simp only [isiD] at e <;> cases e <;> decide +kernel
  | int b =>
    rw [r.int]
    refine ⟨_, .base (.int b), kit_ty ?_⟩
    cases t <;> simp only [isiD] at e <;> cases e <;> decide +kernel
  | str b =>
    rw [r.str]
    refine ⟨_, .base (.str _), kit_ty ?_⟩
    cases t <;> simp only [isiD] at e <;> cases e <;> decide +kernel
  | tup b =>
    obtain ⟨a, vs, rfl, h1, _, _⟩ := r.tup
    refine ⟨_, tupK h1, kit_ty ?_⟩
    cases t <;> simp only [isiD] at e <;> cases e <;> decide +kernel
  | lst b =>
    obtain ⟨a, vs, rfl, h1, _⟩ := r.lst
    refine ⟨_, .base (.lst h1), kit_ty ?_⟩
    cases t <;> simp only [isiD] at e <;> cases e <;> decide +kernel
  | dic b c =>
    obtain ⟨a, vs, rfl, h1, _⟩ := r.dic
    refine ⟨_, .base (.dK h1), kit_ty ?_⟩
    cases t <;> simp only [isiD] at e <;> cases e <;> decide +kernel
  | scr b => cases t <;> simp only [isiD] at e <;> cases e
  | wd => cases t <;> simp only [isiD] at e <;> cases e
theorem isi_okU (t : Ty) : UOk T K (fun x H Q => rIsi K [x, .ty (tyN t)] H Q) (fun d => match isiD t d with
    | none => none
    | some z => some (.bl z)) := by
  intro O wa env ω ws σ H x d1 z Q st r e k
  dsimp only at e
  split at e
  · cases e
  · rename_i b hb
    cases e
    obtain ⟨u, h1, h2⟩ := ty_rep r hb
    exact ⟨x, .ty (tyN t), u, .type (tyN t), b, rfl, .ty _, h1, h2, k _ H (fun _ _ h => h) (.bl b)⟩
end
end Pv

set_option Elab.async false
set_option linter.all false
set_option maxRecDepth 100000
set_option maxHeartbeats 4000000
/-! Pv6: arguments, displays, calls, get, tests. -/
namespace Pv
open PySem PySem.Spec PyProof.Rows L2

section
variable {T : Nat → Str} {K : PySem.W.Frag} {O : Addr → Prop} {wa : Option Addr} {env : Env} {ω : Nat → Option Addr} {ws : WS} {σ : L2.St} {H : Hp}
/-- a hidden object is written -/
theorem StR.wr (h : StR T K O wa env ω ws σ H) {p : Addr} (o : HO) (hp : O p) (nw : wa ≠ some p) : StR T K O wa env ω ws σ (upd H p o) := by
  have m : Same (hid (SS O ω wa) H) (hid (SS O ω wa) (upd H p o)) := hid_mono (fun a u s q => by rw [upd_ne (fun z => s (by rw [z]; exact .inl hp))]; exact q) fun _ q => q
  refine ⟨h.len, fun i => ?_, h.own, h.inj, fun a q z => ?_, h.wsr.mono m fun a u e q => by rw [upd_ne (fun z => nw (by rw [← z]; exact e))]; exact q⟩
  · have q := h.slot i
    cases hs : eg env i with
    | un => trivial
    | va d =>
      rw [hs] at q
      obtain ⟨v, h1, h2⟩ := q
      exact ⟨v, h1, h2.mono m⟩
    | ow d =>
      rw [hs] at q
      obtain ⟨a, h1, h2, h3⟩ := q
      exact ⟨a, h1, h2, h3.mono m fun u q => by rw [upd_ne (fun z => (h.own i a h1).2.1 (by rw [z]; exact hp))]; exact q⟩
  · by_cases e : a = p
    · subst e; rw [upd_same] at z; cases z
    · rw [upd_ne e] at z; exact h.dom a q z
end

section
variable {T : Nat → Str} {X : Cx} {e a b c : Expr} {es : List Expr} {fa fb fc : EvF} {ga : EvAF} {pos p2 p : Pos}
/-! ### arguments -/
def consA (fa : EvF) (ga : EvAF) : EvAF := fun env ws => match fa env ws with
  | none => none
  | some (d, ws1) => match ga env ws1 with
    | none => none
    | some (ds, ws2) => some (d :: ds, ws2)
theorem pa_n : PA X [] (tA T X.K fun _ ws => some ([], ws)) :=
  PA.mono pa_nil fun σ H Q ⟨O, wa, env, ω, ws, d, ws', st, hf, k⟩ => by
    cases hf
    exact k [] H st (Stp.refl _ _) .nil
theorem pa_c (ha : PE X a (tE T X.K fa)) (hr : PA X es (tA T X.K ga)) (hs : noStar a = true) : PA X (a :: es) (tA T X.K (consA fa ga)) :=
  PA.mono (pa_cons ha hr (star_cons hs _ _)) fun σ H Q ⟨O, wa, env, ω, ws, d, ws', st, hf, k⟩ => by
    unfold consA at hf
    split at hf
    · cases hf
    rename_i x ws1 e1
    split at hf
    · cases hf
    rename_i xs ws2 e2
    cases hf
    refine ⟨O, wa, env, ω, ws, x, _, st, e1, fun v1 H1 st1 sp1 r1 => ?_⟩
    refine ⟨O, wa, env, ω, _, xs, _, st1, e2, fun v2 H2 st2 sp2 r2 => ?_⟩
    exact k _ H2 st2 (sp1.trans sp2) (.cons (r1.mono sp2.hid) r2)
/-! ### displays -/
def dispT (ga : EvAF) : EvF := fun env ws => match ga env ws with
  | none => none
  | some (ds, ws1) => some (.tup ds, ws1)
def dispL (ga : EvAF) : EvF := fun env ws => match ga env ws with
  | none => none
  | some (ds, ws1) => some (.lst ds, ws1)
theorem pe_dt {x1} (h : PA X es (tA T X.K ga)) (hl : okLen es.length = true) (hga : ∀ env ws ds ws', ga env ws = some (ds, ws') → ds.length = es.length) : PE X (.Tuple es x1 pos) (tE T X.K (dispT ga)) :=
  PE.mono (pe_tupP h) fun σ H Q ⟨O, wa, env, ω, ws, d, ws', st, hf, k⟩ => by
    unfold dispT at hf
    split at hf
    · cases hf
    rename_i ds ws1 e1
    cases hf
    refine ⟨O, wa, env, ω, ws, ds, _, st, e1, fun vs H1 st1 sp1 r1 => ⟨?_, fun p o n nd => ?_⟩⟩
    · rw [← r1.len, hga _ _ _ _ e1]; exact len_ok hl
    · exact k _ _ (st1.grow (new_same n)) (sp1.trans (Stp.of (new_same n))) (.tup (.inl ⟨o, hid_new st1 n, nd⟩) (r1.mono (hid_newS st1 n)))
theorem pe_dl (h : PA X es (tA T X.K ga)) (hl : okLen es.length = true) (hga : ∀ env ws ds ws', ga env ws = some (ds, ws') → ds.length = es.length) : PE X (.List es pos) (tF T X.K (dispL ga)) :=
  PE.mono (pe_lst h) fun σ H Q ⟨O, wa, env, ω, ws, d, ws', st, hf, k⟩ => by
    unfold dispL at hf
    split at hf
    · cases hf
    rename_i ds ws1 e1
    cases hf
    refine ⟨O, wa, env, ω, ws, ds, _, st, e1, fun vs H1 st1 sp1 r1 => ⟨?_, fun p n => ?_⟩⟩
    · rw [← r1.len, hga _ _ _ _ e1]; exact len_ok hl
    · exact k p _ (st1.more n _) (sp1.trans (Stp.of (new_same n))) (st1.fresh n) (st1.back sp1 n) ⟨vs, upd_same, r1.mono (new_at st1 n)⟩
theorem pe_d0 : PE X (.Dict [] [] pos) (tF T X.K fun _ ws => some (.dic [] [], ws)) :=
  PE.mono pe_dnewK fun σ H Q ⟨O, wa, env, ω, ws, d, ws', st, hf, k⟩ => by
    cases hf
    intro p n
    exact k p _ (st.more n _) (Stp.of (new_same n)) (st.fresh n) n ⟨[], upd_same, rfl, .nil⟩
def dispD (fa fb : EvF) : EvF := fun env ws => match fa env ws with
  | none => none
  | some (kd, ws1) => match fb env ws1 with
    | none => none
    | some (vd, ws2) => if isK kd then some (.dic [kd] [vd], ws2) else none
theorem pe_d1 (ha : PE X a (tE T X.K fa)) (hb : PE X b (tE T X.K fb)) : PE X (.Dict [some a] [b] pos) (tF T X.K (dispD fa fb)) :=
  PE.mono (pe_disp (pps_cons ha hb pps_nil) rfl rfl (by simp) (show 1 ≤ 15 by decide)) fun σ H Q ⟨O, wa, env, ω, ws, d, ws', st, hf, k⟩ => by
    unfold dispD at hf
    split at hf
    · cases hf
    rename_i x ws1 e1
    split at hf
    · cases hf
    rename_i y ws2 e2
    split at hf
    · rename_i hk
      cases hf
      intro p n
      have nw : wa ≠ some p := fun z => st.fresh n (.inr (.inr z))
      refine ⟨_, wa, env, ω, ws, x, _, st.more n _, e1, fun v1 H1 st1 sp1 r1 => ?_⟩
      refine ⟨_, wa, env, ω, _, y, _, st1, e2, fun v2 H2 st2 sp2 r2 => ?_⟩
      obtain ⟨q, hq⟩ := isK_key (T := T) hk
      have e3 : v1 = kV q := key_rep (H := H2) (hH := hid (SS (fun x => O x ∨ x = p) ω wa) H2) hq (.inl (r1.mono sp2.hid))
      have e4 : H2 p = some (.dK []) := sp2 _ _ nw (sp1 _ _ nw upd_same)
      subst e3
      refine ⟨e4, [(q, v2)], rfl, (show 1 ≤ 15 by decide), ?_⟩
      have sp : Stp wa H (upd H2 p (.dK [(q, v2)])) := fun c o nc hc => by
        rw [upd_ne (ne_of_none hc n)]
        exact sp2 _ _ nc (sp1 _ _ nc (new_same n _ _ hc))
      refine k p _ (st2.wr _ (.inr rfl) nw) sp (st.fresh n) n ⟨[(q, v2)], upd_same, by simp [hq], .cons (r2.mono ?_) .nil⟩
      exact hid_mono (fun c o s hc => by rw [upd_ne (fun z => s (.inl (.inr z)))]; exact hc) fun _ q => q
    · cases hf
/-! ### get -/
def noCall : Expr → Bool
  | .Call .. => false
  | _ => true
theorem attr_plain {o : Expr} (h : noCall o = true) (m : Str) (env : PySem.Env) (w : Sem Value) : attributeBase o m env w = w := by
  cases o <;> first | rfl | (simp [noCall] at h)
def getF (fd fk fe : EvF) : EvF := fun env ws => match fd env ws with
  | some (.dic ks vs, ws1) => match fk env ws1 with
    | none => none
    | some (kd, ws2) => match fe env ws2 with
      | none => none
      | some (ed, ws3) => if isK kd then some ((dget ks vs kd).getD ed, ws3) else none
  | _ => none
theorem m2_of {o : Expr} {m : Str} {apos cpos : Pos} (ho : noCall o = true) (ha : noStar a = true) (hb : noStar b = true) (hl : (apos.endLine == cpos.line) = true) : M2 X o m apos a b cpos where
  base := attr_plain ho _ _ _
  few := by rw [star_cons ha, star_cons hb]; rfl
  line := hl
  trees := by rw [star_cons ha, star_cons hb]; rfl
theorem pe_get {o : Expr} {fd fk fe : EvF} {apos cpos : Pos} (hT : TOk T) (hu : X.A.units + 1 < cLine) (ho : PE X o (tB T X.K fd)) (hk : PE X a (tE T X.K fk)) (he : PE X b (tE T X.K fe)) (no : noCall o = true) (na : noStar a = true) (nb : noStar b = true) (hl : (apos.endLine == cpos.line) = true) :
    PE X (.Call (.Attribute o "get" apos) [a, b] [] cpos) (tE T X.K (getF fd fk fe)) :=
  PE.mono (pe_dget2 hu ho hk he (m2_of no na nb hl)) fun σ H Q ⟨O, wa, env, ω, ws, d, ws', st, hf, k⟩ => by
    unfold getF at hf
    split at hf
    · rename_i ks vs ws1 e1
      split at hf
      · cases hf
      rename_i kd ws2 e2
      split at hf
      · cases hf
      rename_i ed ws3 e3
      split at hf
      · rename_i hk
        cases hf
        refine ⟨O, wa, env, ω, ws, _, _, st, e1, fun v1 H1 st1 sp1 r1 => ?_⟩
        obtain ⟨p, kvs, rfl, h1, h2, q1⟩ := r1.dic
        refine ⟨p, rfl, .inl ⟨kvs, .inl h1⟩, ?_⟩
        refine ⟨O, wa, env, ω, _, _, _, st1, e2, fun v2 H2 st2 sp2 r2 => ?_⟩
        refine ⟨O, wa, env, ω, _, _, _, st2, e3, fun v3 H3 st3 sp3 r3 => ?_⟩
        obtain ⟨p', kvs', ep, h1', h2', q1'⟩ := (r1.mono (sp2.trans sp3)).dic
        cases ep
        obtain ⟨o', g, h3, h4, _⟩ := dget_of (H := H3) hT (RepB.mono (O := O) (ω := ω) sp3 (.inl r2)) hk h1' h2' q1'
        refine ⟨o', g, k _ H3 st3 ((sp1.trans sp2).trans sp3) ?_⟩
        cases hd : dget ks vs kd with
        | none =>
          rw [h4 hd]
          exact r3
        | some d =>
          obtain ⟨u, rfl, h5⟩ := h3 d hd
          exact h5
      · cases hf
    · cases hf
/-! ### truth, tests -/
theorem truth_rep {wa : Option Addr} {hH H : Hp} {d : D} {v : V} {k : Bool} (r : RepB T X.K wa hH H d v) (h : truth d = some k) : TruV X.K v H k := by
  cases d <;> simp only [truth] at h <;> cases h
  · rw [r.non]; rfl
  · rw [r.bl]; rfl
  · rw [r.int]; rfl
def valT (fa : EvF) : EvTF := fun env ws => match fa env ws with
  | none => none
  | some (d, ws1) => match truth d with
    | none => none
    | some b => some (b, ws1)
def plainT : Expr → Bool
  | .UnaryOp .Not .. => false
  | .BoolOp .. => false
  | .IfExp .. => false
  | .Compare .. => false
  | _ => true
theorem isTrue_plain (h : plainT a = true) (env : PySem.Env) (whole : Sem Value) : isTrue a env whole = (do let v ← whole; standAt a.pos; holding [v] (truthy v)) := by
  cases a <;> first | rfl | (simp [plainT] at h; done) | skip
  rename_i op x p
  cases op <;> first | rfl | (simp [plainT] at h; done)
theorem pt_v (ha : PE X a (tE T X.K fa)) (h : plainT a = true) : PT X a (tT T X.K (valT fa)) :=
  PT.mono (pt_truth ha (isTrue_plain h _)) fun σ H Q ⟨O, wa, env, ω, ws, d, ws', st, hf, k⟩ => by
    unfold valT at hf
    split at hf
    · cases hf
    rename_i x ws1 e1
    split at hf
    · cases hf
    rename_i z e2
    cases hf
    refine ⟨O, wa, env, ω, ws, x, _, st, e1, fun v H1 st1 sp1 r1 => ⟨_, truth_rep (.inl r1) e2, k H1 st1 sp1⟩⟩
/-- a comparison, by its value -/
def bT (f : EvF) : EvTF := fun env ws => match f env ws with
  | some (.bl z, ws1) => some (z, ws1)
  | _ => none
def twoT (fa fb : EvF) (o : Cop) : EvTF := fun env ws => match fa env ws with
  | none => none
  | some (x, ws1) => match fb env ws1 with
    | none => none
    | some (y, ws2) => match cop o x y with
      | none => none
      | some z => some (z, ws2)
theorem pt_two {o : Cop} {r : R2} (ht : ∀ ta tb, PE X a ta → PE X b tb → PT X e (tTest (tOp r ta tb))) (hr : ROk T X.K r (fun _ => copD o)) (ha : PE X a (tB T X.K fa)) (hb : PE X b (tB T X.K fb)) : PT X e (tT T X.K (twoT fa fb o)) :=
  PT.mono (ht _ _ ha hb) fun σ H Q ⟨O, wa, env, ω, ws, d, ws', st, hf, k⟩ => by
    unfold twoT at hf
    split at hf
    · cases hf
    rename_i x ws1 e1
    split at hf
    · cases hf
    rename_i y ws2 e2
    split at hf
    · cases hf
    rename_i z e3
    cases hf
    refine ⟨O, wa, env, ω, ws, x, _, st, e1, fun v1 H1 st1 sp1 r1 => ?_⟩
    refine ⟨O, wa, env, ω, _, y, _, st1, e2, fun v2 H2 st2 sp2 r2 => ?_⟩
    refine hr O wa env ω _ σ H2 v1 v2 x y (.bl d) _ st2 (r1.mono sp2) r2 (by dsimp only [copD]; rw [e3]) fun v H' sm rz => ?_
    cases rz
    exact ⟨_, rfl, k H' (st2.grow sm) ((sp1.trans sp2).trans (Stp.of sm))⟩
/-- is None -/
def oneT (fa : EvF) (neg : Bool) : EvTF := fun env ws => match fa env ws with
  | none => none
  | some (x, ws1) => some (if neg then !isNone x else isNone x, ws1)
theorem pt_none {neg : Bool} {op : CmpOp} {j : Nat} {p1 : Pos} (ho : op = if neg then .IsNot else .Is) (ha : PE X a (tB T X.K fa)) : PT X (.Compare a [op] [.Constant .none j p1] pos) (tT T X.K (oneT fa neg)) := by
  cases neg
  · have ho : op = .Is := ho
    subst ho
    refine PT.mono (pt_cmpR op_isN ha pe_non (nomark _)) fun σ H Q ⟨O, wa, env, ω, ws, d, ws', st, hf, k⟩ => ?_
    unfold oneT at hf
    split at hf
    · cases hf
    rename_i x ws1 e1
    cases hf
    refine ⟨O, wa, env, ω, ws, x, _, st, e1, fun v1 H1 st1 sp1 r1 => ⟨rfl, _, rfl, ?_⟩⟩
    rw [isNone_rep r1]
    exact k H1 st1 sp1
  · have ho : op = .IsNot := ho
    subst ho
    refine PT.mono (pt_cmpR op_notN ha pe_non (nomark _)) fun σ H Q ⟨O, wa, env, ω, ws, d, ws', st, hf, k⟩ => ?_
    unfold oneT at hf
    split at hf
    · cases hf
    rename_i x ws1 e1
    cases hf
    refine ⟨O, wa, env, ω, ws, x, _, st, e1, fun v1 H1 st1 sp1 r1 => ⟨rfl, _, rfl, ?_⟩⟩
    rw [isNone_rep r1]
    exact k H1 st1 sp1
def oneV (fa : EvF) (neg : Bool) : EvF := fun env ws => match fa env ws with
  | none => none
  | some (x, ws1) => some (.bl (if neg then !isNone x else isNone x), ws1)
theorem pe_none {neg : Bool} {op : CmpOp} {j : Nat} {p1 : Pos} (ho : op = if neg then .IsNot else .Is) (ha : PE X a (tB T X.K fa)) : PE X (.Compare a [op] [.Constant .none j p1] pos) (tE T X.K (oneV fa neg)) := by
  cases neg
  · have ho : op = .Is := ho
    subst ho
    refine PE.mono (pe_cmpR op_isN ha pe_non (nomark _)) fun σ H Q ⟨O, wa, env, ω, ws, d, ws', st, hf, k⟩ => ?_
    unfold oneV at hf
    split at hf
    · cases hf
    rename_i x ws1 e1
    cases hf
    refine ⟨O, wa, env, ω, ws, x, _, st, e1, fun v1 H1 st1 sp1 r1 => ⟨rfl, ?_⟩⟩
    rw [isNone_rep r1]
    exact k _ H1 st1 sp1 (.bl _)
  · have ho : op = .IsNot := ho
    subst ho
    refine PE.mono (pe_cmpR op_notN ha pe_non (nomark _)) fun σ H Q ⟨O, wa, env, ω, ws, d, ws', st, hf, k⟩ => ?_
    unfold oneV at hf
    split at hf
    · cases hf
    rename_i x ws1 e1
    cases hf
    refine ⟨O, wa, env, ω, ws, x, _, st, e1, fun v1 H1 st1 sp1 r1 => ⟨rfl, ?_⟩⟩
    rw [isNone_rep r1]
    exact k _ H1 st1 sp1 (.bl _)
/-! and, or, not, if .. else -/
def notT (fa : EvTF) : EvTF := fun env ws => match fa env ws with
  | none => none
  | some (b, ws1) => some (!b, ws1)
def andT (fa fb : EvTF) : EvTF := fun env ws => match fa env ws with
  | none => none
  | some (t, ws1) => if t then fb env ws1 else some (false, ws1)
def orT (fa fb : EvTF) : EvTF := fun env ws => match fa env ws with
  | none => none
  | some (t, ws1) => if t then some (true, ws1) else fb env ws1
def iteT' (fc fa fb : EvTF) : EvTF := fun env ws => match fc env ws with
  | none => none
  | some (t, ws1) => if t then fa env ws1 else fb env ws1
def iteV (fc : EvTF) (fa fb : EvF) : EvF := fun env ws => match fc env ws with
  | none => none
  | some (t, ws1) => if t then fa env ws1 else fb env ws1
variable {ta tb tc : EvTF} {rest : List Expr}
theorem pt_n (ha : PT X a (tT T X.K ta)) : PT X (.UnaryOp .Not a pos) (tT T X.K (notT ta)) :=
  PT.mono (pt_not ha) fun σ H Q ⟨O, wa, env, ω, ws, d, ws', st, hf, k⟩ => by
    unfold notT at hf
    split at hf
    · cases hf
    rename_i x ws1 e1
    cases hf
    exact ⟨O, wa, env, ω, ws, x, _, st, e1, fun H1 st1 sp1 => k H1 st1 sp1⟩
theorem tAnd_of (σ : L2.St) (H : Hp) (Q : Bool → Hp → Prop) (h : tT T X.K (andT ta tb) σ H Q) : tAnd (tT T X.K ta) (tT T X.K tb) σ H Q := by
  obtain ⟨O, wa, env, ω, ws, d, ws', st, hf, k⟩ := h
  unfold andT at hf
  split at hf
  · cases hf
  rename_i x ws1 e1
  refine ⟨O, wa, env, ω, ws, x, _, st, e1, fun H1 st1 sp1 => ?_⟩
  cases x
  · rw [if_neg (by decide)] at hf ⊢
    cases hf
    exact k H1 st1 sp1
  · rw [if_pos rfl] at hf ⊢
    exact ⟨O, wa, env, ω, _, d, ws', st1, hf, fun H2 st2 sp2 => k H2 st2 (sp1.trans sp2)⟩
theorem tOr_of (σ : L2.St) (H : Hp) (Q : Bool → Hp → Prop) (h : tT T X.K (orT ta tb) σ H Q) : tOr (tT T X.K ta) (tT T X.K tb) σ H Q := by
  obtain ⟨O, wa, env, ω, ws, d, ws', st, hf, k⟩ := h
  unfold orT at hf
  split at hf
  · cases hf
  rename_i x ws1 e1
  refine ⟨O, wa, env, ω, ws, x, _, st, e1, fun H1 st1 sp1 => ?_⟩
  cases x
  · rw [if_neg (by decide)] at hf ⊢
    exact ⟨O, wa, env, ω, _, d, ws', st1, hf, fun H2 st2 sp2 => k H2 st2 (sp1.trans sp2)⟩
  · rw [if_pos rfl] at hf ⊢
    cases hf
    exact k H1 st1 sp1
theorem pw_a1 (ha : PT X a (tT T X.K ta)) : PW X (.BoolOp .And [a] pos) (tT T X.K ta) := pw_and1 ha
theorem pw_o1 (ha : PT X a (tT T X.K ta)) : PW X (.BoolOp .Or [a] pos) (tT T X.K ta) := pw_or1 ha
theorem pw_a (ha : PT X a (tT T X.K ta)) (hb : PW X (.BoolOp .And (b :: rest) pos) (tT T X.K tb)) : PW X (.BoolOp .And (a :: b :: rest) pos) (tT T X.K (andT ta tb)) := PW.mono (pw_and ha hb) tAnd_of
theorem pw_o (ha : PT X a (tT T X.K ta)) (hb : PW X (.BoolOp .Or (b :: rest) pos) (tT T X.K tb)) : PW X (.BoolOp .Or (a :: b :: rest) pos) (tT T X.K (orT ta tb)) := PW.mono (pw_or ha hb) tOr_of
theorem pe_ie (hc : PT X c (tT T X.K tc)) (ha : PE X a (tE T X.K fa)) (hb : PE X b (tE T X.K fb)) : PE X (.IfExp c a b pos) (tE T X.K (iteV tc fa fb)) :=
  PE.mono (pe_ifExp hc ha hb) fun σ H Q ⟨O, wa, env, ω, ws, d, ws', st, hf, k⟩ => by
    unfold iteV at hf
    split at hf
    · cases hf
    rename_i x ws1 e1
    refine ⟨O, wa, env, ω, ws, x, _, st, e1, fun H1 st1 sp1 => ?_⟩
    cases x
    · rw [if_neg (by decide)] at hf ⊢
      exact ⟨O, wa, env, ω, _, d, ws', st1, hf, fun v H2 st2 sp2 r => k v H2 st2 (sp1.trans sp2) r⟩
    · rw [if_pos rfl] at hf ⊢
      exact ⟨O, wa, env, ω, _, d, ws', st1, hf, fun v H2 st2 sp2 r => k v H2 st2 (sp1.trans sp2) r⟩
/-! .. as values -/
def andV (fa fb : EvF) : EvF := fun env ws => match fa env ws with
  | some (.bl true, ws1) => fb env ws1
  | some (.bl false, ws1) => some (.bl false, ws1)
  | _ => none
def orV (fa fb : EvF) : EvF := fun env ws => match fa env ws with
  | some (.bl true, ws1) => some (.bl true, ws1)
  | some (.bl false, ws1) => fb env ws1
  | _ => none
def notV (fa : EvF) : EvF := fun env ws => match fa env ws with
  | some (.bl b, ws1) => some (.bl (!b), ws1)
  | _ => none
theorem pe_av (ha : PE X a (tE T X.K fa)) (hb : PE X (.BoolOp .And (b :: rest) pos) (tE T X.K fb)) : PE X (.BoolOp .And (a :: b :: rest) pos) (tE T X.K (andV fa fb)) :=
  PE.mono (pe_and ha hb) fun σ H Q ⟨O, wa, env, ω, ws, d, ws', st, hf, k⟩ => by
    unfold andV at hf
    split at hf
    · rename_i ws1 e1
      refine ⟨O, wa, env, ω, ws, _, _, st, e1, fun v H1 st1 sp1 r => ?_⟩
      cases r
      refine ⟨true, rfl, ?_⟩
      rw [if_pos rfl]
      exact ⟨O, wa, env, ω, _, d, ws', st1, hf, fun v H2 st2 sp2 r => k v H2 st2 (sp1.trans sp2) r⟩
    · rename_i ws1 e1
      cases hf
      refine ⟨O, wa, env, ω, ws, _, _, st, e1, fun v H1 st1 sp1 r => ?_⟩
      cases r
      refine ⟨false, rfl, ?_⟩
      rw [if_neg (by decide)]
      exact k _ H1 st1 sp1 (.bl _)
    · cases hf
theorem pe_ov (ha : PE X a (tE T X.K fa)) (hb : PE X (.BoolOp .Or (b :: rest) pos) (tE T X.K fb)) : PE X (.BoolOp .Or (a :: b :: rest) pos) (tE T X.K (orV fa fb)) :=
  PE.mono (pe_or ha hb) fun σ H Q ⟨O, wa, env, ω, ws, d, ws', st, hf, k⟩ => by
    unfold orV at hf
    split at hf
    · rename_i ws1 e1
      cases hf
      refine ⟨O, wa, env, ω, ws, _, _, st, e1, fun v H1 st1 sp1 r => ?_⟩
      cases r
      refine ⟨true, rfl, ?_⟩
      rw [if_pos rfl]
      exact k _ H1 st1 sp1 (.bl _)
    · rename_i ws1 e1
      refine ⟨O, wa, env, ω, ws, _, _, st, e1, fun v H1 st1 sp1 r => ?_⟩
      cases r
      refine ⟨false, rfl, ?_⟩
      rw [if_neg (by decide)]
      exact ⟨O, wa, env, ω, _, d, ws', st1, hf, fun v H2 st2 sp2 r => k v H2 st2 (sp1.trans sp2) r⟩
    · cases hf
theorem pe_nv (ha : PE X a (tE T X.K fa)) : PE X (.UnaryOp .Not a pos) (tE T X.K (notV fa)) :=
  PE.mono (pe_not ha) fun σ H Q ⟨O, wa, env, ω, ws, d, ws', st, hf, k⟩ => by
    unfold notV at hf
    split at hf
    · rename_i z ws1 e1
      cases hf
      refine ⟨O, wa, env, ω, ws, _, _, st, e1, fun v H1 st1 sp1 r => ?_⟩
      cases r
      exact ⟨z, rfl, k _ H1 st1 sp1 (.bl _)⟩
    · cases hf
end
end Pv

set_option Elab.async false
set_option linter.all false
set_option maxRecDepth 100000
set_option maxHeartbeats 4000000
/-! Pv7: slots set and wiped, what a loop walks, comprehensions. -/
namespace Pv
open PySem PySem.Spec PyProof.Rows L2

/-! ### slots -/
theorem es_len : ∀ (env : Env) (i : Nat) (s : Slot), (es env i s).length = env.length
  | [], _, _ => rfl
  | _ :: _, 0, _ => rfl
  | _ :: r, i + 1, s => congrArg (· + 1) (es_len r i s)
theorem eg_ne : ∀ (env : Env) (i j : Nat) (s : Slot), j ≠ i → eg (es env i s) j = eg env j
  | [], _, _, _, _ => rfl
  | _ :: _, 0, 0, _, h => absurd rfl h
  | _ :: _, 0, j + 1, _, _ => rfl
  | _ :: _, i + 1, 0, _, _ => rfl
  | _ :: r, i + 1, j + 1, s, h => eg_ne r i j s (fun e => h (by rw [e]))
theorem eg_out : ∀ (env : Env) (i : Nat), env.length ≤ i → eg env i = .un
  | [], _, _ => rfl
  | _ :: r, 0, h => absurd h (by simp)
  | _ :: r, i + 1, h => eg_out r i (Nat.le_of_succ_le_succ h)
theorem eg_eq : ∀ (env : Env) (i : Nat) (s : Slot), i < env.length → eg (es env i s) i = s
  | [], _, _, h => absurd h (by simp)
  | _ :: _, 0, _, _ => rfl
  | _ :: r, i + 1, s, h => eg_eq r i s (Nat.lt_of_succ_lt_succ h)
def om (ω : Nat → Option Addr) (i : Nat) : Nat → Option Addr := fun j => if j = i then none else ω j
theorem om_some {ω : Nat → Option Addr} {i j : Nat} {a : Addr} (h : om ω i j = some a) : ω j = some a ∧ j ≠ i := by
  unfold om at h
  split at h
  · cases h
  · exact ⟨h, by assumption⟩
section
variable {T : Nat → Str} {K : PySem.W.Frag} {O : Addr → Prop} {wa : Option Addr} {env : Env} {ω : Nat → Option Addr} {ws : WS} {σ : L2.St} {H : Hp}
theorem SS_om {i : Nat} {a : Addr} (h : SS O (om ω i) wa a) : SS O ω wa a := by
  rcases h with h | ⟨j, h⟩ | h
  · exact .inl h
  · exact .inr (.inl ⟨j, (om_some h).1⟩)
  · exact .inr (.inr h)
/-- a name is stored -/
theorem StR.set (h : StR T K O wa env ω ws σ H) (i : Nat) {d : D} {v : V} (r : Rep T K wa (hid (SS O ω wa) H) d v) :
    StR T K O wa (es env i (.va d)) (om ω i) ws (σ.set i (some v)) H := by
  have m : Same (hid (SS O ω wa) H) (hid (SS O (om ω i) wa) H) := hid_mono (fun _ _ _ q => q) fun _ => SS_om
  refine ⟨by rw [List.length_set, es_len]; exact h.len, fun j => ?_, fun j a q => ?_, fun j l a q q' => h.inj j l a (om_some q).1 (om_some q').1, h.dom, h.wsr.mono m fun _ _ _ q => q⟩
  · by_cases e : j = i
    · subst e
      by_cases hl : j < env.length
      · rw [eg_eq env j _ hl]
        exact ⟨v, by rw [List.getElem?_set_self (by rw [h.len]; exact hl)], r.mono m⟩
      · rw [eg_out _ _ (by rw [es_len]; omega)]
        trivial
    · rw [eg_ne env i j _ e]
      have q := h.slot j
      cases hs : eg env j with
      | un => trivial
      | va d =>
        rw [hs] at q
        obtain ⟨v, h1, h2⟩ := q
        exact ⟨v, by rw [List.getElem?_set_ne (Ne.symm e)]; exact h1, h2.mono m⟩
      | ow d =>
        rw [hs] at q
        obtain ⟨a, h1, h2, h3⟩ := q
        exact ⟨a, by unfold om; rw [if_neg e]; exact h1, by rw [List.getElem?_set_ne (Ne.symm e)]; exact h2, h3.mono m fun _ q => q⟩
  · obtain ⟨q, e⟩ := om_some q
    rw [eg_ne env i j _ e]
    exact h.own j a q
/-- a name is forgotten, what it owned is hidden -/
theorem StR.forget (h : StR T K O wa env ω ws σ H) (i : Nat) : StR T K (fun a => O a ∨ ω i = some a) wa (es env i .un) (om ω i) ws (σ.set i none) H := by
  have m : Same (hid (SS O ω wa) H) (hid (SS (fun a => O a ∨ ω i = some a) (om ω i) wa) H) := hid_mono (fun _ _ _ q => q) fun a q => by
    rcases q with (q | q) | ⟨j, q⟩ | q
    · exact .inl q
    · exact .inr (.inl ⟨i, q⟩)
    · exact .inr (.inl ⟨j, (om_some q).1⟩)
    · exact .inr (.inr q)
  refine ⟨by rw [List.length_set, es_len]; exact h.len, fun j => ?_, fun j a q => ?_, fun j l a q q' => h.inj j l a (om_some q).1 (om_some q').1, fun a q => ?_, h.wsr.mono m fun _ _ _ q => q⟩
  · by_cases e : j = i
    · subst e
      by_cases hl : j < env.length
      · rw [eg_eq env j _ hl]
        trivial
      · rw [eg_out _ _ (by rw [es_len]; omega)]
        trivial
    · rw [eg_ne env i j _ e]
      have q := h.slot j
      cases hs : eg env j with
      | un => trivial
      | va d =>
        rw [hs] at q
        obtain ⟨v, h1, h2⟩ := q
        exact ⟨v, by rw [List.getElem?_set_ne (Ne.symm e)]; exact h1, h2.mono m⟩
      | ow d =>
        rw [hs] at q
        obtain ⟨a, h1, h2, h3⟩ := q
        exact ⟨a, by unfold om; rw [if_neg e]; exact h1, by rw [List.getElem?_set_ne (Ne.symm e)]; exact h2, h3.mono m fun _ q => q⟩
  · obtain ⟨q, e⟩ := om_some q
    rw [eg_ne env i j _ e]
    have z := h.own j a q
    exact ⟨z.1, fun y => y.elim z.2.1 fun y => e (h.inj j i a q y), z.2.2⟩
  · rcases q with q | q
    · exact h.dom a q
    · exact h.sdom (.inr (.inl ⟨i, q⟩))
def oms (ω : Nat → Option Addr) : List Nat → Nat → Option Addr
  | [] => ω
  | i :: is => om (oms ω is) i
theorem oms_some {ω : Nat → Option Addr} : ∀ {is : List Nat} {j : Nat} {a : Addr}, oms ω is j = some a → ω j = some a ∧ j ∉ is
  | [], _, _, h => ⟨h, by simp⟩
  | i :: is, j, a, h => by
    obtain ⟨h1, h2⟩ := om_some h
    obtain ⟨h3, h4⟩ := oms_some (is := is) h1
    exact ⟨h3, by simp [h2, h4]⟩
theorem StR.iff {O' : Addr → Prop} (h : StR T K O wa env ω ws σ H) (e : ∀ a, O' a ↔ O a) : StR T K O' wa env ω ws σ H := by
  have : O' = O := funext fun a => propext (e a)
  rw [this]; exact h
theorem StR.wipe (h : StR T K O wa env ω ws σ H) : ∀ is : List Nat, StR T K (fun a => O a ∨ ∃ i ∈ is, ω i = some a) wa (wipeE env is) (oms ω is) ws (L2.wipe σ is) H
  | [] => h.iff fun a => by simp
  | i :: is => by
    refine ((h.wipe is).forget i).iff fun a => ?_
    constructor
    · rintro (q | ⟨j, hj, q⟩)
      · exact .inl (.inl q)
      · rcases List.mem_cons.mp hj with e | hj
        · subst e
          by_cases hm : j ∈ is
          · exact .inl (.inr ⟨j, hm, q⟩)
          · refine .inr ?_
            have : ∀ l : List Nat, j ∉ l → oms ω l j = some a := by
              intro l
              induction l with
              | nil => intro _; exact q
              | cons x l ih =>
                intro hl
                simp only [List.mem_cons, not_or] at hl
                show om (oms ω l) x j = some a
                unfold om
                rw [if_neg hl.1]
                exact ih hl.2
            exact this is hm
        · exact .inl (.inr ⟨j, hj, q⟩)
    · rintro ((q | ⟨j, hj, q⟩) | q)
      · exact .inl q
      · exact .inr ⟨j, List.mem_cons_of_mem _ hj, q⟩
      · exact .inr ⟨i, List.mem_cons_self, (oms_some q).1⟩
/-- another heap, the same but for what is hidden from outside, and the record -/
theorem StR.evolve {ws' : WS} {H' : Hp} (h : StR T K O wa env ω ws σ H) (e : ∀ a o, ¬ O a → wa ≠ some a → H a = some o → H' a = some o) (ed : ∀ a, O a → H' a ≠ none) (w : WsR T K (hid (SS O ω wa) H') H' wa ws') :
    StR T K O wa env ω ws' σ H' := by
  have m : Same (hid (SS O ω wa) H) (hid (SS O ω wa) H') := hid_mono (fun a o s q => e a o (fun z => s (.inl z)) (fun z => s (.inr (.inr z))) q) fun _ q => q
  refine ⟨h.len, fun i => ?_, h.own, h.inj, ed, w⟩
  have q := h.slot i
  cases hs : eg env i with
  | un => trivial
  | va d =>
    rw [hs] at q
    obtain ⟨v, h1, h2⟩ := q
    exact ⟨v, h1, h2.mono m⟩
  | ow d =>
    rw [hs] at q
    obtain ⟨a, h1, h2, h3⟩ := q
    exact ⟨a, h1, h2, h3.mono m fun o q => e a o (h.own i a h1).2.1 (h.own i a h1).2.2 q⟩
/-! ### targets -/
def gNames : List Nat → TGs
  | [] => gNil
  | i :: is => gCons (gName i) (gNames is)
/-- a tuple or a list is taken apart -/
def gUT (K : PySem.W.Frag) (n : Nat) (t : TGs) : TG := fun v σ H Q => gTup K n t v σ H Q ∨ gUnl K n t v σ H Q
theorem pg_ut {X : Cx} {es : List Expr} {k : Nat} {t : TGs} {n : Nat} {pos : Pos} (hc : X.calm = true) (h : PGs X es t)
    (hn : (assignEach es X.env).length = n) (hst : (assignEach es X.env).findIdx? (·.1) = none) : PG X (.Tuple es k pos) (gUT X.K n t) :=
  ⟨fun pins s σ H v u Q I r hw => hw.elim ((pg_tup hc h hn hst).run pins s σ H v u Q I r) ((pg_unl hc h hn hst).run pins s σ H v u Q I r)⟩
def gNmT (K : PySem.W.Frag) : List Nat → TG
  | [i] => gName i
  | is => gTup K is.length (gNames is)
def gNmsT (K : PySem.W.Frag) : List (List Nat) → TGs
  | [] => gNil
  | t :: ts => gCons (gNmT K t) (gNmsT K ts)
def gT (K : PySem.W.Frag) : Tg → TG
  | .nm i => gName i
  | .tp is => gUT K is.length (gNames is)
  | .tq ts => gTup K ts.length (gNmsT K ts)
theorem wipe_set {σ : L2.St} {i : Nat} {x : Option V} : ∀ {vs : List Nat}, i ∈ vs → L2.wipe (σ.set i x) vs = L2.wipe σ vs
  | [], h => by simp at h
  | v :: vs, h => by
    show (L2.wipe (σ.set i x) vs).set v none = (L2.wipe σ vs).set v none
    by_cases hm : i ∈ vs
    · rw [wipe_set hm]
    · have e : i = v := by
        rcases List.mem_cons.mp h with e | h
        · exact e
        · exact absurd h hm
      subst e
      have : ∀ (vs : List Nat) (σ : L2.St), i ∉ vs → L2.wipe (σ.set i x) vs = (L2.wipe σ vs).set i x := by
        intro vs
        induction vs with
        | nil => intro σ _; rfl
        | cons w vs ih =>
          intro σ hw
          simp only [List.mem_cons, not_or] at hw
          show (L2.wipe (σ.set i x) vs).set w none = ((L2.wipe σ vs).set w none).set i x
          rw [ih σ hw.2, List.set_comm _ _ hw.1]
      rw [this vs σ hm, List.set_set]
theorem wipe_idem (σ : L2.St) : ∀ vs : List Nat, L2.wipe (L2.wipe σ vs) vs = L2.wipe σ vs := by
  have key : ∀ (us vs : List Nat) (σ : L2.St), (∀ v ∈ us, v ∈ vs) → L2.wipe (L2.wipe σ us) vs = L2.wipe σ vs := by
    intro us
    induction us with
    | nil => intro vs σ _; rfl
    | cons u us ih =>
      intro vs σ h
      show L2.wipe ((L2.wipe σ us).set u none) vs = L2.wipe σ vs
      rw [wipe_set (h u List.mem_cons_self), ih vs σ fun v hv => h v (List.mem_cons_of_mem _ hv)]
  exact fun vs => key vs vs σ fun _ h => h
theorem setAll_ok {vs0 : List Nat} : ∀ {is : List Nat} {ds : List D} {vs : List V} {env env1 : Env} {ω : Nat → Option Addr} {σ : L2.St} {Q : L2.St → Hp → Prop}, StR T K O wa env ω ws σ H → Reps T K wa (hid (SS O ω wa) H) ds vs → setAll env is ds = some env1 →
    (∀ σ1 ω1, StR T K O wa env1 ω1 ws σ1 H → (∀ j, j ∉ is → ω1 j = ω j) → (∀ j a, ω1 j = some a → ω j = some a) → ((∀ i ∈ is, i ∈ vs0) → L2.wipe σ1 vs0 = L2.wipe σ vs0) → Q σ1 H) → vs.length = is.length ∧ gNames is vs σ H Q
  | [], [], _, env, env1, ω, σ, Q, st, .nil, e, k => by
    cases e
    exact ⟨rfl, rfl, k σ ω st (fun _ _ => rfl) (fun _ _ h => h) fun _ => rfl⟩
  | [], _ :: _, _, _, _, _, _, _, _, _, e, _ => by simp [setAll] at e
  | _ :: _, [], _, _, _, _, _, _, _, _, e, _ => by simp [setAll] at e
  | i :: is, d :: ds, _, env, env1, ω, σ, Q, st, .cons (v := v) (vs := vs) r t, e, k => by
    simp only [setAll] at e
    have st1 := st.set i r
    have m : Same (hid (SS O ω wa) H) (hid (SS O (om ω i) wa) H) := hid_mono (fun _ _ _ q => q) fun _ => SS_om
    have ih := setAll_ok (vs0 := vs0) (Q := Q) st1 (t.mono m) e fun σ1 ω1 st2 h1 h2 h3 => k σ1 ω1 st2 (fun j hj => ?_) (fun j a q => (om_some (h2 j a q)).1) fun hm => ?_
    · exact ⟨by rw [List.length_cons, List.length_cons, ih.1], v, vs, rfl, ih.2⟩
    · simp only [List.mem_cons, not_or] at hj
      rw [h1 j hj.2]
      unfold om
      rw [if_neg hj.1]
    · rw [h3 fun x hx => hm x (List.mem_cons_of_mem _ hx), wipe_set (hm i List.mem_cons_self)]
theorem bind1_ok {vs0 : List Nat} {t : List Nat} {d : D} {v : V} {env1 : Env} {Q : L2.St → Hp → Prop} (st : StR T K O wa env ω ws σ H) (r : Rep T K wa (hid (SS O ω wa) H) d v) (e : bind1 env t d = some env1)
    (k : ∀ σ1 ω1, StR T K O wa env1 ω1 ws σ1 H → (∀ j, j ∉ t → ω1 j = ω j) → (∀ j a, ω1 j = some a → ω j = some a) → ((∀ i ∈ t, i ∈ vs0) → L2.wipe σ1 vs0 = L2.wipe σ vs0) → Q σ1 H) : gNmT K t v σ H Q := by
  have tupC : ∀ is : List Nat, (∀ v, gNmT K is v = gTup K is.length (gNames is) v) → (∀ xs, bind1 env is (.tup xs) = setAll env is xs) → (∀ d, (∀ xs, d ≠ .tup xs) → bind1 env is d = none) → is = t → gNmT K t v σ H Q := by
    intro is g1 g2 g3 et
    subst et
    rw [g1]
    cases d with
    | tup xs =>
      rw [g2] at e
      cases r with
      | tup h r =>
        have := setAll_ok (vs0 := vs0) (Q := Q) st r e k
        exact ⟨_, _, rfl, (h.mono hid_le).sq, this.1, this.2⟩
    | _ => rw [g3 _ (by intro xs z; cases z)] at e; cases e
  match t, e, k with
  | [i], e, k =>
    simp only [bind1] at e
    cases e
    refine k _ _ (st.set i r) (fun j hj => ?_) (fun j a q => (om_some q).1) fun hm => wipe_set (hm i (by simp))
    unfold om
    rw [if_neg (by simpa using hj)]
  | [], e, k => exact tupC [] (fun _ => rfl) (fun _ => rfl) (fun d hd => by cases d <;> first | rfl | exact absurd rfl (hd _)) rfl
  | i :: j :: l, e, k => exact tupC (i :: j :: l) (fun _ => rfl) (fun _ => rfl) (fun d hd => by cases d <;> first | rfl | exact absurd rfl (hd _)) rfl
theorem setAllT_len : ∀ {ts : List (List Nat)} {ds : List D} {env env1 : Env}, setAllT env ts ds = some env1 → ds.length = ts.length
  | [], [], _, _, _ => rfl
  | [], _ :: _, _, _, e => by simp [setAllT] at e
  | _ :: _, [], _, _, e => by simp [setAllT] at e
  | t :: ts, d :: ds, env, env1, e => by
    simp only [setAllT] at e
    split at e
    · cases e
    · rw [List.length_cons, List.length_cons, setAllT_len e]
theorem setAllT_ok {vs0 : List Nat} : ∀ {ts : List (List Nat)} {ds : List D} {vs : List V} {env env1 : Env} {ω : Nat → Option Addr} {σ : L2.St} {Q : L2.St → Hp → Prop}, StR T K O wa env ω ws σ H → Reps T K wa (hid (SS O ω wa) H) ds vs → setAllT env ts ds = some env1 →
    (∀ σ1 ω1, StR T K O wa env1 ω1 ws σ1 H → (∀ j, j ∉ ts.flatten → ω1 j = ω j) → (∀ j a, ω1 j = some a → ω j = some a) → ((∀ i ∈ ts.flatten, i ∈ vs0) → L2.wipe σ1 vs0 = L2.wipe σ vs0) → Q σ1 H) → gNmsT K ts vs σ H Q
  | [], [], _, env, env1, ω, σ, Q, st, .nil, e, k => by
    cases e
    exact ⟨rfl, k σ ω st (fun _ _ => rfl) (fun _ _ h => h) fun _ => rfl⟩
  | [], _ :: _, _, _, _, _, _, _, _, _, e, _ => by simp [setAllT] at e
  | _ :: _, [], _, _, _, _, _, _, _, _, e, _ => by simp [setAllT] at e
  | t :: ts, d :: ds, _, env, env1, ω, σ, Q, st, .cons (v := v) (vs := vs) r tl, e, k => by
    simp only [setAllT] at e
    split at e
    · cases e
    rename_i env2 e1
    refine ⟨v, vs, rfl, bind1_ok (vs0 := vs0) st r e1 fun σ1 ω1 st1 h1 h2 h3 => ?_⟩
    have m : Same (hid (SS O ω wa) H) (hid (SS O ω1 wa) H) := hid_mono (fun _ _ _ q => q) fun a q => by
      rcases q with q | ⟨j, q⟩ | q
      · exact .inl q
      · exact .inr (.inl ⟨j, h2 j a q⟩)
      · exact .inr (.inr q)
    refine setAllT_ok (vs0 := vs0) st1 (tl.mono m) e fun σ2 ω2 st2 g1 g2 g3 => k σ2 ω2 st2 (fun j hj => ?_) (fun j a q => h2 j a (g2 j a q)) fun hm => ?_
    · simp only [List.flatten_cons, List.mem_append, not_or] at hj
      rw [g1 j hj.2, h1 j hj.1]
    · simp only [List.flatten_cons, List.mem_append] at hm
      rw [g3 fun i hi => hm i (.inr hi), h3 fun i hi => hm i (.inl hi)]
theorem bindT_ok {vs0 : List Nat} {tg : Tg} {d : D} {v : V} {env1 : Env} {Q : L2.St → Hp → Prop} (st : StR T K O wa env ω ws σ H) (r : Rep T K wa (hid (SS O ω wa) H) d v) (e : bindT env tg d = some env1)
    (k : ∀ σ1 ω1, StR T K O wa env1 ω1 ws σ1 H → (∀ j, j ∉ tgs tg → ω1 j = ω j) → (∀ j a, ω1 j = some a → ω j = some a) → ((∀ i ∈ tgs tg, i ∈ vs0) → L2.wipe σ1 vs0 = L2.wipe σ vs0) → Q σ1 H) : gT K tg v σ H Q := by
  cases tg with
  | nm i =>
    simp only [bindT] at e
    cases e
    refine k _ _ (st.set i r) (fun j hj => ?_) (fun j a q => (om_some q).1) fun hm => wipe_set (hm i (by simp [tgs]))
    unfold om
    rw [if_neg (by simpa [tgs] using hj)]
  | tp is =>
    cases d <;> simp only [bindT] at e <;> try cases e
    · cases r with
      | tup h r =>
        have := setAll_ok (vs0 := vs0) (Q := Q) st r e k
        exact .inl ⟨_, _, rfl, (h.mono hid_le).sq, this.1, this.2⟩
    · cases r with
      | lst h r =>
        have := setAll_ok (vs0 := vs0) (Q := Q) st r e k
        exact .inr ⟨_, _, rfl, .inl (.inl (hid_in h).1), this.1, this.2⟩
  | tq ts =>
    cases d <;> simp only [bindT] at e <;> try cases e
    cases r with
    | tup h r =>
      exact ⟨_, _, rfl, (h.mono hid_le).sq, by rw [← r.len]; exact setAllT_len e, setAllT_ok (vs0 := vs0) (Q := Q) st r e k⟩
end

/-! ### what is walked -/
def ItOk (M : Addr → Prop) (J : It) (vs : List V) (H : Hp) : Prop :=
  ∀ H1, (∀ b o, ¬ M b → H b = some o → H1 b = some o) → ∀ i, (i < vs.length → J.go i H1 ∧ ∀ x H2, J.yld i H1 x H2 → H2 = H1 ∧ vs[i]? = some x) ∧ (vs.length ≤ i → J.stop i H1)
theorem itok_l {K : PySem.W.Frag} {M : Addr → Prop} {a : Addr} {vs : List V} {H : Hp} (h : ∀ H1, (∀ b o, ¬ M b → H b = some o → H1 b = some o) → SqL K H1 a vs) : ItOk M (Itl K a) vs H := fun H1 k i =>
  have q := h H1 k
  ⟨fun hi => ⟨⟨vs, vs[i], q, List.getElem?_eq_getElem hi⟩, fun x H2 y => ⟨y.1, y.2 vs q⟩⟩, fun hi => ⟨vs, q, hi⟩⟩
theorem itok_t {K : PySem.W.Frag} {M : Addr → Prop} {a : Addr} {vs : List V} {H : Hp} (h : ∀ H1, (∀ b o, ¬ M b → H b = some o → H1 b = some o) → SqT K H1 a vs) : ItOk M (Itt K a) vs H := fun H1 k i =>
  have q := h H1 k
  ⟨fun hi => ⟨⟨vs, vs[i], q, List.getElem?_eq_getElem hi⟩, fun x H2 y => ⟨y.1, y.2 vs q⟩⟩, fun hi => ⟨vs, q, hi⟩⟩
def tI (T : Nat → Str) (K : PySem.W.Frag) (fz : Bool) (f : EvF) : TI := fun σ H R => ∃ O wa env ω ws x ds ws', StR T K O wa env ω ws σ H ∧ f env ws = some (x, ws') ∧ itemsOf x = some ds ∧
  ∀ J H' vs, StR T K O wa env ω ws' σ H' → Stp wa H H' → Reps T K wa (hid (SS O ω wa) H') ds vs → ItOk (fun b => if fz then SS O ω wa b else wa = some b) J vs H' → R J H'
section
variable {T : Nat → Str} {X : Cx} {tg e a b : Expr} {fa fb : EvF} {pos p : Pos} {fz : Bool}
theorem PI.or {t t' : TI} (h : PI X tg e t) (h' : PI X tg e t') : PI X tg e (fun σ H R => t σ H R ∨ t' σ H R) :=
  ⟨fun pins s σ H R I q => q.elim (h.run pins s σ H R I) (h'.run pins s σ H R I)⟩
theorem mfz {O : Addr → Prop} {wa : Option Addr} {ω : Nat → Option Addr} {b : Addr} (s : ¬ SS O ω wa b) : ¬ (if fz then SS O ω wa b else wa = some b) := by
  cases fz
  · exact fun z => s (.inr (.inr (by simpa using z)))
  · simpa using s
theorem pi_v (ha : PE X a (if fz then tE T X.K fa else tB T X.K fa)) : PI X tg a (tI T X.K fz fa) :=
  PI.mono (PI.or (pi_list ha) (pi_tup ha)) fun σ H R ⟨O, wa, env, ω, ws, x, ds, ws', st, hf, hi, k⟩ => by
    -- the value, whatever kind it is
    have go : ∀ (W : V → Hp → Prop), (∀ v H', StR T X.K O wa env ω ws' σ H' → Stp wa H H' → (if fz then Rep T X.K wa (hid (SS O ω wa) H') x v else RepB T X.K wa (hid (SS O ω wa) H') H' x v) → W v H') → (if fz then tE T X.K fa else tB T X.K fa) σ H W := by
      intro W w
      cases fz
      · exact ⟨O, wa, env, ω, ws, x, ws', st, hf, fun v H' st' sp r => w v H' st' sp r⟩
      · exact ⟨O, wa, env, ω, ws, x, ws', st, hf, fun v H' st' sp r => w v H' st' sp r⟩
    have tb : ∀ {H' : Hp} {v : V}, (if fz then Rep T X.K wa (hid (SS O ω wa) H') x v else RepB T X.K wa (hid (SS O ω wa) H') H' x v) → RepB T X.K wa (hid (SS O ω wa) H') H' x v := fun h => by
      cases fz
      · exact h
      · exact .inl h
    cases x <;> simp only [itemsOf] at hi <;> cases hi
    · refine .inr (go _ fun v H' st' sp r => ?_)
      obtain ⟨p, vs, rfl, h1, h1', q1⟩ := (tb r).tup
      refine ⟨p, rfl, ⟨vs, h1⟩, k _ H' vs st' sp q1 (itok_t fun H1 kk => ?_)⟩
      rcases h1' with ⟨o, h, nd⟩ | h
      · exact .inl (.inr ⟨o, kk _ _ (mfz (hid_in h).2) (hid_in h).1⟩)
      · exact PlT.sq (H := H1) (.inr h)
    · refine .inl (go _ fun v H' st' sp r => ?_)
      cases fz
      · have r : RepB T X.K wa (hid (SS O ω wa) H') H' _ v := r
        rcases r with r | ⟨p, rfl, nw, vs, h1, q1⟩
        · cases r with
          | lst h q1 =>
            exact ⟨_, rfl, ⟨_, .inl (.inl (hid_in h).1)⟩, k _ H' _ st' sp q1 (itok_l fun H1 kk => .inl (.inl (kk _ _ (mfz (hid_in h).2) (hid_in h).1)))⟩
        · exact ⟨p, rfl, ⟨vs, .inl (.inl h1)⟩, k _ H' vs st' sp q1 (itok_l fun H1 kk => .inl (.inl (kk _ _ (by simpa using nw) h1)))⟩
      · have r : Rep T X.K wa (hid (SS O ω wa) H') _ v := r
        cases r with
        | lst h q1 =>
          exact ⟨_, rfl, ⟨_, .inl (.inl (hid_in h).1)⟩, k _ H' _ st' sp q1 (itok_l fun H1 kk => .inl (.inl (kk _ _ (mfz (hid_in h).2) (hid_in h).1)))⟩
    · refine .inl (go _ fun v H' st' sp r => ?_)
      rcases tb r with r | ⟨p, rfl, nw, r⟩
      · cases r with
        | scr h =>
          refine ⟨_, rfl, ⟨_, Same.seq hid_le h⟩, k _ H' _ st' sp (reps_ints _) (itok_l fun H1 kk => ?_)⟩
          rcases h with (h | ⟨o, h⟩) | h
          · exact .inl (.inl (kk _ _ (mfz (hid_in h).2) (hid_in h).1))
          · exact .inl (.inr ⟨o, kk _ _ (mfz (hid_in h).2) (hid_in h).1⟩)
          · exact .inr h
      · exact r.elim
def rngF (fa : EvF) : EvF := fun env ws => match fa env ws with
  | some (.int j, ws1) => if decide (-100000 ≤ j) && decide (j ≤ 100000) then some (.lst ((List.range j.toNat).map fun k : Nat => .int (0 + (k : Int))), ws1) else none
  | _ => none
def rng2F (fa fb : EvF) : EvF := fun env ws => match fa env ws with
  | some (.int i, ws1) => match fb env ws1 with
    | some (.int j, ws2) => if decide (-100000 ≤ i) && decide (i ≤ 100000) && decide (-100000 ≤ j) && decide (j ≤ 100000) then
        some (.lst ((List.range (j - i).toNat).map fun k : Nat => .int (i + (k : Int))), ws2) else none
    | _ => none
  | _ => none
theorem itok_r {M : Addr → Prop} {lo : Int} {n : Nat} {H : Hp} : ItOk M (Itr lo n) ((List.range n).map fun k : Nat => V.int (lo + (k : Int))) H := fun H1 _ i => by
  rw [List.length_map, List.length_range]
  refine ⟨fun hi => ⟨hi, fun x H2 y => ⟨y.1, ?_⟩⟩, fun hi => hi⟩
  rw [List.getElem?_map, List.getElem?_range hi, y.2]
  rfl
theorem reps_rng {T : Nat → Str} {K : PySem.W.Frag} {wa : Option Addr} {H : Hp} (lo : Int) (l : List Nat) : Reps T K wa H (l.map fun k : Nat => D.int (lo + (k : Int))) (l.map fun k : Nat => V.int (lo + (k : Int))) := by
  induction l with
  | nil => exact .nil
  | cons x l ih => exact .cons (.int _) ih
theorem pi_r1 (hg : Gl X "range") (hm : X.mg "range" = none) (ha : PE X a (tE T X.K fa)) (hs : noStar a = true) : PI X tg (.Call (.Name "range" p) [a] [] pos) (tI T X.K fz (rngF fa)) :=
  PI.mono (pi_range1 hg hm (pa_cons ha pa_nil (star_cons hs _ _)) (star_cons hs _ _)) fun σ H R ⟨O, wa, env, ω, ws, x, ds, ws', st, hf, hi, k⟩ => by
    unfold rngF at hf
    split at hf
    · rename_i j ws1 e1
      split at hf
      · rename_i hb
        rw [Bool.and_eq_true, decide_eq_true_eq, decide_eq_true_eq] at hb
        cases hf
        simp only [itemsOf] at hi
        cases hi
        refine ⟨O, wa, env, ω, ws, _, _, st, e1, fun v H1 st1 sp1 r => ?_⟩
        cases r
        refine ⟨j, rfl, by omega, by omega, k _ H1 _ st1 sp1 (reps_rng 0 _) itok_r⟩
      · cases hf
    · cases hf
theorem pi_r2 (hg : Gl X "range") (hm : X.mg "range" = none) (ha : PE X a (tE T X.K fa)) (hb : PE X b (tE T X.K fb)) (hs : noStar a = true) (hs2 : noStar b = true) : PI X tg (.Call (.Name "range" p) [a, b] [] pos) (tI T X.K fz (rng2F fa fb)) :=
  PI.mono (pi_range2 hg hm (pa_cons ha (pa_cons hb pa_nil (star_cons hs2 _ _)) (star_cons hs _ _)) (by rw [star_cons hs, star_cons hs2]; rfl) (star_cons hs2 _ _)) fun σ H R ⟨O, wa, env, ω, ws, x, ds, ws', st, hf, hi, k⟩ => by
    unfold rng2F at hf
    split at hf
    · rename_i i ws1 e1
      split at hf
      · rename_i j ws2 e2
        split at hf
        · rename_i hb
          rw [Bool.and_eq_true, Bool.and_eq_true, Bool.and_eq_true, decide_eq_true_eq, decide_eq_true_eq, decide_eq_true_eq, decide_eq_true_eq] at hb
          cases hf
          simp only [itemsOf] at hi
          cases hi
          refine ⟨O, wa, env, ω, ws, _, _, st, e1, fun v H1 st1 sp1 r => ?_⟩
          cases r
          refine ⟨O, wa, env, ω, _, _, _, st1, e2, fun v H2 st2 sp2 r => ?_⟩
          cases r
          refine ⟨i, j, rfl, ⟨by omega, by omega, by omega, by omega⟩, k _ H2 _ st2 (sp1.trans sp2) (reps_rng i _) itok_r⟩
        · cases hf
      · cases hf
    · cases hf
end
end Pv

set_option Elab.async false
set_option linter.all false
set_option maxRecDepth 100000
set_option maxHeartbeats 4000000
/-! Pv8: comprehensions, calls of defs. -/
namespace Pv
open PySem PySem.Spec PyProof.Rows L2

def compF (fi : EvF) (ft : EvTF) (fe : EvF) (tg : Tg) : EvF := fun env ws => match fi env ws with
  | none => none
  | some (x, ws1) => match itemsOf x with
    | none => none
    | some ds => if okLen ds.length then match compL ft fe tg (wipeE env (tgs tg)) ds ws1 with
      | none => none
      | some (r, ws2) => some (.lst r, ws2) else none
theorem compL_len {ft : EvTF} {fe : EvF} {tg : Tg} {env : Env} : ∀ {ds : List D} {ws : WS} {r : List D} {ws' : WS}, compL ft fe tg env ds ws = some (r, ws') → r.length ≤ ds.length
  | [], _, _, _, h => by simp only [compL] at h; cases h; exact Nat.le_refl _
  | d :: ds, ws, r, ws', h => by
    simp only [compL] at h
    split at h
    · cases h
    split at h
    · cases h
    · exact Nat.le_succ_of_le (compL_len h)
    · split at h
      · cases h
      split at h
      · cases h
      rename_i e
      cases h
      exact Nat.succ_le_succ (compL_len e)
section
variable {T : Nat → Str} {K : PySem.W.Frag} {fi fe : EvF} {ft : EvTF} {tg : Tg}
theorem lc_read (σ : L2.St) (H : Hp) (Q : VK) (h : tF T K (compF fi ft fe tg) σ H Q) : tLc (tI T K false fi) (gT K tg) (tT T K ft) (tE T K fe) (tgs tg) σ H Q := by
  obtain ⟨O, wa, env, ω, ws, d, ws', st, hf, k⟩ := h
  unfold compF at hf
  split at hf
  · cases hf
  rename_i x ws1 e1
  split at hf
  · cases hf
  rename_i ds e2
  split at hf
  case isFalse => cases hf
  rename_i hlen
  split at hf
  · cases hf
  rename_i res ws2 e3
  cases hf
  refine ⟨O, wa, env, ω, ws, x, ds, ws1, st, e1, e2, fun J H1 vs st1 sp1 rs it D hD => ?_⟩
  have lds := rs.len
  have nwD : wa ≠ some D := fun z => st1.fresh hD (.inr (.inr z))
  have nS := st1.fresh hD
  -- the block's owners
  let O2 : Addr → Prop := fun a => (O a ∨ a = D) ∨ ∃ i ∈ tgs tg, ω i = some a
  have stD : StR T K (fun a => O a ∨ a = D) wa env ω ws1 σ (upd H1 D (.lst [])) := st1.more hD _
  have stB : StR T K O2 wa (wipeE env (tgs tg)) (oms ω (tgs tg)) ws1 (L2.wipe σ (tgs tg)) (upd H1 D (.lst [])) := stD.wipe (tgs tg)
  have seq : ∀ a, SS O2 (oms ω (tgs tg)) wa a ↔ SS (fun a => O a ∨ a = D) ω wa a := fun a => by
    constructor
    · rintro ((q | ⟨i, _, q⟩) | ⟨i, q⟩ | q)
      · exact .inl q
      · exact .inr (.inl ⟨i, q⟩)
      · exact .inr (.inl ⟨i, (oms_some q).1⟩)
      · exact .inr (.inr q)
    · rintro (q | ⟨i, q⟩ | q)
      · exact .inl (.inl q)
      · by_cases hm : i ∈ tgs tg
        · exact .inl (.inr ⟨i, hm, q⟩)
        · refine .inr (.inl ⟨i, ?_⟩)
          have : ∀ l : List Nat, i ∉ l → oms ω l i = some a := by
            intro l
            induction l with
            | nil => intro _; exact q
            | cons x l ih =>
              intro hl
              simp only [List.mem_cons, not_or] at hl
              show om (oms ω l) x i = some a
              unfold om
              rw [if_neg hl.1]
              exact ih hl.2
          exact this _ hm
      · exact .inr (.inr q)
  have hidE : ∀ Hc : Hp, hid (SS O2 (oms ω (tgs tg)) wa) Hc = hid (SS (fun a => O a ∨ a = D) ω wa) Hc := fun Hc => by
    have : SS O2 (oms ω (tgs tg)) wa = SS (fun a => O a ∨ a = D) ω wa := funext fun a => propext (seq a)
    rw [this]
  have rsD : Reps T K wa (hid (SS O2 (oms ω (tgs tg)) wa) (upd H1 D (.lst []))) ds vs := by
    rw [hidE]; exact rs.mono (new_at st1 hD)
  -- the word
  let W : Nat → Nat → Hp → Prop := fun i m Hc => ∃ wsc acc accd rest, StR T K O2 wa (wipeE env (tgs tg)) (oms ω (tgs tg)) wsc (L2.wipe σ (tgs tg)) Hc ∧
    (∀ b o, b ≠ D → wa ≠ some b → H1 b = some o → Hc b = some o) ∧ Hc D = some (.lst acc) ∧ Reps T K wa (hid (SS O2 (oms ω (tgs tg)) wa) Hc) accd acc ∧ accd.length ≤ i ∧
    Reps T K wa (hid (SS O2 (oms ω (tgs tg)) wa) Hc) ds vs ∧
    compL ft fe tg (wipeE env (tgs tg)) (ds.drop i) wsc = some (rest, ws') ∧ accd ++ rest = res ∧ m = ds.length - i ∧ i ≤ ds.length
  refine ⟨W, ⟨ds.length, ws1, [], [], res, stB, fun b o nb _ q => ?_, upd_same, .nil, Nat.le_refl _, rsD, by simpa using e3, rfl, by omega, Nat.zero_le _⟩, ?_⟩
  · rw [upd_ne nb]; exact q
  rintro i m Hc ⟨wsc, acc, accd, rest, stc, keep, hacc, racc, hal, rsc, hc, hres, rfl, hi⟩
  have itc := it Hc (fun b o nM q => keep b o (fun z => by rw [z, hD] at q; cases q) (by simpa using nM) q) i
  by_cases hlt : i < ds.length
  · -- a turn
    obtain ⟨hgo, hyld⟩ := itc.1 (by rw [← lds]; exact hlt)
    refine .inr ⟨hgo, fun H' => ∃ m', m' < ds.length - i ∧ W (i + 1) m' H', fun H' q => q, fun v H2 hy => ?_⟩
    obtain ⟨rfl, hv⟩ := hyld v H2 hy
    have hdrop : ds.drop i = ds[i] :: ds.drop (i + 1) := List.drop_eq_getElem_cons hlt
    rw [hdrop] at hc
    obtain ⟨v', hv', rv⟩ := rsc.get (i := i) (d := ds[i]) (List.getElem?_eq_getElem hlt)
    rw [hv] at hv'
    cases hv'
    simp only [compL] at hc
    split at hc
    · cases hc
    rename_i env1 eb
    refine bindT_ok (vs0 := tgs tg) stc rv eb fun σ1 ω1 st2 h1 h2 h3 => ?_
    refine ⟨by rw [h3 fun _ h => h, wipe_idem], ?_⟩
    have same_om : ω1 = oms ω (tgs tg) := by
      funext j
      by_cases hm : j ∈ tgs tg
      · cases q : oms ω (tgs tg) j with
        | none =>
          cases q2 : ω1 j with
          | none => rfl
          | some a => rw [h2 j a q2] at q; cases q
        | some a => exact absurd hm (oms_some q).2
      · exact h1 j hm
    subst same_om
    -- what the block may own is what it owned
    have back : ∀ {Hn : Hp} {wsn : WS}, StR T K O2 wa env1 (oms ω (tgs tg)) wsn σ1 Hn → Stp wa H2 Hn → StR T K O2 wa (wipeE env (tgs tg)) (oms ω (tgs tg)) wsn (L2.wipe σ (tgs tg)) Hn := fun {Hn wsn} sn sp =>
      stc.evolve (fun a o _ nw q => sp a o nw q) (fun a q => sn.dom a q) sn.wsr
    split at hc
    · cases hc
    · -- the test says no
      rename_i ws3 et
      refine ⟨O2, wa, env1, _, wsc, false, ws3, st2, et, fun H3 st3 sp3 => ?_⟩
      dsimp only
      rw [if_neg (by decide)]
      refine ⟨ds.length - (i + 1), by omega, ws3, acc, accd, rest, back st3 sp3, fun b o nb nw q => sp3 b o nw (keep b o nb nw q), sp3 _ _ nwD hacc, racc.mono sp3.hid, by omega, rsc.mono sp3.hid, hc, hres, rfl, hlt⟩
    · rename_i ws3 et
      split at hc
      · cases hc
      rename_i y ws4 ee
      split at hc
      · cases hc
      rename_i rest' ws5 er
      cases hc
      refine ⟨O2, wa, env1, _, wsc, true, ws3, st2, et, fun H3 st3 sp3 => ?_⟩
      dsimp only
      rw [if_pos rfl]
      refine ⟨O2, wa, env1, _, ws3, y, ws4, st3, ee, fun u H4 st4 sp4 ry => ?_⟩
      have hacc4 : H4 D = some (.lst acc) := sp4 _ _ nwD (sp3 _ _ nwD hacc)
      refine ⟨acc, hacc4, ?_, ?_⟩
      · rw [← racc.len]; exact Nat.lt_of_le_of_lt (Nat.le_trans hal (Nat.le_of_lt hlt)) (len_lt hlen)
      · have sp := sp3.trans sp4
        have st5 := (back st4 sp).wr (p := D) (.lst (acc ++ [u])) (.inl (.inr rfl)) nwD
        have mm : Same (hid (SS O2 (oms ω (tgs tg)) wa) H4) (hid (SS O2 (oms ω (tgs tg)) wa) (upd H4 D (.lst (acc ++ [u])))) := hid_mono (fun a o s q => by rw [upd_ne (fun z => s (by rw [z]; exact .inl (.inl (.inr rfl))))]; exact q) fun _ q => q
        refine ⟨ds.length - (i + 1), by omega, ws4, acc ++ [u], accd ++ [y], rest', st5, fun b o nb nw q => ?_, upd_same, ((racc.mono sp.hid).app (.cons ry .nil)).mono mm, by rw [List.length_append, List.length_singleton]; omega, (rsc.mono sp.hid).mono mm, er, by rw [← hres, List.append_assoc]; rfl, rfl, hlt⟩
        rw [upd_ne nb]
        exact sp b o nw (keep b o nb nw q)
  · -- the end
    have ei : i = ds.length := by omega
    subst ei
    refine .inl ⟨itc.2 (by rw [← lds]; exact Nat.le_refl _), ?_⟩
    rw [List.drop_length] at hc
    simp only [compL] at hc
    cases hc
    rw [List.append_nil] at hres
    subst hres
    refine k D Hc ?_ ?_ nS (st1.back sp1 hD) ⟨acc, hacc, ?_⟩
    · refine stD.evolve (fun a o nO nw q => ?_) (fun a q => stc.dom a (.inl q)) ?_
      · have ne : a ≠ D := fun z => nO (.inr z)
        rw [upd_ne ne] at q
        exact keep a o ne nw q
      · have := stc.wsr
        rw [hidE] at this
        exact this
    · exact fun b o nw q => keep b o (fun z => by rw [← z] at hD; rw [sp1 b o nw q] at hD; cases hD) nw (sp1 b o nw q)
    · rw [hidE] at racc
      exact racc
end
/-! ### two clauses -/
def comp2F (fi fs : EvF) (ft : EvTF) (fe : EvF) (tg tg2 : Tg) : EvF := fun env ws => match fi env ws with
  | none => none
  | some (x, ws1) => match itemsOf x with
    | none => none
    | some ds => match compL2 fs ft fe tg tg2 (wipeE env (tgs tg ++ tgs tg2)) ds ws1 with
      | none => none
      | some (r, ws2) => if okLen r.length then some (.lst r, ws2) else none
theorem oms_in {ω : Nat → Option Addr} : ∀ {l : List Nat} {i : Nat}, i ∈ l → oms ω l i = none := fun {l i} h => by
  cases q : oms ω l i with
  | none => rfl
  | some a => exact absurd h (oms_some q).2
theorem oms_out {ω : Nat → Option Addr} {i : Nat} : ∀ {l : List Nat}, i ∉ l → oms ω l i = ω i
  | [], _ => rfl
  | x :: l, h => by
    simp only [List.mem_cons, not_or] at h
    show om (oms ω l) x i = ω i
    unfold om
    rw [if_neg h.1]
    exact oms_out h.2
theorem oms_oms {ω : Nat → Option Addr} {l l2 : List Nat} (h : ∀ i ∈ l2, i ∈ l) : oms (oms ω l) l2 = oms ω l := by
  funext i
  by_cases hi : i ∈ l2
  · rw [oms_in hi, oms_in (h i hi)]
  · rw [oms_out hi]
section
variable {T : Nat → Str} {K : PySem.W.Frag} {fi fs fe : EvF} {ft : EvTF} {tg tg2 : Tg}
theorem lc2_read (σ : L2.St) (H : Hp) (Q : VK) (h : tF T K (comp2F fi fs ft fe tg tg2) σ H Q) :
    tLc2 (tI T K false fi) (gT K tg) (tT T K fun _ ws => some (true, ws)) (tI T K true fs) (gT K tg2) (tT T K ft) (tE T K fe) (tgs tg ++ tgs tg2) (tgs tg2) σ H Q := by
  obtain ⟨O, wa, env, ω, ws, d, ws', st, hf, k⟩ := h
  unfold comp2F at hf
  split at hf
  · cases hf
  rename_i x ws1 e1
  split at hf
  · cases hf
  rename_i ds e2
  split at hf
  · cases hf
  rename_i res ws2 e3
  split at hf
  case isFalse => cases hf
  rename_i hlen
  cases hf
  refine ⟨O, wa, env, ω, ws, x, ds, ws1, st, e1, e2, fun J H1 vs st1 sp1 rs it D hD => ?_⟩
  have lds := rs.len
  have nwD : wa ≠ some D := fun z => st1.fresh hD (.inr (.inr z))
  have nS := st1.fresh hD
  generalize hal : tgs tg ++ tgs tg2 = al at e3 ⊢
  have hm1 : ∀ i ∈ tgs tg, i ∈ al := fun i hi => by rw [← hal]; exact List.mem_append_left _ hi
  have hm2 : ∀ i ∈ tgs tg2, i ∈ al := fun i hi => by rw [← hal]; exact List.mem_append_right _ hi
  -- the block's owners
  let O2 : Addr → Prop := fun a => (O a ∨ a = D) ∨ ∃ i ∈ al, ω i = some a
  have stD : StR T K (fun a => O a ∨ a = D) wa env ω ws1 σ (upd H1 D (.lst [])) := st1.more hD _
  have stB : StR T K O2 wa (wipeE env al) (oms ω al) ws1 (L2.wipe σ al) (upd H1 D (.lst [])) := stD.wipe al
  have seq : ∀ a, SS O2 (oms ω al) wa a ↔ SS (fun a => O a ∨ a = D) ω wa a := fun a => by
    constructor
    · rintro ((q | ⟨i, _, q⟩) | ⟨i, q⟩ | q)
      · exact .inl q
      · exact .inr (.inl ⟨i, q⟩)
      · exact .inr (.inl ⟨i, (oms_some q).1⟩)
      · exact .inr (.inr q)
    · rintro (q | ⟨i, q⟩ | q)
      · exact .inl (.inl q)
      · by_cases hm : i ∈ al
        · exact .inl (.inr ⟨i, hm, q⟩)
        · exact .inr (.inl ⟨i, by rw [oms_out hm]; exact q⟩)
      · exact .inr (.inr q)
  have hidE : ∀ Hc : Hp, hid (SS O2 (oms ω al) wa) Hc = hid (SS (fun a => O a ∨ a = D) ω wa) Hc := fun Hc => by
    have : SS O2 (oms ω al) wa = SS (fun a => O a ∨ a = D) ω wa := funext fun a => propext (seq a)
    rw [this]
  have rsD : Reps T K wa (hid (SS O2 (oms ω al) wa) (upd H1 D (.lst []))) ds vs := by
    rw [hidE]; exact rs.mono (new_at st1 hD)
  -- the word
  let W : Nat → Nat → Hp → Prop := fun i m Hc => ∃ wsc acc accd rest, StR T K O2 wa (wipeE env al) (oms ω al) wsc (L2.wipe σ al) Hc ∧
    (∀ b o, b ≠ D → wa ≠ some b → H1 b = some o → Hc b = some o) ∧ Hc D = some (.lst acc) ∧ Reps T K wa (hid (SS O2 (oms ω al) wa) Hc) accd acc ∧
    Reps T K wa (hid (SS O2 (oms ω al) wa) Hc) ds vs ∧
    compL2 fs ft fe tg tg2 (wipeE env al) (ds.drop i) wsc = some (rest, ws') ∧ accd ++ rest = res ∧ m = ds.length - i ∧ i ≤ ds.length
  refine ⟨W, ⟨ds.length, ws1, [], [], res, stB, fun b o nb _ q => ?_, upd_same, .nil, rsD, by simpa using e3, rfl, by omega, Nat.zero_le _⟩, ?_⟩
  · rw [upd_ne nb]; exact q
  rintro i m Hc ⟨wsc, acc, accd, rest, stc, keep, hacc, racc, rsc, hc, hres, rfl, hi⟩
  have itc := it Hc (fun b o nM q => keep b o (fun z => by rw [z, hD] at q; cases q) (by simpa using nM) q) i
  by_cases hlt : i < ds.length
  · -- a turn
    obtain ⟨hgo, hyld⟩ := itc.1 (by rw [← lds]; exact hlt)
    refine .inr ⟨hgo, fun H' => ∃ m', m' < ds.length - i ∧ W (i + 1) m' H', fun H' q => q, fun v H2 hy => ?_⟩
    obtain ⟨rfl, hv⟩ := hyld v H2 hy
    have hdrop : ds.drop i = ds[i] :: ds.drop (i + 1) := List.drop_eq_getElem_cons hlt
    rw [hdrop] at hc
    obtain ⟨v', hv', rv⟩ := rsc.get (i := i) (d := ds[i]) (List.getElem?_eq_getElem hlt)
    rw [hv] at hv'
    cases hv'
    simp only [compL2] at hc
    split at hc
    · cases hc
    rename_i env1 eb
    refine bindT_ok (vs0 := al) stc rv eb fun σ1 ω1 st2 h1 h2 h3 => ?_
    refine ⟨by rw [h3 hm1, wipe_idem], ?_⟩
    have same_om : ω1 = oms ω al := by
      funext j
      by_cases hm : j ∈ tgs tg
      · rw [oms_in (hm1 j hm)]
        cases q2 : ω1 j with
        | none => rfl
        | some a => have := h2 j a q2; rw [oms_in (hm1 j hm)] at this; cases this
      · exact h1 j hm
    subst same_om
    -- what the block may own is what it owned
    have back : ∀ {Hn : Hp} {wsn : WS}, (∀ a, O2 a → Hn a ≠ none) → WsR T K (hid (SS O2 (oms ω al) wa) Hn) Hn wa wsn → (∀ b o, b ≠ D → wa ≠ some b → H2 b = some o → Hn b = some o) → StR T K O2 wa (wipeE env al) (oms ω al) wsn (L2.wipe σ al) Hn := fun {Hn wsn} sd sw sp =>
      stc.evolve (fun a o nO nw q => sp a o (fun z => nO (.inl (.inr z))) nw q) (fun a q => sd a q) sw
    split at hc
    · cases hc
    rename_i x2 ws3 es2
    split at hc
    · cases hc
    rename_i es ei
    split at hc
    · cases hc
    rename_i r ws4 ec
    split at hc
    · cases hc
    rename_i r' ws5 er
    cases hc
    refine ⟨O2, wa, env1, _, wsc, true, wsc, st2, rfl, fun H3 st3 sp3 => ?_⟩
    dsimp only
    rw [if_pos rfl]
    refine ⟨O2, wa, env1, _, wsc, x2, es, ws3, st3, es2, ei, fun J1 H4 us st4 sp4 rus it1 => ?_⟩
    have sp34 := sp3.trans sp4
    have lus := rus.len
    have hacc4 : H4 D = some (.lst acc) := sp4 _ _ nwD (sp3 _ _ nwD hacc)
    -- the inner block
    have stI : StR T K O2 wa (wipeE env1 (tgs tg2)) (oms ω al) ws3 (L2.wipe σ1 (tgs tg2)) H4 := by
      have := st4.wipe (tgs tg2)
      rw [oms_oms hm2] at this
      refine this.iff fun a => ⟨fun q => .inl q, fun q => q.elim id fun ⟨i, hi, q⟩ => ?_⟩
      rw [oms_in (hm2 i hi)] at q; cases q
    let W1 : Nat → Nat → Hp → Prop := fun j k2 Hj => ∃ wsj accj accdj restj, StR T K O2 wa (wipeE env1 (tgs tg2)) (oms ω al) wsj (L2.wipe σ1 (tgs tg2)) Hj ∧
      (∀ b o, b ≠ D → wa ≠ some b → H4 b = some o → Hj b = some o) ∧ Hj D = some (.lst accj) ∧ Reps T K wa (hid (SS O2 (oms ω al) wa) Hj) accdj accj ∧
      Reps T K wa (hid (SS O2 (oms ω al) wa) Hj) es us ∧ Reps T K wa (hid (SS O2 (oms ω al) wa) Hj) ds vs ∧
      compL ft fe tg2 (wipeE env1 (tgs tg2)) (es.drop j) wsj = some (restj, ws4) ∧ accdj ++ (restj ++ r') = res ∧ k2 = es.length - j ∧ j ≤ es.length
    refine ⟨W1, ⟨es.length, ws3, acc, accd, r, stI, fun _ _ _ _ q => q, hacc4, racc.mono sp34.hid, rus, rsc.mono sp34.hid, by simpa using ec, hres, by omega, Nat.zero_le _⟩, ?_⟩
    rintro j k2 Hj ⟨wsj, accj, accdj, restj, stj, keepj, haccj, raccj, rsj, rdj, hcj, hresj, rfl, hj⟩
    have itj := it1 Hj (fun b o nM q => keepj b o (fun z => (by simpa using nM : ¬ SS O2 (oms ω al) wa b) (.inl (.inl (.inr z)))) (fun z => (by simpa using nM : ¬ SS O2 (oms ω al) wa b) (.inr (.inr z))) q) j
    by_cases hltj : j < es.length
    · obtain ⟨hgo1, hyld1⟩ := itj.1 (by rw [← lus]; exact hltj)
      refine .inr ⟨hgo1, fun H' => ∃ k', k' < es.length - j ∧ W1 (j + 1) k' H', fun H' q => q, fun v2 H5 hy2 => ?_⟩
      obtain ⟨rfl, hv2⟩ := hyld1 v2 H5 hy2
      have hdropj : es.drop j = es[j] :: es.drop (j + 1) := List.drop_eq_getElem_cons hltj
      rw [hdropj] at hcj
      obtain ⟨v2', hv2', rv2⟩ := rsj.get (i := j) (d := es[j]) (List.getElem?_eq_getElem hltj)
      rw [hv2] at hv2'
      cases hv2'
      simp only [compL] at hcj
      split at hcj
      · cases hcj
      rename_i env2 eb2
      refine bindT_ok (vs0 := tgs tg2) stj rv2 eb2 fun σ2 ω2 st5 g1 g2 g3 => ?_
      refine ⟨by rw [g3 fun _ h => h, wipe_idem], ?_⟩
      have same_om2 : ω2 = oms ω al := by
        funext j2
        by_cases hm : j2 ∈ tgs tg2
        · rw [oms_in (hm2 j2 hm)]
          cases q2 : ω2 j2 with
          | none => rfl
          | some a => have := g2 j2 a q2; rw [oms_in (hm2 j2 hm)] at this; cases this
        · exact g1 j2 hm
      subst same_om2
      have backj : ∀ {Hn : Hp} {wsn : WS}, StR T K O2 wa env2 (oms ω al) wsn σ2 Hn → Stp wa H5 Hn → StR T K O2 wa (wipeE env1 (tgs tg2)) (oms ω al) wsn (L2.wipe σ1 (tgs tg2)) Hn := fun {Hn wsn} sn sp =>
        stj.evolve (fun a o _ nw q => sp a o nw q) (fun a q => sn.dom a q) sn.wsr
      have lacc : accdj.length ≤ res.length := by rw [← hresj, List.length_append]; omega
      split at hcj
      · cases hcj
      · -- the test says no
        rename_i ws6 et
        refine ⟨O2, wa, env2, _, wsj, false, ws6, st5, et, fun H6 st6 sp6 => ?_⟩
        dsimp only
        rw [if_neg (by decide)]
        exact ⟨es.length - (j + 1), by omega, ws6, accj, accdj, restj, backj st6 sp6, fun b o nb nw q => sp6 b o nw (keepj b o nb nw q), sp6 _ _ nwD haccj, raccj.mono sp6.hid, rsj.mono sp6.hid, rdj.mono sp6.hid, hcj, hresj, rfl, hltj⟩
      · rename_i ws6 et
        split at hcj
        · cases hcj
        rename_i y ws7 ee
        split at hcj
        · cases hcj
        rename_i restj' ws8 er2
        cases hcj
        refine ⟨O2, wa, env2, _, wsj, true, ws6, st5, et, fun H6 st6 sp6 => ?_⟩
        dsimp only
        rw [if_pos rfl]
        refine ⟨O2, wa, env2, _, ws6, y, ws7, st6, ee, fun u H7 st7 sp7 ry => ?_⟩
        have hacc7 : H7 D = some (.lst accj) := sp7 _ _ nwD (sp6 _ _ nwD haccj)
        refine ⟨accj, hacc7, ?_, ?_⟩
        · have l1 : accdj.length < res.length := by rw [← hresj, List.length_append, List.length_append, List.length_cons]; omega
          rw [← raccj.len]; exact Nat.lt_of_lt_of_le l1 (Nat.le_of_lt (len_lt hlen))
        · have sp := sp6.trans sp7
          have st8 := (backj st7 sp).wr (p := D) (.lst (accj ++ [u])) (.inl (.inr rfl)) nwD
          have mm : Same (hid (SS O2 (oms ω al) wa) H7) (hid (SS O2 (oms ω al) wa) (upd H7 D (.lst (accj ++ [u])))) := hid_mono (fun a o s q => by rw [upd_ne (fun z => s (by rw [z]; exact .inl (.inl (.inr rfl))))]; exact q) fun _ q => q
          refine ⟨es.length - (j + 1), by omega, ws7, accj ++ [u], accdj ++ [y], restj', st8, fun b o nb nw q => ?_, upd_same, ((raccj.mono sp.hid).app (.cons ry .nil)).mono mm, (rsj.mono sp.hid).mono mm, (rdj.mono sp.hid).mono mm, er2, by rw [← hresj, List.append_assoc]; rfl, rfl, hltj⟩
          rw [upd_ne nb]
          exact sp b o nw (keepj b o nb nw q)
    · have ej : j = es.length := by omega
      subst ej
      refine .inl ⟨itj.2 (by rw [← lus]; exact Nat.le_refl _), ?_⟩
      rw [List.drop_length] at hcj
      simp only [compL] at hcj
      cases hcj
      refine ⟨ds.length - (i + 1), by omega, ws4, accj, accdj, r', back (fun a q => stj.dom a q) stj.wsr (fun b o nb nw q => keepj b o nb nw (sp34 b o nw q)), fun b o nb nw q => keepj b o nb nw (sp34 b o nw (keep b o nb nw q)), haccj, raccj, rdj, er, by simpa using hresj, rfl, hlt⟩
  · -- the end
    have ei : i = ds.length := by omega
    subst ei
    refine .inl ⟨itc.2 (by rw [← lds]; exact Nat.le_refl _), ?_⟩
    rw [List.drop_length] at hc
    simp only [compL2] at hc
    cases hc
    rw [List.append_nil] at hres
    subst hres
    refine k D Hc ?_ ?_ nS (st1.back sp1 hD) ⟨acc, hacc, ?_⟩
    · refine stD.evolve (fun a o nO nw q => ?_) (fun a q => stc.dom a (.inl q)) ?_
      · have ne : a ≠ D := fun z => nO (.inr z)
        rw [upd_ne ne] at q
        exact keep a o ne nw q
      · have := stc.wsr
        rw [hidE] at this
        exact this
    · exact fun b o nw q => keep b o (fun z => by rw [← z] at hD; rw [sp1 b o nw q] at hD; cases hD) nw (sp1 b o nw q)
    · rw [hidE] at racc
      exact racc
end
section
variable {T : Nat → Str} {X : Cx} {elt tge iter tge2 iter2 : Expr} {ifs : List Expr} {scope : Scope} {own : List (Str × Nat)} {pos : Pos} {fi fs fe : EvF} {ft : EvTF} {tg tg2 : Tg}
theorem pts_n0 : PTs X [] (tT T X.K fun _ ws => some (true, ws)) :=
  ⟨fun pins s σ H Q I h => pts_nil.run pins s σ H Q I (by
    obtain ⟨O, wa, env, ω, ws, d, ws', st, hf, k⟩ := h
    cases hf
    exact k H st (Stp.refl _ _))⟩
theorem pe_cm2 (hc : X.calm = true) (hN : X.N.Nodup) (hi : PI X tge iter (tI T X.K false fi)) (ok : BlkOk X.N X.env.scope scope own) (hown : own.map (·.2) = tgs tg ++ tgs tg2)
    (hg : ∀ (s : Shared) (H : Hp) (C : Addr) (cl : List (Str × Addr)) (fp : List Addr), PG (X.blk s H scope (compEnvC scope cl C X.env) fp) tge (gT X.K tg))
    (hi2 : ∀ (s : Shared) (H : Hp) (C : Addr) (cl : List (Str × Addr)) (fp : List Addr), PI (X.blk s H scope (compEnvC scope cl C X.env) fp) tge2 iter2 (tI T X.K true fs))
    (hg2 : ∀ (s : Shared) (H : Hp) (C : Addr) (cl : List (Str × Addr)) (fp : List Addr), PG (X.blk s H scope (compEnvC scope cl C X.env) fp) tge2 (gT X.K tg2))
    (ht : ∀ (s : Shared) (H : Hp) (C : Addr) (cl : List (Str × Addr)) (fp : List Addr), PTs (X.blk s H scope (compEnvC scope cl C X.env) fp) ifs (tT T X.K ft))
    (he : ∀ (s : Shared) (H : Hp) (C : Addr) (cl : List (Str × Addr)) (fp : List Addr), PE (X.blk s H scope (compEnvC scope cl C X.env) fp) elt (tE T X.K fe)) (hs : ∀ x, foldedSetIterable iter X.env x = pure x)
    (hs2 : ∀ env x, foldedSetIterable iter2 env x = pure x) :
    PE X (.ListComp elt [⟨tge, iter, [], 0⟩, ⟨tge2, iter2, ifs, 0⟩] scope pos) (tF T X.K (comp2F fi fs ft fe tg tg2)) := by
  have h0 : ∀ (s : Shared) (H : Hp) (C : Addr) (cl : List (Str × Addr)) (fp : List Addr), PTs (X.blk s H scope (compEnvC scope cl C X.env) fp) [] (tT T X.K fun _ ws => some (true, ws)) := fun _ _ _ _ _ => pts_n0
  have := pe_lc2 (pos := pos) (vs1 := tgs tg2) hc hN hi ok (fun i hi => by rw [hown]; exact List.mem_append_right _ hi) hg h0 hi2 hg2 ht he hs hs2
  rw [hown] at this
  exact PE.mono this lc2_read
end
section
variable {T : Nat → Str} {X : Cx} {elt tge iter : Expr} {ifs : List Expr} {scope : Scope} {own : List (Str × Nat)} {pos : Pos} {fi fe : EvF} {ft : EvTF} {tg : Tg}
theorem pe_cm (hc : X.calm = true) (hN : X.N.Nodup) (hi : PI X tge iter (tI T X.K false fi)) (ok : BlkOk X.N X.env.scope scope own) (hown : own.map (·.2) = tgs tg)
    (hg : ∀ (s : Shared) (H : Hp) (C : Addr) (cl : List (Str × Addr)) (fp : List Addr), PG (X.blk s H scope (compEnvC scope cl C X.env) fp) tge (gT X.K tg))
    (ht : ∀ (s : Shared) (H : Hp) (C : Addr) (cl : List (Str × Addr)) (fp : List Addr), PTs (X.blk s H scope (compEnvC scope cl C X.env) fp) ifs (tT T X.K ft))
    (he : ∀ (s : Shared) (H : Hp) (C : Addr) (cl : List (Str × Addr)) (fp : List Addr), PE (X.blk s H scope (compEnvC scope cl C X.env) fp) elt (tE T X.K fe)) (hs : ∀ x, foldedSetIterable iter X.env x = pure x) :
    PE X (.ListComp elt [⟨tge, iter, ifs, 0⟩] scope pos) (tF T X.K (compF fi ft fe tg)) := by
  have := pe_lc (pos := pos) hc hN hi ok hg ht he hs
  rw [hown] at this
  exact PE.mono this lc_read
theorem pts_n : PTs X [] (tT T X.K fun _ ws => some (true, ws)) :=
  ⟨fun pins s σ H Q I h => pts_nil.run pins s σ H Q I (by
    obtain ⟨O, wa, env, ω, ws, d, ws', st, hf, k⟩ := h
    cases hf
    exact k H st (Stp.refl _ _))⟩
end

/-! ### what a def keeps -/
def O2S (O : Addr → Prop) (wa : Option Addr) : Addr → Prop := SS O (fun _ => none) wa
def spO (T : Nat → Str) (K : PySem.W.Frag) (P : Nat → Option Def) (n f : Nat) : Sp := fun vs H Q _ => ∃ O wa ws ds d ws', (∀ a, O a → H a ≠ none) ∧ WsR T K (hid (O2S O wa) H) H wa ws ∧
  Reps T K wa (hid (O2S O wa) H) ds vs ∧ callO P n f ds ws = some (d, ws') ∧
  ∀ v H', Stp wa H H' → WsR T K (hid (O2S O wa) H') H' wa ws' → Rep T K wa (hid (O2S O wa) H') d v → Q v H'
section
variable {T : Nat → Str} {X : Cx} {P : Nat → Option Def} {n f : Nat} {ga : EvAF} {es : List Expr} {e : Expr} {pos p : Pos} {x : Str} {fA : Addr} {fd : FuncData} {ps : List Str}
def callF (Φ : Fns) (f : Nat) (ga : EvAF) : EvF := fun env ws => match ga env ws with
  | none => none
  | some (ds, ws1) => Φ f ds ws1
theorem call_read (σ : L2.St) (H : Hp) (Q : VK) (h : tE T X.K (callF (callO P n) f ga) σ H Q) : tCall (spO T X.K P n f) [] E0 (tA T X.K ga) σ H Q := by
  obtain ⟨O, wa, env, ω, ws, d, ws', st, hf, k⟩ := h
  unfold callF at hf
  split at hf
  · cases hf
  rename_i ds ws1 e1
  refine ⟨O, wa, env, ω, ws, ds, ws1, st, e1, fun vs H1 st1 sp1 r1 => ?_⟩
  dsimp only
  rw [List.append_nil]
  have heq : O2S (fun a => O a ∨ ∃ i, ω i = some a) wa = SS O ω wa := funext fun a => propext ⟨fun q => by
      rcases q with (q | q) | ⟨i, q⟩ | q
      · exact .inl q
      · exact .inr (.inl q)
      · cases q
      · exact .inr (.inr q), fun q => by
      rcases q with q | q | q
      · exact .inl (.inl q)
      · exact .inl (.inr q)
      · exact .inr (.inr q)⟩
  refine ⟨fun a => O a ∨ ∃ i, ω i = some a, wa, ws1, ds, d, ws', fun a q => ?_, ?_, ?_, hf, fun v H2 sp2 w2 r2 => ?_⟩
  · exact st1.sdom (q.elim .inl fun z => .inr (.inl z))
  · rw [heq]; exact st1.wsr
  · rw [heq]; exact r1
  · rw [heq] at w2 r2
    refine k v H2 (st1.evolve (fun a o _ nw q => sp2 a o nw q) (fun a q z => ?_) w2) (sp1.trans sp2) r2
    cases c : H1 a with
    | none => exact st1.dom a q c
    | some o =>
      by_cases nw : wa = some a
      · have := w2
        rw [nw] at this
        cases ws' with
        | none => exact this
        | some kvs =>
          obtain ⟨kv', h1, _⟩ := this
          rw [h1] at z; cases z
      · rw [sp2 a o nw c] at z; cases z
theorem pe_cl (F : FnOk X.prog X.w X.K X.mg X.base CX0 n fA fd ps (spO T X.K P n f)) (hr : Room n X.A) (hg : Gl X x) (hm : X.mg x = some (.ref fA)) (hk : PySem.W.keepIn X.K (.ref fA) = true) (hb : Binds X.K fd ps [])
    (ha : PA X (e :: es) (tA T X.K ga)) (hdb : (x == ("__debug__" : Str)) = false) (hs : noStar e = true) (hss : es.all noStar = true) : PE X (.Call (.Name x p) (e :: es) [] pos) (tE T X.K (callF (callO P n) f ga)) :=
  PE.mono (pe_call F hr hg hm hk hb .nil pass0 ha hdb (star_cons hs _ _) (star_any _ hss)) call_read
end
end Pv

set_option Elab.async false
set_option linter.all false
set_option maxRecDepth 100000
set_option maxHeartbeats 4000000
/-! Pv9: statements. -/
namespace Pv
open PySem PySem.Spec PyProof.Rows L2

/-! ### from one state of a frame to a later one -/
structure Evo (ω : Nat → Option Addr) (wa : Option Addr) (H : Hp) (ω' : Nat → Option Addr) (wa' : Option Addr) (H' : Hp) : Prop where
  keep : ∀ b o, wa ≠ some b → (∀ i, ω i ≠ some b) → H b = some o → H' b = some o
  dom : ∀ b, H b ≠ none → H' b ≠ none
  own : ∀ i a, ω' i = some a → (∃ j, ω j = some a) ∨ H a = none
  rc : ∀ a, wa' = some a → wa = some a ∨ H a = none
  was : wa = none ∨ wa' = wa
theorem Evo.refl (ω : Nat → Option Addr) (wa : Option Addr) (H : Hp) : Evo ω wa H ω wa H := ⟨fun _ _ _ _ h => h, fun _ h => h, fun i _ h => .inl ⟨i, h⟩, fun _ h => .inl h, .inr rfl⟩
theorem Evo.trans {ω ω1 ω2 : Nat → Option Addr} {wa wa1 wa2 : Option Addr} {H H1 H2 : Hp} (a : Evo ω wa H ω1 wa1 H1) (b : Evo ω1 wa1 H1 ω2 wa2 H2) : Evo ω wa H ω2 wa2 H2 := by
  have nn : ∀ {x : Addr}, H1 x = none → H x = none := fun {x} h => by
    cases c : H x with
    | none => rfl
    | some o => exact absurd h (a.dom x (by rw [c]; simp))
  refine ⟨fun x o nw no h => ?_, fun x h => b.dom x (a.dom x h), fun i x h => ?_, fun x h => ?_, ?_⟩
  · refine b.keep x o (fun z => ?_) (fun i z => ?_) (a.keep x o nw no h)
    · rcases a.rc x z with q | q
      · exact nw q
      · rw [h] at q; cases q
    · rcases a.own i x z with ⟨j, q⟩ | q
      · exact no j q
      · rw [h] at q; cases q
  · rcases b.own i x h with ⟨j, q⟩ | q
    · exact a.own j x q
    · exact .inr (nn q)
  · rcases b.rc x h with q | q
    · exact a.rc x q
    · exact .inr (nn q)
  · rcases a.was with q | q
    · exact .inl q
    · rcases b.was with r | r
      · rw [← q]; exact .inl r
      · exact .inr (r.trans q)
theorem Stp.evo {ω : Nat → Option Addr} {wa : Option Addr} {H H' : Hp} (e : Stp wa H H') (hw : ∀ a, wa = some a → H' a ≠ none) : Evo ω wa H ω wa H' := by
  refine ⟨fun b o nw _ h => e b o nw h, fun b h => ?_, fun i _ h => .inl ⟨i, h⟩, fun _ h => .inl h, .inr rfl⟩
  cases c : H b with
  | none => exact absurd c h
  | some o =>
    by_cases nw : wa = some b
    · exact hw b nw
    · rw [e b o nw c]; simp
section
variable {T : Nat → Str} {K : PySem.W.Frag} {O : Addr → Prop} {wa : Option Addr} {env : Env} {ω : Nat → Option Addr} {ws ws' : WS} {σ : L2.St} {H H' : Hp}
theorem StR.evoS (h : StR T K O wa env ω ws' σ H') (e : Stp wa H H') : Evo ω wa H ω wa H' := e.evo fun a z => h.sdom (.inr (.inr z))
theorem es_out : ∀ (env : Env) (i : Nat) (s : Slot), env.length ≤ i → es env i s = env
  | [], _, _, _ => rfl
  | _ :: _, 0, _, h => absurd h (by simp)
  | x :: r, i + 1, s, h => congrArg (x :: ·) (es_out r i s (Nat.le_of_succ_le_succ h))
/-- a name takes an object of its own -/
def ow1 (env : Env) (ω : Nat → Option Addr) (i : Nat) (a : Addr) : Nat → Option Addr := fun j => if j = i then (if i < env.length then some a else none) else ω j
theorem ow1_some {i j : Nat} {a b : Addr} (h : ow1 env ω i a j = some b) : (j = i ∧ i < env.length ∧ a = b) ∨ (j ≠ i ∧ ω j = some b) := by
  unfold ow1 at h
  split at h
  · split at h
    · exact .inl ⟨by assumption, by assumption, Option.some.inj h⟩
    · cases h
  · exact .inr ⟨by assumption, h⟩
theorem StR.take {a : Addr} {d : D} (h : StR T K (fun x => O x ∨ x = a) wa env ω ws σ H) (i : Nat) (ns : ¬ SS O ω wa a) (o : OwnAt T K wa (hid (SS (fun x => O x ∨ x = a) ω wa) H) H d a) :
    StR T K O wa (es env i (.ow d)) (ow1 env ω i a) ws (σ.set i (some (.ref a))) H := by
  have m : Same (hid (SS (fun x => O x ∨ x = a) ω wa) H) (hid (SS O (ow1 env ω i a) wa) H) := hid_mono (fun _ _ _ q => q) fun b q => by
    rcases q with q | ⟨j, q⟩ | q
    · exact .inl (.inl q)
    · rcases ow1_some q with ⟨_, _, e⟩ | ⟨_, e⟩
      · exact .inl (.inr e.symm)
      · exact .inr (.inl ⟨j, e⟩)
    · exact .inr (.inr q)
  refine ⟨by rw [List.length_set, es_len]; exact h.len, fun j => ?_, fun j b q => ?_, fun j l b q q' => ?_, fun b q => h.dom b (.inl q), h.wsr.mono m fun _ _ _ q => q⟩
  · by_cases e : j = i
    · subst e
      by_cases hl : j < env.length
      · rw [eg_eq env j _ hl]
        exact ⟨a, by unfold ow1; rw [if_pos rfl, if_pos hl], by rw [List.getElem?_set_self (by rw [h.len]; exact hl)], o.mono m fun _ q => q⟩
      · rw [eg_out _ _ (by rw [es_len]; omega)]
        trivial
    · rw [eg_ne env i j _ e]
      have q := h.slot j
      cases hs : eg env j with
      | un => trivial
      | va d =>
        rw [hs] at q
        obtain ⟨v, h1, h2⟩ := q
        exact ⟨v, by rw [List.getElem?_set_ne (Ne.symm e)]; exact h1, h2.mono m⟩
      | ow d =>
        rw [hs] at q
        obtain ⟨b, h1, h2, h3⟩ := q
        exact ⟨b, by unfold ow1; rw [if_neg e]; exact h1, by rw [List.getElem?_set_ne (Ne.symm e)]; exact h2, h3.mono m fun _ q => q⟩
  · rcases ow1_some q with ⟨e, hl, rfl⟩ | ⟨e, q⟩
    · subst e
      rw [eg_eq env j _ hl]
      exact ⟨⟨d, rfl⟩, fun z => ns (.inl z), fun z => ns (.inr (.inr z))⟩
    · rw [eg_ne env i j _ e]
      have z := h.own j b q
      exact ⟨z.1, fun y => z.2.1 (.inl y), z.2.2⟩
  · rcases ow1_some q with ⟨e, hl, e2⟩ | ⟨e, q⟩
    · rcases ow1_some q' with ⟨e', _, _⟩ | ⟨e', q'⟩
      · rw [e, e']
      · exact absurd (.inr (.inl ⟨l, by rw [e2]; exact q'⟩)) ns
    · rcases ow1_some q' with ⟨e', _, e2⟩ | ⟨e', q'⟩
      · exact absurd (.inr (.inl ⟨j, by rw [e2]; exact q⟩)) ns
      · exact h.inj j l b q q'
/-- an own object is written -/
theorem StR.put {i : Nat} {a : Addr} {d d' : D} {o : HO} (h : StR T K O wa env ω ws σ H) (hi : ω i = some a) (he : eg env i = .ow d) (own : OwnAt T K wa (hid (SS O ω wa) (upd H a o)) (upd H a o) d' a) :
    StR T K O wa (es env i (.ow d')) ω ws σ (upd H a o) := by
  have hS : SS O ω wa a := .inr (.inl ⟨i, hi⟩)
  have nw := (h.own i a hi).2.2
  have m : Same (hid (SS O ω wa) H) (hid (SS O ω wa) (upd H a o)) := hid_mono (fun b u s q => by rw [upd_ne (fun z => s (by rw [z]; exact hS))]; exact q) fun _ q => q
  have hl : i < env.length := by
    by_cases c : i < env.length
    · exact c
    · rw [eg_out _ _ (by omega)] at he; cases he
  refine ⟨by rw [es_len]; exact h.len, fun j => ?_, fun j b q => ?_, h.inj, fun b q z => ?_, h.wsr.mono m fun b u e q => by rw [upd_ne (fun z => nw (by rw [← z]; exact e))]; exact q⟩
  · by_cases e : j = i
    · subst e
      rw [eg_eq env j _ hl]
      have q := h.slot j
      rw [he] at q
      obtain ⟨b, h1, h2, h3⟩ := q
      rw [hi] at h1
      cases h1
      exact ⟨a, hi, h2, own⟩
    · rw [eg_ne env i j _ e]
      have q := h.slot j
      cases hs : eg env j with
      | un => trivial
      | va d =>
        rw [hs] at q
        obtain ⟨v, h1, h2⟩ := q
        exact ⟨v, h1, h2.mono m⟩
      | ow d =>
        rw [hs] at q
        obtain ⟨b, h1, h2, h3⟩ := q
        exact ⟨b, h1, h2, h3.mono m fun u q => by rw [upd_ne (fun z => e (h.inj j i a (by rw [← z]; exact h1) hi))]; exact q⟩
  · by_cases e : j = i
    · subst e
      rw [eg_eq env j _ hl]
      exact ⟨⟨d', rfl⟩, (h.own j b q).2⟩
    · rw [eg_ne env i j _ e]
      exact h.own j b q
  · by_cases e : b = a
    · subst e; rw [upd_same] at z; cases z
    · rw [upd_ne e] at z; exact h.dom b q z
theorem evo_put {i : Nat} {a : Addr} {o : HO} (hi : ω i = some a) : Evo ω wa H ω wa (upd H a o) :=
  ⟨fun b u _ no q => by rw [upd_ne (fun z => no i (by rw [z]; exact hi))]; exact q, fun b q z => by
    by_cases e : b = a
    · subst e; rw [upd_same] at z; cases z
    · rw [upd_ne e] at z; exact q z, fun j _ h => .inl ⟨j, h⟩, fun _ h => .inl h, .inr rfl⟩
theorem evo_om (i : Nat) : Evo ω wa H (om ω i) wa H := ⟨fun _ _ _ _ h => h, fun _ h => h, fun j _ h => .inl ⟨j, (om_some h).1⟩, fun _ h => .inl h, .inr rfl⟩
theorem evo_sub {ω' : Nat → Option Addr} (h : ∀ j a, ω' j = some a → ω j = some a) : Evo ω wa H ω' wa H := ⟨fun _ _ _ _ h => h, fun _ h => h, fun j a q => .inl ⟨j, h j a q⟩, fun _ h => .inl h, .inr rfl⟩
/-- nothing is one's own any longer -/
theorem StR.frz (h : StR T K O wa env ω ws σ H) : StR T K O wa (frzA env) (fun _ => none) ws σ H := by
  have m : Same (hid (SS O ω wa) H) (hid (SS O (fun _ => none) wa) H) := hid_mono (fun _ _ _ q => q) fun b q => by
    rcases q with q | ⟨j, q⟩ | q
    · exact .inl q
    · cases q
    · exact .inr (.inr q)
  have eg_frz : ∀ (env : Env) (i : Nat), eg (frzA env) i = frzS (eg env i) := by
    intro env
    induction env with
    | nil => intro i; rfl
    | cons s r ih =>
      intro i
      cases i with
      | zero => rfl
      | succ i => exact ih i
  refine ⟨by unfold frzA; rw [List.length_map]; exact h.len, fun i => ?_, fun i a q => (by cases q), fun i j a q => (by cases q), h.dom, h.wsr.mono m fun _ _ _ q => q⟩
  rw [eg_frz]
  have q := h.slot i
  cases hs : eg env i with
  | un => trivial
  | va d =>
    rw [hs] at q
    obtain ⟨v, h1, h2⟩ := q
    exact ⟨v, h1, h2.mono m⟩
  | ow d =>
    rw [hs] at q
    obtain ⟨a, h1, h2, h3⟩ := q
    refine ⟨_, h2, h3.rep m fun o q => hid_of q fun z => ?_⟩
    rcases z with z | ⟨j, z⟩ | z
    · exact (h.own i a h1).2.1 z
    · cases z
    · exact (h.own i a h1).2.2 z
theorem StR.frz1 (h : StR T K O wa env ω ws σ H) (i : Nat) : StR T K O wa (es env i (frzS (eg env i))) (om ω i) ws σ H := by
  have m : Same (hid (SS O ω wa) H) (hid (SS O (om ω i) wa) H) := hid_mono (fun _ _ _ q => q) fun _ => SS_om
  refine ⟨by rw [es_len]; exact h.len, fun j => ?_, fun j a q => ?_, fun j l a q q' => h.inj j l a (om_some q).1 (om_some q').1, h.dom, h.wsr.mono m fun _ _ _ q => q⟩
  · by_cases e : j = i
    · subst e
      by_cases hl : j < env.length
      · rw [eg_eq env j _ hl]
        have q := h.slot j
        cases hs : eg env j with
        | un => trivial
        | va d =>
          rw [hs] at q
          obtain ⟨v, h1, h2⟩ := q
          exact ⟨v, h1, h2.mono m⟩
        | ow d =>
          rw [hs] at q
          obtain ⟨a, h1, h2, h3⟩ := q
          refine ⟨_, h2, h3.rep m fun o q => hid_of q fun z => ?_⟩
          rcases z with z | ⟨l, z⟩ | z
          · exact (h.own j a h1).2.1 z
          · obtain ⟨z1, z2⟩ := om_some z
            exact z2 (h.inj l j a z1 h1)
          · exact (h.own j a h1).2.2 z
      · rw [eg_out _ _ (by rw [es_len]; omega)]
        trivial
    · rw [eg_ne env i j _ e]
      have q := h.slot j
      cases hs : eg env j with
      | un => trivial
      | va d =>
        rw [hs] at q
        obtain ⟨v, h1, h2⟩ := q
        exact ⟨v, h1, h2.mono m⟩
      | ow d =>
        rw [hs] at q
        obtain ⟨a, h1, h2, h3⟩ := q
        exact ⟨a, by unfold om; rw [if_neg e]; exact h1, h2, h3.mono m fun _ q => q⟩
  · obtain ⟨q, e⟩ := om_some q
    rw [eg_ne env i j _ e]
    exact h.own j a q
end

/-! ### what a statement is to reach -/
def KS (T : Nat → Str) (K : PySem.W.Frag) (O : Addr → Prop) (ω : Nat → Option Addr) (wa : Option Addr) (H : Hp) (D : Ends) : Fl → Env → WS → Prop
  | .nx, env', ws' => ∀ σ' H' wa' ω', StR T K O wa' env' ω' ws' σ' H' → Evo ω wa H ω' wa' H' → D.nx σ' H'
  | .br, env', ws' => ∀ σ' H' wa' ω', StR T K O wa' env' ω' ws' σ' H' → Evo ω wa H ω' wa' H' → D.bk σ' H'
  | .ct, env', ws' => ∀ σ' H' wa' ω', StR T K O wa' env' ω' ws' σ' H' → Evo ω wa H ω' wa' H' → D.ct σ' H'
  | .rt d, _, ws' => ∀ v H' wa', Evo ω wa H (fun _ => none) wa' H' → WsR T K (hid (O2S O wa') H') H' wa' ws' → Rep T K wa' (hid (O2S O wa') H') d v → D.rt v H'
theorem KS.trans {T : Nat → Str} {K : PySem.W.Frag} {O : Addr → Prop} {ω ω1 : Nat → Option Addr} {wa wa1 : Option Addr} {H H1 : Hp} {D : Ends} {fl : Fl} {env' : Env} {ws' : WS} (k : KS T K O ω wa H D fl env' ws') (e : Evo ω wa H ω1 wa1 H1) :
    KS T K O ω1 wa1 H1 D fl env' ws' := by
  cases fl with
  | nx => exact fun σ' H' wa' ω' st ev => k σ' H' wa' ω' st (e.trans ev)
  | br => exact fun σ' H' wa' ω' st ev => k σ' H' wa' ω' st (e.trans ev)
  | ct => exact fun σ' H' wa' ω' st ev => k σ' H' wa' ω' st (e.trans ev)
  | rt d => exact fun v H' wa' ev w r => k v H' wa' (e.trans ev) w r
abbrev SF := Env → WS → Out
def tS (T : Nat → Str) (K : PySem.W.Frag) (f : SF) : TS := fun D σ H => ∃ O wa env ω ws fl env' ws', StR T K O wa env ω ws σ H ∧ f env ws = some (fl, env', ws') ∧ KS T K O ω wa H D fl env' ws'
section
variable {T : Nat → Str} {X : Cx} {st : Stmt} {rest : List Stmt} {fe fk fc : EvF} {ft : EvTF} {fs fr : SF} {tg : Tg} {i : Nat} {e : Expr} {pos : Pos}
/-! blocks -/
def seqF (fs fr : SF) : SF := fun env ws => match fs env ws with
  | none => none
  | some (.nx, env1, ws1) => fr env1 ws1
  | some (fl, env1, ws1) => some (fl, env1, ws1)
theorem pss_n : PSs X [] (tS T X.K fun env ws => some (.nx, env, ws)) :=
  PSs.mono pss_nil fun D σ H ⟨O, wa, env, ω, ws, fl, env', ws', s, hf, k⟩ => by
    cases hf
    exact k σ H wa ω s (Evo.refl _ _ _)
theorem pss_c (h1 : PS X st (tS T X.K fs)) (h2 : PSs X rest (tS T X.K fr)) : PSs X (st :: rest) (tS T X.K (seqF fs fr)) :=
  PSs.mono (pss_cons h1 h2) fun D σ H ⟨O, wa, env, ω, ws, fl, env', ws', s, hf, k⟩ => by
    unfold seqF at hf
    split at hf
    · cases hf
    · rename_i env1 ws1 e1
      exact ⟨O, wa, env, ω, ws, .nx, env1, ws1, s, e1, fun σ' H' wa' ω' s' ev => ⟨O, wa', env1, ω', ws1, fl, env', ws', s', hf, k.trans ev⟩⟩
    · rename_i fl1 env1 ws1 hn e1
      cases hf
      refine ⟨O, wa, env, ω, ws, _, _, _, s, e1, ?_⟩
      cases fl with
      | nx => exact absurd rfl hn
      | br => exact k
      | ct => exact k
      | rt d => exact k
/-- a ghost: what stands at a name is its own no longer -/
theorem pss_frz (h2 : PSs X rest (tS T X.K fr)) : PSs X rest (tS T X.K (seqF (fun env ws => some (.nx, es env i (frzS (eg env i)), ws)) fr)) :=
  PSs.mono h2 fun D σ H ⟨O, wa, env, ω, ws, fl, env', ws', s, hf, k⟩ =>
    ⟨O, wa, _, _, ws, fl, env', ws', s.frz1 i, hf, k.trans (evo_om i)⟩
/-! simple ones -/
theorem ps_pa : PS X (.Pass pos) (tS T X.K fun env ws => some (.nx, env, ws)) :=
  PS.mono ps_pass fun D σ H ⟨O, wa, env, ω, ws, fl, env', ws', s, hf, k⟩ => by
    cases hf
    exact k σ H wa ω s (Evo.refl _ _ _)
theorem ps_br : PS X (.Break pos) (tS T X.K fun env ws => some (.br, env, ws)) :=
  PS.mono ps_break fun D σ H ⟨O, wa, env, ω, ws, fl, env', ws', s, hf, k⟩ => by
    cases hf
    exact k σ H wa ω s (Evo.refl _ _ _)
theorem ps_co : PS X (.Continue pos) (tS T X.K fun env ws => some (.ct, env, ws)) :=
  PS.mono ps_continue fun D σ H ⟨O, wa, env, ω, ws, fl, env', ws', s, hf, k⟩ => by
    cases hf
    exact k σ H wa ω s (Evo.refl _ _ _)
theorem ps_bad : PS X st (tS T X.K fun _ _ => none) := PS.mono ps_never fun D σ H ⟨O, wa, env, ω, ws, fl, env', ws', s, hf, k⟩ => by cases hf
def retF (fe : EvF) : SF := fun env ws => match fe (frzA env) ws with
  | none => none
  | some (d, ws1) => some (.rt d, env, ws1)
theorem hid_O2 {O : Addr → Prop} {wa : Option Addr} {H : Hp} : hid (SS O (fun _ => none) wa) H = hid (O2S O wa) H := rfl
theorem ps_re (he : PE X e (tE T X.K fe)) : PS X (.Return (some e) pos) (tS T X.K (retF fe)) :=
  PS.mono (ps_ret he) fun D σ H ⟨O, wa, env, ω, ws, fl, env', ws', s, hf, k⟩ => by
    unfold retF at hf
    split at hf
    · cases hf
    rename_i d ws1 e1
    cases hf
    exact ⟨O, wa, _, _, ws, d, _, s.frz, e1, fun v H' s' sp r => k v H' wa ((evo_sub (fun j a q => by cases q)).trans (s'.evoS sp)) s'.wsr r⟩
theorem ps_rn : PS X (.Return none pos) (tS T X.K fun env ws => some (.rt .non, env, ws)) :=
  PS.mono ps_retN fun D σ H ⟨O, wa, env, ω, ws, fl, env', ws', s, hf, k⟩ => by
    cases hf
    exact k .non H wa (evo_sub (fun j a q => by cases q)) s.frz.wsr .non
def dropF (fe : EvF) : SF := fun env ws => match fe env ws with
  | none => none
  | some (_, ws1) => some (.nx, env, ws1)
theorem ps_dr (he : PE X e (tE T X.K fe)) (hs : swapsWith e none pos.line X.env = pure false) : PS X (.Expr e pos) (tS T X.K (dropF fe)) :=
  PS.mono (ps_expr he hs) fun D σ H ⟨O, wa, env, ω, ws, fl, env', ws', s, hf, k⟩ => by
    unfold dropF at hf
    split at hf
    · cases hf
    rename_i d ws1 e1
    cases hf
    exact ⟨O, wa, _, _, ws, d, _, s, e1, fun v H' s' sp r => k σ H' wa ω s' (s'.evoS sp)⟩
/-! stores -/
def setF (fe : EvF) (tg : Tg) : SF := fun env ws => match fe env ws with
  | none => none
  | some (d, ws1) => match bindT env tg d with
    | none => none
    | some env1 => some (.nx, env1, ws1)
theorem ps_st (h : PS X st (tAsg (tE T X.K fe) (gT X.K tg))) : PS X st (tS T X.K (setF fe tg)) :=
  PS.mono h fun D σ H ⟨O, wa, env, ω, ws, fl, env', ws', s, hf, k⟩ => by
    unfold setF at hf
    split at hf
    · cases hf
    rename_i d ws1 e1
    split at hf
    · cases hf
    rename_i env1 e2
    cases hf
    refine ⟨O, wa, _, _, ws, d, _, s, e1, fun v H' s' sp r => ?_⟩
    exact bindT_ok (vs0 := []) s' r e2 fun σ1 ω1 s1 _ h2 _ => k σ1 H' wa ω1 s1 ((s'.evoS sp).trans (evo_sub h2))
def ownF (fe : EvF) (i : Nat) : SF := fun env ws => match fe env ws with
  | none => none
  | some (d, ws1) => some (.nx, es env i (.ow d), ws1)
theorem evo_take {ω : Nat → Option Addr} {wa : Option Addr} {H H' : Hp} {env : Env} {a : Addr} (i : Nat) (e : Evo ω wa H ω wa H') (n : H a = none) : Evo ω wa H (ow1 env ω i a) wa H' :=
  ⟨e.keep, e.dom, fun j b q => by
    rcases ow1_some q with ⟨_, _, rfl⟩ | ⟨_, q⟩
    · exact .inr n
    · exact .inl ⟨j, q⟩, e.rc, e.was⟩
theorem StR.evoF {T : Nat → Str} {K : PySem.W.Frag} {O : Addr → Prop} {wa : Option Addr} {env : Env} {ω : Nat → Option Addr} {ws : WS} {σ : L2.St} {H H' : Hp} (s : StR T K O wa env ω ws σ H') (e : Stp wa H H') : Evo ω wa H ω wa H' := s.evoS e
theorem ps_ow (h : PS X st (tAsg (tF T X.K fe) (gName i))) : PS X st (tS T X.K (ownF fe i)) :=
  PS.mono h fun D σ H ⟨O, wa, env, ω, ws, fl, env', ws', s, hf, k⟩ => by
    unfold ownF at hf
    split at hf
    · cases hf
    rename_i d ws1 e1
    cases hf
    refine ⟨O, wa, _, _, ws, d, _, s, e1, fun a H' s' sp ns n ow => ?_⟩
    exact k _ H' wa _ (s'.take i ns ow) (evo_take i (s'.evoF sp) n)
end
end Pv

set_option Elab.async false
set_option linter.all false
set_option maxRecDepth 100000
set_option maxHeartbeats 4000000
/-! Pv10: statements that write, branch, loop. -/
namespace Pv
open PySem PySem.Spec PyProof.Rows L2

section
variable {T : Nat → Str} {X : Cx} {st : Stmt} {a b e c : Expr} {rest : List Stmt} {fe fk fc fi : EvF} {ft : EvTF} {fs fr : SF} {tg : Tg} {i : Nat} {pos pos' p : Pos}
/-! ### name op= e -/
def aopO : Bop → Operator := bopO
def aopR : Bop → R2
  | .add => rI0 fun i j => .int (i + j)
  | .sub => rI0 fun i j => .int (i - j)
  | .mul => rI CMul fun i j => .int (i * j)
  | _ => fun _ _ _ _ => False
theorem aop_opr : ∀ o : Bop, PIp X (bopO o) (aopR o)
  | .add => iop_add
  | .sub => iop_sub
  | .mul => iop_mul
  | .fdiv => fun _ _ _ _ _ _ _ _ _ _ _ _ h => h.elim
  | .mod => fun _ _ _ _ _ _ _ _ _ _ _ _ h => h.elim
  | .shl => fun _ _ _ _ _ _ _ _ _ _ _ _ h => h.elim
  | .shr => fun _ _ _ _ _ _ _ _ _ _ _ _ h => h.elim
  | .pow => fun _ _ _ _ _ _ _ _ _ _ _ _ h => h.elim
theorem aop_ok {o : Bop} {x y z : Int} {H : Hp} {Q : VK} (h : aop o x y = some z) (q : Q (.int z) H) : aopR o (.int x) (.int y) H Q := by
  cases o <;> simp only [aop] at h <;> try cases h
  · exact ⟨x, y, rfl, rfl, q⟩
  · exact ⟨x, y, rfl, rfl, q⟩
  · split at h
    · rename_i hl
      cases h
      have := of_decide_eq_true hl
      exact ⟨x, y, rfl, rfl, .inr (by omega), q⟩
    · cases h
def augF (i : Nat) (o : Bop) (fe : EvF) : SF := fun env ws => match eg env i with
  | .va x => match fe env ws with
    | none => none
    | some (y, ws1) => match x, y with
      | .int a, .int b => match aop o a b with
        | none => none
        | some z => some (.nx, es env i (.va (.int z)), ws1)
      | _, _ => none
  | _ => none
theorem ps_au {x : Str} {o : Bop} (hN : X.N.Nodup) (hi : X.N[i]? = some x) (hx : Loc X.env.scope x) (he : PE X e (tE T X.K fe)) (hf : X.fn x = true ∨ X.env.scope.names.lookup x = some .local) :
    PS X (.AugAssign (.Name x pos') (bopO o) e pos) (tS T X.K (augF i o fe)) :=
  PS.mono (ps_aug hN hi hx he (aop_opr o) hf) fun D σ H ⟨O, wa, env, ω, ws, fl, env', ws', s, hf, k⟩ => by
    unfold augF at hf
    split at hf
    · rename_i x hx
      split at hf
      · cases hf
      rename_i y ws1 e1
      split at hf
      · rename_i n m
        split at hf
        · cases hf
        rename_i z e2
        cases hf
        have q := s.slot i
        rw [hx] at q
        obtain ⟨v, h1, h2⟩ := q
        cases h2
        refine ⟨_, h1, O, wa, _, _, ws, _, _, s, e1, fun v H' s' sp r => ?_⟩
        cases r
        exact aop_ok e2 (k _ H' wa _ (s'.set i (.int z)) ((s'.evoS sp).trans (evo_om i)))
      · cases hf
    · cases hf
/-! ### name[k] = e, an own dict -/
theorem swaps_sub (v o i : Expr) (p : Pos) (l : Nat) (env : PySem.Env) : swapsWith v (some (.Subscript o i p)) l env = pure false := by
  cases v <;> rfl
def dputF (i : Nat) (fk fe : EvF) : SF := fun env ws => match fe env ws with
  | none => none
  | some (y, ws1) => match fk env ws1 with
    | none => none
    | some (kd, ws2) => match eg env i with
      | .ow (.dic ks vs) => if isK kd && okLen ks.length then some (.nx, es env i (.ow (.dic (dputK ks kd) (dputV ks vs kd y))), ws2) else none
      | _ => none
theorem ps_dp {o : Expr} (hT : TOk T) (hu : X.A.units + 1 < cLine) (ho : PE X o (tVar i)) (hk : PE X a (tE T X.K fk)) (he : PE X e (tE T X.K fe)) : PS X (.Assign [.Subscript o a pos'] e pos) (tS T X.K (dputF i fk fe)) :=
  PS.mono (ps_dput hu ho hk he (swaps_sub _ _ _ _ _ _)) fun D σ H ⟨O, wa, env, ω, ws, fl, env', ws', s, hf, k⟩ => by
    unfold dputF at hf
    split at hf
    · cases hf
    rename_i y ws1 e1
    split at hf
    · cases hf
    rename_i kd ws2 e2
    split at hf
    · rename_i ks vs hx
      split at hf
      · rename_i hl
        rw [Bool.and_eq_true] at hl
        cases hf
        refine ⟨O, wa, _, _, ws, _, _, s, e1, fun v H1 s1 sp1 r1 => ?_⟩
        have q := s1.slot i
        rw [hx] at q
        obtain ⟨p, h1, h2, kvs, h3, h4, h5⟩ := q
        refine ⟨_, h2, O, wa, _, _, _, _, _, s1, e2, fun u H2 s2 sp2 r2 => ?_⟩
        obtain ⟨q, hq⟩ := isK_key (T := T) hl.1
        have nw := (s1.own i p h1).2.2
        have h3' : H2 p = some (.dK kvs) := sp2 _ _ nw h3
        have eu : u = kV q := key_rep (H := H2) (hH := hid (SS O ω wa) H2) hq (.inl r2)
        subst eu
        have hlen : kvs.length < sizeLine := by
          have := congrArg List.length h4
          rw [List.length_map, List.length_map] at this
          rw [← this]; exact len_lt hl.2
        refine ⟨p, _, rfl, DPut.k h3' hlen, ?_⟩
        have hput := put_ok hT hq (r1.mono sp2.hid) h4 (h5.mono sp2.hid)
        have mm : Same (hid (SS O ω wa) H2) (hid (SS O ω wa) (upd H2 p (.dK (putK kvs q v)))) := hid_mono (fun b o sn qq => by rw [upd_ne (fun z => sn (by rw [z]; exact .inr (.inl ⟨i, h1⟩)))]; exact qq) fun _ q => q
        refine k σ _ wa ω (s2.put (i := i) (o := .dK (putK kvs q v)) h1 hx ⟨_, upd_same, hput.1, hput.2.mono mm⟩) (((s1.evoS sp1).trans (s2.evoS sp2)).trans (evo_put h1))
      · cases hf
    · cases hf
/-! ### the record's fields -/
theorem wp_keys (n : Nat) (d : D) : ∀ kvs : List (Nat × D), (wp kvs n d).map (·.1) = kvs.map (·.1)
  | [] => rfl
  | (k, x) :: r => congrArg (k :: ·) (wp_keys n d r)
theorem wp_ok {T : Nat → Str} (hT : TOk T) {K : PySem.W.Frag} {wa : Option Addr} {H : Hp} {n : Nat} {d : D} {v : V} (hn : n < 512) (rv : Rep T K wa H d v) : ∀ {kvs : List (Nat × D)} {kv' : List (Key × V)}, kvs.map (fun p => (Sum.inr (T p.1) : Key)) = kv'.map (·.1) → (∀ p ∈ kvs, p.1 < 512) →
    Reps T K wa H (kvs.map (·.2)) (kv'.map (·.2)) → Reps T K wa H ((wp kvs n d).map (·.2)) ((kv'.map (fun kv => if kv.1 = Sum.inr (T n) then (kv.1, v) else kv)).map (·.2))
  | [], [], _, _, _ => .nil
  | [], _ :: _, h, _, _ => by simp at h
  | _ :: _, [], h, _, _ => by simp at h
  | (k, x) :: kvs, q :: kv', h, hm, r => by
    simp only [List.map_cons, List.cons.injEq] at h
    cases r with
    | cons r t =>
      have key : (q.1 = Sum.inr (T n)) ↔ k = n := by
        rw [← h.1]
        constructor
        · intro z; exact hT.inj _ _ (hm (k, x) List.mem_cons_self) hn (Sum.inr.inj z)
        · intro z; rw [z]
      have ih := wp_ok hT hn rv h.2 (fun z hz => hm z (List.mem_cons_of_mem _ hz)) t
      unfold wp
      simp only [List.map_cons]
      by_cases c : k = n
      · rw [if_pos c, if_pos (key.mpr c)]
        exact .cons rv ih
      · rw [if_neg c, if_neg (fun z => c (key.mp z))]
        exact .cons r ih
/-- the record takes a field's new value -/
theorem wsr_put {T : Nat → Str} (hT : TOk T) {K : PySem.W.Frag} {hH H : Hp} {a : Addr} {kvs : List (Nat × D)} {n : Nat} {d x : D} {v : V} (w : WsR T K hH H (some a) (some kvs)) (hx : wg kvs n = some x) (rv : Rep T K (some a) hH d v) (hl : kvs.length < sizeLine) :
    ∃ H', DPut H a (.str (T n)) v H' ∧ (∀ b, b ≠ a → H' b = H b) ∧ (∀ hH', Same hH hH' → WsR T K hH' H' (some a) (some (wp kvs n d))) := by
  obtain ⟨kv', h1, h2, h3, h4⟩ := w
  obtain ⟨p, hp, ep⟩ := wg_mem hx
  have hn : n < 512 := by rw [← ep]; exact h3 p hp
  have hl' : kv'.length < sizeLine := by
    have := congrArg List.length h2
    rw [List.length_map, List.length_map] at this
    rw [← this]; exact hl
  refine ⟨_, DPut.k (k := Sum.inr (T n)) h1 hl', fun b ne => upd_ne ne, fun hH' m => ?_⟩
  have hany : (kv'.any fun kv => decide (kv.1 = (Sum.inr (T n) : Key))) = true := by
    rw [List.any_eq_true]
    have : (Sum.inr (T n) : Key) ∈ kv'.map (·.1) := by
      rw [← h2]
      exact List.mem_map.mpr ⟨p, hp, by rw [ep]⟩
    obtain ⟨q, hq, e⟩ := List.mem_map.mp this
    exact ⟨q, hq, decide_eq_true e⟩
  refine ⟨_, upd_same, ?_, fun q hq => ?_, ?_⟩
  · unfold putK
    rw [if_pos hany, List.map_map]
    have e1 : kvs.map (fun p => (Sum.inr (T p.1) : Key)) = (wp kvs n d).map (fun p => (Sum.inr (T p.1) : Key)) := by
      have := congrArg (List.map fun m => (Sum.inr (T m) : Key)) (wp_keys n d kvs)
      rw [List.map_map, List.map_map] at this
      exact this.symm
    rw [← e1, h2]
    refine List.map_congr_left fun p _ => ?_
    show p.1 = (if p.1 = Sum.inr (T n) then (p.1, v) else p).1
    split <;> rfl
  · have : q.1 ∈ kvs.map (·.1) := by
      rw [← wp_keys n d kvs]; exact List.mem_map.mpr ⟨q, hq, rfl⟩
    obtain ⟨z, hz, e⟩ := List.mem_map.mp this
    rw [← e]; exact h3 z hz
  · unfold putK
    rw [if_pos hany]
    exact wp_ok hT hn (rv.mono m) h2 h3 (h4.mono m)
section
variable {T : Nat → Str} {X : Cx} {st : Stmt} {a b e c o : Expr} {rest : List Stmt} {fa fb fe fk fc fi : EvF} {ft : EvTF} {fs fr : SF} {tg : Tg} {i : Nat} {pos pos' p : Pos}
def waugF (i k : Nat) (o : Bop) (fe : EvF) : SF := fun env ws => match eg env i with
  | .va .wd => match ws with
    | none => none
    | some kvs => match wg kvs k with
      | none => none
      | some x => match fe env ws with
        | none => none
        | some (y, ws1) => match x, y, ws1 with
          | .int a, .int b, some kvs1 => if okLen kvs1.length && (wg kvs1 k).isSome then match o with
            | .add => some (.nx, env, some (wp kvs1 k (.int (a + b))))
            | .sub => some (.nx, env, some (wp kvs1 k (.int (a - b))))
            | _ => none
            else none
          | _, _, _ => none
  | _ => none
def rW : Bop → V → V → Hp → VK → Prop
  | .add => rAdd
  | .sub => rSub
  | _ => fun _ _ _ _ => False
theorem rW_in : ∀ o : Bop, InOp X (bopO o) (rW o)
  | .add => in_add
  | .sub => in_sub
  | .mul => fun _ _ _ _ _ _ _ _ _ _ _ _ h => h.elim
  | .fdiv => fun _ _ _ _ _ _ _ _ _ _ _ _ h => h.elim
  | .mod => fun _ _ _ _ _ _ _ _ _ _ _ _ h => h.elim
  | .shl => fun _ _ _ _ _ _ _ _ _ _ _ _ h => h.elim
  | .shr => fun _ _ _ _ _ _ _ _ _ _ _ _ h => h.elim
  | .pow => fun _ _ _ _ _ _ _ _ _ _ _ _ h => h.elim
theorem ps_wa {k : Nat} {op : Bop} {tpos : Pos} (hT : TOk T) (hu : X.A.units + 1 < cLine) (ho : PE X o (tVar i)) (hk : PE X a (tC (.str (T k)))) (he : PE X e (tE T X.K fe))
    (ha : ∀ ov iv new, augStore a ov iv new = (do holding [new, ov, iv] (setItem ov iv new); release [new, ov, iv] []; pure .next)) :
    PS X (.AugAssign (.Subscript o a tpos) (bopO op) e pos) (tS T X.K (waugF i k op fe)) :=
  PS.mono (ps_daug hu ho hk he (rW_in op) ha) fun D σ H ⟨O, wa, env, ω, ws, fl, env', ws', s, hf, kk⟩ => by
    unfold waugF at hf
    split at hf
    · rename_i hx
      split at hf
      · cases hf
      rename_i kvs
      split at hf
      · cases hf
      rename_i x e0
      split at hf
      · cases hf
      rename_i y ws1 e1
      split at hf
      · rename_i n m kvs1
        split at hf
        · rename_i hl
          rw [Bool.and_eq_true] at hl
          have q := s.slot i
          rw [hx] at q
          obtain ⟨v, h1, h2⟩ := q
          cases h2 with
          | @wd wr ea =>
            subst ea
            obtain ⟨kv', g1, g2, g3, g4⟩ := s.wsr
            obtain ⟨p, hp, ep⟩ := wg_mem e0
            have hn : k < 512 := by rw [← ep]; exact g3 p hp
            obtain ⟨u, g5, g6⟩ := wg_ok hT hn g2 g3 g4 e0
            cases g6
            refine ⟨_, h1, wr, .int n, rfl, ?_, O, some wr, _, _, _, _, _, s, e1, fun w1 H3 s3 sp3 r3 => ?_⟩
            · rw [← g5]; exact DGet.k (k := Sum.inr _) g1
            cases r3
            -- the field is still there
            obtain ⟨kv2, f1, f2, f3, f4⟩ := s3.wsr
            have fin : ∀ z : Int, (∃ x, wg kvs1 k = some x) → ((.nx : Fl), env, some (wp kvs1 k (.int z))) = (fl, env', ws') → ∃ H5, DPut H3 wr (.str (T k)) (.int z) H5 ∧ D.nx σ H5 := by
              rintro z ⟨x0, hx0⟩ ez
              cases ez
              obtain ⟨H5, d1, d2, d3⟩ := wsr_put (d := .int z) (v := .int z) hT s3.wsr hx0 (.int z) (len_lt hl.1)
              refine ⟨H5, d1, kk σ H5 (some wr) ω (s3.evolve (fun a o _ nw q => ?_) (fun a q z => ?_) (d3 _ ?_)) ((s3.evoS sp3).trans ⟨fun b o nw _ q => ?_, fun b q z => ?_, fun i _ h => .inl ⟨i, h⟩, fun _ h => .inl h, .inr rfl⟩)⟩
              · rw [d2 a (fun e => nw (by rw [e]))]; exact q
              · by_cases e : a = wr
                · subst e
                  obtain ⟨kk', y1, _⟩ := d3 _ (fun _ _ q => q)
                  rw [y1] at z; cases z
                · rw [d2 a e] at z; exact s3.dom a q z
              · exact hid_mono (fun a o sn q => by rw [d2 a (fun e => sn (.inr (.inr (by rw [e]))))]; exact q) fun _ q => q
              · rw [d2 b (fun e => nw (by rw [e]))]; exact q
              · by_cases e : b = wr
                · subst e
                  obtain ⟨kk', y1, _⟩ := d3 _ (fun _ _ q => q)
                  rw [y1] at z; cases z
                · rw [d2 b e] at z; exact q z
            have there : ∃ x, wg kvs1 k = some x := Option.isSome_iff_exists.mp hl.2
            cases op with
            | add => exact ⟨n, m, rfl, rfl, fin _ there (Option.some.inj hf)⟩
            | sub => exact ⟨n, m, rfl, rfl, fin _ there (Option.some.inj hf)⟩
            | _ => cases hf
        · cases hf
      · cases hf
    · cases hf
end
end
end Pv

set_option Elab.async false
set_option linter.all false
set_option maxRecDepth 100000
set_option maxHeartbeats 4000000
/-! Pv11: the record made, lists grown, several stores at once, if, while, for. -/
namespace Pv
open PySem PySem.Spec PyProof.Rows L2

section
variable {T : Nat → Str} {K : PySem.W.Frag} {H : Hp}
mutual
theorem Rep.wa0 {wa : Option Addr} : ∀ {d : D} {v : V}, Rep T K none H d v → Rep T K wa H d v
  | _, _, .non => .non
  | _, _, .bl b => .bl b
  | _, _, .int i => .int i
  | _, _, .str n => .str n
  | _, _, .tup h r => .tup h (Reps.wa0 r)
  | _, _, .lst h r => .lst h (Reps.wa0 r)
  | _, _, .dic h k r => .dic h k (Reps.wa0 r)
  | _, _, .scr h => .scr h
  | _, _, .wd h => by cases h
theorem Reps.wa0 {wa : Option Addr} : ∀ {d : List D} {v : List V}, Reps T K none H d v → Reps T K wa H d v
  | _, _, .nil => .nil
  | _, _, .cons r t => .cons (Rep.wa0 r) (Reps.wa0 t)
end
theorem OwnAt.wa0 {wa : Option Addr} {hH : Hp} {d : D} {a : Addr} (h : OwnAt T K none hH H d a) : OwnAt T K wa hH H d a := by
  cases d with
  | lst ds =>
    obtain ⟨vs, h1, h2⟩ := h
    exact ⟨vs, h1, h2.wa0⟩
  | dic ks ds =>
    obtain ⟨vs, h1, h2, h3⟩ := h
    exact ⟨vs, h1, h2, h3.wa0⟩
  | _ => exact h.elim
end
section
variable {T : Nat → Str} {X : Cx} {st : Stmt} {a b e c o : Expr} {rest : List Stmt} {fa fb fe fk fc fi : EvF} {ft : EvTF} {fs fr : SF} {tg : Tg} {i : Nat} {pos pos' p cpos apos : Pos}
/-! ### the record -/
def mkwF (i k l : Nat) (fa fb : EvF) : SF := fun env ws => match ws with
  | some _ => none
  | none => match fa env none with
    | some (x, none) => match fb env none with
      | some (y, none) => if decide (k < 512) && decide (l < 512) && !decide (k = l) then some (.nx, es env i (.va .wd), some [(k, x), (l, y)]) else none
      | _ => none
    | _ => none
theorem ps_mw {k l : Nat} (hT : TOk T) (h : PS X st (tAsg (tDisp [(tC (.str (T k)), tE T X.K fa), (tC (.str (T l)), tE T X.K fb)]) (gName i))) : PS X st (tS T X.K (mkwF i k l fa fb)) :=
  PS.mono h fun D σ H ⟨O, wa, env, ω, ws, fl, env', ws', s, hf, kk⟩ => by
    unfold mkwF at hf
    split at hf
    · cases hf
    split at hf
    · rename_i x e1
      split at hf
      · rename_i y e2
        split at hf
        · rename_i hl
          rw [Bool.and_eq_true, Bool.and_eq_true, decide_eq_true_eq, decide_eq_true_eq] at hl
          cases hf
          cases wa with
          | some _ => exact s.wsr.elim
          | none =>
          intro p n
          refine ⟨_, none, env, ω, _, x, _, s.more n _, e1, fun v1 H1 s1 sp1 r1 => ?_⟩
          refine ⟨_, none, env, ω, _, y, _, s1, e2, fun v2 H2 s2 sp2 r2 => ?_⟩
          have ne : T k ≠ T l := fun z => by
            have := hT.inj _ _ hl.1.1 hl.1.2 z
            have h3 := hl.2
            rw [this] at h3
            simp at h3
          have e4 : H2 p = some (.dK []) := sp2 _ _ (by simp) (sp1 _ _ (by simp) upd_same)
          refine ⟨e4, [(.inr (T k), v1), (.inr (T l), v2)], rfl, (show 2 ≤ 15 by decide), ?_⟩
          have em : mergeK [] [((.inr (T k) : Key), v1), (.inr (T l), v2)] = [(.inr (T k), v1), (.inr (T l), v2)] := by
            simp [mergeK, putK, ne]
          rw [em]
          -- the frame's state with the record
          have r1' := r1.mono (sp2.hid (O := fun x => O x ∨ x = p) (ω := ω))
          let H3 := upd H2 p (.dK [((.inr (T k) : Key), v1), (.inr (T l), v2)])
          have m : Same (hid (SS (fun x => O x ∨ x = p) ω none) H2) (hid (SS O (om ω i) (some p)) H3) := hid_mono (fun b o sn q => by
            show upd H2 p _ b = some o
            rw [upd_ne (fun z => sn (.inl (.inr z)))]; exact q) fun b q => by
            rcases q with q | ⟨j, q⟩ | q
            · exact .inl (.inl q)
            · exact .inr (.inl ⟨j, (om_some q).1⟩)
            · exact .inl (.inr (Option.some.inj q).symm)
          have hnS := s.fresh n
          refine kk _ _ (some p) (om ω i) ⟨?_, fun j => ?_, fun j b q => ?_, fun j l b q q' => s2.inj j l b (om_some q).1 (om_some q').1, fun b q z => ?_, ⟨_, upd_same, rfl, fun q hq => ?_, .cons (r1'.wa0.mono m) (.cons (r2.wa0.mono m) .nil)⟩⟩ ?_
          · rw [List.length_set, es_len]; exact s2.len
          · by_cases ej : j = i
            · subst ej
              by_cases hlen : j < env.length
              · rw [eg_eq env j _ hlen]
                exact ⟨_, by rw [List.getElem?_set_self (by rw [s2.len]; exact hlen)], .wd rfl⟩
              · rw [eg_out _ _ (by rw [es_len]; omega)]
                trivial
            · rw [eg_ne env i j _ ej]
              have q := s2.slot j
              cases hs : eg env j with
              | un => trivial
              | va d =>
                rw [hs] at q
                obtain ⟨v, h1, h2⟩ := q
                exact ⟨v, by rw [List.getElem?_set_ne (Ne.symm ej)]; exact h1, (h2.mono m).wa0⟩
              | ow d =>
                rw [hs] at q
                obtain ⟨b, h1, h2, h3⟩ := q
                refine ⟨b, by unfold om; rw [if_neg ej]; exact h1, by rw [List.getElem?_set_ne (Ne.symm ej)]; exact h2, (h3.mono m fun o q => ?_).wa0⟩
                rw [upd_ne (fun z => (s2.own j b h1).2.1 (.inr z))]; exact q
          · obtain ⟨q, ej⟩ := om_some q
            rw [eg_ne env i j _ ej]
            have z := s2.own j b q
            exact ⟨z.1, fun y => z.2.1 (.inl y), fun y => z.2.1 (.inr (Option.some.inj y).symm)⟩
          · by_cases eb : b = p
            · subst eb; rw [upd_same] at z; cases z
            · rw [upd_ne eb] at z; exact s2.dom b (.inl q) z
          · rcases List.mem_cons.mp hq with e | hq
            · rw [e]; exact hl.1.1
            · rcases List.mem_cons.mp hq with e | hq
              · rw [e]; exact hl.1.2
              · cases hq
          · refine ⟨fun b o _ _ q => ?_, fun b q z => ?_, fun j b q => .inl ⟨j, (om_some q).1⟩, fun b q => .inr (by cases q; exact n), .inl rfl⟩
            · rw [upd_ne (ne_of_none q n)]
              exact sp2 b o (by simp) (sp1 b o (by simp) (new_same n b o q))
            · by_cases eb : b = p
              · subst eb; rw [upd_same] at z; cases z
              · rw [upd_ne eb] at z
                cases hb : H b with
                | none => exact q hb
                | some ob =>
                  rw [sp2 b ob (by simp) (sp1 b ob (by simp) (new_same n b ob hb))] at z
                  cases z
        · cases hf
      · cases hf
    · cases hf
/-! ### lists grown -/
theorem few1 {e : Expr} (h : noStar e = true) (cpos : Pos) (env : PySem.Env) : ((backTo cpos (starEach [e] env)).all (fun x => !x.1) && (backToKw cpos (keywordEach [] env)).all (fun x => x.1.isSome)
      && decide (([e] : List Expr).length + ([] : List Keyword).length + (if ([] : List Keyword).isEmpty then 0 else 1) < 30)) = true := by
  rw [star_cons h]; rfl
def appF (i : Nat) (fe : EvF) : SF := fun env ws => match fe env ws with
  | none => none
  | some (y, ws1) => match eg env i with
    | .ow (.lst xs) => if okLen xs.length then some (.nx, es env i (.ow (.lst (xs ++ [y]))), ws1) else none
    | _ => none
theorem ps_ap (ho : PE X o (tVar i)) (he : PE X e (tE T X.K fe)) (nc : noCall o = true) (ns : noStar e = true) (hl : (apos.endLine == cpos.line) = true) (hs : swapsWith (.Call (.Attribute o "append" apos) [e] [] cpos) none pos.line X.env = pure false) :
    PS X (.Expr (.Call (.Attribute o "append" apos) [e] [] cpos) pos) (tS T X.K (appF i fe)) :=
  PS.mono (ps_expr (pe_bm PySem.F.plainAttrs_list PySem.F.slot_list_append PySem.F.type_list_append mt_append ho (pa_cons he pa_nil (star_cons ns _ _)) (attr_plain nc _ _ _) (few1 ns _ _) hl (star_cons ns _ _) rfl) hs) fun D σ H ⟨O, wa, env, ω, ws, fl, env', ws', s, hf, k⟩ => by
    unfold appF at hf
    split at hf
    · cases hf
    rename_i y ws1 e1
    split at hf
    · rename_i xs hx
      split at hf
      · rename_i hl
        cases hf
        have q := s.slot i
        rw [hx] at q
        obtain ⟨p, h1, h2, vs, h3, h4⟩ := q
        have nw := (s.own i p h1).2.2
        refine ⟨_, h2, .inl ⟨rfl, vs, .inl (.inl h3)⟩, O, wa, _, _, ws, _, _, s, e1, fun v H1 s1 sp1 r1 => ?_⟩
        have h3' := sp1 _ _ nw h3
        refine ⟨p, vs, v, rfl, rfl, h3', by rw [← h4.len]; exact len_lt hl, ?_⟩
        have mm : Same (hid (SS O ω wa) H1) (hid (SS O ω wa) (upd H1 p (.lst (vs ++ [v])))) := hid_mono (fun b o sn qq => by rw [upd_ne (fun z => sn (by rw [z]; exact .inr (.inl ⟨i, h1⟩)))]; exact qq) fun _ q => q
        exact k σ _ wa ω (s1.put (i := i) h1 hx ⟨_, upd_same, ((h4.mono sp1.hid).app (.cons r1 .nil)).mono mm⟩) ((s1.evoS sp1).trans (evo_put h1))
      · cases hf
    · cases hf
def extF (i : Nat) (fe : EvF) : SF := fun env ws => match fe env ws with
  | some (.lst ys, ws1) => match eg env i with
    | .ow (.lst xs) => if okLen (xs.length + ys.length) then some (.nx, es env i (.ow (.lst (xs ++ ys))), ws1) else none
    | _ => none
  | _ => none
theorem ps_ex (ho : PE X o (tVar i)) (he : PE X e (tE T X.K fe)) (nc : noCall o = true) (ns : noStar e = true) (hl : (apos.endLine == cpos.line) = true) (hs : swapsWith (.Call (.Attribute o "extend" apos) [e] [] cpos) none pos.line X.env = pure false) :
    PS X (.Expr (.Call (.Attribute o "extend" apos) [e] [] cpos) pos) (tS T X.K (extF i fe)) :=
  PS.mono (ps_expr (pe_bm PySem.F.plainAttrs_list PySem.F.slot_list_extend PySem.F.type_list_extend mt_extend ho (pa_cons he pa_nil (star_cons ns _ _)) (attr_plain nc _ _ _) (few1 ns _ _) hl (star_cons ns _ _) rfl) hs) fun D σ H ⟨O, wa, env, ω, ws, fl, env', ws', s, hf, k⟩ => by
    unfold extF at hf
    split at hf
    · rename_i ys ws1 e1
      split at hf
      · rename_i xs hx
        split at hf
        · rename_i hl
          cases hf
          have q := s.slot i
          rw [hx] at q
          obtain ⟨p, h1, h2, vs, h3, h4⟩ := q
          have nw := (s.own i p h1).2.2
          refine ⟨_, h2, .inl ⟨rfl, vs, .inl (.inl h3)⟩, O, wa, _, _, ws, _, _, s, e1, fun v H1 s1 sp1 r1 => ?_⟩
          have h3' := sp1 _ _ nw h3
          cases r1 with
          | @lst b zs _ hb r2 =>
            refine ⟨p, b, vs, zs, rfl, rfl, h3', (hid_in hb).1, by rw [← h4.len, ← r2.len]; exact len_ok hl, ?_⟩
            have mm : Same (hid (SS O ω wa) H1) (hid (SS O ω wa) (upd H1 p (.lst (vs ++ zs)))) := hid_mono (fun b o sn qq => by rw [upd_ne (fun z => sn (by rw [z]; exact .inr (.inl ⟨i, h1⟩)))]; exact qq) fun _ q => q
            exact k σ _ wa ω (s1.put (i := i) h1 hx ⟨_, upd_same, ((h4.mono sp1.hid).app r2).mono mm⟩) ((s1.evoS sp1).trans (evo_put h1))
        · cases hf
      · cases hf
    · cases hf
def popF (tg : Tg) (i : Nat) : SF := fun env ws => match eg env i with
  | .ow (.lst xs) => match xs.getLast? with
    | none => none
    | some y => match bindT (es env i (.ow (.lst xs.dropLast))) tg y with
      | none => none
      | some env1 => some (.nx, env1, ws)
  | _ => none
theorem ps_po (h : PS X st (tAsg (tBM0 X.K "list" rPop (tVar i)) (gT X.K tg))) : PS X st (tS T X.K (popF tg i)) :=
  PS.mono h fun D σ H ⟨O, wa, env, ω, ws, fl, env', ws', s, hf, k⟩ => by
    unfold popF at hf
    split at hf
    · rename_i xs hx
      split at hf
      · cases hf
      rename_i y e1
      split at hf
      · cases hf
      rename_i env1 e2
      cases hf
      have q := s.slot i
      rw [hx] at q
      obtain ⟨p, h1, h2, vs, h3, h4⟩ := q
      rw [List.getLast?_eq_getElem?] at e1
      obtain ⟨v, g1, g2⟩ := h4.get e1
      refine ⟨_, h2, .inl ⟨rfl, vs, .inl (.inl h3)⟩, p, vs, v, rfl, rfl, h3, by rw [← h4.len]; exact g1, ?_⟩
      have mm : Same (hid (SS O ω wa) H) (hid (SS O ω wa) (upd H p (.lst vs.dropLast))) := hid_mono (fun b o sn qq => by rw [upd_ne (fun z => sn (by rw [z]; exact .inr (.inl ⟨i, h1⟩)))]; exact qq) fun _ q => q
      have s1 := s.put (i := i) (d' := .lst xs.dropLast) (o := .lst vs.dropLast) h1 hx ⟨_, upd_same, h4.dropLast.mono mm⟩
      exact bindT_ok (vs0 := []) s1 (g2.mono mm) e2 fun σ1 ω1 s2 _ hh _ => k σ1 _ wa ω1 s2 ((evo_put h1).trans (evo_sub hh))
    · cases hf
/-! ### if, while, for -/
def iteF (ft : EvTF) (fs fr : SF) : SF := fun env ws => match ft env ws with
  | none => none
  | some (t, ws1) => if t then fs env ws1 else fr env ws1
theorem ps_it {sa sb : List Stmt} (hc : PT X c (tT T X.K ft)) (ha : PSs X sa (tS T X.K fs)) (hb : PSs X sb (tS T X.K fr)) : PS X (.If c sa sb pos) (tS T X.K (iteF ft fs fr)) :=
  PS.mono (ps_if hc ha hb) fun D σ H ⟨O, wa, env, ω, ws, fl, env', ws', s, hf, k⟩ => by
    unfold iteF at hf
    split at hf
    · cases hf
    rename_i t ws1 e1
    refine ⟨O, wa, env, ω, ws, t, ws1, s, e1, fun H1 s1 sp1 => ?_⟩
    have k' := k.trans (s1.evoS sp1)
    cases t
    · dsimp only
      rw [if_neg (by decide)] at hf ⊢
      exact ⟨O, wa, env, ω, ws1, fl, env', ws', s1, hf, k'⟩
    · dsimp only
      rw [if_pos rfl] at hf ⊢
      exact ⟨O, wa, env, ω, ws1, fl, env', ws', s1, hf, k'⟩
theorem ps_wh {sb : List Stmt} {n : Nat} (hp : PassesOwn (model X.prog X.w) X.A X.env X.xe) (hc : PT X c (tT T X.K ft)) (hb : PSs X sb (tS T X.K fs)) : PS X (.While c sb [] pos) (tS T X.K fun env ws => whlN ft fs n env ws) :=
  PS.mono (ps_while hp hc hb) fun D σ H ⟨O, wa, env, ω, ws, fl, env', ws', s, hf, k⟩ => by
    refine ⟨fun m σ1 H1 => ∃ wa1 env1 ω1 ws1, StR T X.K O wa1 env1 ω1 ws1 σ1 H1 ∧ Evo ω wa H ω1 wa1 H1 ∧ whlN ft fs m env1 ws1 = some (fl, env', ws'), ⟨n, wa, env, ω, ws, s, Evo.refl _ _ _, hf⟩, ?_⟩
    rintro m σ1 H1 ⟨wa1, env1, ω1, ws1, s1, ev1, hf1⟩
    cases m with
    | zero => simp [whlN] at hf1
    | succ m =>
      simp only [whlN] at hf1
      split at hf1
      · cases hf1
      · rename_i ws2 e1
        cases hf1
        refine ⟨O, wa1, _, ω1, ws1, false, _, s1, e1, fun H2 s2 sp2 => ?_⟩
        dsimp only
        rw [if_neg (by decide)]
        exact k σ1 H2 wa1 ω1 s2 (ev1.trans (s2.evoS sp2))
      · rename_i ws2 e1
        refine ⟨O, wa1, env1, ω1, ws1, true, ws2, s1, e1, fun H2 s2 sp2 => ?_⟩
        dsimp only
        rw [if_pos rfl]
        have ev2 := ev1.trans (s2.evoS sp2)
        refine ⟨fun σ' H' => ∃ wa1 env1 ω1 ws1, StR T X.K O wa1 env1 ω1 ws1 σ' H' ∧ Evo ω wa H ω1 wa1 H' ∧ whlN ft fs m env1 ws1 = some (fl, env', ws'), fun σ' H' q => ⟨m, Nat.lt_succ_self m, q⟩, ?_⟩
        split at hf1
        · cases hf1
        · rename_i env2 ws3 e2
          exact ⟨O, wa1, env1, ω1, ws2, .nx, env2, ws3, s2, e2, fun σ3 H3 wa3 ω3 s3 ev3 => ⟨wa3, env2, ω3, ws3, s3, ev2.trans ev3, hf1⟩⟩
        · rename_i env2 ws3 e2
          exact ⟨O, wa1, env1, ω1, ws2, .ct, env2, ws3, s2, e2, fun σ3 H3 wa3 ω3 s3 ev3 => ⟨wa3, env2, ω3, ws3, s3, ev2.trans ev3, hf1⟩⟩
        · rename_i env2 ws3 e2
          cases hf1
          exact ⟨O, wa1, env1, ω1, ws2, .br, _, _, s2, e2, fun σ3 H3 wa3 ω3 s3 ev3 => k σ3 H3 wa3 ω3 s3 (ev2.trans ev3)⟩
        · rename_i v env2 ws3 e2
          cases hf1
          exact ⟨O, wa1, env1, ω1, ws2, .rt v, _, _, s2, e2, fun u H3 wa3 ev3 w r => k u H3 wa3 (ev2.trans ev3) w r⟩
def forF (fi : EvF) (tg : Tg) (fs : SF) : SF := fun env ws => match fi env ws with
  | none => none
  | some (x, ws1) => match itemsOf x with
    | none => none
    | some ds => forL fs tg ds env ws1
theorem ps_fo {sb : List Stmt} {tge iter : Expr} (hp : PassesOwn (model X.prog X.w) X.A X.env X.xe) (hc : X.calm = true) (hi : PI X tge iter (tI T X.K true fi)) (hg : PG X tge (gT X.K tg)) (hb : PSs X sb (tS T X.K fs)) (hs : ∀ x, foldedSetIterable iter X.env x = pure x) :
    PS X (.For tge iter sb [] pos) (tS T X.K (forF fi tg fs)) :=
  PS.mono (ps_for hp hc hi hg hb hs) fun D σ H ⟨O, wa, env, ω, ws, fl, env', ws', s, hf, k⟩ => by
    unfold forF at hf
    split at hf
    · cases hf
    rename_i x ws0 e1
    split at hf
    · cases hf
    rename_i ds e2
    refine ⟨O, wa, env, ω, ws, x, ds, ws0, s, e1, e2, fun J H0 vs s0 sp0 rs it => ?_⟩
    have lds := rs.len
    have ev0 := s0.evoS sp0
    let W : Nat → Nat → L2.St → Hp → Prop := fun i m σ1 H1 => m = ds.length - i ∧ i ≤ ds.length ∧ ∃ wa1 env1 ω1 ws1, StR T X.K O wa1 env1 ω1 ws1 σ1 H1 ∧ Evo ω wa H0 ω1 wa1 H1 ∧ (∀ b o, ¬ SS O ω wa b → H0 b = some o → H1 b = some o) ∧
      Reps T X.K wa1 (hid (SS O ω1 wa1) H1) ds vs ∧ forL fs tg (ds.drop i) env1 ws1 = some (fl, env', ws')
    refine ⟨W, ⟨ds.length, by simp, Nat.zero_le _, wa, env, ω, ws0, s0, Evo.refl _ _ _, fun _ _ _ q => q, rs, by simpa using hf⟩, ?_⟩
    rintro i m σ1 H1 ⟨rfl, hi, wa1, env1, ω1, ws1, s1, ev1, keep, rs1, hf1⟩
    have it1 := it H1 (fun b o nM q => keep b o (by simpa using nM) q) i
    by_cases hlt : i < ds.length
    · obtain ⟨hgo, hyld⟩ := it1.1 (by rw [← lds]; exact hlt)
      refine .inr ⟨hgo, fun σ' H' => W (i + 1) (ds.length - (i + 1)) σ' H', fun σ' H' q => ⟨ds.length - (i + 1), by omega, q⟩, fun v H2 hy => ?_⟩
      obtain ⟨rfl, hv⟩ := hyld v H2 hy
      rw [List.drop_eq_getElem_cons hlt] at hf1
      simp only [forL] at hf1
      split at hf1
      · cases hf1
      rename_i env2 eb
      obtain ⟨v', hv', rv⟩ := rs1.get (i := i) (d := ds[i]) (List.getElem?_eq_getElem hlt)
      rw [hv] at hv'
      cases hv'
      refine bindT_ok (vs0 := []) s1 rv eb fun σ2 ω2 s2 _ hh _ => ?_
      have ev2 : Evo ω wa H0 ω2 wa1 H2 := ev1.trans (evo_sub hh)
      have rs2 : Reps T X.K wa1 (hid (SS O ω2 wa1) H2) ds vs := rs1.mono (hid_mono (fun _ _ _ q => q) fun b q => by
        rcases q with q | ⟨j, q⟩ | q
        · exact .inl q
        · exact .inr (.inl ⟨j, hh j b q⟩)
        · exact .inr (.inr q))
      -- what the body leaves as it was
      have next : ∀ {σ3 : L2.St} {H3 : Hp} {wa3 : Option Addr} {ω3 : Nat → Option Addr} {env3 : Env} {ws3 : WS}, StR T X.K O wa3 env3 ω3 ws3 σ3 H3 → Evo ω2 wa1 H2 ω3 wa3 H3 → forL fs tg (ds.drop (i + 1)) env3 ws3 = some (fl, env', ws') → W (i + 1) (ds.length - (i + 1)) σ3 H3 := by
        intro σ3 H3 wa3 ω3 env3 ws3 s3 ev3 hf3
        have ev03 := ev2.trans ev3
        have rs3 : Reps T X.K wa3 (hid (SS O ω3 wa3) H3) ds vs := by
          -- nothing that was visible is hidden now
          have m : Same (hid (SS O ω2 wa1) H2) (hid (SS O ω3 wa3) H3) := fun b o q => by
            obtain ⟨q1, q2⟩ := hid_in q
            refine hid_of (ev3.keep b o (fun z => q2 (.inr (.inr z))) (fun j z => q2 (.inr (.inl ⟨j, z⟩))) q1) fun z => ?_
            rcases z with z | ⟨j, z⟩ | z
            · exact q2 (.inl z)
            · rcases ev3.own j b z with ⟨l, y⟩ | y
              · exact q2 (.inr (.inl ⟨l, y⟩))
              · rw [q1] at y; cases y
            · rcases ev3.rc b z with y | y
              · exact q2 (.inr (.inr y))
              · rw [q1] at y; cases y
          rcases ev3.was with z | z
          · subst z; exact (rs2.mono m).wa0
          · subst z; exact rs2.mono m
        refine ⟨rfl, hlt, wa3, env3, ω3, ws3, s3, ev03, fun b o sn q => ?_, rs3, hf3⟩
        exact ev03.keep b o (fun z => sn (.inr (.inr z))) (fun j z => sn (.inr (.inl ⟨j, z⟩))) q
      split at hf1
      · cases hf1
      · rename_i env3 ws3 e3
        exact ⟨O, wa1, env2, ω2, ws1, .nx, env3, ws3, s2, e3, fun σ3 H3 wa3 ω3 s3 ev3 => next s3 ev3 hf1⟩
      · rename_i env3 ws3 e3
        exact ⟨O, wa1, env2, ω2, ws1, .ct, env3, ws3, s2, e3, fun σ3 H3 wa3 ω3 s3 ev3 => next s3 ev3 hf1⟩
      · rename_i env3 ws3 e3
        cases hf1
        exact ⟨O, wa1, env2, ω2, ws1, .br, _, _, s2, e3, fun σ3 H3 wa3 ω3 s3 ev3 => k σ3 H3 wa3 ω3 s3 (ev0.trans (ev2.trans ev3))⟩
      · rename_i u env3 ws3 e3
        cases hf1
        exact ⟨O, wa1, env2, ω2, ws1, .rt u, _, _, s2, e3, fun v3 H3 wa3 ev3 w r => k v3 H3 wa3 (ev0.trans (ev2.trans ev3)) w r⟩
    · have ei : i = ds.length := by omega
      subst ei
      rw [List.drop_length] at hf1
      simp only [forL] at hf1
      cases hf1
      exact .inl ⟨it1.2 (by rw [← lds]; exact Nat.le_refl _), k σ1 H1 wa1 ω1 s1 (ev0.trans ev1)⟩
end
end Pv

set_option Elab.async false
set_option linter.all false
set_option maxRecDepth 100000
set_option maxHeartbeats 4000000
/-! Pv12: several stores at once. -/
namespace Pv
open PySem PySem.Spec PyProof.Rows L2

def tL (T : Nat → Str) (K : PySem.W.Frag) : List (Bool × EvF) → TA
  | [] => tNil
  | (true, f) :: r => tCons (tF T K f) (tL T K r)
  | (false, f) :: r => tCons (tE T K f) (tL T K r)
def evL : List (Bool × EvF) → EvAF
  | [], _, ws => some ([], ws)
  | (_, f) :: r, env, ws => match f env ws with
    | none => none
    | some (d, ws1) => match evL r env ws1 with
      | none => none
      | some (ds, ws2) => some (d :: ds, ws2)
inductive ParR (T : Nat → Str) (K : PySem.W.Frag) (wa : Option Addr) (hH H : Hp) : List Bool → List D → List V → List Addr → Prop
  | nil : ParR T K wa hH H [] [] [] []
  | va {d : D} {v : V} {bs : List Bool} {ds : List D} {vs : List V} {L : List Addr} : Rep T K wa hH d v → ParR T K wa hH H bs ds vs L → ParR T K wa hH H (false :: bs) (d :: ds) (v :: vs) L
  | ow {d : D} {a : Addr} {bs : List Bool} {ds : List D} {vs : List V} {L : List Addr} : OwnAt T K wa hH H d a → a ∉ L → ParR T K wa hH H bs ds vs L → ParR T K wa hH H (true :: bs) (d :: ds) (.ref a :: vs) (a :: L)
section
variable {T : Nat → Str} {K : PySem.W.Frag} {O : Addr → Prop} {wa : Option Addr} {env : Env} {ω : Nat → Option Addr} {ws ws' : WS} {σ : L2.St} {H H' hH hH' : Hp}
theorem ParR.mono (e : Same hH hH') : ∀ {bs : List Bool} {ds : List D} {vs : List V} {L : List Addr}, ParR T K wa hH H bs ds vs L → ParR T K wa hH' H bs ds vs L
  | _, _, _, _, .nil => .nil
  | _, _, _, _, .va r t => .va (r.mono e) (ParR.mono e t)
  | _, _, _, _, .ow o n t => .ow (o.mono e fun _ q => q) n (ParR.mono e t)
theorem tL_ok : ∀ {l : List (Bool × EvF)} {O : Addr → Prop} {ws : WS} {H : Hp} {ds : List D} {ws' : WS} {Q : List V → Hp → Prop}, StR T K O wa env ω ws σ H → evL l env ws = some (ds, ws') →
    (∀ vs L H', StR T K (fun x => O x ∨ x ∈ L) wa env ω ws' σ H' → Stp wa H H' → (∀ a ∈ L, H a = none ∧ ¬ SS O ω wa a) → ParR T K wa (hid (SS (fun x => O x ∨ x ∈ L) ω wa) H') H' (l.map (·.1)) ds vs L → Q vs H') → tL T K l σ H Q
  | [], O, ws, H, ds, ws', Q, st, e, k => by
    simp only [evL] at e
    cases e
    exact k [] [] H (st.iff fun a => by simp) (Stp.refl _ _) (by simp) .nil
  | (true, f) :: r, O, ws, H, ds, ws', Q, st, e, k => by
    simp only [evL] at e
    split at e
    · cases e
    rename_i d ws1 e1
    split at e
    · cases e
    rename_i ds' ws2 e2
    cases e
    refine ⟨O, wa, env, ω, ws, d, ws1, st, e1, fun a H1 st1 sp1 ns hn ow => ?_⟩
    refine tL_ok (l := r) st1 e2 fun vs L H2 st2 sp2 hL p => ?_
    have nwa : wa ≠ some a := fun z => ns (.inr (.inr z))
    have eqO : ∀ x, ((O x ∨ x = a) ∨ x ∈ L) ↔ (O x ∨ x ∈ a :: L) := fun x => by
      rw [List.mem_cons]
      constructor
      · rintro ((q | q) | q)
        · exact .inl q
        · exact .inr (.inl q)
        · exact .inr (.inr q)
      · rintro (q | q | q)
        · exact .inl (.inl q)
        · exact .inl (.inr q)
        · exact .inr q
    have eqS : (fun x => (O x ∨ x = a) ∨ x ∈ L) = fun x => O x ∨ x ∈ a :: L := funext fun x => propext (eqO x)
    rw [eqS] at st2 p
    refine k (.ref a :: vs) (a :: L) H2 st2 (sp1.trans sp2) (fun b hb => ?_) (.ow (ow.mono ?_ fun o q => sp2 a o nwa q) (fun hm => (hL a hm).2 (.inl (.inr rfl))) p)
    · rcases List.mem_cons.mp hb with e | hb
      · rw [e]; exact ⟨hn, ns⟩
      · exact ⟨st1.back sp1 (hL b hb).1, fun z => (hL b hb).2 z.weak⟩
    · intro x o q
      obtain ⟨q1, q2⟩ := hid_in q
      refine hid_of (sp2 x o (fun z => q2 (.inr (.inr z))) q1) fun z => ?_
      rcases z with (z | z) | z
      · exact q2 (.inl (.inl z))
      · rcases List.mem_cons.mp z with z | z
        · exact q2 (.inl (.inr z))
        · rw [(hL x z).1] at q1; cases q1
      · exact q2 (.inr z)
  | (false, f) :: r, O, ws, H, ds, ws', Q, st, e, k => by
    simp only [evL] at e
    split at e
    · cases e
    rename_i d ws1 e1
    split at e
    · cases e
    rename_i ds' ws2 e2
    cases e
    refine ⟨O, wa, env, ω, ws, d, ws1, st, e1, fun v H1 st1 sp1 rv => ?_⟩
    refine tL_ok (l := r) st1 e2 fun vs L H2 st2 sp2 hL p => ?_
    refine k (v :: vs) L H2 st2 (sp1.trans sp2) (fun b hb => ⟨st1.back sp1 (hL b hb).1, (hL b hb).2⟩) (.va (rv.mono ?_) p)
    intro x o q
    obtain ⟨q1, q2⟩ := hid_in q
    refine hid_of (sp2 x o (fun z => q2 (.inr (.inr z))) q1) fun z => ?_
    rcases z with (z | z) | z
    · exact q2 (.inl z)
    · rw [(hL x z).1] at q1; cases q1
    · exact q2 (.inr z)
def setS : L2.St → List Nat → List V → L2.St
  | σ, i :: is, v :: vs => setS (σ.set i (some v)) is vs
  | σ, _, _ => σ
theorem par_set : ∀ {is : List (Nat × Bool)} {ds : List D} {vs : List V} {L : List Addr} {env env1 : Env} {ω : Nat → Option Addr} {σ : L2.St}, StR T K (fun x => O x ∨ x ∈ L) wa env ω ws σ H → (∀ a ∈ L, ¬ SS O ω wa a) →
    ParR T K wa (hid (SS (fun x => O x ∨ x ∈ L) ω wa) H) H (is.map (·.2)) ds vs L → setPar env is ds = some env1 →
    vs.length = is.length ∧ ∃ ω1, StR T K O wa env1 ω1 ws (setS σ (is.map (·.1)) vs) H ∧ ∀ j a, ω1 j = some a → (∃ i, ω i = some a) ∨ a ∈ L
  | [], _, _, _, env, env1, ω, σ, st, hL, .nil, e => by
    simp only [setPar] at e
    cases e
    exact ⟨rfl, ω, st.iff fun a => by simp, fun j a q => .inl ⟨j, q⟩⟩
  | (i, false) :: is, _, _, L, env, env1, ω, σ, st, hL, .va r p, e => by
    simp only [setPar] at e
    have st1 := st.set i r
    have m : Same (hid (SS (fun x => O x ∨ x ∈ L) ω wa) H) (hid (SS (fun x => O x ∨ x ∈ L) (om ω i) wa) H) := hid_mono (fun _ _ _ q => q) fun _ => SS_om
    obtain ⟨h1, ω1, h2, h3⟩ := par_set st1 (fun a ha z => hL a ha (SS_om z)) (p.mono m) e
    refine ⟨by rw [List.length_cons, List.length_cons, h1], ω1, h2, fun j a q => ?_⟩
    rcases h3 j a q with ⟨l, z⟩ | z
    · exact .inl ⟨l, (om_some z).1⟩
    · exact .inr z
  | (i, true) :: is, ds0, vs0, L0, env, env1, ω, σ, st, hL, p0, e => by
    have p0 : ParR T K wa (hid (SS (fun x => O x ∨ x ∈ L0) ω wa) H) H (true :: is.map (·.2)) ds0 vs0 L0 := p0
    cases p0 with
    | @ow d a _ ds vs L o n p =>
    simp only [setPar] at e
    have eqS : (fun x => O x ∨ x ∈ a :: L) = fun x => (O x ∨ x ∈ L) ∨ x = a := funext fun x => propext (by
      rw [List.mem_cons]
      constructor
      · rintro (q | q | q)
        · exact .inl (.inl q)
        · exact .inr q
        · exact .inl (.inr q)
      · rintro ((q | q) | q)
        · exact .inl q
        · exact .inr (.inr q)
        · exact .inr (.inl q))
    rw [eqS] at st o p
    have nS : ¬ SS (fun x => O x ∨ x ∈ L) ω wa a := fun z => by
      rcases z with (z | z) | z
      · exact hL a List.mem_cons_self (.inl z)
      · exact n z
      · exact hL a List.mem_cons_self (.inr z)
    have st1 := st.take i nS o
    have m : Same (hid (SS (fun x => (O x ∨ x ∈ L) ∨ x = a) ω wa) H) (hid (SS (fun x => O x ∨ x ∈ L) (ow1 env ω i a) wa) H) := hid_mono (fun _ _ _ q => q) fun b q => by
      rcases q with q | ⟨j, q⟩ | q
      · exact .inl (.inl q)
      · rcases ow1_some q with ⟨_, _, e⟩ | ⟨_, e⟩
        · exact .inl (.inr e.symm)
        · exact .inr (.inl ⟨j, e⟩)
      · exact .inr (.inr q)
    obtain ⟨h1, ω1, h2, h3⟩ := par_set st1 (fun b hb z => by
      rcases z with z | ⟨j, z⟩ | z
      · exact hL b (List.mem_cons_of_mem _ hb) (.inl z)
      · rcases ow1_some z with ⟨_, _, e⟩ | ⟨_, e⟩
        · rw [← e] at hb; exact n hb
        · exact hL b (List.mem_cons_of_mem _ hb) (.inr (.inl ⟨j, e⟩))
      · exact hL b (List.mem_cons_of_mem _ hb) (.inr (.inr z))) (p.mono m) e
    refine ⟨by rw [List.length_cons, List.length_cons, h1], ω1, h2, fun j b q => ?_⟩
    rcases h3 j b q with ⟨l, z⟩ | z
    · rcases ow1_some z with ⟨_, _, e⟩ | ⟨_, e⟩
      · exact .inr (by rw [← e]; exact List.mem_cons_self)
      · exact .inl ⟨l, e⟩
    · exact .inr (List.mem_cons_of_mem _ z)
theorem gNames_set {Q : L2.St → Hp → Prop} : ∀ {is : List Nat} {vs : List V} {σ : L2.St}, vs.length = is.length → Q (setS σ is vs) H → gNames is vs σ H Q
  | [], [], σ, _, q => ⟨rfl, q⟩
  | [], _ :: _, _, h, _ => by simp at h
  | _ :: _, [], _, h, _ => by simp at h
  | i :: is, v :: vs, σ, h, q => ⟨v, vs, rfl, gNames_set (by simpa using h) q⟩
end
section
variable {T : Nat → Str} {X : Cx} {st : Stmt} {l : List (Bool × EvF)} {is : List (Nat × Bool)}
def parF (is : List (Nat × Bool)) (ga : EvAF) : SF := fun env ws => match ga env ws with
  | none => none
  | some (ds, ws1) => match setPar env is ds with
    | none => none
    | some env1 => some (.nx, env1, ws1)
theorem par_read {D : Ends} {σ : L2.St} {H : Hp} (hb : l.map (·.1) = is.map (·.2)) (h : tS T X.K (parF is (evL l)) D σ H) :
    tL T X.K l σ H fun vs H1 => vs.length = is.length ∧ (∀ p, H1 p = none → D.nx (setS σ (is.map (·.1)) vs) (upd H1 p (.tup vs))) ∧ D.nx (setS σ (is.map (·.1)) vs) H1 := by
  obtain ⟨O, wa, env, ω, ws, fl, env', ws', s, hf, k⟩ := h
  unfold parF at hf
  split at hf
  · cases hf
  rename_i ds ws1 e1
  split at hf
  · cases hf
  rename_i env1 e2
  cases hf
  refine tL_ok s e1 fun vs L H1 s1 sp1 hL p => ?_
  rw [hb] at p
  obtain ⟨h1, ω1, h2, h3⟩ := par_set s1 (fun a ha => (hL a ha).2) p e2
  have ev : Evo ω wa H ω1 wa H1 := by
    have e0 := s1.evoS sp1
    exact ⟨e0.keep, e0.dom, fun j a q => (h3 j a q).elim .inl fun z => .inr (hL a z).1, e0.rc, e0.was⟩
  refine ⟨h1, fun q n => ?_, k _ H1 wa ω1 h2 ev⟩
  exact k _ _ wa ω1 (h2.grow (new_same n)) (ev.trans ⟨fun b o _ _ q => new_same n b o q, fun b q z => q ((new_same n).free z), fun i _ h => .inl ⟨i, h⟩, fun _ h => .inl h, .inr rfl⟩)
theorem ps_p2 {i j : Nat} {b1 b2 : Bool} {f1 f2 : EvF} (h : PS X st (tPar i j (tL T X.K [(b1, f1), (b2, f2)]))) : PS X st (tS T X.K (parF [(i, b1), (j, b2)] (evL [(b1, f1), (b2, f2)]))) :=
  PS.mono h fun D σ H q => by
    have := par_read (T := T) (X := X) (l := [(b1, f1), (b2, f2)]) (is := [(i, b1), (j, b2)]) rfl q
    refine tL_mono this fun vs H1 ⟨h1, _, h3⟩ => ?_
    obtain ⟨v, w, rfl⟩ : ∃ v w, vs = [v, w] := by
      cases vs with
      | nil => simp at h1
      | cons v r => cases r with
        | nil => simp at h1
        | cons w r => cases r with
          | nil => exact ⟨v, w, rfl⟩
          | cons _ _ => simp at h1
    exact ⟨v, w, rfl, h3⟩
where
  tL_mono : ∀ {T : Nat → Str} {K : PySem.W.Frag} {l : List (Bool × EvF)} {σ : L2.St} {H : Hp} {Q Q' : List V → Hp → Prop}, tL T K l σ H Q → (∀ vs H', Q vs H' → Q' vs H') → tL T K l σ H Q'
  | _, _, [], _, _, _, _, h, m => m _ _ h
  | T, K, (true, f) :: r, σ, H, Q, Q', h, m => by
    obtain ⟨O, wa, env, ω, ws, d, ws', st, hf, k⟩ := h
    exact ⟨O, wa, env, ω, ws, d, ws', st, hf, fun a H' s1 s2 s3 s4 s5 => tL_mono (k a H' s1 s2 s3 s4 s5) fun vs H2 q => m _ _ q⟩
  | T, K, (false, f) :: r, σ, H, Q, Q', h, m => by
    obtain ⟨O, wa, env, ω, ws, d, ws', st, hf, k⟩ := h
    exact ⟨O, wa, env, ω, ws, d, ws', st, hf, fun a H' s1 s2 s3 => tL_mono (k a H' s1 s2 s3) fun vs H2 q => m _ _ q⟩
theorem ps_p3 {i j m : Nat} {b1 b2 b3 : Bool} {f1 f2 f3 : EvF} (h : PS X st (tPar3 i j m (tL T X.K [(b1, f1), (b2, f2), (b3, f3)]))) : PS X st (tS T X.K (parF [(i, b1), (j, b2), (m, b3)] (evL [(b1, f1), (b2, f2), (b3, f3)]))) :=
  PS.mono h fun D σ H q => by
    have := par_read (T := T) (X := X) (l := [(b1, f1), (b2, f2), (b3, f3)]) (is := [(i, b1), (j, b2), (m, b3)]) rfl q
    refine ps_p2.tL_mono this fun vs H1 ⟨h1, _, h3⟩ => ?_
    obtain ⟨v, w, z, rfl⟩ : ∃ v w z, vs = [v, w, z] := by
      cases vs with
      | nil => simp at h1
      | cons v r => cases r with
        | nil => simp at h1
        | cons w r => cases r with
          | nil => simp at h1
          | cons z r => cases r with
            | nil => exact ⟨v, w, z, rfl⟩
            | cons _ _ => simp at h1
    exact ⟨v, w, z, rfl, h3⟩
theorem ps_pn (hb : l.map (·.1) = is.map (·.2)) (hl : okLen is.length = true) (h : PS X st (tAsg (tTup (tL T X.K l)) (gT X.K (.tp (is.map (·.1)))))) : PS X st (tS T X.K (parF is (evL l))) :=
  PS.mono h fun D σ H q => by
    have := par_read (T := T) (X := X) hb q
    refine ps_p2.tL_mono this fun vs H1 ⟨h1, h2, _⟩ => ⟨by rw [h1]; exact len_ok hl, fun p n => ?_⟩
    exact .inl ⟨p, vs, rfl, .inl (.inl upd_same), by rw [h1, List.length_map], gNames_set (by rw [h1, List.length_map]) (h2 p n)⟩
theorem pa_l0 : PA X [] (tL T X.K []) := pa_nil
theorem pa_lF {e : Expr} {es : List Expr} {f : EvF} (he : PE X e (tF T X.K f)) (hr : PA X es (tL T X.K l)) (ns : noStar e = true) : PA X (e :: es) (tL T X.K ((true, f) :: l)) := pa_cons he hr (star_cons ns _ _)
theorem pa_lE {e : Expr} {es : List Expr} {f : EvF} (he : PE X e (tE T X.K f)) (hr : PA X es (tL T X.K l)) (ns : noStar e = true) : PA X (e :: es) (tL T X.K ((false, f) :: l)) := pa_cons he hr (star_cons ns _ _)
end
end Pv

set_option Elab.async false
set_option linter.all false
set_option maxRecDepth 100000
set_option maxHeartbeats 4000000
/-! Pv13: dict(rows of pairs). -/
namespace Pv
open PySem PySem.Spec PyProof.Rows L2

theorem prs_of {X : Cx} {pins : List (Addr × Obj)} {σ : L2.St} {H : Hp} {s : Shared} (I : Inv X pins σ H s) : ∀ {ps : List Addr} {kvs : List (Key × V)}, Paired (fun p kv => SqT X.K H p [kV kv.1, kv.2]) ps kvs →
    ∃ (vs : List (Value × Value)) (prs : List (Key × Value)), KV kvs prs ∧ vs.length = ps.length ∧ prs.length = ps.length ∧
      ∀ (j : Nat) (k v : Value), vs[j]? = some (k, v) → ∃ b q, ps[j]? = some b ∧ prs[j]? = some (q, v) ∧ IsTup s.heap b #[k, v] ∧ keyIs q k = true
  | _, _, .nil => ⟨[], [], .nil, rfl, rfl, fun j k v e => by simp at e⟩
  | _, _, .cons (a := p) (b := kv) h t => by
    obtain ⟨vs, prs, r1, l1, l2, g⟩ := prs_of I t
    obtain ⟨its, rv, tt, _⟩ := I.tuple h
    obtain ⟨u, y, ei, ru, ry⟩ := vals2 rv
    subst ei
    refine ⟨(u, y) :: vs, (kv.1, y) :: prs, .cons ⟨rfl, ry⟩ r1, by simp [l1], by simp [l2], fun j k v e => ?_⟩
    cases j with
    | zero =>
      have e' : (u, y) = (k, v) := by simpa using e
      cases e'
      exact ⟨p, kv.1, rfl, rfl, tt, kV_is (P := X.prog) (w := X.w) ru⟩
    | succ j =>
      obtain ⟨b, q, e1, e2, e3⟩ := g j k v (by simpa using e)
      exact ⟨b, q, by simpa using e1, by simpa using e2, e3⟩
/-- dict(t), t a tuple of pairs -/
theorem call_dictT {X : Cx} (hc : X.calm = true) : CallR X (.type "dict") (fun xs H Q => ∃ (a : Addr) (ps : List Addr) (kvs : List (Key × V)), xs = [.ref a] ∧ PlT X.K H a (ps.map V.ref) ∧ Paired (fun p kv => SqT X.K H p [kV kv.1, kv.2]) ps kvs ∧
    ∀ p, H p = none → Q (.ref p) (upd H p (.dK (mergeK [] kvs)))) := by
  intro pins s σ H xs us Q I rs ⟨a, ps, kvs, ex, ha, hp, q⟩
  subst ex
  obtain ⟨u, eu, ru⟩ := vals1 rs
  subst eu
  cases ru
  -- the tuple's object
  obtain ⟨o, its, n, ho, hcl, hd, hdat, rv, hz⟩ : ∃ (o : Obj) (its : List Value) (n : Nat), s.heap.get? a = some o ∧ o.cls = .type "tuple" ∧ o.dict = none ∧ o.data = .seq its.toArray n ∧ Vals (ps.map V.ref) its ∧ ps.length ≤ sizeLine := by
    rcases ha with ⟨o, h, nd⟩ | ⟨o, its, n, h1, h2, h3, h4, h5, h6⟩
    · obtain ⟨g1, g2, its, g3, o', g4, g5, n, g6⟩ := I.hok a _ h
      rw [g1] at g4
      cases g4
      exact ⟨o, its, n, g1, g5, nd, g6, g3, by simpa using g2⟩
    · refine ⟨o, its.toList, n, I.kIn a o h1, h2, h6, by simpa using h3, h5, ?_⟩
      have := h5.length
      simp only [List.length_map, Array.length_toList] at this
      omega
  have ei := refs_at rv
  subst ei
  obtain ⟨vs, prs, r1, l1, l2, g⟩ := prs_of I hp
  have P := PySem.PairArg.tuple (prog := X.prog) (w := X.w) a (ps.map Value.ref).toArray (fun j => ps.getD j 0) vs
  refine PySem.call_dict_pairs (knd := mixKind X.prog X.w) (kvs := prs) P (I.ok.hd hc) ⟨⟨o, n, ho, hcl, hd, hdat⟩, by simp [l1], fun j k v e => ?_⟩ ⟨by rw [l2, l1], fun i k v e => ?_⟩ (by rw [l1]; exact hz) fun h' tk hd' hk => ?_
  · obtain ⟨b, q', e1, e2, e3, e4⟩ := g j k v e
    have eb : ps.getD j 0 = b := by rw [List.getD_eq_getElem?_getD, e1]; rfl
    refine ⟨?_, ?_⟩
    · dsimp only; rw [eb]; simp [e1]
    · dsimp only; rw [eb]; exact .inl e3
  · obtain ⟨b, q', e1, e2, e3, e4⟩ := g i k v e
    exact ⟨q', e2, e4⟩
  · have hlen : (mergeK [] kvs).length ≤ sizeLine := by
      have h1 := length_mergeK kvs []
      have h2 : kvs.length = prs.length := r1.length
      rw [List.length_nil, Nat.zero_add] at h1
      omega
    have hm : (s.heap.objs.size == sysModules) = false := beq_eq_false_iff_ne.mpr (Nat.ne_of_gt I.big)
    have kk : ∀ b u, s.heap.get? b = some u → h'.get? b = some u := fun b u e => hk b u (by simp) e
    exact ⟨.ref s.heap.objs.size, _, I.laid (t' := tk) (o := .dK (mergeK [] kvs)) kk (Nat.le_refl _) ⟨hlen, hm, merged [] prs, KV.merge r1 .nil, hd'⟩, rfl, q _ (I.hok.fresh (Nat.le_refl _))⟩

section
variable {T : Nat → Str} {K : PySem.W.Frag}
def dctR (K : PySem.W.Frag) : List V → Hp → VK → Prop := fun xs H Q => ((∃ (a : Addr) (ps : List Addr) (kvs : List (Key × V)), xs = [.ref a] ∧ SqL K H a (ps.map V.ref) ∧ Paired (fun p kv => SqT K H p [kV kv.1, kv.2]) ps kvs ∧
    ∀ p, H p = none → Q (.ref p) (upd H p (.dK (mergeK [] kvs)))) ∨ (∃ (a : Addr) (ps : List Addr) (kvs : List (Key × V)), xs = [.ref a] ∧ PlT K H a (ps.map V.ref) ∧ Paired (fun p kv => SqT K H p [kV kv.1, kv.2]) ps kvs ∧
    ∀ p, H p = none → Q (.ref p) (upd H p (.dK (mergeK [] kvs))))) ∨ (∃ (a : Addr) (kvs : List (Key × V)), xs = [.ref a] ∧ Rd H a (.dK kvs) ∧ ∀ p, H p = none → Q (.ref p) (upd H p (.dK kvs)))
theorem dct_okr {X : Cx} (hc : X.calm = true) : CallR X (.type "dict") (dctR X.K) := CallR.or (CallR.or (call_dictP hc) (call_dictT hc)) call_dictD
/-- the pairs -/
theorem dfold_ok (hT : TOk T) {wa : Option Addr} {H : Hp} : ∀ {rows : List D} {vs : List V} {ks ds ks' ds' : List D} {acc : List (Key × V)}, Reps T K wa H rows vs → dfold rows ks ds = some (ks', ds') → ks.map (keyOf T) = acc.map (fun p => some p.1) → Reps T K wa H ds (acc.map (·.2)) →
    ∃ (ps : List Addr) (kvs : List (Key × V)), vs = ps.map V.ref ∧ Paired (fun p kv => SqT K H p [kV kv.1, kv.2]) ps kvs ∧ ks'.map (keyOf T) = (mergeK acc kvs).map (fun p => some p.1) ∧ Reps T K wa H ds' ((mergeK acc kvs).map (·.2))
  | [], _, _, _, _, _, _, .nil, e, hk, hd => by
    simp only [dfold] at e
    cases e
    exact ⟨[], [], rfl, .nil, hk, hd⟩
  | row :: rows, _, ks, ds, ks', ds', acc, .cons r t, e, hk, hd => by
    unfold dfold at e
    split at e
    · rename_i e0
      cases e0
    · rename_i k v r' e0
      cases e0
      split at e
      · rename_i hik
        cases r with
        | tup h q =>
          cases q with
          | cons q1 q =>
            cases q with
            | cons q2 q =>
              cases q
              obtain ⟨kk, hq⟩ := isK_key (T := T) hik
              have ek := key_rep (H := H) (hH := H) hq (.inl q1)
              subst ek
              have hp := put_ok hT hq q2 hk hd
              obtain ⟨ps, kvs, e1, e2, e3, e4⟩ := dfold_ok hT t e hp.1 hp.2
              rename_i a b
              exact ⟨_ :: ps, (kk, b) :: kvs, by rw [e1]; rfl, .cons h.sq e2, e3, e4⟩
      · cases e
    · cases e
theorem dct_okF (hT : TOk T) : UFOk T K (fun x H Q => dctR K [x] H Q) (bf1 .dictOf) := by
  intro O wa env ω ws σ H x d1 z Q st r e k
  cases d1 <;> simp only [bf1] at e <;> try cases e
  · split at e
    · rename_i ks vs hf
      cases e
      obtain ⟨a, us, rfl, h1, h1', q1⟩ := r.tup
      obtain ⟨ps, kvs, rfl, e2, e3, e4⟩ := dfold_ok (acc := []) hT q1 hf rfl .nil
      refine .inl (.inr ⟨a, ps, kvs, rfl, h1'.mono hid_le, ?_, fun p n => k p _ n ⟨_, upd_same, e3, e4⟩⟩)
      exact Paired.mapP e2 fun _ _ h => sqT_mono hid_le h
    · cases e
  · split at e
    · rename_i ks vs hf
      cases e
      obtain ⟨a, us, rfl, h1, q1⟩ := r.lst
      obtain ⟨ps, kvs, rfl, e2, e3, e4⟩ := dfold_ok (acc := []) hT q1 hf rfl .nil
      refine .inl (.inl ⟨a, ps, kvs, rfl, .inl (.inl h1), ?_, fun p n => k p _ n ⟨_, upd_same, e3, e4⟩⟩)
      exact Paired.mapP e2 fun _ _ h => sqT_mono hid_le h
    · cases e
  · obtain ⟨a, kvs, rfl, h1, h2, q1⟩ := r.dic
    exact .inr ⟨a, kvs, rfl, .inl h1, fun p n => k p _ n ⟨kvs, upd_same, h2, q1⟩⟩
end
/-! ### tuple(range(n)) -/
def tTupRgP (te : L2.St → Hp → (Int → Int → Hp → Prop) → Prop) : TE := fun σ H Q => te σ H fun a b H1 => RgOk a b ∧ ∀ q o, H1 q = none → o.dict = none → Q (.ref q) (upd H1 q (.frz o (.tup (rgV a b))))
theorem pe_tupRgP {X : Cx} {e : Expr} {te : L2.St → Hp → (Int → Int → Hp → Prop) → Prop} {p pos : Pos} (hc : X.calm = true) (hg : Gl X "tuple") (hm : X.mg "tuple" = none) (he : PRg X e te) (na : starEach [e] X.env = (false, eval e X.env) :: starEach [] X.env := by rfl) :
    PE X (.Call (.Name "tuple" p) [e] [] pos) (tTupRgP te) := by
  refine ⟨fun pins s σ H Q I h => ?_⟩
  refine Call_ (ld_blt I hg hm boot_tuple (PyProof.Rows.callWith_type1 (args_cons (thn (he pins s σ H _ I h) fun x s1 ⟨r, a, b, t, u, v, H1, ex, hr, I1, ok, q⟩ => args_nil ?_) na) na))
  subst ex
  obtain ⟨b1, b2, b3, b4, b5⟩ := ok
  refine call_tuple_range (n := (b - a).toNat) (I1.ok.hd hc) hr (small_one b1 b2 b3 b4) (rangeSize_nat a b) b5 fun h' tk acc hk hi => ?_
  have I2 : Inv X pins σ H1 { s1 with heap := h', toks := tk } := I1.kept hk
  have ea : acc = acc.toList.toArray := by simp
  have := tup_new (Q := Q) I2 (vals_rg hi) (by rw [rgV_length, sizeLine_eq]; omega) q
  unfold tupO at this
  rw [← ea] at this
  exact this
def tupRF (fa : EvF) : EvF := fun env ws => match fa env ws with
  | some (.int j, ws1) => if decide (0 ≤ j) && decide (j ≤ 100000) then some (.tup ((List.range j.toNat).map fun k : Nat => .int (k : Int)), ws1) else none
  | _ => none
theorem reps_rg0 {T : Nat → Str} {K : PySem.W.Frag} {wa : Option Addr} {H : Hp} (l : List Nat) : Reps T K wa H (l.map fun k : Nat => D.int (k : Int)) (l.map fun k : Nat => V.int (0 + (k : Int))) := by
  induction l with
  | nil => exact .nil
  | cons x l ih => exact .cons (by show Rep T K wa H (.int (x : Int)) (.int (0 + (x : Int))); rw [Int.zero_add]; exact .int _) ih
theorem pe_tr {T : Nat → Str} {X : Cx} {a : Expr} {fa : EvF} {p p2 pos pos2 : Pos} (hc : X.calm = true) (hg : Gl X "tuple") (hm : X.mg "tuple" = none) (hgr : Gl X "range") (hmr : X.mg "range" = none) (ha : PE X a (tE T X.K fa)) (hs : noStar a = true) :
    PE X (.Call (.Name "tuple" p) [.Call (.Name "range" p2) [a] [] pos2] [] pos) (tE T X.K (tupRF fa)) :=
  PE.mono (pe_tupRgP hc hg hm (prg_1 hgr hmr ha (star_cons hs _ _))) fun σ H Q ⟨O, wa, env, ω, ws, d, ws', st, hf, k⟩ => by
    unfold tupRF at hf
    split at hf
    · rename_i j ws1 e1
      split at hf
      · rename_i hb
        rw [Bool.and_eq_true, decide_eq_true_eq, decide_eq_true_eq] at hb
        cases hf
        refine ⟨O, wa, env, ω, ws, _, _, st, e1, fun v H1 st1 sp1 r => ?_⟩
        cases r
        refine ⟨j, rfl, RgOk.of_le (by omega) (by omega) (by omega) (by omega), fun q o n nd => ?_⟩
        have sm : Same H1 (upd H1 q (.frz o (.tup (rgV 0 j)))) := fun a u h => by rw [upd_ne (ne_of_none h n)]; exact h
        refine k _ _ (st1.grow sm) (sp1.trans (Stp.of sm)) (.tup (.inl ⟨o, hid_of upd_same (st1.fresh n), nd⟩) ?_)
        have : rgV 0 j = (List.range j.toNat).map fun k : Nat => V.int (0 + (k : Int)) := by unfold rgV; rw [Int.sub_zero]
        rw [this]
        exact reps_rg0 _
      · cases hf
    · cases hf
end Pv

set_option Elab.async false
set_option linter.all false
set_option maxRecDepth 100000
set_option maxHeartbeats 4000000
/-! Ps1: set(list of ints) as a set whose order is known. -/
namespace Pv
open PySem PySem.Spec PyProof.Rows L2
/-- a set that was made just now -/
abbrev sO (w : World) : Obj := { cls := .type "set", dict := none, data := .set #[] 0 (.fresh 0 0 (!w.params.followText "set-order")) }
section
variable {P : Program} {w : World} {A : Around} {E : Value → Shared → Prop} {s : Shared}
theorem call_set_lstI {b0 : Addr} {arr : Array Value} (qs : List Int) {Q : Value → Shared → Prop} (nh : A.handled = none) (al : s.heap.IsList b0 arr) (ia : IntsAre arr.toList qs) (room : qs.length + 1 < scanBound)
    (h : ∀ (hp2 : Heap) (n2 c : Nat), SetR w hp2 s.heap.objs.size (fun j => decide (j ∈ qs)) c → c ≤ qs.length → (∀ b o, s.heap.get? b = some o → hp2.get? b = some o) → Q (.ref s.heap.objs.size) { s with heap := hp2, toks := n2 }) :
    wpAny (model P w) A (call (.type "set") [.ref b0]) Q E s := by
  have arn : arr.size = qs.length := by
    have q := IntsAre.length ia
    rw [Array.length_toList] at q
    exact q
  obtain ⟨c, mt, m0⟩ := F.called_set.mro
  have m1 := F.called_set.made
  have m2 := F.called_set.sub
  refine wpAny_call (codeAny_of_tree ?_)
  show wpAny _ _ (callAny (.type "set") _) _ _ _
  refine wpAny_pure ⟨Code.quiet_builtin _ (by decide +kernel), codeAny_builtin F.entry_type_call ?_⟩
  rw [Around.under_plain (weight_type_call_type "set" [.ref b0] []) rfl]
  have w1 := F.called_set.notType
  have w2 := F.called_set.canCreate
  have w3 := F.typeCall_set_1 (.ref b0)
  repeat (any_goals (first | wp_step | assumption))

  refine codeAny_mono (code_set_led1 (.ref b0) (E := E) (Q₁ := fun ob0 t1 => ob0 = .ref s.heap.objs.size ∧ t1 = { s with heap := s.heap.push (sO w) }) ⟨rfl, rfl⟩) fun rv t1 gr => ?_
  cases rv with
  | error e => exact gr
  | ok f1 =>
    cases f1 with
    | ret ob0 =>
      obtain ⟨rfl, rfl⟩ := gr
      have oS : (s.heap.push (sO w)).get? s.heap.objs.size = some (sO w) := Heap.get?_push_size _ rfl
      have oT : Shared.TypeIs { s with heap := s.heap.push (sO w) } (.ref s.heap.objs.size) "set" := ⟨_, oS, rfl⟩
      have ii1 := F.called_set.init.lookup
      have ii2 := F.called_set.init.bind (.ref s.heap.objs.size)
      repeat (any_goals (first | wp_step | assumption))

      refine codeAny_mono (codeAny_call_builtin (R := wants (fun rv t2 => rv = .none ∧ ∃ hp2 n2 c, t2 = { s with heap := hp2, toks := n2 } ∧ SetR w hp2 s.heap.objs.size (fun j => decide (j ∈ qs)) c ∧ c ≤ qs.length ∧
          (∀ b o, s.heap.get? b = some o → hp2.get? b = some o)) E) F.called_set.init.plain F.entry_set_init (check_set_init_1 oT ?_)) fun rw2 t2 gw2 => ?_
      · obtain ⟨lo, lo1, lo2, lo3, lo4⟩ := al
        obtain ⟨z1, z2, z3, z4⟩ := lo
        simp only at lo2 lo4
        subst lo2; subst lo4
        have lo5 : (s.heap.push (sO w)).get? b0 = some { cls := .type "list", dict := z2, data := .seq arr lo3, slots := z4 } := Heap.get?_push_of_some _ lo1
        have u1 := F.sub_list_set
        have u2 := F.sub_list_frozenset
        have u3 : (Value.type "list" == Value.type "dict") = false := by decide
        have u4 : (s.heap.push (sO w)).IsList b0 arr := ⟨_, lo5, rfl, lo3, rfl⟩
        unfold Builtin.«set.__init__» noKeywords Builtin.Frozenset.updateFrom
        generalize ePI : pyIter = pI
        wp_walk
        subst ePI

        refine wpAny_pyIter_list u4 ?_
        refine wpAny_bind (wpAny_runValue ?_)
        have v1 : b0 < s.heap.objs.size := Heap.lt_size lo1
        have v2 : A.in1.in1.in1.handled = none := by simp [nh]
        have v3 : (s.heap.push (sO w)).objs.size = s.heap.objs.size + 1 := Heap.size_push ..
        have v4 : b0 ≠ (s.heap.push (sO w)).objs.size := by
          rw [Heap.size_push]; exact Nat.ne_of_lt (Nat.lt_succ_of_lt v1)
        have v5 : s.heap.objs.size ∉ [(s.heap.push (sO w)).objs.size, b0] := by
          rw [Heap.size_push]; simp only [List.mem_cons, List.mem_singleton, List.not_mem_nil, or_false, not_or]
          exact ⟨Nat.ne_of_lt (Nat.lt_succ_self _), Nat.ne_of_gt v1⟩
        have v6 : ∀ (i : Nat) (v : Value), arr[i]? = some v → ∃ k t, qs[i]? = some k ∧ v = .int k t := fun i v e6 => by
          have i6 : i < qs.length := by rw [← arn]; exact (Array.getElem?_eq_some_iff.mp e6).1
          obtain ⟨t, e⟩ := PyProof.Rows.IntsAre.int_at ia i v (by rw [Array.getElem?_toList]; exact e6)
          refine ⟨qs[i], t, List.getElem?_eq_getElem i6, ?_⟩
          rw [e, List.getD_eq_getElem?_getD, List.getElem?_eq_getElem i6] <;> rfl
        refine set_update_ints ((Walks.list v2 _ b0 v4 arr).toS) s.heap.objs.size
          v5 qs arn room v6 (arr.size - 0) 0 _ (by omega) (Nat.zero_le _)
          ⟨⟨_, Heap.get?_push_size _ rfl, rfl, rfl⟩, (u4.push _)⟩ ?hS0 ?hR
        case hS0 =>
          have g7 : ((s.heap.push (sO w)).push { cls := .type "list_iterator", data := .fields #[.ref b0, .int 0 0] }).get? s.heap.objs.size
              = some (sO w) := Heap.get?_push_of_some _ oS
          exact ⟨0, Nat.le_refl 0, setR_new_at g7⟩
        case hR =>
          intro t3 c2 mv oc2 oS2
          obtain ⟨hp2, gg, dd, nn, oo⟩ := t3
          have q1 : gg = s.gens := mv.gens
          have q2 : dd = s.drawn := mv.drawn
          have q3 : oo = s.os := mv.os
          subst q1; subst q2; subst q3
          show wpAny _ _ _ _ _ _
          refine wpAny_pure ?_
          show wpAny _ _ (ret Value.none) _ _ _
          rw [arn] at oc2
          refine wpAny_pure ⟨rfl, hp2, nn, c2, rfl, oS2, oc2, fun b o e => ?_⟩
          have y0 : b < s.heap.objs.size := Heap.lt_size e
          have y1 : b ≠ s.heap.objs.size := Nat.ne_of_lt y0
          have y2 : b ≠ (s.heap.push (sO w)).objs.size := by
            rw [Heap.size_push]; exact Nat.ne_of_lt (Nat.lt_succ_of_lt y0)
          exact mv.heap b o (by simp only [List.mem_cons, List.mem_singleton, List.not_mem_nil, or_false, not_or]; exact ⟨y1, y2⟩) (Heap.get?_push_of_some _ (Heap.get?_push_of_some _ e))

      · cases rw2 with
        | error e => exact gw2
        | ok f2 =>
          cases f2 with
          | ret rv =>
            obtain ⟨rfl, hp2, n2, c2, rfl, oS2, oc2, kk⟩ := gw2
            repeat (any_goals (first | wp_step | assumption))
            exact h _ _ _ oS2 oc2 kk
          | _ => exact gw2.elim
    | _ => exact gr.elim

end
end Pv

set_option Elab.async false
set_option linter.all false
set_option maxRecDepth 100000
set_option maxHeartbeats 4000000
/-! Ps2: sorted(set(list of ints)). -/
namespace Pv
open PySem PySem.Spec PyProof.Rows L2
def rSetL1 (w : World) : List V → Hp → VK → Prop := fun xs H Q => ∃ (a : Addr) (ns : List Int), xs = [.ref a] ∧ H a = some (.lst (ns.map V.int)) ∧ ns.length < 64 ∧ ∀ p c, H p = none → c < 64 → Q (.ref p) (upd H p (SetO w p (fun j => decide (j ∈ ns)) c))
theorem cr_setL1 {X : Cx} (hc : X.calm = true) : CallR X (.type "set") (rSetL1 X.w) := by
  intro pins s σ H xs us Q I rs ⟨a, ns, ex, ha, hl, q⟩
  subst ex
  obtain ⟨u, eu, ru⟩ := vals1 rs
  subst eu
  cases ru
  obtain ⟨its, rv, ⟨o, n, g1, g2, g3, g4⟩, hz⟩ := I.list (.inl (.inl ha))
  have hi : IntsAre its.toArray.toList ns := ints_of_vals rv
  refine call_set_lstI ns (I.ok.hd hc) ⟨o, g1, g2, n, g4⟩ hi (by unfold scanBound; omega) fun hp2 n2 c R lc kp => ?_
  exact ⟨.ref s.heap.objs.size, _, I.laid (t' := n2) kp (Nat.le_refl _) (setO_new R), rfl, q _ c (I.hok.fresh (Nat.le_refl _)) (by omega)⟩
theorem insU_mem (x z : Int) : ∀ ys : List Int, z ∈ insU x ys ↔ z = x ∨ z ∈ ys
  | [] => by simp [insU]
  | y :: ys => by
    unfold insU
    split
    · simp
    · split
      · rename_i h; subst h; simp
      · simp only [List.mem_cons, insU_mem x z ys]
        constructor
        · rintro (h | h | h)
          · exact .inr (.inl h)
          · exact .inl h
          · exact .inr (.inr h)
        · rintro (h | h | h)
          · exact .inr (.inl h)
          · exact .inl h
          · exact .inr (.inr h)
theorem usort_mem (z : Int) : ∀ xs : List Int, z ∈ usort xs ↔ z ∈ xs
  | [] => Iff.rfl
  | x :: xs => by unfold usort; rw [insU_mem, usort_mem z xs, List.mem_cons]
theorem insU_up (x : Int) : ∀ {ys : List Int}, ys.Pairwise (· < ·) → (insU x ys).Pairwise (· < ·)
  | [], _ => by simp [insU]
  | y :: ys, h => by
    have h' := List.pairwise_cons.mp h
    unfold insU
    split
    · rename_i c
      refine .cons (fun z hz => ?_) h
      rcases List.mem_cons.mp hz with q | q
      · omega
      · have := h'.1 z q; omega
    · split
      · exact h
      · rename_i c c'
        refine .cons (fun z hz => ?_) (insU_up x h'.2)
        rcases (insU_mem x z ys).mp hz with q | q
        · omega
        · exact h'.1 z q
theorem usort_up : ∀ xs : List Int, (usort xs).Pairwise (· < ·)
  | [] => .nil
  | x :: xs => insU_up x (usort_up xs)
theorem up_one : ∀ {l1 l2 : List Int}, (∀ z, z ∈ l1 ↔ z ∈ l2) → l1.Pairwise (· < ·) → l2.Pairwise (· < ·) → l1 = l2
  | [], [], _, _, _ => rfl
  | [], y :: _, h, _, _ => by have := (h y).mpr List.mem_cons_self; cases this
  | x :: _, [], h, _, _ => by have := (h x).mp List.mem_cons_self; cases this
  | x :: xs, y :: ys, h, s1, s2 => by
    rw [List.pairwise_cons] at s1 s2
    have e : x = y := by
      rcases List.mem_cons.mp ((h x).mp List.mem_cons_self) with e | hx
      · exact e
      · rcases List.mem_cons.mp ((h y).mpr List.mem_cons_self) with e | hy
        · exact e.symm
        · have h1 := s1.1 y hy
          have h2 := s2.1 x hx
          omega
    subst e
    rw [up_one (fun z => ?_) s1.2 s2.2]
    constructor
    · intro hz
      rcases List.mem_cons.mp ((h z).mp (List.mem_cons_of_mem _ hz)) with q | q
      · subst q; have := s1.1 z hz; omega
      · exact q
    · intro hz
      rcases List.mem_cons.mp ((h z).mpr (List.mem_cons_of_mem _ hz)) with q | q
      · subst q; have := s2.1 z hz; omega
      · exact q
theorem pe_ss {T : Nat → Str} {X : Cx} {a : Expr} {fa : EvF} {x y : Str} {p p1 p2 pos : Pos} (hc : X.calm = true) (hx : x = "sorted") (hy : y = "set") (g1 : Gl X x) (g2 : Gl X y) (m1 : X.mg x = none) (m2 : X.mg y = none) (hs : noStar a = true) (ha : PE X a (tB T X.K fa)) :
    PE X (.Call (.Name x p) [.Call (.Name y p1) [a] [] p2] [] pos) (tF T X.K (un1 fa (bf1 .sortedSet))) := by
  subst hx
  subst hy
  refine PE.mono (ht_b (cr_sortedSet hc) g1 m1 boot_sorted (by decide +kernel) (by decide +kernel) rfl _ (ht_t (cr_setL1 hc) g2 m2 boot_set (by decide +kernel) (by decide +kernel) hs _ ha)) fun σ H Q ⟨O, wa, env, ω, ws, d, ws', st, hf, k⟩ => ?_
  unfold un1 at hf
  split at hf
  · cases hf
  rename_i xd ws1 e1
  split at hf
  · cases hf
  rename_i z e3
  cases hf
  refine ⟨O, wa, env, ω, ws, xd, _, st, e1, fun v1 H1 st1 sp1 r1 => ?_⟩
  cases xd <;> simp only [bf1] at e3 <;> try cases e3
  split at e3
  · rename_i ns hn
    split at e3
    · rename_i hl
      cases e3
      obtain ⟨a1, vs, rfl, h1, q1⟩ := r1.lst
      have := q1.ints hn
      subst this
      refine ⟨a1, ns, rfl, h1, of_decide_eq_true hl, fun p c n hc => ?_⟩
      refine ⟨p, _, c, rfl, upd_same, hc, fun ms p2 up mem _ n2 => ?_⟩
      have st2 := st1.grow (new_same (o := SetO X.w p (fun j => decide (j ∈ ns)) c) n)
      have em : ms = usort ns := up_one (fun z => by rw [mem z, usort_mem, decide_eq_true_eq]) up (usort_up ns)
      subst em
      refine k p2 _ (st2.more n2 _) (sp1.trans ((Stp.of (new_same n)).trans (Stp.of (new_same n2)))) (st2.fresh n2) (st1.back sp1 (st2.back (Stp.of (new_same n)) n2)) ⟨_, upd_same, reps_ints _⟩
    · cases e3
  · cases e3
end Pv

set_option Elab.async false
set_option linter.all false
set_option maxRecDepth 100000
set_option maxHeartbeats 4000000
/-! Pv14: when an Ex is what a text's expression says. -/
namespace Pv
open PySem PySem.Spec PyProof.Rows L2

mutual
def sameD : D → D → Bool
  | .non, .non => true
  | .bl a, .bl b => decide (a = b)
  | .int a, .int b => decide (a = b)
  | .str a, .str b => decide (a = b)
  | .tup a, .tup b => sameDs a b
  | .lst a, .lst b => sameDs a b
  | _, _ => false
def sameDs : List D → List D → Bool
  | [], [] => true
  | x :: xs, y :: ys => sameD x y && sameDs xs ys
  | _, _ => false
end
mutual
theorem sameD_eq : ∀ {a b : D}, sameD a b = true → a = b
  | .non, .non, _ => rfl
  | .bl a, .bl b, h => by simp only [sameD, decide_eq_true_eq] at h; rw [h]
  | .int a, .int b, h => by simp only [sameD, decide_eq_true_eq] at h; rw [h]
  | .str a, .str b, h => by simp only [sameD, decide_eq_true_eq] at h; rw [h]
  | .tup a, .tup b, h => by simp only [sameD] at h; rw [sameDs_eq h]
  | .lst a, .lst b, h => by simp only [sameD] at h; rw [sameDs_eq h]
  | .non, .bl _, h | .non, .int _, h | .non, .str _, h | .non, .tup _, h | .non, .lst _, h | .non, .dic _ _, h | .non, .scr _, h | .non, .wd, h => by simp [sameD] at h
  | .bl _, .non, h | .bl _, .int _, h | .bl _, .str _, h | .bl _, .tup _, h | .bl _, .lst _, h | .bl _, .dic _ _, h | .bl _, .scr _, h | .bl _, .wd, h => by simp [sameD] at h
  | .int _, .non, h | .int _, .bl _, h | .int _, .str _, h | .int _, .tup _, h | .int _, .lst _, h | .int _, .dic _ _, h | .int _, .scr _, h | .int _, .wd, h => by simp [sameD] at h
  | .str _, .non, h | .str _, .bl _, h | .str _, .int _, h | .str _, .tup _, h | .str _, .lst _, h | .str _, .dic _ _, h | .str _, .scr _, h | .str _, .wd, h => by simp [sameD] at h
  | .tup _, .non, h | .tup _, .bl _, h | .tup _, .int _, h | .tup _, .str _, h | .tup _, .lst _, h | .tup _, .dic _ _, h | .tup _, .scr _, h | .tup _, .wd, h => by simp [sameD] at h
  | .lst _, .non, h | .lst _, .bl _, h | .lst _, .int _, h | .lst _, .str _, h | .lst _, .tup _, h | .lst _, .dic _ _, h | .lst _, .scr _, h | .lst _, .wd, h => by simp [sameD] at h
  | .dic _ _, _, h => by simp [sameD] at h
  | .scr _, _, h => by simp [sameD] at h
  | .wd, _, h => by simp [sameD] at h
theorem sameDs_eq : ∀ {a b : List D}, sameDs a b = true → a = b
  | [], [], _ => rfl
  | x :: xs, y :: ys, h => by
    simp only [sameDs, Bool.and_eq_true] at h
    rw [sameD_eq h.1, sameDs_eq h.2]
  | [], _ :: _, h => by simp [sameDs] at h
  | _ :: _, [], h => by simp [sameDs] at h
end

structure Cf where
  N : List Str
  T : Nat → Str
  fn : Nat → List Str
  co : Nat → Option (Str × D)
def isVis (sc : Scope) (x : Str) : Bool := match sc.names.lookup x with
  | some .local => true
  | some .cell => true
  | some .free => true
  | _ => false
theorem isVis_ok {sc : Scope} {x : Str} (h : isVis sc x = true) : Vis sc x := by
  unfold isVis at h
  split at h
  · exact .inl (by assumption)
  · exact .inr (.inl (by assumption))
  · exact .inr (.inr (by assumption))
  · cases h
def isLoc (sc : Scope) (x : Str) : Bool := match sc.names.lookup x with
  | some .local => true
  | some .cell => true
  | _ => false
theorem isLoc_ok {sc : Scope} {x : Str} (h : isLoc sc x = true) : Loc sc x := by
  unfold isLoc at h
  split at h
  · exact .inl (by assumption)
  · exact .inr (by assumption)
  · cases h
def isLo (sc : Scope) (x : Str) : Bool := match sc.names.lookup x with
  | some .local => true
  | _ => false
theorem isLo_ok {sc : Scope} {x : Str} (h : isLo sc x = true) : sc.names.lookup x = some .local := by
  unfold isLo at h
  split at h
  · assumption
  · cases h
def isGl (sc : Scope) (x : Str) : Bool := match sc.names.lookup x with
  | some .globalImplicit => true
  | _ => false
def plainN (x : Str) : Bool := !(x == ("__debug__" : Str)) && !(x == ("__classdict__" : Str)) && !decide (x = ("__name__" : Str))
theorem plainN_ok {x : Str} (h : plainN x = true) : (x == ("__debug__" : Str)) = false ∧ (x == ("__classdict__" : Str)) = false ∧ x ≠ "__name__" := by
  unfold plainN at h
  rw [Bool.and_eq_true, Bool.and_eq_true, Bool.not_eq_true', Bool.not_eq_true', Bool.not_eq_true', decide_eq_false_iff_not] at h
  exact ⟨h.1.1, h.1.2, h.2⟩
/-! names of built-ins -/
def b1N : B1 → Str
  | .len => "len" | .abs => "abs" | .int => "int" | .lstOf => "list" | .tupOf => "tuple" | .dictOf => "dict" | .sorted => "sorted" | .sortedSet => "sorted" | .all => "all" | .any => "any" | .maxL => "max" | .minL => "min" | .sumL => "sum"
def b2N : B2 → Str
  | .max => "max" | .min => "min"
def tyS (t : Ty) : Str := Str.ofString (tyN t)
def noSlice : Expr → Bool
  | .Slice .. => false
  | _ => true
def noSet : Expr → Bool
  | .Set .. => false
  | _ => true
def isCN : Expr → Bool
  | .Constant .none _ _ => true
  | _ => false
def relS' (scope sc : Scope) : Scope := L2.relS scope sc
/-- a target: the names of slots -/
def okNm (N : List Str) (p : Str → Bool) (i : Nat) : Expr → Bool
  | .Name x _ => decide (N[i]? = some x) && p x
  | _ => false
def okNms (N : List Str) (p : Str → Bool) : List Nat → List Expr → Bool
  | [], [] => true
  | i :: is, e :: es => okNm N p i e && okNms N p is es
  | _, _ => false
def okNmT (N : List Str) (p : Str → Bool) : List Nat → Expr → Bool
  | [i], e => okNm N p i e
  | is, .Tuple es _ _ => okNms N p is es
  | _, _ => false
def okNmsT (N : List Str) (p : Str → Bool) : List (List Nat) → List Expr → Bool
  | [], [] => true
  | t :: ts, e :: es => okNmT N p t e && okNmsT N p ts es
  | _, _ => false
def okTg (N : List Str) (p : Str → Bool) : Tg → Expr → Bool
  | .nm i, e => okNm N p i e
  | .tp is, .Tuple es _ _ => okNms N p is es
  | .tq ts, .Tuple es _ _ => okNmsT N p ts es
  | _, _ => false
def ownOf2 (N : List Str) (tg tg2 : Tg) : List (Str × Nat) := (tgs tg ++ tgs tg2).map fun i => (N.getD i "", i)
def ownOf (N : List Str) (tg : Tg) : List (Str × Nat) := (tgs tg).map fun i => (N.getD i "", i)

/-- a chain of and, or -/
def isB2 : Tx → Bool
  | .and2 _ _ => true
  | .or2 _ _ => true
  | .one _ => true
  | _ => false
mutual
def okE (cf : Cf) : Ex → Scope → Expr → Bool
  | .bad, _, _ => true
  | .non, _, e => isCN e
  | .tt b, _, e => match e with
    | .Constant (.bool c) _ _ => decide (b = c)
    | _ => false
  | .num i, _, e => match e with
    | .Constant (.int j) _ _ => decide (i = j)
    | _ => false
  | .txt n, _, e => match e with
    | .Constant (.str s) _ _ => decide (cf.T n = s)
    | _ => false
  | .var i, sc, e => match e with
    | .Name x _ => decide (cf.N[i]? = some x) && isVis sc x && plainN x
    | _ => false
  | .con k d, sc, e => match e with
    | .Name x _ => (match cf.co k with
      | some (y, d') => decide (y = x) && sameD d' d
      | none => false) && isGl sc x && plainN x
    | _ => false
  | .bin o a b, sc, e => match e with
    | .BinOp a' op b' _ => decide (bopO o = op) && okE cf a sc a' && okE cf b sc b'
    | _ => false
  | .neg a, sc, e => match e with
    | .UnaryOp .USub a' _ => okE cf a sc a'
    | _ => false
  | .cmp o a b, sc, e => match e with
    | .Compare a' [op] [b'] _ => decide (copO o = op) && okE cf a sc a' && (if o = .isN ∨ o = .notN then isCN b' else okE cf b sc b' && noSet b')
    | _ => false
  | .chain o p a b c, sc, e => (match e with
    | .Compare a' [op, op2] [b', c'] _ => decide (copO o = op) && decide (copO p = op2) && okE cf a sc a' && okE cf b sc b' && okE cf c sc c' && noSet c'
    | _ => false)
  | .andv a r, sc, e => match e with
    | .BoolOp .And (x :: y :: rest) pos => okE cf a sc x && okE cf r sc (.BoolOp .And (y :: rest) pos)
    | _ => false
  | .orv a r, sc, e => match e with
    | .BoolOp .Or (x :: y :: rest) pos => okE cf a sc x && okE cf r sc (.BoolOp .Or (y :: rest) pos)
    | _ => false
  | .one a, sc, e => match e with
    | .BoolOp _ [x] _ => okE cf a sc x
    | _ => false
  | .notv a, sc, e => match e with
    | .UnaryOp .Not x _ => okE cf a sc x
    | _ => false
  | .ite c a b, sc, e => match e with
    | .IfExp c' a' b' _ => okT cf c sc c' && okE cf a sc a' && okE cf b sc b'
    | _ => false
  | .tup es, sc, e => match e with
    | .Tuple es' _ _ => okEs cf es sc es' && okLen es'.length
    | _ => false
  | .lst es, sc, e => match e with
    | .List es' _ => okEs cf es sc es' && okLen es'.length
    | _ => false
  | .dic ks vs, sc, e => match ks, vs with
    | .nil, .nil => (match e with
      | .Dict [] [] _ => true
      | _ => false)
    | .cons k .nil, .cons v .nil => (match e with
      | .Dict [some k'] [v'] _ => okE cf k sc k' && okE cf v sc v'
      | _ => false)
    | _, _ => false
  | .ix a b, sc, e => match e with
    | .Subscript a' b' _ => okE cf a sc a' && okE cf b sc b' && noSlice b'
    | _ => false
  | .sl a lo hi, sc, e => match e with
    | .Subscript a' (.Slice l h none _) _ => okE cf a sc a' && (match l with
      | none => isN lo
      | some l' => !isN lo && okE cf lo sc l') && (match h with
      | none => isN hi
      | some h' => !isN hi && okE cf hi sc h')
    | _ => false
  | .call f args, sc, e => match e with
    | .Call (.Name x _) (a :: as) [] _ => (cf.fn f).contains x && isGl sc x && plainN x && okEs cf args sc (a :: as)
    | _ => false
  | .b1 f a, sc, e => match e with
    | .Call (.Name x _) [a'] [] _ => if f = .sortedSet then (match a' with
        | .Call (.Name y _) [a2] [] _ => decide (x = "sorted") && decide (y = "set") && isGl sc x && isGl sc y && okE cf a sc a2 && noStar a2
        | _ => false)
        else decide (x = b1N f) && isGl sc x && okE cf a sc a' && noStar a'
    | _ => false
  | .b2 f a b, sc, e => match e with
    | .Call (.Name x _) [a', b'] [] _ => decide (x = b2N f) && isGl sc x && okE cf a sc a' && okE cf b sc b' && noStar a' && noStar b'
    | _ => false
  | .isi t a, sc, e => match e with
    | .Call (.Name x _) [a', .Name y _] [] _ => decide (x = "isinstance") && decide (y = tyS t) && isGl sc x && isGl sc y && okE cf a sc a' && noStar a'
    | _ => false
  | .get2 d k x, sc, e => match e with
    | .Call (.Attribute o m ap) [k', x'] [] cp => decide (m = "get") && okE cf d sc o && okE cf k sc k' && okE cf x sc x' && noCall o && noStar k' && noStar x' && (ap.endLine == cp.line)
    | _ => false
  | .rng a, _, _ => false
  | .rng2 a b, _, _ => false
  | .comp tg it elt, sc, e => match e with
    | .ListComp elt' [⟨tg', it', [], 0⟩] scope _ => (okIt cf it sc it' || okE cf it sc it') && noSet it' && blkC cf.N sc scope (ownOf cf.N tg) && okTg cf.N (isLo (relS' scope sc)) tg tg' && okE cf elt (relS' scope sc) elt'
    | _ => false
  | .compIf tg it c elt, sc, e => match e with
    | .ListComp elt' [⟨tg', it', [c'], 0⟩] scope _ => (okIt cf it sc it' || okE cf it sc it') && noSet it' && blkC cf.N sc scope (ownOf cf.N tg) && okTg cf.N (isLo (relS' scope sc)) tg tg' && okE cf elt (relS' scope sc) elt' && okT cf c (relS' scope sc) c'
    | _ => false
  | .comp2 tg it tg2 it2 elt, sc, e => match e with
    | .ListComp elt' [⟨tg', it', [], 0⟩, ⟨tg2', it2', [], 0⟩] scope _ => (okIt cf it sc it' || okE cf it sc it') && noSet it' && (okIt cf it2 (relS' scope sc) it2' || okE cf it2 (relS' scope sc) it2') && noSet it2' && blkC cf.N sc scope (ownOf2 cf.N tg tg2) && okTg cf.N (isLo (relS' scope sc)) tg tg' && okTg cf.N (isLo (relS' scope sc)) tg2 tg2' && okE cf elt (relS' scope sc) elt'
    | _ => false
  | .comp2If tg it tg2 it2 c elt, sc, e => match e with
    | .ListComp elt' [⟨tg', it', [], 0⟩, ⟨tg2', it2', [c'], 0⟩] scope _ => (okIt cf it sc it' || okE cf it sc it') && noSet it' && (okIt cf it2 (relS' scope sc) it2' || okE cf it2 (relS' scope sc) it2') && noSet it2' && blkC cf.N sc scope (ownOf2 cf.N tg tg2) && okTg cf.N (isLo (relS' scope sc)) tg tg' && okTg cf.N (isLo (relS' scope sc)) tg2 tg2' && okE cf elt (relS' scope sc) elt' && okT cf c (relS' scope sc) c'
    | _ => false
  | .tupR a, sc, e => match e with
    | .Call (.Name x _) [.Call (.Name y _) [a'] [] _] [] _ => decide (x = "tuple") && decide (y = "range") && isGl sc x && isGl sc y && okE cf a sc a' && noStar a'
    | _ => false
/-- what is walked -/
def okIt (cf : Cf) : Ex → Scope → Expr → Bool
  | .rng a, sc, e => match e with
    | .Call (.Name x _) [a'] [] _ => decide (x = "range") && isGl sc x && okE cf a sc a' && noStar a'
    | _ => false
  | .rng2 a b, sc, e => match e with
    | .Call (.Name x _) [a', b'] [] _ => decide (x = "range") && isGl sc x && okE cf a sc a' && okE cf b sc b' && noStar a' && noStar b'
    | _ => false
  | _, _, _ => false
def okEs (cf : Cf) : Exs → Scope → List Expr → Bool
  | .nil, _, es => match es with
    | [] => true
    | _ => false
  | .cons e r, sc, es => match es with
    | e' :: r' => okE cf e sc e' && noStar e' && okEs cf r sc r'
    | _ => false
def okT (cf : Cf) : Tx → Scope → Expr → Bool
  | .val a, sc, e => okE cf a sc e && plainT e
  | .cmp o a b, sc, e => match e with
    | .Compare a' [op] [b'] _ => decide (copO o = op) && okE cf a sc a' && (if o = .isN ∨ o = .notN then isCN b' else okE cf b sc b' && noSet b')
    | _ => false
  | .chain o p a b c, sc, e => (match e with
    | .Compare a' [op, op2] [b', c'] _ => decide (copO o = op) && decide (copO p = op2) && okE cf a sc a' && okE cf b sc b' && okE cf c sc c' && noSet c'
    | _ => false)
  | .not a, sc, e => match e with
    | .UnaryOp .Not x _ => okT cf a sc x
    | _ => false
  | .and2 a r, sc, e => match e with
    | .BoolOp .And (x :: y :: rest) pos => okT cf a sc x && okT cf r sc (.BoolOp .And (y :: rest) pos) && isB2 r
    | _ => false
  | .or2 a r, sc, e => match e with
    | .BoolOp .Or (x :: y :: rest) pos => okT cf a sc x && okT cf r sc (.BoolOp .Or (y :: rest) pos) && isB2 r
    | _ => false
  | .one a, sc, e => match e with
    | .BoolOp _ [x] _ => okT cf a sc x
    | _ => false
  | .ite .., _, _ => false
end
end Pv

set_option Elab.async false
set_option linter.all false
set_option maxRecDepth 100000
set_option maxHeartbeats 8000000
/-! Pv15: what matches is read. -/
namespace Pv
open PySem PySem.Spec PyProof.Rows L2

def bNames : List Str := ["len", "abs", "int", "list", "tuple", "dict", "sorted", "set", "all", "any", "max", "min", "isinstance", "range", "bool", "str", "sum"]
/-- what is known where a def's body (or a comprehension's block) runs -/
structure XOk (cf : Cf) (P : Nat → Option Def) (n : Nat) (X : Cx) (sc : Scope) : Prop where
  env : X.env.scope = sc
  N : X.N = cf.N
  nd : X.N.Nodup
  calm : X.calm = true
  room : Room n X.A
  T : TOk cf.T
  fns : ∀ f x, x ∈ cf.fn f → ∃ fA fd ps, FnOk X.prog X.w X.K X.mg X.base CX0 n fA fd ps (spO cf.T X.K P n f) ∧ X.mg x = some (.ref fA) ∧ PySem.W.keepIn X.K (.ref fA) = true ∧ Binds X.K fd ps []
  blt : ∀ x ∈ bNames, X.mg x = none
  con : ∀ k x d, cf.co k = some (x, d) → ∃ v u, X.mg x = some u ∧ RelV v u ∧ ∀ wa H, Rep cf.T X.K wa H d v
section
variable {cf : Cf} {P : Nat → Option Def} {n : Nat} {X : Cx} {sc : Scope}
theorem XOk.gl (h : XOk cf P n X sc) {x : Str} (g : isGl sc x = true) : Gl X x := by
  unfold isGl at g
  split at g
  · rename_i q
    show X.env.scope.names.lookup x = _
    rw [h.env]; exact q
  · cases g
theorem XOk.nm (h : XOk cf P n X sc) {x : Str} {i : Nat} {pos : Pos} (hi : cf.N[i]? = some x) (hv : isVis sc x = true) (hp : plainN x = true) : PE X (.Name x pos) (tVar i) := by
  have hv := isVis_ok hv
  rw [← h.env] at hv
  exact pe_var (by rw [h.N]; exact hi) hv (plainN_ok hp).1 (plainN_ok hp).2.1
theorem XOk.blk (h : XOk cf P n X sc) (s : Shared) (H : Hp) (scope : Scope) (C : Addr) (cl : List (Str × Addr)) (fp : List Addr) : XOk cf P n (X.blk s H scope (compEnvC scope cl C X.env) fp) (relS' scope sc) := by
  refine ⟨?_, h.N, h.nd, h.calm, h.room, h.T, h.fns, h.blt, h.con⟩
  show relabel scope X.env = L2.relS scope sc
  rw [← h.env]
  rfl
theorem okNm_ok {X : Cx} {N : List Str} {p : Str → Bool} {i : Nat} {e : Expr} (hN : X.N = N) (nd : X.N.Nodup) (hp : ∀ x, p x = true → Loc X.env.scope x ∧ (X.fn x = true ∨ X.env.scope.names.lookup x = some .local)) (h : okNm N p i e = true) : PG X e (gName i) := by
  unfold okNm at h
  split at h
  · rw [Bool.and_eq_true, decide_eq_true_eq] at h
    exact pg_name nd (by rw [hN]; exact h.1) (hp _ h.2).1 (hp _ h.2).2
  · cases h
theorem okNms_ok {X : Cx} {N : List Str} {p : Str → Bool} (hN : X.N = N) (nd : X.N.Nodup) (hp : ∀ x, p x = true → Loc X.env.scope x ∧ (X.fn x = true ∨ X.env.scope.names.lookup x = some .local)) : ∀ {is : List Nat} {es : List Expr}, okNms N p is es = true →
    PGs X es (gNames is) ∧ es.length = is.length ∧ (assignEach es X.env).length = is.length ∧ (assignEach es X.env).findIdx? (·.1) = none
  | [], [], _ => ⟨pgs_nil, rfl, rfl, rfl⟩
  | [], _ :: _, h => by simp [okNms] at h
  | _ :: _, [], h => by simp [okNms] at h
  | i :: is, e :: es, h => by
    simp only [okNms, Bool.and_eq_true] at h
    obtain ⟨g1, g2, g3, g4⟩ := okNms_ok hN nd hp h.2
    have ha : assignEach (e :: es) X.env = (false, assign e X.env) :: assignEach es X.env := by
      have := h.1
      unfold okNm at this
      split at this
      · rfl
      · cases this
    refine ⟨pgs_cons (okNm_ok hN nd hp h.1) g1 (by rw [ha]; rfl), by rw [List.length_cons, List.length_cons, g2], by rw [ha, List.length_cons, List.length_cons, g3], ?_⟩
    rw [ha, List.findIdx?_cons]
    simp [g4]
theorem okNmT_ok {X : Cx} {N : List Str} {p : Str → Bool} {t : List Nat} {e : Expr} (hN : X.N = N) (nd : X.N.Nodup) (hc : X.calm = true) (hp : ∀ x, p x = true → Loc X.env.scope x ∧ (X.fn x = true ∨ X.env.scope.names.lookup x = some .local)) (h : okNmT N p t e = true) : PG X e (gNmT X.K t) ∧ ∀ es : List Expr, assignEach (e :: es) X.env = (false, assign e X.env) :: assignEach es X.env := by
  have tupC : ∀ (is : List Nat) (e' : Expr), okNmT N p is e' = (match e' with | .Tuple es _ _ => okNms N p is es | _ => false) → (∀ v, gNmT X.K is v = gTup X.K is.length (gNames is) v) → is = t → e' = e → PG X e (gNmT X.K t) ∧ ∀ es : List Expr, assignEach (e :: es) X.env = (false, assign e X.env) :: assignEach es X.env := by
    intro is e' g1 g2 et ee
    subst et
    subst ee
    rw [g1] at h
    split at h
    · obtain ⟨k1, k2, k3, k4⟩ := okNms_ok hN nd hp h
      refine ⟨?_, fun _ => rfl⟩
      have : gNmT X.K is = gTup X.K is.length (gNames is) := funext g2
      rw [this]
      exact pg_tup hc k1 k3 k4
    · cases h
  match t, h with
  | [i], h =>
    refine ⟨okNm_ok hN nd hp h, fun es => ?_⟩
    have h : okNm N p i e = true := h
    unfold okNm at h
    split at h
    · rfl
    · cases h
  | [], h => exact tupC [] e (by cases e <;> rfl) (fun _ => rfl) rfl rfl
  | i :: j :: l, h => exact tupC (i :: j :: l) e (by cases e <;> rfl) (fun _ => rfl) rfl rfl
theorem okNmsT_ok {X : Cx} {N : List Str} {p : Str → Bool} (hN : X.N = N) (nd : X.N.Nodup) (hc : X.calm = true) (hp : ∀ x, p x = true → Loc X.env.scope x ∧ (X.fn x = true ∨ X.env.scope.names.lookup x = some .local)) : ∀ {ts : List (List Nat)} {es : List Expr}, okNmsT N p ts es = true →
    PGs X es (gNmsT X.K ts) ∧ es.length = ts.length ∧ (assignEach es X.env).length = ts.length ∧ (assignEach es X.env).findIdx? (·.1) = none
  | [], [], _ => ⟨pgs_nil, rfl, rfl, rfl⟩
  | [], _ :: _, h => by simp [okNmsT] at h
  | _ :: _, [], h => by simp [okNmsT] at h
  | i :: is, e :: es, h => by
    simp only [okNmsT, Bool.and_eq_true] at h
    obtain ⟨g1, g2, g3, g4⟩ := okNmsT_ok hN nd hc hp h.2
    obtain ⟨k1, k2⟩ := okNmT_ok hN nd hc hp h.1
    refine ⟨pgs_cons k1 g1 (by rw [k2]; rfl), by rw [List.length_cons, List.length_cons, g2], by rw [k2, List.length_cons, List.length_cons, g3], ?_⟩
    rw [k2, List.findIdx?_cons]
    simp [g4]
theorem okTg_ok {X : Cx} {N : List Str} {p : Str → Bool} {tg : Tg} {e : Expr} (hN : X.N = N) (nd : X.N.Nodup) (hc : X.calm = true) (hp : ∀ x, p x = true → Loc X.env.scope x ∧ (X.fn x = true ∨ X.env.scope.names.lookup x = some .local)) (h : okTg N p tg e = true) : PG X e (gT X.K tg) := by
  unfold okTg at h
  split at h
  · exact okNm_ok hN nd hp h
  · obtain ⟨g1, g2, g3, g4⟩ := okNms_ok hN nd hp h
    exact pg_ut hc g1 g3 g4
  · obtain ⟨g1, g2, g3, g4⟩ := okNmsT_ok hN nd hc hp h
    exact pg_tup hc g1 g3 g4
  · cases h
theorem okEs_len {sc : Scope} {Φ : Fns} : ∀ {es : Exs} {es' : List Expr}, okEs cf es sc es' = true → es'.all noStar = true ∧ ∀ env ws ds ws', evs Φ es env ws = some (ds, ws') → ds.length = es'.length
  | .nil, es', h => by
    simp only [okEs] at h
    split at h
    · refine ⟨rfl, fun env ws ds ws' e => ?_⟩
      simp only [evs] at e
      cases e
      rfl
    · cases h
  | .cons e r, es', h => by
    simp only [okEs] at h
    split at h
    · rename_i e' r'
      rw [Bool.and_eq_true, Bool.and_eq_true] at h
      obtain ⟨g1, g2⟩ := okEs_len (Φ := Φ) h.2
      refine ⟨by rw [List.all_cons, h.1.2, g1]; rfl, fun env ws ds ws' q => ?_⟩
      simp only [evs] at q
      split at q
      · cases q
      split at q
      · cases q
      rename_i e2
      cases q
      rw [List.length_cons, List.length_cons, g2 _ _ _ _ e2]
    · cases h
def fresh : Ex → Bool
  | .lst _ => true
  | .dic _ _ => true
  | .comp .. => true
  | .compIf .. => true
  | .comp2 .. => true
  | .comp2If .. => true
  | .b1 f _ => match f with
    | .lstOf => true
    | .dictOf => true
    | .sorted => true
    | .sortedSet => true
    | _ => false
  | _ => false
theorem borrow {e : Expr} {a : Ex} {Φ : Fns} (h : XOk cf P n X sc) (ok : okE cf a sc e = true) (he : PE X e (tE cf.T X.K (ev Φ a))) : PE X e (tB cf.T X.K fun env ws => bor (vi a) env ws (ev Φ a env ws)) := by
  cases hv : vi a with
  | none =>
    have e : (fun (env : Env) (ws : WS) => bor none env ws (ev Φ a env ws)) = ev Φ a := funext fun env => funext fun ws => bor_none
    rw [e]
    exact tE_tB he
  | some i =>
    have ea : a = .var i := by
      unfold vi at hv
      split at hv
      · cases hv; rfl
      · cases hv
    subst ea
    simp only [okE] at ok
    split at ok
    · rw [Bool.and_eq_true, Bool.and_eq_true, decide_eq_true_eq] at ok
      exact pe_vb (h.nm ok.1.1 ok.1.2 ok.2)
    · cases ok
theorem fold_plain {e : Expr} (h : noSet e = true) (env : PySem.Env) : ∀ x, foldedSetIterable e env x = pure x := by
  intro x
  cases e <;> first | rfl | (simp [noSet] at h)
theorem slice_plain {e : Expr} (h : noSlice e = true) : ∀ o i, subscripted e false o i = operate [o, i] (getItem o i) := by
  intro o i
  cases e <;> first | rfl | (simp [noSlice] at h)
theorem marks_plain {op : CmpOp} {e : Expr} (h : noSet e = true) : behindInMarks op e = false := by
  cases e <;> first | rfl | (simp [noSet] at h)
variable {T : Nat → Str}
theorem b1_pe {f : B1} {a : Ex} {a' : Expr} {pos p : Pos} {x : Str} {Φ : Fns} (h : XOk cf P n X sc) (hf : f ≠ .sortedSet) (hx : x = b1N f) (hg : isGl sc x = true) (hs : noStar a' = true) (ha : PE X a' (tB cf.T X.K fun env ws => bor (vi a) env ws (ev Φ a env ws))) :
    PE X (.Call (.Name x p) [a'] [] pos) (tE cf.T X.K (un1 (fun env ws => bor (vi a) env ws (ev Φ a env ws)) (bf1 f))) ∧
    (fresh (.b1 f a) = true → PE X (.Call (.Name x p) [a'] [] pos) (tF cf.T X.K (un1 (fun env ws => bor (vi a) env ws (ev Φ a env ws)) (bf1 f)))) := by
  subst hx
  have g := h.gl hg
  cases f with
  | len => exact ⟨pe_un1 (ht_b len_okr g (h.blt "len" (by decide +kernel)) PySem.boot_len (by decide +kernel) (by decide +kernel) hs) len_okU ha, fun z => by cases z⟩
  | abs => exact ⟨pe_un1 (ht_b call_abs g (h.blt "abs" (by decide +kernel)) boot_abs (by decide +kernel) (by decide +kernel) hs) abs_okU ha, fun z => by cases z⟩
  | int => exact ⟨pe_un1 (ht_t call_int1 g (h.blt "int" (by decide +kernel)) boot_int (by decide +kernel) (by decide +kernel) hs) int_okU ha, fun z => by cases z⟩
  | lstOf =>
    have := pe_unF (T := cf.T) (ht_t (p := p) (pos := pos) (lst_okr h.calm) g (h.blt "list" (by decide +kernel)) boot_list (by decide +kernel) (by decide +kernel) hs) lst_okF ha
    exact ⟨tF_tE this, fun _ => this⟩
  | tupOf => exact ⟨pe_un1 (ht_t call_tupP g (h.blt "tuple" (by decide +kernel)) boot_tuple (by decide +kernel) (by decide +kernel) hs) tup_okU ha, fun z => by cases z⟩
  | dictOf =>
    have := pe_unF (T := cf.T) (ht_t (p := p) (pos := pos) (dct_okr h.calm) g (h.blt "dict" (by decide +kernel)) boot_dict (by decide +kernel) (by decide +kernel) hs) (dct_okF h.T) ha
    exact ⟨tF_tE this, fun _ => this⟩
  | sorted =>
    have := pe_unF (T := cf.T) (ht_b (p := p) (pos := pos) (srt_okr h.calm) g (h.blt "sorted" (by decide +kernel)) boot_sorted (by decide +kernel) (by decide +kernel) hs) srt_okF ha
    exact ⟨tF_tE this, fun _ => this⟩
  | sortedSet => exact absurd rfl hf
  | all => exact ⟨pe_un1 (ht_b (cr_all h.calm) g (h.blt "all" (by decide +kernel)) boot_all (by decide +kernel) (by decide +kernel) hs) all_okU ha, fun z => by cases z⟩
  | maxL => exact ⟨pe_un1 (ht_b (cr_max h.calm) g (h.blt "max" (by decide +kernel)) boot_max (by decide +kernel) (by decide +kernel) hs) maxL_okU ha, fun z => by cases z⟩
  | minL => exact ⟨pe_un1 (ht_b (cr_min h.calm) g (h.blt "min" (by decide +kernel)) boot_min (by decide +kernel) (by decide +kernel) hs) minL_okU ha, fun z => by cases z⟩
  | sumL => exact ⟨pe_un1 (ht_b (cr_sum h.calm) g (h.blt "sum" (by decide +kernel)) boot_sum (by decide +kernel) (by decide +kernel) hs) sumL_okU ha, fun z => by cases z⟩
  | any => exact ⟨pe_un1 (ht_b (cr_any h.calm) g (h.blt "any" (by decide +kernel)) boot_any (by decide +kernel) (by decide +kernel) hs) any_okU ha, fun z => by cases z⟩
theorem isi_pe {t : Ty} {a : Ex} {a' : Expr} {pos p p2 : Pos} {x y : Str} {Φ : Fns} (h : XOk cf P n X sc) (hx : x = "isinstance") (hy : y = tyS t) (hg : isGl sc x = true) (hgy : isGl sc y = true) (hs : noStar a' = true) (ha : PE X a' (tB cf.T X.K fun env ws => bor (vi a) env ws (ev Φ a env ws))) :
    PE X (.Call (.Name x p) [a', .Name y p2] [] pos) (tE cf.T X.K (un1 (fun env ws => bor (vi a) env ws (ev Φ a env ws)) (fun d => match isiD t d with
      | none => none
      | some z => some (.bl z)))) := by
  subst hx
  subst hy
  have bt : ∃ u, bootBuiltins (tyS t) = some u ∧ RelV (.ty (tyN t)) u ∧ X.mg (tyS t) = none ∧ tyS t ≠ "__name__" ∧ (tyS t == ("__debug__" : Str)) = false := by
    cases t
    · exact ⟨_, boot_int, rfl, h.blt "int" (by decide +kernel), by decide, by decide⟩
    · exact ⟨_, boot_bool, rfl, h.blt "bool" (by decide +kernel), by decide, by decide⟩
    · exact ⟨_, boot_tuple, rfl, h.blt "tuple" (by decide +kernel), by decide, by decide⟩
    · exact ⟨_, boot_list, rfl, h.blt "list" (by decide +kernel), by decide, by decide⟩
    · exact ⟨_, boot_dict, rfl, h.blt "dict" (by decide +kernel), by decide, by decide⟩
    · exact ⟨_, boot_str, rfl, h.blt "str" (by decide +kernel), by decide, by decide⟩
  obtain ⟨u, h1, h2, h3, h4, h5⟩ := bt
  refine pe_un1 (r := fun x H Q => rIsi X.K [x, .ty (tyN t)] H Q) (fun ta hta => ?_) (isi_okU t) ha
  exact pe_callB call_isi (h.gl hg) (h.blt "isinstance" (by decide +kernel)) boot_isinstance (pa_cons hta (pa_cons (pe_bltn (h.gl hgy) h3 h1 h2 h4 h5) pa_nil (star_cons rfl _ _)) (star_cons hs _ _)) (by decide +kernel) (by decide +kernel) (star_cons hs _ _) rfl
end
end Pv

set_option Elab.async false
set_option linter.all false
set_option maxRecDepth 100000
set_option maxHeartbeats 8000000
/-! Pv16: every expression that matches is read. -/
namespace Pv
open PySem PySem.Spec PyProof.Rows L2
section
variable {cf : Cf} {P : Nat → Option Def} {n : Nat}
theorem isCN_ok {e : Expr} (h : isCN e = true) : ∃ j p, e = .Constant .none j p := by
  unfold isCN at h
  split at h
  · exact ⟨_, _, rfl⟩
  · cases h
theorem copN {o : Cop} (h : o = .isN ∨ o = .notN) : copO o = if decide (o = .notN) then .IsNot else .Is := by
  rcases h with h | h <;> subst h <;> rfl
theorem cmpV {X : Cx} {sc : Scope} {o : Cop} {a b : Ex} {a' b' : Expr} {op : CmpOp} {pos : Pos} {Φ : Fns} (h : XOk cf P n X sc) (ho : copO o = op) (ha : PE X a' (tB cf.T X.K fun env ws => bor (vi a) env ws (ev Φ a env ws)))
    (hb : (if o = .isN ∨ o = .notN then isCN b' else okE cf b sc b' && noSet b') = true) (ib : okE cf b sc b' = true → PE X b' (tE cf.T X.K (ev Φ b))) :
    PE X (.Compare a' [op] [b'] pos) (tE cf.T X.K (ev Φ (.cmp o a b))) ∧ PT X (.Compare a' [op] [b'] pos) (tT cf.T X.K (evT Φ (.cmp o a b))) := by
  by_cases hn : o = .isN ∨ o = .notN
  · rw [if_pos hn] at hb
    obtain ⟨j, p, rfl⟩ := isCN_ok hb
    have e1 := pe_none (pos := pos) (j := j) (p1 := p) (neg := decide (o = .notN)) (op := op) (by rw [← ho, copN hn]) ha
    have e2 := pt_none (pos := pos) (j := j) (p1 := p) (neg := decide (o = .notN)) (op := op) (by rw [← ho, copN hn]) ha
    refine ⟨PE.mono e1 ?_, PT.mono e2 ?_⟩
    · have : ev Φ (.cmp o a b) = oneV (fun env ws => bor (vi a) env ws (ev Φ a env ws)) (decide (o = .notN)) := by
        funext env ws
        unfold oneV
        simp only [ev]
        rcases hn with hn | hn <;> subst hn <;> rfl
      rw [this]; exact fun _ _ _ q => q
    · have : evT Φ (.cmp o a b) = oneT (fun env ws => bor (vi a) env ws (ev Φ a env ws)) (decide (o = .notN)) := by
        funext env ws
        unfold oneT
        simp only [evT]
        rcases hn with hn | hn <;> subst hn <;> rfl
      rw [this]; exact fun _ _ _ q => q
  · rw [if_neg hn, Bool.and_eq_true] at hb
    have hb2 := borrow h hb.1 (ib hb.1)
    have hu : X.A.units + 65 < cLine := by have := h.room.un; omega
    subst ho
    have e1 := pe_two (T := cf.T) (fun ta tb h1 h2 => pe_cmpR (pos := pos) (cop_opr hu o) h1 h2 (marks_plain hb.2)) (cop_ok h.T o) ha hb2
    have e2 := pt_two (T := cf.T) (fun ta tb h1 h2 => pt_cmpR (pos := pos) (cop_opr hu o) h1 h2 (marks_plain hb.2)) (cop_ok h.T o) ha hb2
    have n1 : o ≠ .isN := fun z => hn (.inl z)
    have n2 : o ≠ .notN := fun z => hn (.inr z)
    refine ⟨PE.mono e1 ?_, PT.mono e2 ?_⟩
    · have : ev Φ (.cmp o a b) = two (fun env ws => bor (vi a) env ws (ev Φ a env ws)) (fun env ws => bor (vi b) env ws (ev Φ b env ws)) (fun _ => copD o) := by
        funext env ws
        unfold two copD
        simp only [ev]
        cases o <;> first | exact absurd rfl n1 | exact absurd rfl n2 | skip
        all_goals
          cases bor (vi a) env ws (ev Φ a env ws) with
          | none => rfl
          | some r =>
            obtain ⟨x, ws1⟩ := r
            dsimp only
            cases bor (vi b) env ws1 (ev Φ b env ws1) with
            | none => rfl
            | some r =>
              obtain ⟨y, ws2⟩ := r
              dsimp only
              cases cop _ x y <;> rfl
      rw [this]; exact fun _ _ _ q => q
    · have : evT Φ (.cmp o a b) = twoT (fun env ws => bor (vi a) env ws (ev Φ a env ws)) (fun env ws => bor (vi b) env ws (ev Φ b env ws)) o := by
        funext env ws
        unfold twoT
        simp only [evT]
        try cases o <;> first | exact absurd rfl n1 | exact absurd rfl n2 | rfl
      rw [this]; exact fun _ _ _ q => q
def chF (o p : Cop) (fa fb fc : EvF) : EvF := fun env ws => match fa env ws with
  | none => none
  | some (x, ws1) => match fb env ws1 with
    | none => none
    | some (y, ws2) => match cop o x y with
      | none => none
      | some false => some (.bl false, ws2)
      | some true => match fc env ws2 with
        | none => none
        | some (z, ws3) => match cop p y z with
          | none => none
          | some t => some (.bl t, ws3)
def chT (o p : Cop) (fa fb fc : EvF) : EvTF := fun env ws => match fa env ws with
  | none => none
  | some (x, ws1) => match fb env ws1 with
    | none => none
    | some (y, ws2) => match cop o x y with
      | none => none
      | some false => some (false, ws2)
      | some true => match fc env ws2 with
        | none => none
        | some (z, ws3) => match cop p y z with
          | none => none
          | some t => some (t, ws3)
theorem chV {X : Cx} {sc : Scope} {o p : Cop} {fa fb fc : EvF} {a' b' c' : Expr} {pos : Pos} (h : XOk cf P n X sc) (ha : PE X a' (tB cf.T X.K fa)) (hb : PE X b' (tB cf.T X.K fb)) (hc : PE X c' (tB cf.T X.K fc)) (hs : noSet c' = true) :
    PE X (.Compare a' [copO o, copO p] [b', c'] pos) (tE cf.T X.K (chF o p fa fb fc)) ∧ PT X (.Compare a' [copO o, copO p] [b', c'] pos) (tT cf.T X.K (chT o p fa fb fc)) := by
  have hu : X.A.units + 65 < cLine := by have := h.room.un; omega
  have go : ∀ (σ : L2.St) (H : Hp) (Q : VK) (O : Addr → Prop) (wa : Option Addr) (env : Env) (ω : Nat → Option Addr) (ws : WS) (t : Bool) (ws' : WS), StR cf.T X.K O wa env ω ws σ H → chT o p fa fb fc env ws = some (t, ws') →
      (∀ H', StR cf.T X.K O wa env ω ws' σ H' → Stp wa H H' → Q (.bl t) H') → tChain (copR X.K o) (copR X.K p) (tB cf.T X.K fa) (tB cf.T X.K fb) (tB cf.T X.K fc) σ H Q := by
    intro σ H Q O wa env ω ws t ws' st hf k
    unfold chT at hf
    split at hf
    · cases hf
    rename_i x ws1 e1
    split at hf
    · cases hf
    rename_i y ws2 e2
    refine ⟨O, wa, env, ω, ws, x, ws1, st, e1, fun v1 H1 st1 sp1 r1 => ⟨O, wa, env, ω, ws1, y, ws2, st1, e2, fun v2 H2 st2 sp2 r2 => ?_⟩⟩
    split at hf
    · cases hf
    · rename_i e3
      cases hf
      refine cop_ok h.T o O wa env ω ws' σ H2 v1 v2 x y (.bl false) _ st2 (r1.mono sp2) r2 (by show copD o x y = _; unfold copD; rw [e3]) fun v H3 sm rz => ?_
      cases rz
      exact ⟨false, rfl, k H3 (st2.grow sm) ((sp1.trans sp2).trans (Stp.of sm))⟩
    · rename_i e3
      split at hf
      · cases hf
      rename_i z ws3 e4
      split at hf
      · cases hf
      rename_i t' e5
      cases hf
      refine cop_ok h.T o O wa env ω ws2 σ H2 v1 v2 x y (.bl true) _ st2 (r1.mono sp2) r2 (by show copD o x y = _; unfold copD; rw [e3]) fun v H3 sm rz => ?_
      cases rz
      refine ⟨true, rfl, ?_⟩
      rw [if_pos rfl]
      refine ⟨O, wa, env, ω, ws2, z, _, st2.grow sm, e4, fun v3 H4 st4 sp4 r3 => ?_⟩
      refine cop_ok h.T p O wa env ω _ σ H4 v2 v3 y z (.bl t) _ st4 (r2.mono ((Stp.of sm).trans sp4)) r3 (by show copD p y z = _; unfold copD; rw [e5]) fun v H5 sm5 rz => ?_
      cases rz
      exact k H5 (st4.grow sm5) ((((sp1.trans sp2).trans (Stp.of sm)).trans sp4).trans (Stp.of sm5))
  refine ⟨PE.mono (pe_chain (cop_opr hu o) (cop_opr hu p) ha hb hc (marks_plain hs)) fun σ H Q ⟨O, wa, env, ω, ws, d, ws', st, hf, k⟩ => ?_, PT.mono (pt_chain (cop_opr hu o) (cop_opr hu p) ha hb hc (marks_plain hs)) fun σ H Q ⟨O, wa, env, ω, ws, d, ws', st, hf, k⟩ => ?_⟩
  · have : ∃ t, d = .bl t ∧ chT o p fa fb fc env ws = some (t, ws') := by
      unfold chF at hf
      unfold chT
      split at hf
      · cases hf
      rename_i x ws1 e1
      split at hf
      · cases hf
      rename_i y ws2 e2
      split at hf
      · cases hf
      · rename_i e3; cases hf; exact ⟨false, rfl, by first | rfl | simp only [e3]⟩
      · rename_i e3
        split at hf
        · cases hf
        rename_i z ws3 e4
        split at hf
        · cases hf
        rename_i t' e5
        cases hf
        exact ⟨t', rfl, by first | rfl | simp only [e3, e4, e5]⟩
    obtain ⟨t, rfl, ht⟩ := this
    exact go σ H Q O wa env ω ws t ws' st ht fun H' s1 s2 => k _ H' s1 s2 (.bl t)
  · exact go σ H _ O wa env ω ws d ws' st hf fun H' s1 s2 => ⟨d, rfl, k H' s1 s2⟩
end
end Pv

set_option Elab.async false
set_option linter.all false
set_option maxRecDepth 100000
set_option maxHeartbeats 8000000
/-! Pv17: every expression that matches is read. -/
namespace Pv
open PySem PySem.Spec PyProof.Rows L2
section
variable {cf : Cf} {P : Nat → Option Def} {n : Nat}
theorem relOk {X : Cx} {sc scope : Scope} {own : List (Str × Nat)} {tg : Tg} (h : XOk cf P n X sc) (hb : blkC cf.N sc scope own = true) : BlkOk X.N X.env.scope scope own := by
  rw [h.N, h.env]; exact blkOk_by hb
theorem own_tgs (N : List Str) (tg : Tg) : (ownOf N tg).map (·.2) = tgs tg := by
  unfold ownOf
  rw [List.map_map]
  exact List.map_id _
theorem blkTg {X : Cx} {sc scope : Scope} {tg : Tg} {tg' : Expr} (h : XOk cf P n X sc) (ht : okTg cf.N (isLo (relS' scope sc)) tg tg' = true) (s : Shared) (H : Hp) (C : Addr) (cl : List (Str × Addr)) (fp : List Addr) :
    PG (X.blk s H scope (compEnvC scope cl C X.env) fp) tg' (gT X.K tg) := by
  have hb := h.blk s H scope C cl fp
  refine okTg_ok (X := X.blk s H scope (compEnvC scope cl C X.env) fp) hb.N hb.nd hb.calm (fun x hx => ?_) ht
  have := isLo_ok hx
  rw [← hb.env] at this
  exact ⟨.inl this, .inr this⟩
theorem compV {X : Cx} {sc scope : Scope} {tg : Tg} {it elt : Ex} {tg' it' elt' : Expr} {pos : Pos} {Φ : Fns} (h : XOk cf P n X sc) (hs : noSet it' = true) (hi : PI X tg' it' (tI cf.T X.K false fun env ws => bor (vi it) env ws (ev Φ it env ws)))
    (hb : blkC cf.N sc scope (ownOf cf.N tg) = true) (ht : okTg cf.N (isLo (relS' scope sc)) tg tg' = true)
    (he : ∀ X : Cx, XOk cf P n X (relS' scope sc) → PE X elt' (tE cf.T X.K (ev Φ elt))) : PE X (.ListComp elt' [⟨tg', it', [], 0⟩] scope pos) (tF cf.T X.K (ev Φ (.comp tg it elt))) := by
  have e := pe_cm (T := cf.T) (pos := pos) (fe := ev Φ elt) (ft := fun _ ws => some (true, ws)) h.calm h.nd hi (relOk (tg := tg) h hb) (own_tgs cf.N tg) (blkTg h ht) (fun _ _ _ _ _ => pts_n)
    (fun s H C cl fp => he _ (h.blk s H scope C cl fp)) (fold_plain hs _)
  refine PE.mono e ?_
  have : ev Φ (.comp tg it elt) = compF (fun env ws => bor (vi it) env ws (ev Φ it env ws)) (fun _ ws => some (true, ws)) (ev Φ elt) tg := by
    funext env ws
    unfold compF
    simp only [ev]
    try rfl
  rw [this]; exact fun _ _ _ q => q
theorem compIfV {X : Cx} {sc scope : Scope} {tg : Tg} {it elt : Ex} {c : Tx} {tg' it' elt' c' : Expr} {pos : Pos} {Φ : Fns} (h : XOk cf P n X sc) (hs : noSet it' = true) (hi : PI X tg' it' (tI cf.T X.K false fun env ws => bor (vi it) env ws (ev Φ it env ws)))
    (hb : blkC cf.N sc scope (ownOf cf.N tg) = true) (ht : okTg cf.N (isLo (relS' scope sc)) tg tg' = true)
    (he : ∀ X : Cx, XOk cf P n X (relS' scope sc) → PE X elt' (tE cf.T X.K (ev Φ elt))) (hc : ∀ X : Cx, XOk cf P n X (relS' scope sc) → PT X c' (tT cf.T X.K (evT Φ c))) :
    PE X (.ListComp elt' [⟨tg', it', [c'], 0⟩] scope pos) (tF cf.T X.K (ev Φ (.compIf tg it c elt))) := by
  have e := pe_cm (T := cf.T) (pos := pos) (fe := ev Φ elt) (ft := evT Φ c) h.calm h.nd hi (relOk (tg := tg) h hb) (own_tgs cf.N tg) (blkTg h ht) (fun s H C cl fp => pts_one (hc _ (h.blk s H scope C cl fp)))
    (fun s H C cl fp => he _ (h.blk s H scope C cl fp)) (fold_plain hs _)
  refine PE.mono e ?_
  have : ev Φ (.compIf tg it c elt) = compF (fun env ws => bor (vi it) env ws (ev Φ it env ws)) (evT Φ c) (ev Φ elt) tg := by
    funext env ws
    unfold compF
    simp only [ev]
    try rfl
  rw [this]; exact fun _ _ _ q => q
theorem own_tgs2 (N : List Str) (tg tg2 : Tg) : (ownOf2 N tg tg2).map (·.2) = tgs tg ++ tgs tg2 := by
  unfold ownOf2
  rw [List.map_map]
  exact List.map_id _
theorem itV {Φ : Fns} {it : Ex} {sc : Scope} {e : Expr} (h : okIt cf it sc e = true) : (fun env ws => bor (vi it) env ws (ev Φ it env ws)) = ev Φ it := by
  cases it <;> first | (simp [okIt] at h; done) | rfl
theorem comp2V {X : Cx} {sc scope : Scope} {tg tg2 : Tg} {it it2 elt : Ex} {tg' it' tg2' it2' elt' : Expr} {cs : List Expr} {pos : Pos} {Φ : Fns} (h : XOk cf P n X sc) (hs : noSet it' = true) (hs2 : noSet it2' = true)
    (hi : PI X tg' it' (tI cf.T X.K false fun env ws => bor (vi it) env ws (ev Φ it env ws)))
    (hi2 : ∀ X : Cx, XOk cf P n X (relS' scope sc) → PI X tg2' it2' (tI cf.T X.K true (ev Φ it2)))
    (hb : blkC cf.N sc scope (ownOf2 cf.N tg tg2) = true) (ht : okTg cf.N (isLo (relS' scope sc)) tg tg' = true) (ht2 : okTg cf.N (isLo (relS' scope sc)) tg2 tg2' = true)
    (he : ∀ X : Cx, XOk cf P n X (relS' scope sc) → PE X elt' (tE cf.T X.K (ev Φ elt)))
    (hc : ∀ X : Cx, XOk cf P n X (relS' scope sc) → PTs X cs (tT cf.T X.K (fun _ ws => some (true, ws)))) :
    PE X (.ListComp elt' [⟨tg', it', [], 0⟩, ⟨tg2', it2', cs, 0⟩] scope pos) (tF cf.T X.K (ev Φ (.comp2 tg it tg2 it2 elt))) := by
  have e := pe_cm2 (T := cf.T) (pos := pos) (fe := ev Φ elt) (ifs := cs) h.calm h.nd hi (relOk (tg := tg) h hb) (own_tgs2 cf.N tg tg2) (blkTg h ht) (fun s H C cl fp => hi2 _ (h.blk s H scope C cl fp)) (blkTg h ht2)
    (fun s H C cl fp => hc _ (h.blk s H scope C cl fp)) (fun s H C cl fp => he _ (h.blk s H scope C cl fp)) (fold_plain hs _) (fun env => fold_plain hs2 env)
  refine PE.mono e ?_
  have : ev Φ (.comp2 tg it tg2 it2 elt) = comp2F (fun env ws => bor (vi it) env ws (ev Φ it env ws)) (ev Φ it2) (fun _ ws => some (true, ws)) (ev Φ elt) tg tg2 := by
    funext env ws
    unfold comp2F
    simp only [ev]
    try rfl
  rw [this]; exact fun _ _ _ q => q
theorem comp2IfV {X : Cx} {sc scope : Scope} {tg tg2 : Tg} {it it2 elt : Ex} {c : Tx} {tg' it' tg2' it2' elt' : Expr} {cs : List Expr} {pos : Pos} {Φ : Fns} (h : XOk cf P n X sc) (hs : noSet it' = true) (hs2 : noSet it2' = true)
    (hi : PI X tg' it' (tI cf.T X.K false fun env ws => bor (vi it) env ws (ev Φ it env ws)))
    (hi2 : ∀ X : Cx, XOk cf P n X (relS' scope sc) → PI X tg2' it2' (tI cf.T X.K true (ev Φ it2)))
    (hb : blkC cf.N sc scope (ownOf2 cf.N tg tg2) = true) (ht : okTg cf.N (isLo (relS' scope sc)) tg tg' = true) (ht2 : okTg cf.N (isLo (relS' scope sc)) tg2 tg2' = true)
    (he : ∀ X : Cx, XOk cf P n X (relS' scope sc) → PE X elt' (tE cf.T X.K (ev Φ elt)))
    (hc : ∀ X : Cx, XOk cf P n X (relS' scope sc) → PTs X cs (tT cf.T X.K (evT Φ c))) :
    PE X (.ListComp elt' [⟨tg', it', [], 0⟩, ⟨tg2', it2', cs, 0⟩] scope pos) (tF cf.T X.K (ev Φ (.comp2If tg it tg2 it2 c elt))) := by
  have e := pe_cm2 (T := cf.T) (pos := pos) (fe := ev Φ elt) (ifs := cs) h.calm h.nd hi (relOk (tg := tg) h hb) (own_tgs2 cf.N tg tg2) (blkTg h ht) (fun s H C cl fp => hi2 _ (h.blk s H scope C cl fp)) (blkTg h ht2)
    (fun s H C cl fp => hc _ (h.blk s H scope C cl fp)) (fun s H C cl fp => he _ (h.blk s H scope C cl fp)) (fold_plain hs _) (fun env => fold_plain hs2 env)
  refine PE.mono e ?_
  have : ev Φ (.comp2If tg it tg2 it2 c elt) = comp2F (fun env ws => bor (vi it) env ws (ev Φ it env ws)) (ev Φ it2) (evT Φ c) (ev Φ elt) tg tg2 := by
    funext env ws
    unfold comp2F
    simp only [ev]
    try rfl
  rw [this]; exact fun _ _ _ q => q
theorem ev_eq {X : Cx} {e : Expr} {T : Nat → Str} {f g : EvF} (h : PE X e (tE T X.K f)) (q : g = f) : PE X e (tE T X.K g) := by rw [q]; exact h
theorem evF_eq {X : Cx} {e : Expr} {T : Nat → Str} {f g : EvF} (h : PE X e (tF T X.K f)) (q : g = f) : PE X e (tF T X.K g) := by rw [q]; exact h
theorem evT_eq {X : Cx} {e : Expr} {T : Nat → Str} {f g : EvTF} (h : PT X e (tT T X.K f)) (q : g = f) : PT X e (tT T X.K g) := by rw [q]; exact h
/-- what an Ex gives that is walked: looked at, or a range -/
def itF (Φ : Fns) (it : Ex) : EvF := fun env ws => bor (vi it) env ws (ev Φ it env ws)
theorem itB {X : Cx} {sc : Scope} {it : Ex} {tg e : Expr} {R : Prop} (h : XOk cf P n X sc) (hE : okE cf it sc e = true → PE X e (tE cf.T X.K (ev (callO P n) it)) ∧ R) (hI : okIt cf it sc e = true → PI X tg e (tI cf.T X.K false (itF (callO P n) it))) (ok : (okIt cf it sc e || okE cf it sc e) = true) :
    PI X tg e (tI cf.T X.K false (itF (callO P n) it)) := by
  rw [Bool.or_eq_true] at ok
  rcases ok with ok | ok
  · exact hI ok
  · exact pi_v (fz := false) (borrow h ok (hE ok).1)
theorem itF_rng {Φ : Fns} {a : Ex} : itF Φ (.rng a) = rngF (ev Φ a) := by
  funext env ws
  unfold itF rngF
  show ev Φ (.rng a) env ws = _
  simp only [ev]
  try rfl
theorem itF_rng2 {Φ : Fns} {a b : Ex} : itF Φ (.rng2 a b) = rng2F (ev Φ a) (ev Φ b) := by
  funext env ws
  unfold itF rng2F
  show ev Φ (.rng2 a b) env ws = _
  simp only [ev]
  try rfl
mutual
theorem readE : ∀ (a : Ex) (X : Cx) (sc : Scope) (e : Expr), XOk cf P n X sc → okE cf a sc e = true → PE X e (tE cf.T X.K (ev (callO P n) a)) ∧ (fresh a = true → PE X e (tF cf.T X.K (ev (callO P n) a)))
  | .bad, X, sc, e, h, ok => ⟨⟨fun _ _ _ _ _ _ q => by obtain ⟨_, _, _, _, _, _, _, _, hf, _⟩ := q; simp [ev] at hf⟩, fun z => by cases z⟩
  | .non, X, sc, e, h, ok => by
    simp only [okE] at ok
    obtain ⟨j, p, rfl⟩ := isCN_ok ok
    exact ⟨ev_eq (pe_k pe_non fun _ _ => .non) (by funext env ws; simp only [ev]), fun z => by cases z⟩
  | .tt b, X, sc, e, h, ok => by
    simp only [okE] at ok
    split at ok
    · rw [decide_eq_true_eq] at ok
      subst ok
      exact ⟨ev_eq (pe_k pe_bl fun _ _ => .bl b) (by funext env ws; simp only [ev]), fun z => by cases z⟩
    · cases ok
  | .num i, X, sc, e, h, ok => by
    simp only [okE] at ok
    split at ok
    · rw [decide_eq_true_eq] at ok
      subst ok
      exact ⟨ev_eq (pe_k pe_int fun _ _ => .int i) (by funext env ws; simp only [ev]), fun z => by cases z⟩
    · cases ok
  | .txt k, X, sc, e, h, ok => by
    simp only [okE] at ok
    split at ok
    · rw [decide_eq_true_eq] at ok
      subst ok
      exact ⟨ev_eq (pe_k pe_str fun _ _ => .str k) (by funext env ws; simp only [ev]), fun z => by cases z⟩
    · cases ok
  | .var i, X, sc, e, h, ok => by
    simp only [okE] at ok
    split at ok
    · rw [Bool.and_eq_true, Bool.and_eq_true, decide_eq_true_eq] at ok
      exact ⟨ev_eq (pe_va (h.nm ok.1.1 ok.1.2 ok.2)) (by funext env ws; simp only [ev]; try rfl), fun z => by cases z⟩
    · cases ok
  | .con k d, X, sc, e, h, ok => by
    simp only [okE] at ok
    split at ok
    · rename_i x p
      rw [Bool.and_eq_true, Bool.and_eq_true] at ok
      have o1 := ok.1.1
      split at o1
      · rename_i y d' hy
        rw [Bool.and_eq_true, decide_eq_true_eq] at o1
        have := sameD_eq o1.2
        subst this
        have := o1.1
        subst this
        obtain ⟨v, u, h1, h2, h3⟩ := h.con k _ _ hy
        exact ⟨ev_eq (pe_k (pe_glob (h.gl ok.1.2) h1 h2 (plainN_ok ok.2).1) h3) (by funext env ws; simp only [ev]), fun z => by cases z⟩
      · cases o1
    · cases ok
  | .bin o a b, X, sc, e, h, ok => by
    simp only [okE] at ok
    split at ok
    · rw [Bool.and_eq_true, Bool.and_eq_true, decide_eq_true_eq] at ok
      have o1 := ok.1.1
      subst o1
      have ha := borrow h ok.1.2 (readE a X sc _ h ok.1.2).1
      have hb := borrow h ok.2 (readE b X sc _ h ok.2).1
      exact ⟨ev_eq (pe_two (fun ta tb h1 h2 => pe_op (bop_opr o) h1 h2) (bop_ok o) ha hb) (by funext env ws; unfold two; simp only [ev]; try rfl), fun z => by cases z⟩
    · cases ok
  | .neg a, X, sc, e, h, ok => by
    simp only [okE] at ok
    split at ok
    · have ha := (readE a X sc _ h ok).1
      refine ⟨ev_eq (pe_un1 (fun ta h1 => pe_un un_neg h1) neg_okU (tE_tB ha)) ?_, fun z => by cases z⟩
      funext env ws
      unfold un1
      simp only [ev]
      cases ev (callO P n) a env ws with
      | none => rfl
      | some r =>
        obtain ⟨x, ws1⟩ := r
        cases x <;> rfl
    · cases ok
  | .cmp o a b, X, sc, e, h, ok => by
    simp only [okE] at ok
    split at ok
    · rw [Bool.and_eq_true, Bool.and_eq_true, decide_eq_true_eq] at ok
      have ha := borrow h ok.1.2 (readE a X sc _ h ok.1.2).1
      exact ⟨(cmpV h ok.1.1 ha ok.2 fun q => (readE b X sc _ h q).1).1, fun z => by cases z⟩
    · cases ok
  | .chain o p a b c, X, sc, e, h, ok => by
    simp only [okE] at ok
    split at ok
    · rw [Bool.and_eq_true, Bool.and_eq_true, Bool.and_eq_true, Bool.and_eq_true, Bool.and_eq_true, decide_eq_true_eq, decide_eq_true_eq] at ok
      have o1 := ok.1.1.1.1.1
      have o2 := ok.1.1.1.1.2
      subst o1
      subst o2
      exact ⟨ev_eq (chV h (borrow h ok.1.1.1.2 (readE a X sc _ h ok.1.1.1.2).1) (borrow h ok.1.1.2 (readE b X sc _ h ok.1.1.2).1) (borrow h ok.1.2 (readE c X sc _ h ok.1.2).1) ok.2).1 (by funext env ws; unfold chF; simp only [ev]; try rfl), fun z => by cases z⟩
    · cases ok
  | .andv a r, X, sc, e, h, ok => by
    simp only [okE] at ok
    split at ok
    · rw [Bool.and_eq_true] at ok
      exact ⟨ev_eq (pe_av (readE a X sc _ h ok.1).1 (readE r X sc _ h ok.2).1) (by funext env ws; unfold andV; simp only [ev]; try rfl), fun z => by cases z⟩
    · cases ok
  | .orv a r, X, sc, e, h, ok => by
    simp only [okE] at ok
    split at ok
    · rw [Bool.and_eq_true] at ok
      exact ⟨ev_eq (pe_ov (readE a X sc _ h ok.1).1 (readE r X sc _ h ok.2).1) (by funext env ws; unfold orV; simp only [ev]; try rfl), fun z => by cases z⟩
    · cases ok
  | .one a, X, sc, e, h, ok => by
    simp only [okE] at ok
    split at ok
    · exact ⟨ev_eq (PE.mono (pe_one (readE a X sc _ h ok).1) fun _ _ _ q => q) (by funext env ws; simp only [ev]), fun z => by cases z⟩
    · cases ok
  | .notv a, X, sc, e, h, ok => by
    simp only [okE] at ok
    split at ok
    · exact ⟨ev_eq (pe_nv (readE a X sc _ h ok).1) (by funext env ws; unfold notV; simp only [ev]; try rfl), fun z => by cases z⟩
    · cases ok
  | .ite c a b, X, sc, e, h, ok => by
    simp only [okE] at ok
    split at ok
    · rw [Bool.and_eq_true, Bool.and_eq_true] at ok
      exact ⟨ev_eq (pe_ie (readT c X sc _ h ok.1.1).1 (readE a X sc _ h ok.1.2).1 (readE b X sc _ h ok.2).1) (by funext env ws; unfold iteV; simp only [ev]; try rfl), fun z => by cases z⟩
    · cases ok
  | .tup es, X, sc, e, h, ok => by
    simp only [okE] at ok
    split at ok
    · rw [Bool.and_eq_true] at ok
      exact ⟨ev_eq (pe_dt (readEs es X sc _ h ok.1) ok.2 (okEs_len (Φ := callO P n) ok.1).2) (by funext env ws; unfold dispT; simp only [ev]; try rfl), fun z => by cases z⟩
    · cases ok
  | .lst es, X, sc, e, h, ok => by
    simp only [okE] at ok
    split at ok
    · rw [Bool.and_eq_true] at ok
      have := fun pos => evF_eq (pe_dl (pos := pos) (readEs es X sc _ h ok.1) ok.2 (okEs_len (Φ := callO P n) ok.1).2) (g := ev (callO P n) (.lst es)) (by funext env ws; unfold dispL; simp only [ev]; try rfl)
      exact ⟨tF_tE (this _), fun _ => this _⟩
    · cases ok
  | .dic .nil .nil, X, sc, e, h, ok => by
    simp only [okE] at ok
    split at ok
    · have := fun pos => evF_eq (X := X) (T := cf.T) (pe_d0 (pos := pos)) (g := ev (callO P n) (.dic .nil .nil)) (by funext env ws; simp only [ev])
      exact ⟨tF_tE (this _), fun _ => this _⟩
    · cases ok
  | .dic (.cons k .nil) (.cons v .nil), X, sc, e, h, ok => by
    simp only [okE] at ok
    split at ok
    · rw [Bool.and_eq_true] at ok
      have := fun pos => evF_eq (pe_d1 (pos := pos) (readE k X sc _ h ok.1).1 (readE v X sc _ h ok.2).1) (g := ev (callO P n) (.dic (.cons k .nil) (.cons v .nil))) (by funext env ws; unfold dispD; simp only [ev]; try rfl)
      exact ⟨tF_tE (this _), fun _ => this _⟩
    · cases ok
  | .dic .nil (.cons _ _), X, sc, e, h, ok => by simp [okE] at ok
  | .dic (.cons _ _) .nil, X, sc, e, h, ok => by simp [okE] at ok
  | .dic (.cons _ (.cons _ _)) (.cons _ _), X, sc, e, h, ok => by simp [okE] at ok
  | .dic (.cons _ .nil) (.cons _ (.cons _ _)), X, sc, e, h, ok => by simp [okE] at ok
  | .ix a b, X, sc, e, h, ok => by
    simp only [okE] at ok
    split at ok
    · rw [Bool.and_eq_true, Bool.and_eq_true] at ok
      have ha := borrow h ok.1.1 (readE a X sc _ h ok.1.1).1
      have hb := tE_tB (readE b X sc _ h ok.1.2).1
      have e1 := fun pos => pe_two (T := cf.T) (fun ta tb h1 h2 => pe_ix (pos := pos) ix_okr h1 h2 (slice_plain ok.2)) ix_ok ha hb
      have e2 := fun pos => pe_two (T := cf.T) (r := rDG) (fun ta tb h1 h2 => pe_dget (pos := pos) (hu_of h.room) h1 h2 (slice_plain ok.2)) (ixG_ok h.T) ha hb
      refine ⟨⟨fun pins s σ H Q I q => ?_⟩, fun z => by cases z⟩
      obtain ⟨O, wa, env, ω, ws, d, ws', st, hf, k⟩ := q
      simp only [ev] at hf
      split at hf
      · cases hf
      rename_i x ws1 e3
      split at hf
      · cases hf
      rename_i y ws2 e4
      split at hf
      · cases hf
      rename_i z e5
      cases hf
      have alt : ixS x y = some d ∨ ixG ws' x y = some d := by
        cases x <;> cases y <;> first | (left; exact e5) | (right; exact e5) | (cases e5)
      rcases alt with alt | alt
      · refine (e1 _).run pins s σ H Q I ⟨O, wa, env, ω, ws, d, ws', st, ?_, k⟩
        unfold two
        dsimp only
        rw [e3]
        dsimp only
        rw [e4]
        dsimp only
        rw [alt]
      · refine (e2 _).run pins s σ H Q I ⟨O, wa, env, ω, ws, d, ws', st, ?_, k⟩
        unfold two
        dsimp only
        rw [e3]
        dsimp only
        rw [e4]
        dsimp only
        rw [alt]
    · cases ok
  | .sl a lo hi, X, sc, e, h, ok => by
    simp only [okE] at ok
    split at ok
    · rename_i a' l h' p2 p
      rw [Bool.and_eq_true, Bool.and_eq_true] at ok
      have ha := borrow h ok.1.1 (readE a X sc _ h ok.1.1).1
      have pl : PO X l (tP cf.T X.K (isN lo) (ev (callO P n) lo)) := by
        have o2 := ok.1.2
        cases l with
        | none =>
          have el : lo = .non := by
            cases lo <;> first | rfl | (simp [isN] at o2)
          subst el
          have : ev (callO P n) .non = fun _ ws => some (.non, ws) := by funext env ws; simp only [ev]
          rw [this]
          exact po_n
        | some l' =>
          rw [Bool.and_eq_true, Bool.not_eq_true'] at o2
          rw [o2.1]
          exact po_s (readE lo X sc _ h o2.2).1
      have ph : PO X h' (tP cf.T X.K (isN hi) (ev (callO P n) hi)) := by
        have o2 := ok.2
        cases h' with
        | none =>
          have el : hi = .non := by
            cases hi <;> first | rfl | (simp [isN] at o2)
          subst el
          have : ev (callO P n) .non = fun _ ws => some (.non, ws) := by funext env ws; simp only [ev]
          rw [this]
          exact po_n
        | some l' =>
          rw [Bool.and_eq_true, Bool.not_eq_true'] at o2
          rw [o2.1]
          exact po_s (readE hi X sc _ h o2.2).1
      exact ⟨ev_eq (pe_slc ha pl ph) (by funext env ws; unfold sl3; simp only [ev]; try rfl), fun z => by cases z⟩
    · cases ok
  | .call f args, X, sc, e, h, ok => by
    simp only [okE] at ok
    split at ok
    · rename_i x p a as p2
      rw [Bool.and_eq_true, Bool.and_eq_true, Bool.and_eq_true] at ok
      obtain ⟨fA, fd, ps, F, hm, hk, hb⟩ := h.fns f x (by simpa using ok.1.1.1)
      have hl := (okEs_len (Φ := callO P n) ok.2).1
      rw [List.all_cons, Bool.and_eq_true] at hl
      exact ⟨ev_eq (pe_cl F h.room (h.gl ok.1.1.2) hm hk hb (readEs args X sc _ h ok.2) (plainN_ok ok.1.2).1 hl.1 hl.2) (by funext env ws; unfold callF; simp only [ev]; try rfl), fun z => by cases z⟩
    · cases ok
  | .b1 f a, X, sc, e, h, ok => by
    simp only [okE] at ok
    split at ok
    · by_cases hf : f = .sortedSet
      · subst hf
        rw [if_pos rfl] at ok
        split at ok
        · rw [Bool.and_eq_true, Bool.and_eq_true, Bool.and_eq_true, Bool.and_eq_true, Bool.and_eq_true, decide_eq_true_eq, decide_eq_true_eq] at ok
          have e1 := ok.1.1.1.1.1
          have e2 := ok.1.1.1.1.2
          subst e1
          subst e2
          have ha := borrow h ok.1.2 (readE a X sc _ h ok.1.2).1
          have q : ev (callO P n) (.b1 .sortedSet a) = un1 (fun env ws => bor (vi a) env ws (ev (callO P n) a env ws)) (bf1 .sortedSet) := by funext env ws; unfold un1; simp only [ev]; try rfl
          have := fun p p1 p2 pos => evF_eq (pe_ss (p := p) (p1 := p1) (p2 := p2) (pos := pos) h.calm rfl rfl (h.gl ok.1.1.1.2) (h.gl ok.1.1.2) (h.blt "sorted" (by decide +kernel)) (h.blt "set" (by decide +kernel)) ok.2 ha) q
          exact ⟨tF_tE (this _ _ _ _), fun _ => this _ _ _ _⟩
        · cases ok
      · rw [if_neg hf, Bool.and_eq_true, Bool.and_eq_true, Bool.and_eq_true, decide_eq_true_eq] at ok
        have ha := borrow h ok.1.2 (readE a X sc _ h ok.1.2).1
        have := fun pos p => b1_pe (pos := pos) (p := p) h hf ok.1.1.1 ok.1.1.2 ok.2 ha
        have q : ev (callO P n) (.b1 f a) = un1 (fun env ws => bor (vi a) env ws (ev (callO P n) a env ws)) (bf1 f) := by funext env ws; unfold un1; simp only [ev]; try rfl
        exact ⟨ev_eq (this _ _).1 q, fun z => evF_eq ((this _ _).2 z) q⟩
    · cases ok
  | .b2 f a b, X, sc, e, h, ok => by
    simp only [okE] at ok
    split at ok
    · rw [Bool.and_eq_true, Bool.and_eq_true, Bool.and_eq_true, Bool.and_eq_true, Bool.and_eq_true, decide_eq_true_eq] at ok
      have o1 := ok.1.1.1.1.1
      subst o1
      have ha := tE_tB (readE a X sc _ h ok.1.1.1.2).1
      have hb := tE_tB (readE b X sc _ h ok.1.1.2).1
      have q : ev (callO P n) (.b2 f a b) = two (ev (callO P n) a) (ev (callO P n) b) (fun _ x y => bf2 f x y) := by funext env ws; unfold two; simp only [ev]; try rfl
      cases f with
      | max => exact ⟨ev_eq (pe_two (ht_b2 (call_max2 h.calm) (h.gl ok.1.1.1.1.2) (h.blt "max" (by decide +kernel)) boot_max (by decide +kernel) (by decide +kernel) ok.1.2 ok.2) max_ok ha hb) q, fun z => by cases z⟩
      | min => exact ⟨ev_eq (pe_two (ht_b2 (call_min2 h.calm) (h.gl ok.1.1.1.1.2) (h.blt "min" (by decide +kernel)) boot_min (by decide +kernel) (by decide +kernel) ok.1.2 ok.2) min_ok ha hb) q, fun z => by cases z⟩
    · cases ok
  | .isi t a, X, sc, e, h, ok => by
    simp only [okE] at ok
    split at ok
    · rw [Bool.and_eq_true, Bool.and_eq_true, Bool.and_eq_true, Bool.and_eq_true, Bool.and_eq_true, decide_eq_true_eq, decide_eq_true_eq] at ok
      have ha := borrow h ok.1.2 (readE a X sc _ h ok.1.2).1
      refine ⟨ev_eq (isi_pe h ok.1.1.1.1.1 ok.1.1.1.1.2 ok.1.1.1.2 ok.1.1.2 ok.2 ha) ?_, fun z => by cases z⟩
      funext env ws
      unfold un1
      simp only [ev]
      cases bor (vi a) env ws (ev (callO P n) a env ws) with
      | none => rfl
      | some r =>
        obtain ⟨x, ws1⟩ := r
        dsimp only
        cases isiD t x <;> rfl
    · cases ok
  | .get2 d k x, X, sc, e, h, ok => by
    simp only [okE] at ok
    split at ok
    · rw [Bool.and_eq_true, Bool.and_eq_true, Bool.and_eq_true, Bool.and_eq_true, Bool.and_eq_true, Bool.and_eq_true, Bool.and_eq_true, decide_eq_true_eq] at ok
      have o1 := ok.1.1.1.1.1.1.1
      subst o1
      have hd := borrow h ok.1.1.1.1.1.1.2 (readE d X sc _ h ok.1.1.1.1.1.1.2).1
      exact ⟨ev_eq (pe_get h.T (hu_of h.room) hd (readE k X sc _ h ok.1.1.1.1.1.2).1 (readE x X sc _ h ok.1.1.1.1.2).1 ok.1.1.1.2 ok.1.1.2 ok.1.2 ok.2) (by funext env ws; unfold getF; simp only [ev]; try rfl), fun z => by cases z⟩
    · cases ok
  | .rng a, X, sc, e, h, ok => by simp [okE] at ok
  | .rng2 a b, X, sc, e, h, ok => by simp [okE] at ok
  | .comp tg it elt, X, sc, e, h, ok => by
    simp only [okE] at ok
    split at ok
    · rw [Bool.and_eq_true, Bool.and_eq_true, Bool.and_eq_true, Bool.and_eq_true] at ok
      have hi := fun tg => itB (tg := tg) h (readE it X sc _ h) (readI it X sc tg _ false h) ok.1.1.1.1
      have := fun pos => compV (pos := pos) h ok.1.1.1.2 (hi _) ok.1.1.2 ok.1.2 fun X' h' => (readE elt X' _ _ h' ok.2).1
      exact ⟨tF_tE (this _), fun _ => this _⟩
    · cases ok
  | .compIf tg it c elt, X, sc, e, h, ok => by
    simp only [okE] at ok
    split at ok
    · rw [Bool.and_eq_true, Bool.and_eq_true, Bool.and_eq_true, Bool.and_eq_true, Bool.and_eq_true] at ok
      have hi := fun tg => itB (tg := tg) h (readE it X sc _ h) (readI it X sc tg _ false h) ok.1.1.1.1.1
      have := fun pos => compIfV (pos := pos) h ok.1.1.1.1.2 (hi _) ok.1.1.1.2 ok.1.1.2 (fun X' h' => (readE elt X' _ _ h' ok.1.2).1) fun X' h' => (readT c X' _ _ h' ok.2).1
      exact ⟨tF_tE (this _), fun _ => this _⟩
    · cases ok
  | .comp2 tg it tg2 it2 elt, X, sc, e, h, ok => by
    simp only [okE] at ok
    split at ok
    · rw [Bool.and_eq_true, Bool.and_eq_true, Bool.and_eq_true, Bool.and_eq_true, Bool.and_eq_true, Bool.and_eq_true, Bool.and_eq_true] at ok
      rename_i elt' tg' it' tg2' it2' scope p
      obtain ⟨⟨⟨⟨⟨⟨⟨o1, o2⟩, o3⟩, o4⟩, o5⟩, o6⟩, o7⟩, o8⟩ := ok
      have hi := fun tg => itB (tg := tg) h (readE it X sc _ h) (readI it X sc tg _ false h) o1
      have := fun pos => comp2V (pos := pos) (it2 := it2) (Φ := callO P n) h o2 o4 (hi _) (fun X' h' => by
        rw [Bool.or_eq_true] at o3
        rcases o3 with o3 | o3
        · have := readI it2 X' _ tg2' _ true h' o3
          unfold itF at this
          rw [itV o3] at this
          exact this
        · exact pi_v (fz := true) (readE it2 X' _ _ h' o3).1) o5 o6 o7 (fun X' h' => (readE elt X' _ _ h' o8).1) (fun X' h' => pts_n0)
      exact ⟨tF_tE (this _), fun _ => this _⟩
    · cases ok
  | .comp2If tg it tg2 it2 c elt, X, sc, e, h, ok => by
    simp only [okE] at ok
    split at ok
    · rw [Bool.and_eq_true, Bool.and_eq_true, Bool.and_eq_true, Bool.and_eq_true, Bool.and_eq_true, Bool.and_eq_true, Bool.and_eq_true, Bool.and_eq_true] at ok
      rename_i elt' tg' it' tg2' it2' c' scope p
      obtain ⟨⟨⟨⟨⟨⟨⟨⟨o1, o2⟩, o3⟩, o4⟩, o5⟩, o6⟩, o7⟩, o8⟩, o9⟩ := ok
      have hi := fun tg => itB (tg := tg) h (readE it X sc _ h) (readI it X sc tg _ false h) o1
      have := fun pos => comp2IfV (pos := pos) (it2 := it2) (Φ := callO P n) h o2 o4 (hi _) (fun X' h' => by
        rw [Bool.or_eq_true] at o3
        rcases o3 with o3 | o3
        · have := readI it2 X' _ tg2' _ true h' o3
          unfold itF at this
          rw [itV o3] at this
          exact this
        · exact pi_v (fz := true) (readE it2 X' _ _ h' o3).1) o5 o6 o7 (fun X' h' => (readE elt X' _ _ h' o8).1) (fun X' h' => pts_one (readT c X' _ _ h' o9).1)
      exact ⟨tF_tE (this _), fun _ => this _⟩
    · cases ok
  | .tupR a, X, sc, e, h, ok => by
    simp only [okE] at ok
    split at ok
    · rw [Bool.and_eq_true, Bool.and_eq_true, Bool.and_eq_true, Bool.and_eq_true, Bool.and_eq_true, decide_eq_true_eq, decide_eq_true_eq] at ok
      obtain ⟨⟨⟨⟨⟨o1, o2⟩, o3⟩, o4⟩, o5⟩, o6⟩ := ok
      subst o1
      subst o2
      refine ⟨ev_eq (pe_tr h.calm (h.gl o3) (h.blt "tuple" (by decide +kernel)) (h.gl o4) (h.blt "range" (by decide +kernel)) (readE a X sc _ h o5).1 o6) ?_, fun z => by cases z⟩
      funext env ws
      unfold tupRF
      simp only [ev]
      try rfl
    · cases ok
theorem readI : ∀ (it : Ex) (X : Cx) (sc : Scope) (tg e : Expr) (fz : Bool), XOk cf P n X sc → okIt cf it sc e = true → PI X tg e (tI cf.T X.K fz (itF (callO P n) it))
  | .rng a, X, sc, tg, e, fz, h, ok => by
    simp only [okIt] at ok
    split at ok
    · rw [Bool.and_eq_true, Bool.and_eq_true, Bool.and_eq_true, decide_eq_true_eq] at ok
      have o1 := ok.1.1.1
      subst o1
      rw [itF_rng]
      exact pi_r1 (h.gl ok.1.1.2) (h.blt "range" (by decide +kernel)) (readE a X sc _ h ok.1.2).1 ok.2
    · cases ok
  | .rng2 a b, X, sc, tg, e, fz, h, ok => by
    simp only [okIt] at ok
    split at ok
    · rw [Bool.and_eq_true, Bool.and_eq_true, Bool.and_eq_true, Bool.and_eq_true, Bool.and_eq_true, decide_eq_true_eq] at ok
      have o1 := ok.1.1.1.1.1
      subst o1
      rw [itF_rng2]
      exact pi_r2 (h.gl ok.1.1.1.1.2) (h.blt "range" (by decide +kernel)) (readE a X sc _ h ok.1.1.1.2).1 (readE b X sc _ h ok.1.1.2).1 ok.1.2 ok.2
    · cases ok
  | .bad, _, _, _, _, _, _, ok | .non, _, _, _, _, _, _, ok | .tt _, _, _, _, _, _, _, ok | .num _, _, _, _, _, _, _, ok | .txt _, _, _, _, _, _, _, ok | .var _, _, _, _, _, _, _, ok | .con _ _, _, _, _, _, _, _, ok
  | .bin _ _ _, _, _, _, _, _, _, ok | .neg _, _, _, _, _, _, _, ok | .cmp _ _ _, _, _, _, _, _, _, ok | .chain _ _ _ _ _, _, _, _, _, _, _, ok | .andv _ _, _, _, _, _, _, _, ok | .orv _ _, _, _, _, _, _, _, ok | .one _, _, _, _, _, _, _, ok | .notv _, _, _, _, _, _, _, ok
  | .ite _ _ _, _, _, _, _, _, _, ok | .tup _, _, _, _, _, _, _, ok | .lst _, _, _, _, _, _, _, ok | .dic _ _, _, _, _, _, _, _, ok | .ix _ _, _, _, _, _, _, _, ok | .sl _ _ _, _, _, _, _, _, _, ok | .call _ _, _, _, _, _, _, _, ok
  | .b1 _ _, _, _, _, _, _, _, ok | .b2 _ _ _, _, _, _, _, _, _, ok | .isi _ _, _, _, _, _, _, _, ok | .get2 _ _ _, _, _, _, _, _, _, ok | .comp _ _ _, _, _, _, _, _, _, ok | .compIf _ _ _ _, _, _, _, _, _, _, ok | .comp2 _ _ _ _ _, _, _, _, _, _, _, ok | .comp2If _ _ _ _ _ _, _, _, _, _, _, _, ok | .tupR _, _, _, _, _, _, _, ok => by simp [okIt] at ok
theorem readEs : ∀ (a : Exs) (X : Cx) (sc : Scope) (e : List Expr), XOk cf P n X sc → okEs cf a sc e = true → PA X e (tA cf.T X.K (evs (callO P n) a))
  | .nil, X, sc, e, h, ok => by
    simp only [okEs] at ok
    split at ok
    · exact PA.mono pa_n (by
        have : evs (callO P n) .nil = fun _ ws => some ([], ws) := by funext env ws; simp only [evs]
        rw [this]; exact fun _ _ _ q => q)
    · cases ok
  | .cons a r, X, sc, e, h, ok => by
    simp only [okEs] at ok
    split at ok
    · rw [Bool.and_eq_true, Bool.and_eq_true] at ok
      exact PA.mono (pa_c (readE a X sc _ h ok.1.1).1 (readEs r X sc _ h ok.2) ok.1.2) (by
        have : evs (callO P n) (.cons a r) = consA (ev (callO P n) a) (evs (callO P n) r) := by funext env ws; unfold consA; simp only [evs]; try rfl
        rw [this]; exact fun _ _ _ q => q)
    · cases ok
theorem readT : ∀ (a : Tx) (X : Cx) (sc : Scope) (e : Expr), XOk cf P n X sc → okT cf a sc e = true → PT X e (tT cf.T X.K (evT (callO P n) a)) ∧ (isB2 a = true → PW X e (tT cf.T X.K (evT (callO P n) a)))
  | .val a, X, sc, e, h, ok => by
    simp only [okT, Bool.and_eq_true] at ok
    exact ⟨evT_eq (pt_v (readE a X sc _ h ok.1).1 ok.2) (by funext env ws; unfold valT; simp only [evT]; try rfl), fun z => by cases z⟩
  | .cmp o a b, X, sc, e, h, ok => by
    simp only [okT] at ok
    split at ok
    · rw [Bool.and_eq_true, Bool.and_eq_true, decide_eq_true_eq] at ok
      have ha := borrow h ok.1.2 (readE a X sc _ h ok.1.2).1
      exact ⟨(cmpV h ok.1.1 ha ok.2 fun q => (readE b X sc _ h q).1).2, fun z => by cases z⟩
    · cases ok
  | .chain o p a b c, X, sc, e, h, ok => by
    simp only [okT] at ok
    split at ok
    · rw [Bool.and_eq_true, Bool.and_eq_true, Bool.and_eq_true, Bool.and_eq_true, Bool.and_eq_true, decide_eq_true_eq, decide_eq_true_eq] at ok
      have o1 := ok.1.1.1.1.1
      have o2 := ok.1.1.1.1.2
      subst o1
      subst o2
      exact ⟨evT_eq (chV h (borrow h ok.1.1.1.2 (readE a X sc _ h ok.1.1.1.2).1) (borrow h ok.1.1.2 (readE b X sc _ h ok.1.1.2).1) (borrow h ok.1.2 (readE c X sc _ h ok.1.2).1) ok.2).2 (by funext env ws; unfold chT; simp only [evT]; try rfl), fun z => by cases z⟩
    · cases ok
  | .not a, X, sc, e, h, ok => by
    simp only [okT] at ok
    split at ok
    · exact ⟨evT_eq (pt_n (readT a X sc _ h ok).1) (by funext env ws; unfold notT; simp only [evT]; try rfl), fun z => by cases z⟩
    · cases ok
  | .and2 a r, X, sc, e, h, ok => by
    simp only [okT] at ok
    split at ok
    · rw [Bool.and_eq_true, Bool.and_eq_true] at ok
      have q : evT (callO P n) (.and2 a r) = andT (evT (callO P n) a) (evT (callO P n) r) := by funext env ws; unfold andT; simp only [evT]; try rfl
      have := pw_a (readT a X sc _ h ok.1.1).1 ((readT r X sc _ h ok.1.2).2 ok.2)
      rw [← q] at this
      exact ⟨this.pt, fun _ => this⟩
    · cases ok
  | .or2 a r, X, sc, e, h, ok => by
    simp only [okT] at ok
    split at ok
    · rw [Bool.and_eq_true, Bool.and_eq_true] at ok
      have q : evT (callO P n) (.or2 a r) = orT (evT (callO P n) a) (evT (callO P n) r) := by funext env ws; unfold orT; simp only [evT]; try rfl
      have := pw_o (readT a X sc _ h ok.1.1).1 ((readT r X sc _ h ok.1.2).2 ok.2)
      rw [← q] at this
      exact ⟨this.pt, fun _ => this⟩
    · cases ok
  | .one a, X, sc, e, h, ok => by
    simp only [okT] at ok
    split at ok
    · rename_i op x p
      have q : evT (callO P n) (.one a) = evT (callO P n) a := by funext env ws; simp only [evT]
      have ha := (readT a X sc _ h ok).1
      rw [← q] at ha
      cases op with
      | And => exact ⟨(pw_a1 ha).pt, fun _ => pw_a1 ha⟩
      | Or => exact ⟨(pw_o1 ha).pt, fun _ => pw_o1 ha⟩
    · cases ok
  | .ite _ _ _, X, sc, e, h, ok => by simp [okT] at ok
end
end
end Pv

set_option Elab.async false
set_option linter.all false
set_option maxRecDepth 100000
set_option maxHeartbeats 8000000
/-! Pv18: when an St is what a text's statement says. -/
namespace Pv
open PySem PySem.Spec PyProof.Rows L2

def noComp : Expr → Bool
  | .ListComp .. => false
  | .SetComp .. => false
  | .DictComp .. => false
  | _ => true
def noTup : Expr → Bool
  | .Tuple .. => false
  | _ => true
def isNm : Expr → Bool
  | .Name .. => true
  | _ => false
def isTp : Expr → Bool
  | .Tuple .. => true
  | _ => false
def isCmp : Ex → Bool
  | .comp .. => true
  | .compIf .. => true
  | _ => false
theorem sw_no {e : Expr} (h : noComp e = true) (t : Option Expr) (l : Nat) (env : PySem.Env) : swapsWith e t l env = pure false := by
  cases e <;> first | rfl | (simp [noComp] at h)
theorem sw_tp {tg e : Expr} (h : isTp tg = true) (l : Nat) (env : PySem.Env) : swapsWith e (some tg) l env = pure false := by
  cases tg <;> first | (simp [isTp] at h; done) | skip
  cases e <;> rfl
theorem ss_nm {tg e : Expr} (h : (isNm tg || noTup e) = true) (env : PySem.Env) : swappedStores [tg] e env = pure none := by
  cases tg <;> first | rfl | skip
  all_goals (cases e <;> first | rfl | (simp [isNm, noTup] at h))
/-- the comprehension's names do not hide the target's -/
def swT (sc : Scope) (x : Str) (px : Pos) : Expr → Bool
  | .ListComp _ _ scope p => isLo sc x && (px.line == p.line) && !(scope.names.any fun (n, k) => n == x && (k == .local || k == .cell))
  | _ => false
/-- .. or the name is a cell: no swap -/
def swC (sc : Scope) (x : Str) : Expr → Bool
  | .ListComp _ _ _ _ => decide (sc.names.lookup x = some .cell)
  | _ => false
theorem sw_cell {env : PySem.Env} {x : Str} {px : Pos} {v : Expr} (h : swC env.scope x v = true) (l : Nat) : swapsWith v (some (.Name x px)) l env = pure false := by
  unfold swC at h
  split at h
  · rw [decide_eq_true_eq] at h
    unfold swapsWith
    simp only [PySem.Env.kindOf, h]
    show pure (env.blockKind == .function && (some NameKind.cell == some NameKind.local) && _ && _) = pure false
    rw [show ((some NameKind.cell : Option NameKind) == some NameKind.local) = false from rfl, Bool.and_false, Bool.false_and, Bool.false_and]
  · cases h
/-- several stores in turn: how the machine orders them -/
def nmsOf (sc : Scope) (line : Nat) (ts : List Expr) : List Str := ts.filterMap fun
  | .Name id pos => if sc.names.lookup id == some .local && pos.line == line then some id else none
  | _ => none
def hdLine (ts : List Expr) : Nat := (ts.head?.map (·.pos.line)).getD 0
def anyStar (vs : List Expr) : Bool := vs.any fun | .Starred .. => true | _ => false
def swNo (sc : Scope) (ts vs : List Expr) : Bool :=
  (!(ts.length == 2 || ts.length == 3) || vs.length != ts.length) || (!anyStar vs && (((nmsOf sc (hdLine ts) ts).length != ts.length || (nmsOf sc (hdLine ts) ts).eraseDups.length != (nmsOf sc (hdLine ts) ts).length) || vs.all (foldedForSure 8)))
theorem sws_eq {env : PySem.Env} {ts vs : List Expr} {k k2 : Nat} {p p2 : Pos} (hk : env.scope.kind = .function) : swappedStores [.Tuple ts k p] (.Tuple vs k2 p2) env =
    (if !(ts.length == 2 || ts.length == 3) || vs.length != ts.length then pure none else if anyStar vs then pure none else
      if (nmsOf env.scope (hdLine ts) ts).length != ts.length || (nmsOf env.scope (hdLine ts) ts).eraseDups.length != (nmsOf env.scope (hdLine ts) ts).length then pure none else
      if vs.all (foldedForSure 8) then pure none else if vs.all (constantsAlone 8) then unsupported "assign.tuple-of-constant-expressions:order-of-the-stores" else pure (some (nmsOf env.scope (hdLine ts) ts))) := by
  have hb : env.blockKind = .function := by unfold PySem.Env.blockKind; rw [hk]; rfl
  have hb2 : (env.blockKind != .function) = false := by rw [hb]; rfl
  unfold swappedStores
  simp only [hb2, Bool.or_false]
  rfl
theorem sws_no {env : PySem.Env} {ts vs : List Expr} {k k2 : Nat} {p p2 : Pos} (hk : env.scope.kind = .function) (h : swNo env.scope ts vs = true) : swappedStores [.Tuple ts k p] (.Tuple vs k2 p2) env = pure none := by
  rw [sws_eq hk]
  unfold swNo at h
  generalize (!(ts.length == 2 || ts.length == 3) || vs.length != ts.length) = c1 at h ⊢
  generalize ((nmsOf env.scope (hdLine ts) ts).length != ts.length || (nmsOf env.scope (hdLine ts) ts).eraseDups.length != (nmsOf env.scope (hdLine ts) ts).length) = c3 at h ⊢
  generalize vs.all (foldedForSure 8) = c4 at h ⊢
  generalize anyStar vs = c2 at h ⊢
  cases c1 <;> cases c2 <;> cases c3 <;> cases c4 <;> first | rfl | (cases h)
def swYes (sc : Scope) (ts vs : List Expr) (xs : List Str) : Bool :=
  !(!(ts.length == 2 || ts.length == 3) || vs.length != ts.length) && !anyStar vs && !((nmsOf sc (hdLine ts) ts).length != ts.length || (nmsOf sc (hdLine ts) ts).eraseDups.length != (nmsOf sc (hdLine ts) ts).length) && !vs.all (foldedForSure 8) && !vs.all (constantsAlone 8) &&
    decide (nmsOf sc (hdLine ts) ts = xs)
theorem sws_yes {env : PySem.Env} {ts vs : List Expr} {k k2 : Nat} {p p2 : Pos} {xs : List Str} (hk : env.scope.kind = .function) (h : swYes env.scope ts vs xs = true) : swappedStores [.Tuple ts k p] (.Tuple vs k2 p2) env = pure (some xs) := by
  rw [sws_eq hk]
  unfold swYes at h
  simp only [Bool.and_eq_true, Bool.not_eq_true', decide_eq_true_eq] at h
  obtain ⟨⟨⟨⟨⟨h1, h2⟩, h3⟩, h4⟩, h5⟩, h6⟩ := h
  rw [h1, h2, h3, h4, h5, h6]
  rfl
/-- the parts of a tuple that are made anew -/
def frOk : List (Nat × Bool) → Exs → Bool
  | [], .nil => true
  | (_, o) :: r, .cons e es => (!o || fresh e) && frOk r es
  | _, _ => false
def parC (sc : Scope) (is : List (Nat × Bool)) (ts vs : List Expr) : Bool := match is, ts, vs with
  | [a, b], [.Name x _, .Name y _], [_, _] => isLo sc x && isLo sc y && decide (a.1 ≠ b.1) && swYes sc ts vs [x, y]
  | [a, b, c], [.Name x _, .Name y _, .Name z _], [_, _, _] => isLo sc x && isLo sc y && isLo sc z && decide (a.1 ≠ b.1) && decide (a.1 ≠ c.1) && decide (b.1 ≠ c.1) && swYes sc ts vs [x, y, z]
  | _, _, _ => false
mutual
def okS (cf : Cf) : St → Scope → Stmt → Bool
  | .bad, _, _ => true
  | .pass, _, s => match s with
    | .Pass _ => true
    | _ => false
  | .set tg e, sc, s => match s with
    | .Assign [t] v _ => okTg cf.N (isLoc sc) tg t && okE cf e sc v && noComp v && (isNm t || noTup v)
    | _ => false
  | .own i e, sc, s => match s with
    | .Assign [.Name x px] v _ => decide (cf.N[i]? = some x) && isLoc sc x && okE cf e sc v && fresh e && (noComp v || swC sc x v || (isCmp e && swT sc x px v))
    | _ => false
  | .par is es, sc, s => match s with
    | .Assign [.Tuple ts _ _] (.Tuple vs _ _) _ => okNms cf.N (isLoc sc) (is.map (·.1)) ts && okEs cf es sc vs && frOk is es && okLen is.length &&
      (swNo sc ts vs || parC sc is ts vs)
    | _ => false
  | .aug i o e, sc, s => match s with
    | .AugAssign (.Name x _) op v _ => decide (cf.N[i]? = some x) && isLoc sc x && decide (bopO o = op) && okE cf e sc v
    | _ => false
  | .dput i k e, sc, s => match s with
    | .Assign [.Subscript (.Name x _) a _] v _ => decide (cf.N[i]? = some x) && isVis sc x && plainN x && okE cf k sc a && okE cf e sc v
    | _ => false
  | .waug i k o e, sc, s => match s with
    | .AugAssign (.Subscript (.Name x _) (.Constant (.str t) _ _) _) op v _ => decide (cf.N[i]? = some x) && isVis sc x && plainN x && decide (cf.T k = t) && decide (bopO o = op) && okE cf e sc v
    | _ => false
  | .mkw i k l a b, sc, s => match s with
    | .Assign [.Name x _] (.Dict [some (.Constant (.str t) _ _), some (.Constant (.str u) _ _)] [a', b'] _) _ => decide (cf.N[i]? = some x) && isLoc sc x && decide (cf.T k = t) && decide (cf.T l = u) && okE cf a sc a' && okE cf b sc b'
    | _ => false
  | .app i e, sc, s => match s with
    | .Expr (.Call (.Attribute (.Name x _) m ap) [v] [] cp) _ => decide (m = "append") && decide (cf.N[i]? = some x) && isVis sc x && plainN x && okE cf e sc v && noStar v && (ap.endLine == cp.line)
    | _ => false
  | .ext i e, sc, s => match s with
    | .Expr (.Call (.Attribute (.Name x _) m ap) [v] [] cp) _ => decide (m = "extend") && decide (cf.N[i]? = some x) && isVis sc x && plainN x && okE cf e sc v && noStar v && (ap.endLine == cp.line)
    | _ => false
  | .pop tg i, sc, s => match s with
    | .Assign [t] (.Call (.Attribute (.Name x _) m ap) [] [] cp) _ => okTg cf.N (isLoc sc) tg t && decide (m = "pop") && decide (cf.N[i]? = some x) && isVis sc x && plainN x && (ap.endLine == cp.line)
    | _ => false
  | .drop e, sc, s => match s with
    | .Expr v _ => okE cf e sc v && noComp v
    | _ => false
  | .ite c a b, sc, s => match s with
    | .If c' a' b' _ => okT cf c sc c' && okSs cf a sc a' && okSs cf b sc b'
    | _ => false
  | .whl c b, sc, s => match s with
    | .While c' b' [] _ => okT cf c sc c' && okSs cf b sc b'
    | _ => false
  | .for_ tg it b, sc, s => match s with
    | .For t it' b' [] _ => okTg cf.N (isLoc sc) tg t && (okIt cf it sc it' || okE cf it sc it') && noSet it' && okSs cf b sc b'
    | _ => false
  | .ret e, sc, s => match s with
    | .Return (some v) _ => okE cf e sc v
    | _ => false
  | .retN, _, s => match s with
    | .Return none _ => true
    | _ => false
  | .brk, _, s => match s with
    | .Break _ => true
    | _ => false
  | .cont, _, s => match s with
    | .Continue _ => true
    | _ => false
  | .frz _, _, _ => false
def okSs (cf : Cf) : Sts → Scope → List Stmt → Bool
  | .nil, _, ss => match ss with
    | [] => true
    | _ => false
  | .cons s r, sc, ss => match s with
    | .frz _ => okSs cf r sc ss
    | _ => match ss with
      | s' :: r' => okS cf s sc s' && okSs cf r sc r'
      | [] => false
end
end Pv

set_option Elab.async false
set_option linter.all false
set_option maxRecDepth 100000
set_option maxHeartbeats 8000000
/-! Pv19: every statement that matches is walked. -/
namespace Pv
open PySem PySem.Spec PyProof.Rows L2
structure BOk (cf : Cf) (P : Nat → Option Def) (n : Nat) (X : Cx) (sc : Scope) : Prop where
  ok : XOk cf P n X sc
  fn : ∀ x, X.fn x = true
  kind : sc.kind = .function
  own : PassesOwn (model X.prog X.w) X.A X.env X.xe
theorem ps_cm {T : Nat → Str} {X : Cx} {elt tge iter : Expr} {ifs : List Expr} {scope : Scope} {own : List (Str × Nat)} {i : Nat} {y : Str} {py pos spos : Pos} {fi fe : EvF} {ft : EvTF} {tg : Tg} (hc : X.calm = true) (hN : X.N.Nodup) (hy : X.N[i]? = some y) (hyl : X.env.scope.names.lookup y = some .local)
    (hsw : swapsWith (.ListComp elt [⟨tge, iter, ifs, 0⟩] scope pos) (some (.Name y py)) spos.line X.env = pure true) (hi : PI X tge iter (tI T X.K false fi)) (ok : BlkOk X.N X.env.scope scope own) (hown : own.map (·.2) = tgs tg)
    (hg : ∀ (s : Shared) (H : Hp) (C : Addr) (cl : List (Str × Addr)) (fp : List Addr), PG (X.blk s H scope (compEnvC scope cl C X.env) fp) tge (gT X.K tg))
    (ht : ∀ (s : Shared) (H : Hp) (C : Addr) (cl : List (Str × Addr)) (fp : List Addr), PTs (X.blk s H scope (compEnvC scope cl C X.env) fp) ifs (tT T X.K ft))
    (he : ∀ (s : Shared) (H : Hp) (C : Addr) (cl : List (Str × Addr)) (fp : List Addr), PE (X.blk s H scope (compEnvC scope cl C X.env) fp) elt (tE T X.K fe)) (hs : ∀ x, foldedSetIterable iter X.env x = pure x) :
    PS X (.Assign [.Name y py] (.ListComp elt [⟨tge, iter, ifs, 0⟩] scope pos) spos) (tAsg (tF T X.K (compF fi ft fe tg)) (gName i)) := by
  have := ps_setLc hc hN hy hyl hsw hi ok hg ht he hs
  rw [hown] at this
  exact PS.mono this fun D σ H q => lc_read σ H _ q
section
variable {cf : Cf} {P : Nat → Option Def} {n : Nat} {X : Cx} {sc : Scope}
theorem BOk.loc (h : BOk cf P n X sc) {x : Str} (q : isLoc sc x = true) : Loc X.env.scope x ∧ (X.fn x = true ∨ X.env.scope.names.lookup x = some .local) := by
  rw [h.ok.env]; exact ⟨isLoc_ok q, .inl (h.fn x)⟩
theorem BOk.lo (h : BOk cf P n X sc) {x : Str} (q : isLo sc x = true) : X.env.scope.names.lookup x = some .local := by
  rw [h.ok.env]; exact isLo_ok q
theorem BOk.at (h : BOk cf P n X sc) {i : Nat} {x : Str} (q : cf.N[i]? = some x) : X.N[i]? = some x := by rw [h.ok.N]; exact q
theorem BOk.kd (h : BOk cf P n X sc) : X.env.scope.kind = .function := by rw [h.ok.env]; exact h.kind
theorem BOk.tg (h : BOk cf P n X sc) {tg : Tg} {t : Expr} (q : okTg cf.N (isLoc sc) tg t = true) : PG X t (gT X.K tg) := okTg_ok h.ok.N h.ok.nd h.ok.calm (fun x hx => h.loc hx) q
theorem es_one {N : List Str} {p : Str → Bool} {tg : Tg} {t : Expr} {env : PySem.Env} (h : okTg N p tg t = true) : (assignEach [t] env).map (·.2) = [assign t env] := by
  unfold okTg at h
  split at h
  · unfold okNm at h
    split at h
    · rfl
    · cases h
  · rfl
  · rfl
  · cases h
def lOf (Φ : Fns) : List (Nat × Bool) → Exs → List (Bool × EvF)
  | (_, o) :: r, .cons e es => (o, ev Φ e) :: lOf Φ r es
  | _, _ => []
theorem lOf_ok (h : BOk cf P n X sc) : ∀ {is : List (Nat × Bool)} {es : Exs} {vs : List Expr}, frOk is es = true → okEs cf es sc vs = true →
    (lOf (callO P n) is es).map (·.1) = is.map (·.2) ∧ PA X vs (tL cf.T X.K (lOf (callO P n) is es)) ∧ evL (lOf (callO P n) is es) = evs (callO P n) es ∧ vs.length = is.length
  | [], .nil, vs, _, ok => by
    simp only [okEs] at ok
    split at ok
    · exact ⟨rfl, pa_l0, by funext env ws; simp only [lOf, evL, evs], rfl⟩
    · cases ok
  | (i, o) :: r, .cons e es, vs, f, ok => by
    simp only [okEs] at ok
    split at ok
    · rename_i e' r'
      rw [Bool.and_eq_true, Bool.and_eq_true] at ok
      simp only [frOk, Bool.and_eq_true] at f
      obtain ⟨g1, g2, g3, g4⟩ := lOf_ok h f.2 ok.2
      obtain ⟨k1, k2⟩ := readE e X sc _ h.ok ok.1.1
      refine ⟨by simp only [lOf, List.map_cons, g1], ?_, ?_, by rw [List.length_cons, List.length_cons, g4]⟩
      · cases o with
        | false => exact pa_lE k1 g2 ok.1.2
        | true => exact pa_lF (k2 (by simpa using f.1)) g2 ok.1.2
      · funext env ws
        simp only [lOf, evL, evs, g3]
        try rfl
    · cases ok
  | [], .cons _ _, _, f, _ => by simp [frOk] at f
  | _ :: _, .nil, _, f, _ => by simp [frOk] at f
theorem sf_eq {st : Stmt} {T : Nat → Str} {f g : SF} (h : PS X st (tS T X.K f)) (q : g = f) : PS X st (tS T X.K g) := by rw [q]; exact h
theorem sfs_eq {st : List Stmt} {T : Nat → Str} {f g : SF} (h : PSs X st (tS T X.K f)) (q : g = f) : PSs X st (tS T X.K g) := by rw [q]; exact h
/-- name = .., the name's own from then on -/
theorem ownS (h : BOk cf P n X sc) {i : Nat} {e : Ex} {x : Str} {px pos : Pos} {v : Expr} (hi : cf.N[i]? = some x) (hl : isLoc sc x = true) (ok : okE cf e sc v = true) (fr : fresh e = true) (hs : (noComp v = true ∨ swC sc x v = true) ∨ (isCmp e = true ∧ swT sc x px v = true)) :
    PS X (.Assign [.Name x px] v pos) (tAsg (tF cf.T X.K (ev (callO P n) e)) (gName i)) := by
  rcases hs with (hs | hs) | ⟨hc, hs⟩
  · exact ps_set h.ok.nd (h.at hi) (h.loc hl).1 ((readE e X sc _ h.ok ok).2 fr) (sw_no hs _ _ _) (h.loc hl).2
  · exact ps_set h.ok.nd (h.at hi) (h.loc hl).1 ((readE e X sc _ h.ok ok).2 fr) (sw_cell (by rw [h.ok.env]; exact hs) _) (h.loc hl).2
  · unfold swT at hs
    split at hs
    · rename_i elt' gs scope p
      rw [Bool.and_eq_true, Bool.and_eq_true, Bool.not_eq_true'] at hs
      have hsw : ∀ l, swapsWith (.ListComp elt' gs scope p) (some (.Name x px)) l X.env = pure true := fun l => sw_true h.kd (h.lo hs.1.1) hs.1.2 hs.2
      cases e <;> first | (simp [isCmp] at hc; done) | skip
      · rename_i tg it elt
        simp only [okE] at ok
        split at ok
        · rename_i e0
          cases e0
          rw [Bool.and_eq_true, Bool.and_eq_true, Bool.and_eq_true, Bool.and_eq_true] at ok
          have hi2 := fun tg => itB (tg := tg) h.ok (readE it X sc _ h.ok) (readI it X sc tg _ false h.ok) ok.1.1.1.1
          have := ps_cm (T := cf.T) (pos := p) (spos := pos) (fe := ev (callO P n) elt) (ft := fun _ ws => some (true, ws)) h.ok.calm h.ok.nd (h.at hi) (h.lo hs.1.1) (hsw _) (hi2 _) (relOk (tg := tg) h.ok ok.1.1.2) (own_tgs cf.N tg) (blkTg h.ok ok.1.2) (fun _ _ _ _ _ => pts_n)
            (fun s H C cl fp => (readE elt _ _ _ (h.ok.blk s H _ C cl fp) ok.2).1) (fold_plain ok.1.1.1.2 _)
          refine PS.mono this ?_
          have q : ev (callO P n) (.comp tg it elt) = compF (itF (callO P n) it) (fun _ ws => some (true, ws)) (ev (callO P n) elt) tg := by
            funext env ws
            unfold compF itF
            simp only [ev]
            try rfl
          rw [q]; exact fun _ _ _ q => q
        · cases ok
      · rename_i tg it c elt
        simp only [okE] at ok
        split at ok
        · rename_i e0
          cases e0
          rw [Bool.and_eq_true, Bool.and_eq_true, Bool.and_eq_true, Bool.and_eq_true, Bool.and_eq_true] at ok
          have hi2 := fun tg => itB (tg := tg) h.ok (readE it X sc _ h.ok) (readI it X sc tg _ false h.ok) ok.1.1.1.1.1
          have := ps_cm (T := cf.T) (pos := p) (spos := pos) (fe := ev (callO P n) elt) (ft := evT (callO P n) c) h.ok.calm h.ok.nd (h.at hi) (h.lo hs.1.1) (hsw _) (hi2 _) (relOk (tg := tg) h.ok ok.1.1.1.2) (own_tgs cf.N tg) (blkTg h.ok ok.1.1.2) (fun s H C cl fp => pts_one (readT c _ _ _ (h.ok.blk s H _ C cl fp) ok.2).1)
            (fun s H C cl fp => (readE elt _ _ _ (h.ok.blk s H _ C cl fp) ok.1.2).1) (fold_plain ok.1.1.1.1.2 _)
          refine PS.mono this ?_
          have q : ev (callO P n) (.compIf tg it c elt) = compF (itF (callO P n) it) (evT (callO P n) c) (ev (callO P n) elt) tg := by
            funext env ws
            unfold compF itF
            simp only [ev]
            try rfl
          rw [q]; exact fun _ _ _ q => q
        · cases ok
    · cases hs
theorem sole {tg e : Expr} {l : Nat} {env : PySem.Env} (h : swapsWith e (some tg) l env = pure false) : swapsWithSole [tg] e l env = pure false := h
theorem sole_tp {ts : List Expr} {k : Nat} {p : Pos} {e : Expr} {l : Nat} {env : PySem.Env} : swapsWithSole [.Tuple ts k p] e l env = pure false := sole (sw_tp (tg := .Tuple ts k p) rfl l env)
theorem parC_ok {is : List (Nat × Bool)} {ts vs : List Expr} (h : parC sc is ts vs = true) :
    (∃ a b x px y py v1 v2, is = [a, b] ∧ ts = [.Name x px, .Name y py] ∧ vs = [v1, v2] ∧ isLo sc x = true ∧ isLo sc y = true ∧ a.1 ≠ b.1 ∧ swYes sc ts vs [x, y] = true) ∨
    (∃ a b c x px y py z pz v1 v2 v3, is = [a, b, c] ∧ ts = [.Name x px, .Name y py, .Name z pz] ∧ vs = [v1, v2, v3] ∧ isLo sc x = true ∧ isLo sc y = true ∧ isLo sc z = true ∧ a.1 ≠ b.1 ∧ a.1 ≠ c.1 ∧ b.1 ≠ c.1 ∧ swYes sc ts vs [x, y, z] = true) := by
  unfold parC at h
  split at h
  · rw [Bool.and_eq_true, Bool.and_eq_true, Bool.and_eq_true, decide_eq_true_eq] at h
    exact .inl ⟨_, _, _, _, _, _, _, _, rfl, rfl, rfl, h.1.1.1, h.1.1.2, h.1.2, h.2⟩
  · rw [Bool.and_eq_true, Bool.and_eq_true, Bool.and_eq_true, Bool.and_eq_true, Bool.and_eq_true, Bool.and_eq_true, decide_eq_true_eq, decide_eq_true_eq, decide_eq_true_eq] at h
    exact .inr ⟨_, _, _, _, _, _, _, _, _, _, _, _, rfl, rfl, rfl, h.1.1.1.1.1.1, h.1.1.1.1.1.2, h.1.1.1.1.2, h.1.1.1.2, h.1.1.2, h.1.2, h.2⟩
  · cases h
theorem parS (h : BOk cf P n X sc) {is : List (Nat × Bool)} {es : Exs} {ts vs : List Expr} {k k2 : Nat} {p p2 pos : Pos} (o1 : okNms cf.N (isLoc sc) (is.map (·.1)) ts = true) (o2 : okEs cf es sc vs = true) (o3 : frOk is es = true) (o4 : okLen is.length = true)
    (o5 : (swNo sc ts vs || parC sc is ts vs) = true) : PS X (.Assign [.Tuple ts k p] (.Tuple vs k2 p2) pos) (tS cf.T X.K (parF is (evs (callO P n) es))) := by
  obtain ⟨g1, g2, g3, g4⟩ := lOf_ok h o3 o2
  have hsc : sc = X.env.scope := h.ok.env.symm
  rw [← g3]
  rw [Bool.or_eq_true] at o5
  rcases o5 with o5 | o5
  · exact ps_pn g1 o4 (ps_asg (pe_tup g2) (h.tg (tg := .tp (is.map fun x => x.1)) (t := .Tuple ts k p) (by unfold okTg; exact o1)) sole_tp (sws_no h.kd (by rw [← hsc]; exact o5)) rfl)
  · rcases parC_ok o5 with ⟨a, b, x, px, y, py, v1, v2, rfl, rfl, rfl, l1, l2, ne, sw⟩ | ⟨a, b, c, x, px, y, py, z, pz, v1, v2, v3, rfl, rfl, rfl, l1, l2, l3, n1, n2, n3, sw⟩
    · simp only [okNms, okNm, List.map_cons, Bool.and_eq_true, decide_eq_true_eq] at o1
      cases es with
      | nil => simp [frOk] at o3
      | cons e1 es => cases es with
        | nil => simp [frOk] at o3
        | cons e2 es => cases es with
          | cons e3 es => simp [frOk] at o3
          | nil =>
            have := ps_par (pos := pos) (kt := k) (pt := p) (k2 := k2) (pt2 := p2) h.ok.calm h.ok.nd (h.at o1.1.1) (h.at o1.2.1.1) ne (h.lo l1) (h.lo l2) g2 (sws_yes h.kd (by rw [← hsc]; exact sw)) sole_tp
            exact ps_p2 this
    · simp only [okNms, okNm, List.map_cons, Bool.and_eq_true, decide_eq_true_eq] at o1
      cases es with
      | nil => simp [frOk] at o3
      | cons e1 es => cases es with
        | nil => simp [frOk] at o3
        | cons e2 es => cases es with
          | nil => simp [frOk] at o3
          | cons e3 es => cases es with
            | cons e3 es => simp [frOk] at o3
            | nil =>
              have := ps_par3 (pos := pos) (kt := k) (pt := p) (k2 := k2) (pt2 := p2) h.ok.calm h.ok.nd (h.at o1.1.1) (h.at o1.2.1.1) (h.at o1.2.2.1.1) n1 n2 n3 (h.lo l1) (h.lo l2) (h.lo l3) g2 (sws_yes h.kd (by rw [← hsc]; exact sw)) sole_tp
              exact ps_p3 this
end
end Pv

set_option Elab.async false
set_option linter.all false
set_option maxRecDepth 100000
set_option maxHeartbeats 8000000
/-! Pv20: every block that matches is walked. -/
namespace Pv
open PySem PySem.Spec PyProof.Rows L2
section
variable {cf : Cf} {P : Nat → Option Def} {n : Nat}
theorem BOk.va {X : Cx} {sc : Scope} (h : BOk cf P n X sc) {i : Nat} {x : Str} {pos : Pos} (hi : cf.N[i]? = some x) (hv : isVis sc x = true) (hp : plainN x = true) : PE X (.Name x pos) (tVar i) := h.ok.nm hi hv hp
theorem itT {X : Cx} {sc : Scope} {it : Ex} {tg e : Expr} {R : Prop} (h : XOk cf P n X sc) (hE : okE cf it sc e = true → PE X e (tE cf.T X.K (ev (callO P n) it)) ∧ R) (hI : okIt cf it sc e = true → PI X tg e (tI cf.T X.K true (itF (callO P n) it))) (ok : (okIt cf it sc e || okE cf it sc e) = true) :
    PI X tg e (tI cf.T X.K true (ev (callO P n) it)) := by
  by_cases oi : okIt cf it sc e = true
  · have := hI oi
    have q : itF (callO P n) it = ev (callO P n) it := by
      cases it <;> first | rfl | (simp [okIt] at oi)
    rw [q] at this
    exact this
  · rw [Bool.or_eq_true] at ok
    rcases ok with ok | ok
    · exact absurd ok oi
    · exact pi_v (fz := true) (hE ok).1
mutual
theorem readS : ∀ (a : St) (X : Cx) (sc : Scope) (s : Stmt), BOk cf P n X sc → okS cf a sc s = true → PS X s (tS cf.T X.K (exec (callO P n) a))
  | .bad, X, sc, s, h, ok => sf_eq ps_bad (by funext env ws; simp only [exec])
  | .pass, X, sc, s, h, ok => by
    simp only [okS] at ok
    split at ok
    · exact sf_eq ps_pa (by funext env ws; simp only [exec])
    · cases ok
  | .set tg e, X, sc, s, h, ok => by
    simp only [okS] at ok
    split at ok
    · rw [Bool.and_eq_true, Bool.and_eq_true, Bool.and_eq_true] at ok
      exact sf_eq (ps_st (ps_asg (readE e X sc _ h.ok ok.1.1.2).1 (h.tg ok.1.1.1) (sole (sw_no ok.1.2 _ _ _)) (ss_nm ok.2 _) (es_one ok.1.1.1))) (by funext env ws; unfold setF; simp only [exec]; try rfl)
    · cases ok
  | .own i e, X, sc, s, h, ok => by
    simp only [okS] at ok
    split at ok
    · rw [Bool.and_eq_true, Bool.and_eq_true, Bool.and_eq_true, Bool.and_eq_true, decide_eq_true_eq, Bool.or_eq_true, Bool.or_eq_true, Bool.and_eq_true] at ok
      exact sf_eq (ps_ow (ownS h ok.1.1.1.1 ok.1.1.1.2 ok.1.1.2 ok.1.2 ok.2)) (by funext env ws; unfold ownF; simp only [exec]; try rfl)
    · cases ok
  | .par is es, X, sc, s, h, ok => by
    simp only [okS] at ok
    split at ok
    · rw [Bool.and_eq_true, Bool.and_eq_true, Bool.and_eq_true, Bool.and_eq_true] at ok
      exact sf_eq (parS h ok.1.1.1.1 ok.1.1.1.2 ok.1.1.2 ok.1.2 ok.2) (by funext env ws; unfold parF; simp only [exec]; try rfl)
    · cases ok
  | .aug i o e, X, sc, s, h, ok => by
    simp only [okS] at ok
    split at ok
    · rw [Bool.and_eq_true, Bool.and_eq_true, Bool.and_eq_true, decide_eq_true_eq, decide_eq_true_eq] at ok
      have o1 := ok.1.2
      subst o1
      exact sf_eq (ps_au h.ok.nd (h.at ok.1.1.1) (h.loc ok.1.1.2).1 (readE e X sc _ h.ok ok.2).1 (h.loc ok.1.1.2).2) (by funext env ws; unfold augF; simp only [exec]; try rfl)
    · cases ok
  | .dput i k e, X, sc, s, h, ok => by
    simp only [okS] at ok
    split at ok
    · rw [Bool.and_eq_true, Bool.and_eq_true, Bool.and_eq_true, Bool.and_eq_true, decide_eq_true_eq] at ok
      exact sf_eq (ps_dp h.ok.T (hu_of h.ok.room) (h.va ok.1.1.1.1 ok.1.1.1.2 ok.1.1.2) (readE k X sc _ h.ok ok.1.2).1 (readE e X sc _ h.ok ok.2).1) (by funext env ws; unfold dputF; simp only [exec]; try rfl)
    · cases ok
  | .waug i k o e, X, sc, s, h, ok => by
    simp only [okS] at ok
    split at ok
    · rw [Bool.and_eq_true, Bool.and_eq_true, Bool.and_eq_true, Bool.and_eq_true, Bool.and_eq_true, decide_eq_true_eq, decide_eq_true_eq, decide_eq_true_eq] at ok
      have o1 := ok.1.2
      subst o1
      have o2 := ok.1.1.2
      subst o2
      exact sf_eq (ps_wa h.ok.T (hu_of h.ok.room) (h.va ok.1.1.1.1.1 ok.1.1.1.1.2 ok.1.1.1.2) pe_str (readE e X sc _ h.ok ok.2).1 (fun _ _ _ => rfl)) (by funext env ws; unfold waugF; simp only [exec]; try rfl)
    · cases ok
  | .mkw i k l a b, X, sc, s, h, ok => by
    simp only [okS] at ok
    split at ok
    · rw [Bool.and_eq_true, Bool.and_eq_true, Bool.and_eq_true, Bool.and_eq_true, Bool.and_eq_true, decide_eq_true_eq, decide_eq_true_eq, decide_eq_true_eq] at ok
      have o1 := ok.1.1.1.2
      subst o1
      have o2 := ok.1.1.2
      subst o2
      refine sf_eq (ps_mw h.ok.T (ps_set h.ok.nd (h.at ok.1.1.1.1.1) (h.loc ok.1.1.1.1.2).1 (pe_disp (pps_cons pe_str (readE a X sc _ h.ok ok.1.2).1 (pps_cons pe_str (readE b X sc _ h.ok ok.2).1 pps_nil)) rfl rfl (by simp) (by simp)) (sw_no rfl _ _ _) (h.loc ok.1.1.1.1.2).2)) ?_
      funext env ws
      unfold mkwF
      simp only [exec]
      try rfl
    · cases ok
  | .app i e, X, sc, s, h, ok => by
    simp only [okS] at ok
    split at ok
    · rw [Bool.and_eq_true, Bool.and_eq_true, Bool.and_eq_true, Bool.and_eq_true, Bool.and_eq_true, Bool.and_eq_true, decide_eq_true_eq, decide_eq_true_eq] at ok
      have o1 := ok.1.1.1.1.1.1
      subst o1
      exact sf_eq (ps_ap (h.va ok.1.1.1.1.1.2 ok.1.1.1.1.2 ok.1.1.1.2) (readE e X sc _ h.ok ok.1.1.2).1 rfl ok.1.2 ok.2 (sw_no rfl _ _ _)) (by funext env ws; unfold appF; simp only [exec]; try rfl)
    · cases ok
  | .ext i e, X, sc, s, h, ok => by
    simp only [okS] at ok
    split at ok
    · rw [Bool.and_eq_true, Bool.and_eq_true, Bool.and_eq_true, Bool.and_eq_true, Bool.and_eq_true, Bool.and_eq_true, decide_eq_true_eq, decide_eq_true_eq] at ok
      have o1 := ok.1.1.1.1.1.1
      subst o1
      exact sf_eq (ps_ex (h.va ok.1.1.1.1.1.2 ok.1.1.1.1.2 ok.1.1.1.2) (readE e X sc _ h.ok ok.1.1.2).1 rfl ok.1.2 ok.2 (sw_no rfl _ _ _)) (by funext env ws; unfold extF; simp only [exec]; try rfl)
    · cases ok
  | .pop tg i, X, sc, s, h, ok => by
    simp only [okS] at ok
    split at ok
    · rw [Bool.and_eq_true, Bool.and_eq_true, Bool.and_eq_true, Bool.and_eq_true, Bool.and_eq_true, decide_eq_true_eq, decide_eq_true_eq] at ok
      have o1 := ok.1.1.1.1.2
      subst o1
      exact sf_eq (ps_po (ps_asg (pe_bm0 PySem.F.plainAttrs_list PySem.F.slot_list_pop PySem.F.type_list_pop mt_pop (h.va ok.1.1.1.2 ok.1.1.2 ok.1.2) (attr_plain rfl _ _ _) ok.2) (h.tg ok.1.1.1.1.1) (sole (sw_no rfl _ _ _)) (ss_nm (by rw [Bool.or_eq_true]; exact .inr rfl) _) (es_one ok.1.1.1.1.1))) (by funext env ws; unfold popF; simp only [exec]; try rfl)
    · cases ok
  | .drop e, X, sc, s, h, ok => by
    simp only [okS] at ok
    split at ok
    · rw [Bool.and_eq_true] at ok
      exact sf_eq (ps_dr (readE e X sc _ h.ok ok.1).1 (sw_no ok.2 _ _ _)) (by funext env ws; unfold dropF; simp only [exec]; try rfl)
    · cases ok
  | .ite c a b, X, sc, s, h, ok => by
    simp only [okS] at ok
    split at ok
    · rw [Bool.and_eq_true, Bool.and_eq_true] at ok
      exact sf_eq (ps_it (readT c X sc _ h.ok ok.1.1).1 (readSs a X sc _ h ok.1.2) (readSs b X sc _ h ok.2)) (by funext env ws; unfold iteF; simp only [exec]; try rfl)
    · cases ok
  | .whl c b, X, sc, s, h, ok => by
    simp only [okS] at ok
    split at ok
    · rw [Bool.and_eq_true] at ok
      exact sf_eq (ps_wh (n := fuel) h.own (readT c X sc _ h.ok ok.1).1 (readSs b X sc _ h ok.2)) (by funext env ws; simp only [exec])
    · cases ok
  | .for_ tg it b, X, sc, s, h, ok => by
    simp only [okS] at ok
    split at ok
    · rw [Bool.and_eq_true, Bool.and_eq_true, Bool.and_eq_true] at ok
      have hi := fun t => itT (tg := t) h.ok (readE it X sc _ h.ok) (readI it X sc t _ true h.ok) ok.1.1.2
      exact sf_eq (ps_fo h.own h.ok.calm (hi _) (h.tg ok.1.1.1) (readSs b X sc _ h ok.2) (fold_plain ok.1.2 _)) (by funext env ws; unfold forF; simp only [exec]; try rfl)
    · cases ok
  | .ret e, X, sc, s, h, ok => by
    simp only [okS] at ok
    split at ok
    · exact sf_eq (ps_re (readE e X sc _ h.ok ok).1) (by funext env ws; unfold retF; simp only [exec]; try rfl)
    · cases ok
  | .retN, X, sc, s, h, ok => by
    simp only [okS] at ok
    split at ok
    · exact sf_eq ps_rn (by funext env ws; simp only [exec])
    · cases ok
  | .brk, X, sc, s, h, ok => by
    simp only [okS] at ok
    split at ok
    · exact sf_eq ps_br (by funext env ws; simp only [exec])
    · cases ok
  | .cont, X, sc, s, h, ok => by
    simp only [okS] at ok
    split at ok
    · exact sf_eq ps_co (by funext env ws; simp only [exec])
    · cases ok
  | .frz i, X, sc, s, h, ok => by simp [okS] at ok
theorem readSs : ∀ (a : Sts) (X : Cx) (sc : Scope) (s : List Stmt), BOk cf P n X sc → okSs cf a sc s = true → PSs X s (tS cf.T X.K (execs (callO P n) a))
  | .nil, X, sc, s, h, ok => by
    simp only [okSs] at ok
    split at ok
    · exact sfs_eq pss_n (by funext env ws; simp only [execs])
    · cases ok
  | .cons a r, X, sc, ss, h, ok0 => by
    have ok := ok0
    clear ok0
    have key : ∀ (hf : ∀ i, a ≠ .frz i), ((match (generalizing := false) ss with
      | s' :: r' => okS cf a sc s' && okSs cf r sc r'
      | [] => false) : Bool) = true → PSs X ss (tS cf.T X.K (execs (callO P n) (.cons a r))) := by
      intro hf ok
      cases ss with
      | nil => cases ok
      | cons s' r' =>
        rw [Bool.and_eq_true] at ok
        refine sfs_eq (pss_c (readS a X sc _ h ok.1) (readSs r X sc _ h ok.2)) ?_
        funext env ws
        unfold seqF
        simp only [execs]
        try rfl
    by_cases hf : ∃ i, a = .frz i
    · obtain ⟨i, rfl⟩ := hf
      simp only [okSs] at ok
      refine sfs_eq (pss_frz (i := i) (readSs r X sc ss h ok)) ?_
      funext env ws
      unfold seqF
      simp only [execs, exec]
    · refine key (fun i e => hf ⟨i, e⟩) ?_
      cases a <;> first | exact absurd ⟨_, rfl⟩ hf | (simp only [okSs] at ok; exact ok)
end
end
end Pv

set_option Elab.async false
set_option linter.all false
set_option maxRecDepth 100000
set_option maxHeartbeats 8000000
/-! Pv21: every def keeps its promise. -/
namespace Pv
open PySem PySem.Spec PyProof.Rows L2
theorem eg_get : ∀ (env : Env) (i : Nat), eg env i = (env[i]?).getD .un
  | [], i => by simp [eg]
  | _ :: _, 0 => by simp [eg]
  | _ :: r, i + 1 => by simp [eg, eg_get r i]
theorem eg_mk {ds : List D} {n i : Nat} : eg (mkEnv ds n) i = match ds[i]? with
    | some d => .va d
    | none => .un := by
  rw [eg_get]
  unfold mkEnv
  rw [List.getElem?_append]
  split
  · rename_i h
    rw [List.length_map] at h
    rw [List.getElem?_map, List.getElem?_eq_getElem h]
    rfl
  · rename_i h
    rw [List.length_map] at h
    have : ds[i]? = none := List.getElem?_eq_none (by omega)
    rw [this, List.getElem?_replicate]
    split <;> rfl
section
variable {T : Nat → Str} {K : PySem.W.Frag} {O : Addr → Prop} {wa : Option Addr} {ws ws' : WS} {H : Hp} {ds : List D} {vs : List V} {N : List Str}
theorem start_ok (hO : ∀ a, O a → H a ≠ none) (w : WsR T K (hid (O2S O wa) H) H wa ws) (r : Reps T K wa (hid (O2S O wa) H) ds vs) (hl : ds.length ≤ N.length) : StR T K O wa (mkEnv ds N.length) (fun _ => none) ws (L2.start N vs) H := by
  have lr := r.len
  refine ⟨?_, fun i => ?_, fun i a q => (by cases q), fun i j a q => (by cases q), hO, w⟩
  · unfold L2.start mkEnv
    simp only [List.length_append, List.length_map, List.length_replicate]
    omega
  · rw [eg_mk]
    cases c : ds[i]? with
    | none => trivial
    | some d =>
      obtain ⟨v, h1, h2⟩ := r.get c
      refine ⟨v, ?_, h2⟩
      unfold L2.start
      have : i < vs.length := (List.getElem?_eq_some_iff.mp h1).1
      rw [List.getElem?_append_left (by rw [List.length_map]; exact this), List.getElem?_map, h1]
      rfl
theorem ws_none (h : WsR T K (hid (O2S O wa) H) H none ws) : ws = none := by
  cases ws with
  | none => rfl
  | some _ => exact h.elim
theorem wa_none {hH H : Hp} (h : WsR T K hH H wa none) : wa = none := by
  cases wa with
  | none => rfl
  | some _ => exact h.elim
theorem body_ok {f : SF} {n : Nat} {d : D} {Q : VK} (hO : ∀ a, O a → H a ≠ none) (w : WsR T K (hid (O2S O wa) H) H wa ws) (r : Reps T K wa (hid (O2S O wa) H) ds vs) (hl : ds.length ≤ N.length)
    (e : chk ws (fin (f (mkEnv ds N.length) ws)) = some (d, ws')) (k : ∀ v H', Stp wa H H' → WsR T K (hid (O2S O wa) H') H' wa ws' → Rep T K wa (hid (O2S O wa) H') d v → Q v H') :
    tS T K f { nx := fun _ H' => Q .non H', rt := Q } (L2.start N vs) H := by
  have st := start_ok hO w r hl
  have hf : ∃ fl env', f (mkEnv ds N.length) ws = some (fl, env', ws') ∧ (fl = .rt d ∨ (fl = .nx ∧ d = .non)) ∧ (ws = none → ws' = none) := by
    cases c : f (mkEnv ds N.length) ws with
    | none => rw [c] at e; simp only [fin] at e; cases ws <;> cases e
    | some o =>
      obtain ⟨fl, env', ws2⟩ := o
      rw [c] at e
      cases fl with
      | nx =>
        simp only [fin] at e
        cases ws with
        | none => cases ws2 with
          | none => simp only [chk] at e; cases e; exact ⟨_, _, rfl, .inr ⟨rfl, rfl⟩, fun _ => rfl⟩
          | some _ => simp [chk] at e
        | some _ => simp only [chk] at e; cases e; exact ⟨_, _, rfl, .inr ⟨rfl, rfl⟩, fun z => by cases z⟩
      | rt d' =>
        simp only [fin] at e
        cases ws with
        | none => cases ws2 with
          | none => simp only [chk] at e; cases e; exact ⟨_, _, rfl, .inl rfl, fun _ => rfl⟩
          | some _ => simp [chk] at e
        | some _ => simp only [chk] at e; cases e; exact ⟨_, _, rfl, .inl rfl, fun z => by cases z⟩
      | br => simp only [fin] at e; cases ws <;> cases e
      | ct => simp only [fin] at e; cases ws <;> cases e
  obtain ⟨fl, env', hf, hfl, hws⟩ := hf
  refine ⟨O, wa, _, _, ws, fl, env', ws', st, hf, ?_⟩
  have go : ∀ {ω' : Nat → Option Addr} {H' : Hp} {wa' : Option Addr} {v : V}, Evo (fun _ => none) wa H ω' wa' H' → WsR T K (hid (O2S O wa') H') H' wa' ws' → Rep T K wa' (hid (O2S O wa') H') d v → Q v H' := by
    intro ω' H' wa' v ev w' rv
    have ew : wa' = wa := by
      rcases ev.was with z | z
      · subst z
        have := hws (ws_none w)
        subst this
        exact wa_none w'
      · exact z
    subst ew
    exact k v H' (fun a o nw q => ev.keep a o nw (fun _ z => by cases z) q) w' rv
  rcases hfl with rfl | ⟨rfl, rfl⟩
  · exact fun v H' wa' ev w' rv => go ev w' rv
  · exact fun σ' H' wa' ω' st' ev => go ev st'.frz.wsr .non
end
def scOk (N ps : List Str) (sc : Scope) : Bool :=
  decide (sc.kind = .function) && !sc.isCoroutine && !sc.isGenerator && decide N.Nodup && decide (N.take ps.length = ps) && ps.all (isLoc sc) && sc.names.all fun y => !decide (y.2 = .free)
theorem scOk_ok {N ps : List Str} {sc : Scope} (h : scOk N ps sc = true) : FnScope N ps sc := by
  unfold scOk at h
  simp only [Bool.and_eq_true, Bool.not_eq_true', decide_eq_true_eq, List.all_eq_true, decide_eq_false_iff_not] at h
  obtain ⟨⟨⟨⟨⟨⟨g1, g2⟩, g3⟩, g4⟩, g5⟩, g6⟩, g7⟩ := h
  exact ⟨g1, g2, g3, g4, g5, fun x hx => isLoc_ok (g6 x hx), g7⟩
/-! ### all defs -/
structure DOk (T : Nat → Str) (fn : Nat → List Str) (co : Nat → Option (Str × D)) (K : PySem.W.Frag) (x : Str) (d : Def) (N ps : List Str) (st : Stmt) (fA : Addr) (fd : FuncData) : Prop where
  F : Fun K x x st fA fd
  B : Binds K fd ps []
  S : FnScope N ps (defScope st)
  np : d.np = ps.length
  nn : ps.length ≤ N.length
  ns : d.ns = N.length
  ok : okSs ⟨N, T, fn, co⟩ d.body (defScope st) (defBody st) = true
section
variable {prog : Program} {w : World} {K : PySem.W.Frag} {mg : Str → Option Value} {base : Heap} {T : Nat → Str} {fn : Nat → List Str} {co : Nat → Option (Str × D)} {P : Nat → Option Def}
theorem cx_ok {n : Nat} {cdv : Value} {A : Around} {outer : List PySem.Env} {s : Shared} {H : Hp} {E : XK} {x : Str} {N ps : List Str} {st : Stmt} {fA : Addr} (S : FnScope N ps (defScope st)) (hT : TOk T) (hb : ∀ y ∈ bNames, mg y = none)
    (hc : ∀ k y d, co k = some (y, d) → ∃ v u, mg y = some u ∧ RelV v u ∧ ∀ wa H, Rep T K wa H d v) (hr : Room n (A.deeper (envOfC x (defScope st) s.heap.objs.size fA cdv)))
    (ih : ∀ f y, y ∈ fn f → ∃ fA fd ps, FnOk prog w K mg base CX0 n fA fd ps (spO T K P n f) ∧ mg y = some (.ref fA) ∧ PySem.W.keepIn K (.ref fA) = true ∧ Binds K fd ps []) :
    BOk ⟨N, T, fn, co⟩ P n (cxOf CX0 prog w K mg base N x (defScope st) fA cdv A outer s H E).nox (defScope st) :=
  ⟨⟨rfl, rfl, S.nd, rfl, hr, hT, ih, hb, hc⟩, fun _ => rfl, S.kind, PassesOwn.never⟩
theorem all_ok (hT : TOk T) (hb : ∀ y ∈ bNames, mg y = none) (hc : ∀ k y d, co k = some (y, d) → ∃ v u, mg y = some u ∧ RelV v u ∧ ∀ wa H, Rep T K wa H d v)
    (hP : ∀ f y, y ∈ fn f → ∃ x d N ps st fA fd, P f = some d ∧ mg y = some (.ref fA) ∧ DOk T fn co K x d N ps st fA fd) :
    ∀ n f y, y ∈ fn f → ∃ fA fd ps, FnOk prog w K mg base CX0 n fA fd ps (spO T K P n f) ∧ mg y = some (.ref fA) ∧ PySem.W.keepIn K (.ref fA) = true ∧ Binds K fd ps []
  | 0, f, y, hf => by
    obtain ⟨x, d, N, ps, st, fA, fd, e, hm, D⟩ := hP f y hf
    refine ⟨fA, fd, ps, ⟨fun vs H Q E q => ?_, fun A outer s H args us vs Q E _ _ _ _ q => ?_⟩, hm, D.F.kp, D.B⟩
    · obtain ⟨O, wa, ws, ds, d, ws', _, _, _, z, _⟩ := q
      simp [callO] at z
    · obtain ⟨O, wa, ws, ds, d, ws', _, _, _, z, _⟩ := q
      simp [callO] at z
  | n + 1, f, y, hf => by
    obtain ⟨x, d, N, ps, st, fA, fd, e, hm, D⟩ := hP f y hf
    refine ⟨fA, fd, ps, D.F.ok D.S (fun vs H Q E q => ?_) (fun cdv A outer s H vs Q E hr q => ?_), hm, D.F.kp, D.B⟩
    · obtain ⟨O, wa, ws, ds, d', ws', _, _, r, z, _⟩ := q
      simp only [callO, e] at z
      split at z
      · rename_i hl
        rw [← r.len, hl, D.np]
      · cases z
    · obtain ⟨O, wa, ws, ds, d', ws', hO, hw, r, z, k⟩ := q
      simp only [callO, e] at z
      split at z
      · rename_i hl
        refine ⟨_, readSs d.body _ _ _ (cx_ok D.S hT hb hc hr (all_ok hT hb hc hP n)) D.ok, ?_⟩
        refine body_ok (n := n) hO hw r ?_ ?_ k
        · rw [hl, D.np]; exact D.nn
        · rw [← D.ns]; exact z
      · cases z
/-- what the law is to do -/
def spL (K : PySem.W.Frag) (P : Nat → Option Def) (n : Nat) (d : Def) : Sp := fun vs H Q _ => ∃ a ns, vs = [.ref a] ∧ SqL K H a (ns.map V.int) ∧ lawO P n d ns = some (.bl true) ∧ ∀ H', Q (.bl true) H'
theorem law_ok (hT : TOk T) (hb : ∀ y ∈ bNames, mg y = none) (hc : ∀ k y d, co k = some (y, d) → ∃ v u, mg y = some u ∧ RelV v u ∧ ∀ wa H, Rep T K wa H d v)
    (hP : ∀ f y, y ∈ fn f → ∃ x d N ps st fA fd, P f = some d ∧ mg y = some (.ref fA) ∧ DOk T fn co K x d N ps st fA fd)
    {x p : Str} {d : Def} {N : List Str} {st : Stmt} {fA : Addr} {fd : FuncData} (D : DOk T fn co K x d N [p] st fA fd) (n : Nat) : FnOk prog w K mg base CX0 (n + 1) fA fd [p] (spL K P n d) := by
  refine D.F.ok D.S (fun vs H Q E q => ?_) (fun cdv A outer s H vs Q E hr q => ?_)
  · obtain ⟨a, ns, rfl, _⟩ := q
    rfl
  · obtain ⟨a, ns, rfl, hs, hl, k⟩ := q
    refine ⟨_, readSs d.body _ _ _ (cx_ok D.S hT hb hc hr (all_ok hT hb hc hP n)) D.ok, ?_⟩
    unfold lawO at hl
    split at hl
    · rename_i r ws' e
      cases hl
      have same : Same H (hid (O2S (fun _ => False) none) H) := fun b o q => hid_of q fun z => by
        rcases z with z | ⟨i, z⟩ | z
        · exact z
        · cases z
        · cases z
      have rs : Reps T K none (hid (O2S (fun _ => False) none) H) [.scr ns] [.ref a] := .cons (.scr (same.seq hs)) .nil
      have st0 := start_ok (T := T) (K := K) (O := fun _ => False) (wa := none) (ws := none) (N := N) (fun a z => z.elim) trivial rs (by rw [List.length_singleton]; exact D.nn)
      rw [D.ns] at e
      cases c : execs (callO P n) d.body (mkEnv [.scr ns] N.length) none with
      | none => rw [c] at e; simp [fin] at e
      | some o =>
        obtain ⟨fl, env', ws2⟩ := o
        rw [c] at e
        refine ⟨_, _, _, _, _, fl, env', ws2, st0, c, ?_⟩
        cases fl with
        | nx => simp [fin] at e
        | br => simp [fin] at e
        | ct => simp [fin] at e
        | rt d' =>
          simp only [fin, Option.some.injEq, Prod.mk.injEq] at e
          obtain ⟨e1, e2⟩ := e
          subst e1
          intro v H' wa' _ _ rv
          cases rv
          exact k H'
    · cases hl
end
end Pv

set_option Elab.async false
set_option linter.all false
set_option maxRecDepth 100000
set_option maxHeartbeats 8000000
/-! Pv22: what the head's heap is asked. -/
namespace Pv
open PySem PySem.Spec PyProof.Rows L2
def Fct (K : PySem.W.Frag) (g x : Str) (st : Stmt) : Prop := ∃ (f : Addr) (fd : FuncData), PySem.W.nsIn K mainGlobals g = some (some (.ref f)) ∧
  (∀ y : Str, (∀ (kV doc pm : Value) (an : Option Addr) (cdv ct : Value) (v : Value), bindArgs (PySem.W.fnOf x x (defArgs st) (defBody st) (defScope st) .none kV doc pm an cdv ct) ⟨[v], []⟩ = pure [(y, v)]) → ∀ (s : Shared) (v : Value), BindsTo s fd ⟨[v], []⟩ [(y, v)]) ∧ Fun K x x st f fd
theorem fct_mk {K : PySem.W.Frag} {g x : Str} {st : Stmt} {f : Addr} {oc : Value} {od an : Option Addr} {osl : Array (Option Value)} {kV doc pm cdv ct : Value} (a : PySem.W.nsIn K mainGlobals g = some (some (.ref f)))
    (l : K.lookup f = some ⟨oc, od, .func (PySem.W.fnOf x x (defArgs st) (defBody st) (defScope st) .none kV doc pm an cdv ct), osl⟩) (c : PySem.W.codeIn K cdv x = true) (k : PySem.W.keepIn K (.ref f) = true) : Fct K g x st :=
  ⟨f, _, a, fun y h s v => .of_eq (h kV doc pm an cdv ct v), fun_mk l c k⟩
theorem blt_mk {K : PySem.W.Frag} (z1 : PySem.W.nsIn K mainGlobals "len" = some none) (z2 : PySem.W.nsIn K mainGlobals "abs" = some none) (z3 : PySem.W.nsIn K mainGlobals "int" = some none) (z4 : PySem.W.nsIn K mainGlobals "list" = some none)
    (z5 : PySem.W.nsIn K mainGlobals "tuple" = some none) (z6 : PySem.W.nsIn K mainGlobals "dict" = some none) (z7 : PySem.W.nsIn K mainGlobals "sorted" = some none) (z8 : PySem.W.nsIn K mainGlobals "set" = some none)
    (z9 : PySem.W.nsIn K mainGlobals "all" = some none) (z10 : PySem.W.nsIn K mainGlobals "any" = some none) (z11 : PySem.W.nsIn K mainGlobals "max" = some none) (z12 : PySem.W.nsIn K mainGlobals "min" = some none)
    (z13 : PySem.W.nsIn K mainGlobals "isinstance" = some none) (z14 : PySem.W.nsIn K mainGlobals "range" = some none) (z15 : PySem.W.nsIn K mainGlobals "bool" = some none) (z16 : PySem.W.nsIn K mainGlobals "str" = some none) (z17 : PySem.W.nsIn K mainGlobals "sum" = some none) :
    ∀ y ∈ bNames, PySem.W.nsIn K mainGlobals y = some none := by
  intro y hy
  unfold bNames at hy
  simp only [List.mem_cons, List.not_mem_nil, or_false] at hy
  rcases hy with rfl | rfl | rfl | rfl | rfl | rfl | rfl | rfl | rfl | rfl | rfl | rfl | rfl | rfl | rfl | rfl | rfl <;> assumption
/-- a tuple of two ints in the heap's written part -/
theorem con2_r {T : Nat → Str} {K : PySem.W.Frag} {a : Addr} {i j : Int} {t1 t2 n : Nat} {sl : Array (Option Value)} (h : K.lookup a = some ⟨.type "tuple", none, .seq #[.int i t1, .int j t2] n, sl⟩) :
    RelV (.ref a) (.ref a) ∧ ∀ wa H, Rep T K wa H (.tup [.int i, .int j]) (.ref a) :=
  ⟨rfl, fun wa H => .tup (vs := [.int i, .int j]) (.inr ⟨_, _, n, h, rfl, rfl, by show 2 ≤ sizeLine; decide, .cons ⟨t1, rfl⟩ (.cons ⟨t2, rfl⟩ .nil), rfl⟩) (.cons (.int i) (.cons (.int j) .nil))⟩
/-- the texts -/
def TT (l : List Str) (n : Nat) : Str := l.getD n ⟨#[1000 + n]⟩
theorem tOk_of {l : List Str} (h1 : l.Nodup) (h2 : (l.all fun s => s.cps.all (· < 1000)) = true) : TOk (TT l) := by
  have lo : ∀ n, n < l.length → TT l n = l.getD n "" ∧ TT l n ∈ l := fun n hn => by
    unfold TT
    rw [List.getD_eq_getElem?_getD, List.getD_eq_getElem?_getD, List.getElem?_eq_getElem hn]
    exact ⟨rfl, List.getElem_mem hn⟩
  have hi : ∀ n, ¬ n < l.length → TT l n = ⟨#[1000 + n]⟩ := fun n hn => by
    unfold TT
    rw [List.getD_eq_getElem?_getD, List.getElem?_eq_none (by omega)]
    rfl
  have ne : ∀ n m, n < l.length → ¬ m < l.length → TT l n ≠ TT l m := fun n m hn hm e => by
    have h := List.all_eq_true.mp h2 _ (lo n hn).2
    rw [e, hi m hm] at h
    simp at h
    omega
  refine ⟨fun n m hn hm e => ?_, fun n hn => ?_⟩
  · by_cases c : n < l.length
    · by_cases c2 : m < l.length
      · rw [(lo n c).1, (lo m c2).1, List.getD_eq_getElem?_getD, List.getD_eq_getElem?_getD, List.getElem?_eq_getElem c, List.getElem?_eq_getElem c2] at e
        have pw := List.pairwise_iff_getElem.mp h1
        have e : l[n] = l[m] := e
        rcases Nat.lt_trichotomy n m with q | q | q
        · exact absurd e (pw n m c c2 q)
        · exact q
        · exact absurd e.symm (pw m n c2 c q)
      · exact absurd e (ne n m c c2)
    · by_cases c2 : m < l.length
      · exact absurd e.symm (ne m n c2 c)
      · rw [hi n c, hi m c2] at e
        simp at e
        omega
  · by_cases c : n < l.length
    · have h := List.all_eq_true.mp h2 _ (lo n c).2
      unfold PyData.strOk
      rw [Array.all_eq_true] at h ⊢
      intro i hi
      have := h i hi
      simp at this ⊢
      omega
    · rw [hi n c]
      unfold PyData.strOk
      simp
      omega
end Pv

set_option maxHeartbeats 8000000
namespace Pv.K33
open PySem L2
def t_bits_of_0 : Tx := (.cmp .gt (.bin .shr (.var 0) (.var 1)) (.num 0))
def l_bits_of_1 : Sts := (.cons (.aug 1 .add (.num 1))
 .nil)
def b_bits_of : Sts :=
 (.cons (.set (.nm 1) (.num 0))
 (.cons (.whl t_bits_of_0 l_bits_of_1)
 (.cons (.ret (.var 1))
 .nil)))
def N_bits_of : List Str := ["number", "found"]
def ps_bits_of : List Str := ["number"]
def d_bits_of : Def := ⟨1, 2, b_bits_of⟩
def t_common_0 : Tx := (.cmp .gt (.var 1) (.num 0))
def l_common_1 : Sts := (.cons (.par [(0, false), (1, false)] (.cons (.var 1) (.cons (.bin .mod (.var 0) (.var 1)) .nil)))
 .nil)
def b_common : Sts :=
 (.cons (.par [(0, false), (1, false)] (.cons (.b1 .abs (.var 0)) (.cons (.b1 .abs (.var 1)) .nil)))
 (.cons (.whl t_common_0 l_common_1)
 (.cons (.ret (.var 0))
 .nil)))
def N_common : List Str := ["a", "b"]
def ps_common : List Str := ["a", "b"]
def d_common : Def := ⟨2, 2, b_common⟩
def b_fraction : Sts :=
 (.cons (.set (.nm 2) (.ite (.cmp .gt (.var 1) (.num 0)) (.call 1 (.cons (.var 0) (.cons (.var 1) .nil))) (.neg (.call 1 (.cons (.var 0) (.cons (.var 1) .nil))))))
 (.cons (.ret (.tup (.cons (.bin .fdiv (.var 0) (.var 2)) (.cons (.bin .fdiv (.var 1) (.var 2)) .nil))))
 .nil))
def N_fraction : List Str := ["upper", "lower", "d"]
def ps_fraction : List Str := ["upper", "lower"]
def d_fraction : Def := ⟨2, 3, b_fraction⟩
def b_added : Sts :=
 (.cons (.ret (.call 2 (.cons (.bin .add (.bin .mul (.ix (.var 0) (.num 0)) (.ix (.var 1) (.num 1))) (.bin .mul (.ix (.var 1) (.num 0)) (.ix (.var 0) (.num 1)))) (.cons (.bin .mul (.ix (.var 0) (.num 1)) (.ix (.var 1) (.num 1))) .nil))))
 .nil)
def N_added : List Str := ["one", "other"]
def ps_added : List Str := ["one", "other"]
def d_added : Def := ⟨2, 2, b_added⟩
def b_negated : Sts :=
 (.cons (.ret (.tup (.cons (.neg (.ix (.var 0) (.num 0))) (.cons (.ix (.var 0) (.num 1)) .nil))))
 .nil)
def N_negated : List Str := ["one"]
def ps_negated : List Str := ["one"]
def d_negated : Def := ⟨1, 1, b_negated⟩
def b_taken : Sts :=
 (.cons (.ret (.call 3 (.cons (.var 0) (.cons (.call 4 (.cons (.var 1) .nil)) .nil))))
 .nil)
def N_taken : List Str := ["one", "other"]
def ps_taken : List Str := ["one", "other"]
def d_taken : Def := ⟨2, 2, b_taken⟩
def b_times : Sts :=
 (.cons (.ret (.call 2 (.cons (.bin .mul (.ix (.var 0) (.num 0)) (.ix (.var 1) (.num 0))) (.cons (.bin .mul (.ix (.var 0) (.num 1)) (.ix (.var 1) (.num 1))) .nil))))
 .nil)
def N_times : List Str := ["one", "other"]
def ps_times : List Str := ["one", "other"]
def d_times : Def := ⟨2, 2, b_times⟩
def b_quotient : Sts :=
 (.cons (.ret (.call 2 (.cons (.bin .mul (.ix (.var 0) (.num 0)) (.ix (.var 1) (.num 1))) (.cons (.bin .mul (.ix (.var 0) (.num 1)) (.ix (.var 1) (.num 0))) .nil))))
 .nil)
def N_quotient : List Str := ["one", "other"]
def ps_quotient : List Str := ["one", "other"]
def d_quotient : Def := ⟨2, 2, b_quotient⟩
def b_size : Sts :=
 (.cons (.ret (.tup (.cons (.b1 .abs (.ix (.var 0) (.num 0))) (.cons (.ix (.var 0) (.num 1)) .nil))))
 .nil)
def N_size : List Str := ["one"]
def ps_size : List Str := ["one"]
def d_size : Def := ⟨1, 1, b_size⟩
def b_is_less : Sts :=
 (.cons (.ret (.cmp .lt (.bin .mul (.ix (.var 0) (.num 0)) (.ix (.var 1) (.num 1))) (.bin .mul (.ix (.var 1) (.num 0)) (.ix (.var 0) (.num 1)))))
 .nil)
def N_is_less : List Str := ["one", "other"]
def ps_is_less : List Str := ["one", "other"]
def d_is_less : Def := ⟨2, 2, b_is_less⟩
def b_is_most : Sts :=
 (.cons (.ret (.cmp .le (.bin .mul (.ix (.var 0) (.num 0)) (.ix (.var 1) (.num 1))) (.bin .mul (.ix (.var 1) (.num 0)) (.ix (.var 0) (.num 1)))))
 .nil)
def N_is_most : List Str := ["one", "other"]
def ps_is_most : List Str := ["one", "other"]
def d_is_most : Def := ⟨2, 2, b_is_most⟩
def b_lesser : Sts :=
 (.cons (.ret (.ite (.val (.call 9 (.cons (.var 1) (.cons (.var 0) .nil)))) (.var 1) (.var 0)))
 .nil)
def N_lesser : List Str := ["one", "other"]
def ps_lesser : List Str := ["one", "other"]
def d_lesser : Def := ⟨2, 2, b_lesser⟩
def b_greater : Sts :=
 (.cons (.ret (.ite (.val (.call 9 (.cons (.var 0) (.cons (.var 1) .nil)))) (.var 1) (.var 0)))
 .nil)
def N_greater : List Str := ["one", "other"]
def ps_greater : List Str := ["one", "other"]
def d_greater : Def := ⟨2, 2, b_greater⟩
def b_two_to : Sts :=
 (.cons (.ret (.ite (.cmp .ge (.var 0) (.num 0)) (.tup (.cons (.bin .shl (.num 1) (.var 0)) (.cons (.num 1) .nil))) (.tup (.cons (.num 1) (.cons (.bin .shl (.num 1) (.neg (.var 0))) .nil)))))
 .nil)
def N_two_to : List Str := ["by"]
def ps_two_to : List Str := ["by"]
def d_two_to : Def := ⟨1, 1, b_two_to⟩
def b_shifted : Sts :=
 (.cons (.ret (.call 6 (.cons (.var 0) (.cons (.call 13 (.cons (.var 1) .nil)) .nil))))
 .nil)
def N_shifted : List Str := ["one", "by"]
def ps_shifted : List Str := ["one", "by"]
def d_shifted : Def := ⟨2, 2, b_shifted⟩
def b_exponent_of : Sts :=
 (.cons (.par [(2, false), (3, false)] (.cons (.b1 .abs (.ix (.var 0) (.num 0))) (.cons (.ix (.var 0) (.num 1)) .nil)))
 (.cons (.set (.nm 1) (.bin .sub (.call 0 (.cons (.var 2) .nil)) (.call 0 (.cons (.var 3) .nil))))
 (.cons (.ret (.ite (.val (.call 10 (.cons (.call 13 (.cons (.var 1) .nil)) (.cons (.tup (.cons (.var 2) (.cons (.var 3) .nil))) .nil)))) (.var 1) (.bin .sub (.var 1) (.num 1))))
 .nil)))
def N_exponent_of : List Str := ["one", "found", "upper", "lower"]
def ps_exponent_of : List Str := ["one"]
def d_exponent_of : Def := ⟨1, 4, b_exponent_of⟩
def b_value_of : Sts :=
 (.cons (.ite (.cmp .eq (.ix (.var 0) (.num 0)) (.txt 0)) (.cons (.ret (.con 0 (.tup [(.int 0), (.int 1)])))
 .nil) .nil)
 (.cons (.set (.nm 1) (.call 14 (.cons (.tup (.cons (.ix (.var 0) (.num 2)) (.cons (.num 1) .nil))) (.cons (.ix (.var 0) (.num 3)) .nil))))
 (.cons (.ret (.ite (.cmp .eq (.ix (.var 0) (.num 1)) (.num 1)) (.tup (.cons (.neg (.ix (.var 1) (.num 0))) (.cons (.ix (.var 1) (.num 1)) .nil))) (.var 1)))
 .nil)))
def N_value_of : List Str := ["number", "own"]
def ps_value_of : List Str := ["number"]
def d_value_of : Def := ⟨1, 2, b_value_of⟩
def b_is_finite : Sts :=
 (.cons (.ret (.cmp .isin (.ix (.var 0) (.num 0)) (.tup (.cons (.txt 1) (.cons (.txt 0) .nil)))))
 .nil)
def N_is_finite : List Str := ["number"]
def ps_is_finite : List Str := ["number"]
def d_is_finite : Def := ⟨1, 1, b_is_finite⟩
def b_greatest_of : Sts :=
 (.cons (.ret (.tup (.cons (.txt 1) (.cons (.num 0) (.cons (.bin .sub (.bin .shl (.num 1) (.ix (.var 0) (.num 0))) (.num 1)) (.cons (.ix (.var 0) (.num 2)) .nil))))))
 .nil)
def N_greatest_of : List Str := ["form"]
def ps_greatest_of : List Str := ["form"]
def d_greatest_of : Def := ⟨1, 1, b_greatest_of⟩
def b_least_full : Sts :=
 (.cons (.ret (.tup (.cons (.txt 1) (.cons (.num 0) (.cons (.bin .shl (.num 1) (.bin .sub (.ix (.var 0) (.num 0)) (.num 1))) (.cons (.ix (.var 0) (.num 1)) .nil))))))
 .nil)
def N_least_full : List Str := ["form"]
def ps_least_full : List Str := ["form"]
def d_least_full : Def := ⟨1, 1, b_least_full⟩
def b_unit_at : Sts :=
 (.cons (.ret (.ite (.cmp .ne (.ix (.var 1) (.num 0)) (.num 0)) (.b2 .max (.ix (.var 0) (.num 1)) (.bin .add (.bin .sub (.call 15 (.cons (.var 1) .nil)) (.ix (.var 0) (.num 0))) (.num 1))) (.ix (.var 0) (.num 1))))
 .nil)
def N_unit_at : List Str := ["form", "one"]
def ps_unit_at : List Str := ["form", "one"]
def d_unit_at : Def := ⟨2, 2, b_unit_at⟩
def b_is_raised : Sts :=
 (.cons (.ite (.cmp .eq (.var 0) (.txt 2)) (.cons (.ret (.tt false))
 .nil) .nil)
 (.cons (.ite (.cmp .eq (.var 0) (.txt 3)) (.cons (.ret (.cmp .eq (.var 1) (.num 0)))
 .nil) .nil)
 (.cons (.ite (.cmp .eq (.var 0) (.txt 4)) (.cons (.ret (.cmp .eq (.var 1) (.num 1)))
 .nil) .nil)
 (.cons (.set (.nm 4) (.bin .mul (.num 2) (.ix (.var 3) (.num 0))))
 (.cons (.ite (.cmp .ne (.var 4) (.ix (.var 3) (.num 1))) (.cons (.ret (.cmp .gt (.var 4) (.ix (.var 3) (.num 1))))
 .nil) .nil)
 (.cons (.ret (.orv (.cmp .eq (.var 0) (.txt 5)) (.one (.cmp .eq (.bin .mod (.var 2) (.num 2)) (.num 1)))))
 .nil))))))
def N_is_raised : List Str := ["way", "sign", "whole", "rest", "twice"]
def ps_is_raised : List Str := ["way", "sign", "whole", "rest"]
def d_is_raised : Def := ⟨4, 5, b_is_raised⟩
def b_rounded : Sts :=
 (.cons (.ite (.cmp .eq (.ix (.var 2) (.num 0)) (.num 0)) (.cons (.ret (.tup (.cons (.tup (.cons (.txt 0) (.cons (.var 3) .nil))) (.cons (.tup .nil) .nil))))
 .nil) .nil)
 (.cons (.set (.nm 4) (.b1 .int (.cmp .lt (.ix (.var 2) (.num 0)) (.num 0))))
 (.cons (.set (.nm 5) (.call 20 (.cons (.var 0) (.cons (.var 2) .nil))))
 (.cons (.set (.tp [7, 8]) (.call 8 (.cons (.call 14 (.cons (.var 2) (.cons (.neg (.var 5)) .nil))) .nil)))
 (.cons (.par [(9, false), (10, false)] (.cons (.bin .fdiv (.var 7) (.var 8)) (.cons (.bin .mod (.var 7) (.var 8)) .nil)))
 (.cons (.set (.nm 6) (.call 23 (.cons (.var 0) (.cons (.var 2) (.cons (.var 10) .nil)))))
 (.cons (.ite (.and2 (.cmp .gt (.var 10) (.num 0)) (.one (.val (.call 21 (.cons (.var 1) (.cons (.var 4) (.cons (.var 9) (.cons (.tup (.cons (.var 10) (.cons (.var 8) .nil))) .nil)))))))) (.cons (.aug 9 .add (.num 1))
 .nil) .nil)
 (.cons (.ite (.cmp .eq (.var 9) (.bin .shl (.num 1) (.ix (.var 0) (.num 0)))) (.cons (.par [(9, false), (5, false)] (.cons (.bin .fdiv (.var 9) (.num 2)) (.cons (.bin .add (.var 5) (.num 1)) .nil)))
 .nil) .nil)
 (.cons (.ite (.cmp .gt (.var 5) (.ix (.var 0) (.num 2))) (.cons (.ret (.tup (.cons (.call 24 (.cons (.var 0) (.cons (.var 1) (.cons (.var 4) .nil)))) (.cons (.tup (.cons (.txt 7) (.cons (.txt 6) .nil))) .nil))))
 .nil) .nil)
 (.cons (.ite (.cmp .eq (.var 9) (.num 0)) (.cons (.ret (.tup (.cons (.tup (.cons (.txt 0) (.cons (.var 4) .nil))) (.cons (.var 6) .nil))))
 .nil) .nil)
 (.cons (.ret (.tup (.cons (.tup (.cons (.txt 1) (.cons (.var 4) (.cons (.var 9) (.cons (.var 5) .nil))))) (.cons (.var 6) .nil))))
 .nil)))))))))))
def N_rounded : List Str := ["form", "way", "one", "sign", "own", "power", "marks", "upper", "lower", "whole", "rest"]
def ps_rounded : List Str := ["form", "way", "one", "sign"]
def d_rounded : Def := ⟨4, 11, b_rounded⟩
def b_marks_of : Sts :=
 (.cons (.ite (.cmp .eq (.var 2) (.num 0)) (.cons (.ret (.tup .nil))
 .nil) .nil)
 (.cons (.set (.nm 3) (.call 9 (.cons (.call 8 (.cons (.var 1) .nil)) (.cons (.call 16 (.cons (.call 19 (.cons (.var 0) .nil)) .nil)) .nil))))
 (.cons (.ret (.ite (.val (.var 3)) (.tup (.cons (.txt 7) (.cons (.txt 8) .nil))) (.tup (.cons (.txt 7) .nil))))
 .nil)))
def N_marks_of : List Str := ["form", "one", "rest", "is_small"]
def ps_marks_of : List Str := ["form", "one", "rest"]
def d_marks_of : Def := ⟨3, 4, b_marks_of⟩
def b_beyond : Sts :=
 (.cons (.ite (.or2 (.cmp .isin (.var 1) (.tup (.cons (.txt 9) (.cons (.txt 5) .nil)))) (.or2 (.and2 (.cmp .eq (.var 1) (.txt 3)) (.one (.cmp .eq (.var 2) (.num 0)))) (.one (.and2 (.cmp .eq (.var 1) (.txt 4)) (.one (.cmp .eq (.var 2) (.num 1))))))) (.cons (.ret (.tup (.cons (.txt 10) (.cons (.var 2) .nil))))
 .nil) .nil)
 (.cons (.ret (.bin .add (.bin .add (.sl (.call 18 (.cons (.var 0) .nil)) .non (.num 1)) (.tup (.cons (.var 2) .nil))) (.sl (.call 18 (.cons (.var 0) .nil)) (.num 2) .non)))
 .nil))
def N_beyond : List Str := ["form", "way", "sign"]
def ps_beyond : List Str := ["form", "way", "sign"]
def d_beyond : Def := ⟨3, 3, b_beyond⟩
def b_error_bound : Sts :=
 (.cons (.set (.nm 3) (.call 20 (.cons (.var 0) (.cons (.var 2) .nil))))
 (.cons (.ret (.ite (.cmp .isin (.var 1) (.tup (.cons (.txt 9) (.cons (.txt 5) .nil)))) (.call 14 (.cons (.tup (.cons (.num 1) (.cons (.num 2) .nil))) (.cons (.var 3) .nil))) (.call 14 (.cons (.tup (.cons (.num 1) (.cons (.num 1) .nil))) (.cons (.var 3) .nil)))))
 .nil))
def N_error_bound : List Str := ["form", "way", "most", "power"]
def ps_error_bound : List Str := ["form", "way", "most"]
def d_error_bound : Def := ⟨3, 4, b_error_bound⟩
def b_is_in_reach : Sts :=
 (.cons (.ret (.notv (.call 9 (.cons (.call 16 (.cons (.call 18 (.cons (.var 0) .nil)) .nil)) (.cons (.var 1) .nil)))))
 .nil)
def N_is_in_reach : List Str := ["form", "most"]
def ps_is_in_reach : List Str := ["form", "most"]
def d_is_in_reach : Def := ⟨2, 2, b_is_in_reach⟩
def b_is_inside : Sts :=
 (.cons (.ret (.andv (.call 10 (.cons (.ix (.var 1) (.num 0)) (.cons (.ix (.var 0) (.num 0)) .nil))) (.one (.call 10 (.cons (.ix (.var 0) (.num 1)) (.cons (.ix (.var 1) (.num 1)) .nil))))))
 .nil)
def N_is_inside : List Str := ["one", "other"]
def ps_is_inside : List Str := ["one", "other"]
def d_is_inside : Def := ⟨2, 2, b_is_inside⟩
def b_hull : Sts :=
 (.cons (.ret (.tup (.cons (.call 11 (.cons (.ix (.var 0) (.num 0)) (.cons (.ix (.var 1) (.num 0)) .nil))) (.cons (.call 12 (.cons (.ix (.var 0) (.num 1)) (.cons (.ix (.var 1) (.num 1)) .nil))) .nil))))
 .nil)
def N_hull : List Str := ["one", "other"]
def ps_hull : List Str := ["one", "other"]
def d_hull : Def := ⟨2, 2, b_hull⟩
def l_hull_of_0 : Sts := (.cons (.set (.nm 1) (.tup (.cons (.call 11 (.cons (.ix (.var 1) (.num 0)) (.cons (.var 2) .nil))) (.cons (.call 12 (.cons (.ix (.var 1) (.num 1)) (.cons (.var 2) .nil))) .nil))))
 .nil)
def b_hull_of : Sts :=
 (.cons (.set (.nm 1) (.tup (.cons (.ix (.var 0) (.num 0)) (.cons (.ix (.var 0) (.num 0)) .nil))))
 (.cons (.for_ (.nm 2) (.sl (.var 0) (.num 1) .non) l_hull_of_0)
 (.cons (.ret (.var 1))
 .nil)))
def N_hull_of : List Str := ["rows", "found", "own"]
def ps_hull_of : List Str := ["rows"]
def d_hull_of : Def := ⟨1, 3, b_hull_of⟩
def b_point : Sts :=
 (.cons (.ret (.tup (.cons (.var 0) (.cons (.var 0) .nil))))
 .nil)
def N_point : List Str := ["one"]
def ps_point : List Str := ["one"]
def d_point : Def := ⟨1, 1, b_point⟩
def b_added_spans : Sts :=
 (.cons (.ret (.tup (.cons (.call 3 (.cons (.ix (.var 0) (.num 0)) (.cons (.ix (.var 1) (.num 0)) .nil))) (.cons (.call 3 (.cons (.ix (.var 0) (.num 1)) (.cons (.ix (.var 1) (.num 1)) .nil))) .nil))))
 .nil)
def N_added_spans : List Str := ["one", "other"]
def ps_added_spans : List Str := ["one", "other"]
def d_added_spans : Def := ⟨2, 2, b_added_spans⟩
def b_negated_span : Sts :=
 (.cons (.ret (.tup (.cons (.call 4 (.cons (.ix (.var 0) (.num 1)) .nil)) (.cons (.call 4 (.cons (.ix (.var 0) (.num 0)) .nil)) .nil))))
 .nil)
def N_negated_span : List Str := ["one"]
def ps_negated_span : List Str := ["one"]
def d_negated_span : Def := ⟨1, 1, b_negated_span⟩
def b_taken_spans : Sts :=
 (.cons (.ret (.call 31 (.cons (.var 0) (.cons (.call 32 (.cons (.var 1) .nil)) .nil))))
 .nil)
def N_taken_spans : List Str := ["one", "other"]
def ps_taken_spans : List Str := ["one", "other"]
def d_taken_spans : Def := ⟨2, 2, b_taken_spans⟩
def x_times_spans_0 : Ex := (.call 6 (.cons (.var 2) (.cons (.var 3) .nil)))
def b_times_spans : Sts :=
 (.cons (.ret (.call 29 (.cons (.comp2 (.nm 2) (.var 0) (.nm 3) (.var 1) x_times_spans_0) .nil)))
 .nil)
def N_times_spans : List Str := ["one", "other", "a", "b"]
def ps_times_spans : List Str := ["one", "other"]
def d_times_spans : Def := ⟨2, 4, b_times_spans⟩
def b_has_nothing : Sts :=
 (.cons (.ret (.chain .le .le (.ix (.ix (.var 0) (.num 0)) (.num 0)) (.num 0) (.ix (.ix (.var 0) (.num 1)) (.num 0))))
 .nil)
def N_has_nothing : List Str := ["span"]
def ps_has_nothing : List Str := ["span"]
def d_has_nothing : Def := ⟨1, 1, b_has_nothing⟩
def x_over_spans_0 : Ex := (.call 7 (.cons (.var 2) (.cons (.var 3) .nil)))
def b_over_spans : Sts :=
 (.cons (.ite (.val (.call 35 (.cons (.var 1) .nil))) (.cons (.ret .non)
 .nil) .nil)
 (.cons (.ret (.call 29 (.cons (.comp2 (.nm 2) (.var 0) (.nm 3) (.var 1) x_over_spans_0) .nil)))
 .nil))
def N_over_spans : List Str := ["one", "other", "a", "b"]
def ps_over_spans : List Str := ["one", "other"]
def d_over_spans : Def := ⟨2, 4, b_over_spans⟩
def b_size_span : Sts :=
 (.cons (.ite (.val (.call 35 (.cons (.var 0) .nil))) (.cons (.ret (.tup (.cons (.con 0 (.tup [(.int 0), (.int 1)])) (.cons (.call 38 (.cons (.var 0) .nil)) .nil))))
 .nil) .nil)
 (.cons (.ret (.call 29 (.cons (.lst (.cons (.call 8 (.cons (.ix (.var 0) (.num 0)) .nil)) (.cons (.call 8 (.cons (.ix (.var 0) (.num 1)) .nil)) .nil))) .nil)))
 .nil))
def N_size_span : List Str := ["one"]
def ps_size_span : List Str := ["one"]
def d_size_span : Def := ⟨1, 1, b_size_span⟩
def b_most_size : Sts :=
 (.cons (.ret (.call 12 (.cons (.call 8 (.cons (.ix (.var 0) (.num 0)) .nil)) (.cons (.call 8 (.cons (.ix (.var 0) (.num 1)) .nil)) .nil))))
 .nil)
def N_most_size : List Str := ["one"]
def ps_most_size : List Str := ["one"]
def d_most_size : Def := ⟨1, 1, b_most_size⟩
def b_least_size : Sts :=
 (.cons (.ret (.ix (.call 37 (.cons (.var 0) .nil)) (.num 0)))
 .nil)
def N_least_size : List Str := ["one"]
def ps_least_size : List Str := ["one"]
def d_least_size : Def := ⟨1, 1, b_least_size⟩
def b_widened_by : Sts :=
 (.cons (.ret (.tup (.cons (.call 5 (.cons (.ix (.var 0) (.num 0)) (.cons (.var 1) .nil))) (.cons (.call 3 (.cons (.ix (.var 0) (.num 1)) (.cons (.var 1) .nil))) .nil))))
 .nil)
def N_widened_by : List Str := ["one", "off"]
def ps_widened_by : List Str := ["one", "off"]
def d_widened_by : Def := ⟨2, 2, b_widened_by⟩
def b_least_span : Sts :=
 (.cons (.ret (.tup (.cons (.call 11 (.cons (.ix (.var 0) (.num 0)) (.cons (.ix (.var 1) (.num 0)) .nil))) (.cons (.call 11 (.cons (.ix (.var 0) (.num 1)) (.cons (.ix (.var 1) (.num 1)) .nil))) .nil))))
 .nil)
def N_least_span : List Str := ["one", "other"]
def ps_least_span : List Str := ["one", "other"]
def d_least_span : Def := ⟨2, 2, b_least_span⟩
def b_most_span : Sts :=
 (.cons (.ret (.tup (.cons (.call 12 (.cons (.ix (.var 0) (.num 0)) (.cons (.ix (.var 1) (.num 0)) .nil))) (.cons (.call 12 (.cons (.ix (.var 0) (.num 1)) (.cons (.ix (.var 1) (.num 1)) .nil))) .nil))))
 .nil)
def N_most_span : List Str := ["one", "other"]
def ps_most_span : List Str := ["one", "other"]
def d_most_span : Def := ⟨2, 2, b_most_span⟩
def b_is_surely : Sts :=
 (.cons (.ite (.or2 (.val (.call 9 (.cons (.ix (.var 1) (.num 1)) (.cons (.ix (.var 2) (.num 0)) .nil)))) (.one (.and2 (.cmp .eq (.var 0) (.txt 11)) (.one (.val (.call 10 (.cons (.ix (.var 1) (.num 1)) (.cons (.ix (.var 2) (.num 0)) .nil)))))))) (.cons (.ret (.tt true))
 .nil) .nil)
 (.cons (.ite (.or2 (.val (.call 9 (.cons (.ix (.var 2) (.num 1)) (.cons (.ix (.var 1) (.num 0)) .nil)))) (.one (.and2 (.cmp .eq (.var 0) (.txt 12)) (.one (.val (.call 10 (.cons (.ix (.var 2) (.num 1)) (.cons (.ix (.var 1) (.num 0)) .nil)))))))) (.cons (.ret (.tt false))
 .nil) .nil)
 (.cons (.ret .non)
 .nil)))
def N_is_surely : List Str := ["sign", "one", "other"]
def ps_is_surely : List Str := ["sign", "one", "other"]
def d_is_surely : Def := ⟨3, 3, b_is_surely⟩
def b_span_of_step : Sts :=
 (.cons (.ite (.cmp .isin .non (.var 1)) (.cons (.ret .non)
 .nil) .nil)
 (.cons (.ite (.cmp .eq (.var 0) (.txt 13)) (.cons (.ret (.call 32 (.cons (.ix (.var 1) (.num 0)) .nil)))
 .nil) .nil)
 (.cons (.ite (.cmp .eq (.var 0) (.txt 14)) (.cons (.ret (.call 37 (.cons (.ix (.var 1) (.num 0)) .nil)))
 .nil) .nil)
 (.cons (.ite (.cmp .eq (.var 0) (.txt 15)) (.cons (.ret (.call 31 (.cons (.call 34 (.cons (.ix (.var 1) (.num 0)) (.cons (.ix (.var 1) (.num 1)) .nil))) (.cons (.ix (.var 1) (.num 2)) .nil))))
 .nil) .nil)
 (.cons (.set (.tp [2, 3]) (.var 1))
 (.cons (.ite (.cmp .eq (.var 0) (.txt 16)) (.cons (.ret (.call 31 (.cons (.var 2) (.cons (.var 3) .nil))))
 .nil) .nil)
 (.cons (.ite (.cmp .eq (.var 0) (.txt 17)) (.cons (.ret (.call 33 (.cons (.var 2) (.cons (.var 3) .nil))))
 .nil) .nil)
 (.cons (.ite (.cmp .eq (.var 0) (.txt 18)) (.cons (.ret (.call 34 (.cons (.var 2) (.cons (.var 3) .nil))))
 .nil) .nil)
 (.cons (.ite (.cmp .eq (.var 0) (.txt 19)) (.cons (.ret (.call 36 (.cons (.var 2) (.cons (.var 3) .nil))))
 .nil) .nil)
 (.cons (.ret (.ite (.cmp .eq (.var 0) (.txt 20)) (.call 41 (.cons (.var 2) (.cons (.var 3) .nil))) (.call 42 (.cons (.var 2) (.cons (.var 3) .nil)))))
 .nil))))))))))
def N_span_of_step : List Str := ["kind", "rows", "one", "other"]
def ps_span_of_step : List Str := ["kind", "rows"]
def d_span_of_step : Def := ⟨2, 4, b_span_of_step⟩
def b_is_weaker : Sts :=
 (.cons (.ret (.andv (.call 27 (.cons (.ix (.var 1) (.num 0)) (.cons (.ix (.var 0) (.num 0)) .nil))) (.andv (.call 10 (.cons (.ix (.var 1) (.num 1)) (.cons (.ix (.var 0) (.num 1)) .nil))) (.one (.cmp .le (.ix (.var 0) (.num 2)) (.ix (.var 1) (.num 2)))))))
 .nil)
def N_is_weaker : List Str := ["one", "other"]
def ps_is_weaker : List Str := ["one", "other"]
def d_is_weaker : Def := ⟨2, 2, b_is_weaker⟩
def b_reach_of : Sts :=
 (.cons (.ret (.call 3 (.cons (.call 38 (.cons (.ix (.var 0) (.num 0)) .nil)) (.cons (.ix (.var 0) (.num 1)) .nil))))
 .nil)
def N_reach_of : List Str := ["row"]
def ps_reach_of : List Str := ["row"]
def d_reach_of : Def := ⟨1, 1, b_reach_of⟩
def b_rounded_span : Sts :=
 (.cons (.ret (.call 40 (.cons (.ix (.var 0) (.num 0)) (.cons (.ix (.var 0) (.num 1)) .nil))))
 .nil)
def N_rounded_span : List Str := ["row"]
def ps_rounded_span : List Str := ["row"]
def d_rounded_span : Def := ⟨1, 1, b_rounded_span⟩
def b_input_row : Sts :=
 (.cons (.ret (.tup (.cons (.tup (.cons (.var 1) (.cons (.var 2) .nil))) (.cons (.var 3) (.cons (.ix (.var 0) (.num 1)) .nil)))))
 .nil)
def N_input_row : List Str := ["form", "low", "high", "off"]
def ps_input_row : List Str := ["form", "low", "high", "off"]
def d_input_row : Def := ⟨4, 4, b_input_row⟩
def t_grid_of_0 : Tx := (.cmp .eq (.bin .mod (.var 2) (.num 2)) (.num 0))
def l_grid_of_1 : Sts := (.cons (.par [(2, false), (3, false)] (.cons (.bin .fdiv (.var 2) (.num 2)) (.cons (.bin .add (.var 3) (.num 1)) .nil)))
 .nil)
def b_grid_of : Sts :=
 (.cons (.ite (.cmp .eq (.ix (.var 0) (.num 0)) (.txt 0)) (.cons (.ret (.ix (.var 1) (.num 2)))
 .nil) .nil)
 (.cons (.par [(2, false), (3, false)] (.cons (.ix (.var 0) (.num 2)) (.cons (.ix (.var 0) (.num 3)) .nil)))
 (.cons (.whl t_grid_of_0 l_grid_of_1)
 (.cons (.ret (.var 3))
 .nil))))
def N_grid_of : List Str := ["number", "form", "whole", "power"]
def ps_grid_of : List Str := ["number", "form"]
def d_grid_of : Def := ⟨2, 4, b_grid_of⟩
def b_number_row : Sts :=
 (.cons (.set (.nm 3) (.ix (.call 22 (.cons (.var 0) (.cons (.var 1) (.cons (.var 2) (.cons (.num 0) .nil))))) (.num 0)))
 (.cons (.ite (.not (.val (.call 17 (.cons (.var 3) .nil)))) (.cons (.ret .non)
 .nil) .nil)
 (.cons (.ret (.tup (.cons (.call 30 (.cons (.var 2) .nil)) (.cons (.call 8 (.cons (.call 5 (.cons (.call 16 (.cons (.var 3) .nil)) (.cons (.var 2) .nil))) .nil)) (.cons (.call 49 (.cons (.var 3) (.cons (.var 0) .nil))) .nil)))))
 .nil)))
def N_number_row : List Str := ["form", "way", "one", "own"]
def ps_number_row : List Str := ["form", "way", "one"]
def d_number_row : Def := ⟨3, 4, b_number_row⟩
def x_passed_error_0 : Ex := (.ix (.var 8) (.num 1))
def b_passed_error : Sts :=
 (.cons (.own 3 (.comp (.nm 8) (.var 1) x_passed_error_0))
 (.cons (.frz 3)
 (.cons (.ite (.cmp .isin (.var 0) (.tup (.cons (.txt 16) (.cons (.txt 17) .nil)))) (.cons (.ret (.call 3 (.cons (.ix (.var 3) (.num 0)) (.cons (.ix (.var 3) (.num 1)) .nil))))
 .nil) .nil)
 (.cons (.ite (.cmp .isin (.var 0) (.tup (.cons (.txt 18) (.cons (.txt 15) .nil)))) (.cons (.set (.nm 5) (.call 6 (.cons (.call 38 (.cons (.ix (.ix (.var 1) (.num 0)) (.num 0)) .nil)) (.cons (.ix (.var 3) (.num 1)) .nil))))
 (.cons (.set (.nm 6) (.call 6 (.cons (.call 3 (.cons (.call 38 (.cons (.ix (.ix (.var 1) (.num 1)) (.num 0)) .nil)) (.cons (.ix (.var 3) (.num 1)) .nil))) (.cons (.ix (.var 3) (.num 0)) .nil))))
 (.cons (.set (.nm 7) (.call 3 (.cons (.var 5) (.cons (.var 6) .nil))))
 (.cons (.ret (.ite (.cmp .eq (.var 0) (.txt 18)) (.var 7) (.call 3 (.cons (.var 7) (.cons (.ix (.var 3) (.num 2)) .nil)))))
 .nil)))) .nil)
 (.cons (.set (.nm 4) (.call 5 (.cons (.call 39 (.cons (.ix (.ix (.var 1) (.num 1)) (.num 0)) .nil)) (.cons (.ix (.var 3) (.num 1)) .nil))))
 (.cons (.ite (.cmp .le (.ix (.var 4) (.num 0)) (.num 0)) (.cons (.ret .non)
 .nil) .nil)
 (.cons (.ret (.call 7 (.cons (.call 3 (.cons (.ix (.var 3) (.num 0)) (.cons (.call 6 (.cons (.call 38 (.cons (.var 2) .nil)) (.cons (.ix (.var 3) (.num 1)) .nil))) .nil))) (.cons (.var 4) .nil))))
 .nil)))))))
def N_passed_error : List Str := ["kind", "rows", "span", "errors", "least", "first", "second", "both", "row"]
def ps_passed_error : List Str := ["kind", "rows", "span"]
def d_passed_error : Def := ⟨3, 9, b_passed_error⟩
def x_grid_of_step_0 : Ex := (.ix (.var 4) (.num 2))
def b_grid_of_step : Sts :=
 (.cons (.own 3 (.comp (.nm 4) (.var 2) x_grid_of_step_0))
 (.cons (.frz 3)
 (.cons (.ite (.cmp .isin (.var 1) (.tup (.cons (.txt 16) (.cons (.txt 17) .nil)))) (.cons (.ret (.b2 .max (.ix (.var 0) (.num 1)) (.b1 .minL (.var 3))))
 .nil) .nil)
 (.cons (.ite (.cmp .eq (.var 1) (.txt 18)) (.cons (.ret (.b2 .max (.ix (.var 0) (.num 1)) (.bin .add (.ix (.var 3) (.num 0)) (.ix (.var 3) (.num 1)))))
 .nil) .nil)
 (.cons (.ite (.cmp .eq (.var 1) (.txt 15)) (.cons (.ret (.b2 .max (.ix (.var 0) (.num 1)) (.b2 .min (.bin .add (.ix (.var 3) (.num 0)) (.ix (.var 3) (.num 1))) (.ix (.var 3) (.num 2)))))
 .nil) .nil)
 (.cons (.ret (.ix (.var 0) (.num 1)))
 .nil))))))
def N_grid_of_step : List Str := ["form", "kind", "rows", "grids", "row"]
def ps_grid_of_step : List Str := ["form", "kind", "rows"]
def d_grid_of_step : Def := ⟨3, 5, b_grid_of_step⟩
def x_exact_grid_0 : Ex := (.ix (.var 3) (.num 2))
def b_exact_grid : Sts :=
 (.cons (.own 2 (.comp (.nm 3) (.var 1) x_exact_grid_0))
 (.cons (.frz 2)
 (.cons (.ite (.cmp .isin (.var 0) (.tup (.cons (.txt 16) (.cons (.txt 17) .nil)))) (.cons (.ret (.b1 .minL (.var 2)))
 .nil) .nil)
 (.cons (.ite (.cmp .eq (.var 0) (.txt 18)) (.cons (.ret (.bin .add (.ix (.var 2) (.num 0)) (.ix (.var 2) (.num 1))))
 .nil) .nil)
 (.cons (.ret (.ite (.cmp .eq (.var 0) (.txt 15)) (.b2 .min (.bin .add (.ix (.var 2) (.num 0)) (.ix (.var 2) (.num 1))) (.ix (.var 2) (.num 2))) .non))
 .nil)))))
def N_exact_grid : List Str := ["kind", "rows", "grids", "row"]
def ps_exact_grid : List Str := ["kind", "rows"]
def d_exact_grid : Def := ⟨2, 4, b_exact_grid⟩
def b_is_near : Sts :=
 (.cons (.ite (.or2 (.chain .le .le (.ix (.ix (.var 0) (.num 0)) (.num 0)) (.num 0) (.ix (.ix (.var 0) (.num 1)) (.num 0))) (.or2 (.chain .le .le (.ix (.ix (.var 1) (.num 0)) (.num 0)) (.num 0) (.ix (.ix (.var 1) (.num 1)) (.num 0))) (.one (.cmp .ne (.cmp .gt (.ix (.ix (.var 0) (.num 0)) (.num 0)) (.num 0)) (.cmp .gt (.ix (.ix (.var 1) (.num 0)) (.num 0)) (.num 0)))))) (.cons (.ret (.tt false))
 .nil) .nil)
 (.cons (.par [(2, false), (3, false)] (.cons (.call 38 (.cons (.var 0) .nil)) (.cons (.call 38 (.cons (.var 1) .nil)) .nil)))
 (.cons (.ret (.andv (.call 10 (.cons (.var 2) (.cons (.call 6 (.cons (.tup (.cons (.num 2) (.cons (.num 1) .nil))) (.cons (.call 39 (.cons (.var 1) .nil)) .nil))) .nil))) (.one (.call 10 (.cons (.var 3) (.cons (.call 6 (.cons (.tup (.cons (.num 2) (.cons (.num 1) .nil))) (.cons (.call 39 (.cons (.var 0) .nil)) .nil))) .nil))))))
 .nil)))
def N_is_near : List Str := ["one", "other", "first", "second"]
def ps_is_near : List Str := ["one", "other"]
def d_is_near : Def := ⟨2, 4, b_is_near⟩
def b_is_without_loss : Sts :=
 (.cons (.set (.nm 4) (.call 53 (.cons (.var 1) (.cons (.var 2) .nil))))
 (.cons (.ite (.and2 (.cmp .notN (.var 4) .non) (.and2 (.cmp .ge (.var 4) (.ix (.var 0) (.num 1))) (.one (.val (.call 10 (.cons (.var 3) (.cons (.call 13 (.cons (.bin .add (.ix (.var 0) (.num 0)) (.var 4)) .nil)) .nil))))))) (.cons (.ret (.tt true))
 .nil) .nil)
 (.cons (.ite (.cmp .eq (.var 1) (.txt 17)) (.cons (.ret (.call 54 (.cons (.call 47 (.cons (.ix (.var 2) (.num 0)) .nil)) (.cons (.call 47 (.cons (.ix (.var 2) (.num 1)) .nil)) .nil))))
 .nil) .nil)
 (.cons (.ret (.andv (.cmp .eq (.var 1) (.txt 16)) (.one (.call 54 (.cons (.call 47 (.cons (.ix (.var 2) (.num 0)) .nil)) (.cons (.call 32 (.cons (.call 47 (.cons (.ix (.var 2) (.num 1)) .nil)) .nil)) .nil))))))
 .nil))))
def N_is_without_loss : List Str := ["form", "kind", "rows", "reach", "grid"]
def ps_is_without_loss : List Str := ["form", "kind", "rows", "reach"]
def d_is_without_loss : Def := ⟨4, 5, b_is_without_loss⟩
def x_operation_row_0 : Ex := (.ix (.var 8) (.num 0))
def b_operation_row : Sts :=
 (.cons (.set (.nm 4) (.call 44 (.cons (.var 2) (.cons (.comp (.nm 8) (.var 3) x_operation_row_0) .nil))))
 (.cons (.ite (.cmp .isN (.var 4) .non) (.cons (.ret .non)
 .nil) .nil)
 (.cons (.ite (.cmp .isin (.var 2) (.tup (.cons (.txt 13) (.cons (.txt 14) .nil)))) (.cons (.ret (.tup (.cons (.var 4) (.cons (.ix (.ix (.var 3) (.num 0)) (.num 1)) (.cons (.ix (.ix (.var 3) (.num 0)) (.num 2)) .nil)))))
 .nil) .nil)
 (.cons (.ite (.cmp .isin (.var 2) (.tup (.cons (.txt 20) (.cons (.txt 21) .nil)))) (.cons (.ret (.tup (.cons (.var 4) (.cons (.call 12 (.cons (.ix (.ix (.var 3) (.num 0)) (.num 1)) (.cons (.ix (.ix (.var 3) (.num 1)) (.num 1)) .nil))) (.cons (.b2 .min (.ix (.ix (.var 3) (.num 0)) (.num 2)) (.ix (.ix (.var 3) (.num 1)) (.num 2))) .nil)))))
 .nil) .nil)
 (.cons (.set (.nm 5) (.call 51 (.cons (.var 2) (.cons (.var 3) (.cons (.var 4) .nil)))))
 (.cons (.ite (.cmp .isN (.var 5) .non) (.cons (.ret .non)
 .nil) .nil)
 (.cons (.set (.nm 6) (.call 3 (.cons (.call 38 (.cons (.var 4) .nil)) (.cons (.var 5) .nil))))
 (.cons (.ite (.not (.val (.call 26 (.cons (.var 0) (.cons (.var 6) .nil))))) (.cons (.ret .non)
 .nil) .nil)
 (.cons (.set (.nm 7) (.ite (.val (.call 55 (.cons (.var 0) (.cons (.var 2) (.cons (.var 3) (.cons (.var 6) .nil)))))) (.con 0 (.tup [(.int 0), (.int 1)])) (.call 25 (.cons (.var 0) (.cons (.var 1) (.cons (.var 6) .nil))))))
 (.cons (.ret (.tup (.cons (.var 4) (.cons (.call 3 (.cons (.var 5) (.cons (.var 7) .nil))) (.cons (.call 52 (.cons (.var 0) (.cons (.var 2) (.cons (.var 3) .nil)))) .nil)))))
 .nil))))))))))
def N_operation_row : List Str := ["form", "way", "kind", "rows", "span", "passed", "reach", "lost", "row"]
def ps_operation_row : List Str := ["form", "way", "kind", "rows"]
def d_operation_row : Def := ⟨4, 9, b_operation_row⟩
def b_can_turn : Sts :=
 (.cons (.ite (.and2 (.cmp .eq (.ix (.var 1) (.num 1)) (.con 0 (.tup [(.int 0), (.int 1)]))) (.one (.cmp .eq (.ix (.var 2) (.num 1)) (.con 0 (.tup [(.int 0), (.int 1)]))))) (.cons (.ret (.tt false))
 .nil) .nil)
 (.cons (.ret (.cmp .isN (.call 43 (.cons (.var 0) (.cons (.call 47 (.cons (.var 1) .nil)) (.cons (.call 47 (.cons (.var 2) .nil)) .nil)))) .non))
 .nil))
def N_can_turn : List Str := ["sign", "one", "other"]
def ps_can_turn : List Str := ["sign", "one", "other"]
def d_can_turn : Def := ⟨3, 3, b_can_turn⟩
def b_choice_row : Sts :=
 (.cons (.set (.nm 5) (.call 43 (.cons (.var 0) (.cons (.call 47 (.cons (.var 1) .nil)) (.cons (.call 47 (.cons (.var 2) .nil)) .nil)))))
 (.cons (.ite (.cmp .notN (.var 5) .non) (.cons (.ret (.ite (.val (.var 5)) (.var 3) (.var 4)))
 .nil) .nil)
 (.cons (.set (.nm 6) (.call 12 (.cons (.ix (.var 3) (.num 1)) (.cons (.ix (.var 4) (.num 1)) .nil))))
 (.cons (.ite (.val (.call 57 (.cons (.var 0) (.cons (.var 1) (.cons (.var 2) .nil))))) (.cons (.set (.nm 7) (.call 38 (.cons (.call 33 (.cons (.ix (.var 3) (.num 0)) (.cons (.ix (.var 4) (.num 0)) .nil))) .nil)))
 (.cons (.set (.nm 6) (.call 3 (.cons (.var 6) (.cons (.var 7) .nil))))
 .nil)) .nil)
 (.cons (.ret (.tup (.cons (.call 28 (.cons (.ix (.var 3) (.num 0)) (.cons (.ix (.var 4) (.num 0)) .nil))) (.cons (.var 6) (.cons (.b2 .min (.ix (.var 3) (.num 2)) (.ix (.var 4) (.num 2))) .nil)))))
 .nil)))))
def N_choice_row : List Str := ["sign", "one", "other", "yes", "no", "sure", "error", "apart"]
def ps_choice_row : List Str := ["sign", "one", "other", "yes", "no"]
def d_choice_row : Def := ⟨5, 8, b_choice_row⟩
def b_parts_of : Sts :=
 (.cons (.ite (.cmp .isin (.ix (.var 0) (.num 0)) (.tup (.cons (.txt 22) (.cons (.txt 1) .nil)))) (.cons (.ret (.tup .nil))
 .nil) .nil)
 (.cons (.ret (.ite (.cmp .eq (.ix (.var 0) (.num 0)) (.txt 23)) (.sl (.var 0) (.num 2) .non) (.sl (.var 0) (.num 1) .non)))
 .nil))
def N_parts_of : List Str := ["step"]
def ps_parts_of : List Str := ["step"]
def d_parts_of : Def := ⟨1, 1, b_parts_of⟩
def x_next_row_0 : Ex := (.ix (.var 4) (.var 10))
def b_next_row : Sts :=
 (.cons (.ite (.cmp .eq (.ix (.var 2) (.num 0)) (.txt 22)) (.cons (.set (.tp [7, 8, 9]) (.ix (.var 3) (.ix (.var 2) (.num 1))))
 (.cons (.set (.nm 6) (.call 48 (.cons (.var 0) (.cons (.var 7) (.cons (.var 8) (.cons (.var 9) .nil))))))
 (.cons (.ret (.ite (.val (.call 26 (.cons (.var 0) (.cons (.call 46 (.cons (.var 6) .nil)) .nil)))) (.var 6) .non))
 .nil))) .nil)
 (.cons (.ite (.cmp .eq (.ix (.var 2) (.num 0)) (.txt 1)) (.cons (.ret (.call 50 (.cons (.var 0) (.cons (.var 1) (.cons (.ix (.var 2) (.num 1)) .nil)))))
 .nil) .nil)
 (.cons (.own 5 (.comp (.nm 10) (.call 59 (.cons (.var 2) .nil)) x_next_row_0))
 (.cons (.frz 5)
 (.cons (.ite (.cmp .isin .non (.var 5)) (.cons (.ret .non)
 .nil) .nil)
 (.cons (.ite (.cmp .eq (.ix (.var 2) (.num 0)) (.txt 23)) (.cons (.ret (.call 58 (.cons (.ix (.var 2) (.num 1)) (.cons (.ix (.var 5) (.num 0)) (.cons (.ix (.var 5) (.num 1)) (.cons (.ix (.var 5) (.num 2)) (.cons (.ix (.var 5) (.num 3)) .nil)))))))
 .nil) .nil)
 (.cons (.ret (.call 56 (.cons (.var 0) (.cons (.var 1) (.cons (.ix (.var 2) (.num 0)) (.cons (.var 5) .nil))))))
 .nil)))))))
def N_next_row : List Str := ["form", "way", "step", "ranges", "rows", "parts", "own", "low", "high", "off", "k"]
def ps_next_row : List Str := ["form", "way", "step", "ranges", "rows"]
def d_next_row : Def := ⟨5, 11, b_next_row⟩
def l__law_draws_0 : Sts := (.cons (.ite (.cmp .gt (.var 6) (.num 0)) (.cons (.app 2 (.bin .mod (.b1 .int (.var 6)) (.num 997)))
 (.cons (.set (.nm 6) (.bin .fdiv (.var 6) (.num 997)))
 .nil)) .nil)
 .nil)
def l__law_draws_1 : Sts := (.cons (.set (.nm 5) (.b1 .abs (.b1 .int (.ix (.var 0) (.var 4)))))
 (.cons (.set (.nm 3) (.bin .mod (.b1 .int (.bin .add (.bin .add (.bin .mul (.var 3) (.num 48271)) (.bin .mod (.var 5) (.num 1000003))) (.var 4))) (.num 65537)))
 (.cons (.set (.nm 6) (.num 0))
 (.cons (.ite (.cmp .ge (.var 5) (.bin .pow (.num 10) (.num 18))) (.cons (.set (.nm 6) (.var 5))
 .nil) (.cons (.app 2 (.bin .mod (.b1 .int (.var 5)) (.num 997)))
 (.cons (.app 2 (.bin .mod (.bin .mod (.b1 .int (.bin .add (.bin .mul (.var 3) (.num 69621)) (.num 5))) (.num 65521)) (.num 997)))
 .nil)))
 (.cons (.for_ (.nm 7) (.rng (.num 60)) l__law_draws_0)
 .nil)))))
def l__law_draws_2 : Sts := (.cons (.set (.nm 3) (.bin .mod (.b1 .int (.bin .add (.bin .add (.bin .mul (.var 3) (.num 16807)) (.var 4)) (.num 1))) (.num 65537)))
 (.cons (.app 2 (.bin .mod (.b1 .int (.var 3)) (.num 997)))
 .nil))
def b__law_draws : Sts :=
 (.cons (.own 2 (.lst .nil))
 (.cons (.set (.nm 3) (.num 7))
 (.cons (.for_ (.nm 4) (.rng (.b1 .len (.var 0))) l__law_draws_1)
 (.cons (.for_ (.nm 4) (.rng (.var 1)) l__law_draws_2)
 (.cons (.ret (.sl (.var 2) .non (.var 1)))
 .nil)))))
def N__law_draws : List Str := ["script", "many", "draws", "mixed", "k", "cell", "rest", "turn"]
def ps__law_draws : List Str := ["script", "many"]
def d__law_draws : Def := ⟨2, 8, b__law_draws⟩
def b__law_next : Sts :=
 (.cons (.waug 0 24 .add (.num 1))
 (.cons (.ite (.cmp .gt (.ix (.var 0) (.txt 24)) (.b1 .len (.ix (.var 0) (.txt 25)))) (.cons (.ret (.num 0))
 .nil) .nil)
 (.cons (.ret (.bin .mod (.b1 .int (.ix (.ix (.var 0) (.txt 25)) (.bin .sub (.ix (.var 0) (.txt 24)) (.num 1)))) (.var 1)))
 .nil)))
def N__law_next : List Str := ["w", "many"]
def ps__law_next : List Str := ["w", "many"]
def d__law_next : Def := ⟨2, 2, b__law_next⟩
def b__law_pick : Sts :=
 (.cons (.ret (.ix (.var 1) (.call 62 (.cons (.var 0) (.cons (.b1 .len (.var 1)) .nil)))))
 .nil)
def N__law_pick : List Str := ["w", "rows"]
def ps__law_pick : List Str := ["w", "rows"]
def d__law_pick : Def := ⟨2, 2, b__law_pick⟩
def t__law_same_0 : Tx := (.cmp .ne (.var 2) (.lst .nil))
def t__law_same_1 : Tx := (.cmp .notin (.var 6) (.var 3))
def x__law_same_2 : Ex := (.var 6)
def x__law_same_3 : Ex := (.tup (.cons (.var 6) (.cons (.var 6) .nil)))
def x__law_same_4 : Ex := (.tup (.cons (.ix (.var 3) (.var 6)) (.cons (.ix (.var 4) (.var 6)) .nil)))
def x__law_same_5 : Ex := (.tup (.cons (.ix (.var 5) (.var 6)) (.cons (.var 6) .nil)))
def x__law_same_6 : Ex := (.tup (.cons (.ix (.var 3) (.var 7)) (.cons (.ix (.var 4) (.var 7)) .nil)))
def l__law_same_7 : Sts := (.cons (.pop (.tp [3, 4]) 2)
 (.cons (.ite (.val (.isi .dict (.var 4))) (.cons (.ite (.or2 (.not (.val (.isi .dict (.var 3)))) (.or2 (.cmp .ne (.b1 .len (.var 3)) (.b1 .len (.var 4))) (.one (.cmp .ne (.compIf (.nm 6) (.var 4) t__law_same_1 x__law_same_2) (.lst .nil))))) (.cons (.ret (.tt false))
 .nil) .nil)
 (.cons (.set (.nm 5) (.b1 .dictOf (.comp (.nm 6) (.var 3) x__law_same_3)))
 (.cons (.ext 2 (.bin .add (.comp (.nm 6) (.var 4) x__law_same_4) (.comp (.nm 6) (.var 4) x__law_same_5)))
 .nil))) (.cons (.ite (.or2 (.val (.isi .tuple (.var 4))) (.one (.val (.isi .list (.var 4))))) (.cons (.ite (.or2 (.cmp .ne (.isi .tuple (.var 3)) (.isi .tuple (.var 4))) (.or2 (.cmp .ne (.isi .list (.var 3)) (.isi .list (.var 4))) (.one (.cmp .ne (.b1 .len (.var 3)) (.b1 .len (.var 4)))))) (.cons (.ret (.tt false))
 .nil) .nil)
 (.cons (.ext 2 (.comp (.nm 7) (.rng (.b1 .len (.var 4))) x__law_same_6))
 .nil)) (.cons (.ite (.or2 (.cmp .ne (.isi .bool (.var 3)) (.isi .bool (.var 4))) (.or2 (.cmp .ne (.isi .int (.var 3)) (.isi .int (.var 4))) (.or2 (.cmp .ne (.isi .str (.var 3)) (.isi .str (.var 4))) (.one (.cmp .ne (.var 3) (.var 4)))))) (.cons (.ret (.tt false))
 .nil) .nil)
 .nil))
 .nil))
 .nil))
def b__law_same : Sts :=
 (.cons (.own 2 (.lst (.cons (.tup (.cons (.var 0) (.cons (.var 1) .nil))) .nil)))
 (.cons (.whl t__law_same_0 l__law_same_7)
 (.cons (.ret (.tt true))
 .nil)))
def N__law_same : List Str := ["seen", "due", "waiting", "one", "other", "keys", "key", "k"]
def ps__law_same : List Str := ["seen", "due"]
def d__law_same : Def := ⟨2, 8, b__law_same⟩
def t__law_least_0 : Tx := (.cmp .gt (.var 3) (.num 0))
def l__law_least_1 : Sts := (.cons (.par [(2, false), (3, false)] (.cons (.var 3) (.cons (.bin .mod (.b1 .int (.var 2)) (.var 3)) .nil)))
 .nil)
def b__law_least : Sts :=
 (.cons (.par [(2, false), (3, false)] (.cons (.b1 .abs (.var 0)) (.cons (.b1 .abs (.var 1)) .nil)))
 (.cons (.whl t__law_least_0 l__law_least_1)
 (.cons (.set (.nm 2) (.ite (.cmp .gt (.var 1) (.num 0)) (.var 2) (.bin .sub (.num 0) (.var 2))))
 (.cons (.ret (.tup (.cons (.bin .fdiv (.var 0) (.var 2)) (.cons (.bin .fdiv (.var 1) (.var 2)) .nil))))
 .nil))))
def N__law_least : List Str := ["a", "b", "one", "other"]
def ps__law_least : List Str := ["a", "b"]
def d__law_least : Def := ⟨2, 4, b__law_least⟩
def l__law_sum_0 : Sts := (.cons (.set (.tp [1, 2]) (.call 65 (.cons (.bin .add (.bin .mul (.var 1) (.var 4)) (.bin .mul (.var 3) (.var 2))) (.cons (.bin .mul (.var 2) (.var 4)) .nil))))
 .nil)
def b__law_sum : Sts :=
 (.cons (.par [(1, false), (2, false)] (.cons (.num 0) (.cons (.num 1) .nil)))
 (.cons (.for_ (.tp [3, 4]) (.var 0) l__law_sum_0)
 (.cons (.ret (.tup (.cons (.var 1) (.cons (.var 2) .nil))))
 .nil)))
def N__law_sum : List Str := ["rows", "upper", "lower", "a", "b"]
def ps__law_sum : List Str := ["rows"]
def d__law_sum : Def := ⟨1, 5, b__law_sum⟩
def x__law_fin_0 : Ex := (.tup (.cons (.txt 1) (.cons (.num 0) (.cons (.var 6) (.cons (.var 4) .nil)))))
def x__law_fin_1 : Ex := (.tup (.cons (.txt 1) (.cons (.num 0) (.cons (.var 6) (.cons (.var 2) .nil)))))
def l__law_fin_2 : Sts := (.cons (.set (.nm 1) (.bin .add (.var 1) (.comp (.nm 6) (.rng2 (.bin .shl (.num 1) (.bin .sub (.var 3) (.num 1))) (.bin .shl (.num 1) (.var 3))) x__law_fin_1)))
 .nil)
def b__law_fin : Sts :=
 (.cons (.set (.tp [3, 4, 5]) (.var 0))
 (.cons (.set (.nm 1) (.bin .add (.lst (.cons (.tup (.cons (.txt 0) (.cons (.num 0) .nil))) .nil)) (.comp (.nm 6) (.rng2 (.num 1) (.bin .shl (.num 1) (.var 3))) x__law_fin_0)))
 (.cons (.for_ (.nm 2) (.rng2 (.bin .add (.var 4) (.num 1)) (.bin .add (.var 5) (.num 1))) l__law_fin_2)
 (.cons (.ret (.var 1))
 .nil))))
def N__law_fin : List Str := ["form", "rows", "power", "digits", "first", "last", "own"]
def ps__law_fin : List Str := ["form"]
def d__law_fin : Def := ⟨1, 7, b__law_fin⟩
def b__law_val : Sts :=
 (.cons (.ite (.cmp .eq (.ix (.var 0) (.num 0)) (.txt 0)) (.cons (.ret (.tup (.cons (.num 0) (.cons (.num 1) .nil))))
 .nil) .nil)
 (.cons (.set (.nm 1) (.bin .sub (.num 1) (.bin .mul (.num 2) (.ix (.var 0) (.num 1)))))
 (.cons (.ret (.ite (.cmp .ge (.ix (.var 0) (.num 3)) (.num 0)) (.call 65 (.cons (.bin .shl (.bin .mul (.var 1) (.ix (.var 0) (.num 2))) (.ix (.var 0) (.num 3))) (.cons (.num 1) .nil))) (.call 65 (.cons (.bin .mul (.var 1) (.ix (.var 0) (.num 2))) (.cons (.bin .shl (.num 1) (.bin .sub (.num 0) (.ix (.var 0) (.num 3)))) .nil)))))
 .nil)))
def N__law_val : List Str := ["number", "sign"]
def ps__law_val : List Str := ["number"]
def d__law_val : Def := ⟨1, 2, b__law_val⟩
def b__law_less : Sts :=
 (.cons (.ret (.cmp .lt (.bin .mul (.ix (.var 0) (.num 0)) (.ix (.var 1) (.num 1))) (.bin .mul (.ix (.var 1) (.num 0)) (.ix (.var 0) (.num 1)))))
 .nil)
def N__law_less : List Str := ["one", "other"]
def ps__law_less : List Str := ["one", "other"]
def d__law_less : Def := ⟨2, 2, b__law_less⟩
def x__law_round_0 : Ex := (.call 68 (.cons (.var 19) .nil))
def t__law_round_1 : Tx := (.cmp .le (.bin .mul (.ix (.ix (.var 4) (.var 20)) (.num 0)) (.var 17)) (.bin .mul (.var 16) (.ix (.ix (.var 4) (.var 20)) (.num 1))))
def x__law_round_2 : Ex := (.var 20)
def b__law_round : Sts :=
 (.cons (.ite (.cmp .eq (.ix (.var 2) (.num 0)) (.num 0)) (.cons (.ret (.tup (.cons (.tup (.cons (.txt 0) (.cons (.var 3) .nil))) (.cons (.tup .nil) .nil))))
 .nil) .nil)
 (.cons (.par [(14, false), (15, false)] (.cons (.b1 .int (.cmp .lt (.ix (.var 2) (.num 0)) (.num 0))) (.cons (.call 67 (.cons (.var 0) .nil)) .nil)))
 (.cons (.par [(16, false), (17, false)] (.cons (.b2 .max (.ix (.var 2) (.num 0)) (.bin .sub (.num 0) (.ix (.var 2) (.num 0)))) (.cons (.ix (.var 2) (.num 1)) .nil)))
 (.cons (.own 4 (.comp (.nm 19) (.var 15) x__law_round_0))
 (.cons (.frz 4)
 (.cons (.set (.nm 5) (.b1 .maxL (.compIf (.nm 20) (.rng (.b1 .len (.var 15))) t__law_round_1 x__law_round_2)))
 (.cons (.ite (.cmp .eq (.bin .mul (.ix (.ix (.var 4) (.var 5)) (.num 0)) (.var 17)) (.bin .mul (.var 16) (.ix (.ix (.var 4) (.var 5)) (.num 1)))) (.cons (.set (.nm 13) (.ix (.var 15) (.var 5)))
 (.cons (.ret (.tup (.cons (.bin .add (.bin .add (.sl (.var 13) .non (.num 1)) (.tup (.cons (.var 14) .nil))) (.sl (.var 13) (.num 2) .non)) (.cons (.tup .nil) .nil))))
 .nil)) .nil)
 (.cons (.set (.nm 6) (.bin .add (.ix (.var 0) (.num 0)) (.ix (.var 0) (.num 2))))
 (.cons (.set (.nm 7) (.call 65 (.cons (.bin .shl (.num 1) (.b2 .max (.num 0) (.var 6))) (.cons (.bin .shl (.num 1) (.b2 .max (.num 0) (.bin .sub (.num 0) (.var 6)))) .nil))))
 (.cons (.set (.nm 8) (.ite (.cmp .lt (.bin .add (.var 5) (.num 1)) (.b1 .len (.var 15))) (.ix (.var 4) (.bin .add (.var 5) (.num 1))) (.var 7)))
 (.cons (.set (.nm 9) (.tup (.cons (.bin .mul (.bin .mul (.bin .mul (.num 2) (.var 16)) (.ix (.var 8) (.num 1))) (.ix (.ix (.var 4) (.var 5)) (.num 1))) (.cons (.bin .mul (.var 17) (.bin .add (.bin .mul (.ix (.var 8) (.num 0)) (.ix (.ix (.var 4) (.var 5)) (.num 1))) (.bin .mul (.ix (.ix (.var 4) (.var 5)) (.num 0)) (.ix (.var 8) (.num 1))))) .nil))))
 (.cons (.set (.nm 10) (.orv (.cmp .eq (.ix (.ix (.var 15) (.var 5)) (.num 0)) (.txt 0)) (.one (.cmp .eq (.bin .mod (.b1 .int (.ix (.ix (.var 15) (.var 5)) (.num 2))) (.num 2)) (.num 0)))))
 (.cons (.ite (.cmp .isin (.var 1) (.tup (.cons (.txt 9) (.cons (.txt 5) .nil)))) (.cons (.set (.nm 18) (.orv (.cmp .gt (.ix (.var 9) (.num 0)) (.ix (.var 9) (.num 1))) (.one (.andv (.cmp .eq (.ix (.var 9) (.num 0)) (.ix (.var 9) (.num 1))) (.one (.orv (.cmp .eq (.var 1) (.txt 5)) (.one (.notv (.var 10)))))))))
 .nil) (.cons (.set (.nm 18) (.orv (.andv (.cmp .eq (.var 1) (.txt 3)) (.one (.cmp .eq (.var 14) (.num 0)))) (.one (.andv (.cmp .eq (.var 1) (.txt 4)) (.one (.cmp .eq (.var 14) (.num 1)))))))
 .nil))
 (.cons (.set (.nm 11) (.call 68 (.cons (.tup (.cons (.txt 1) (.cons (.num 0) (.cons (.bin .shl (.num 1) (.bin .sub (.ix (.var 0) (.num 0)) (.num 1))) (.cons (.ix (.var 0) (.num 1)) .nil))))) .nil)))
 (.cons (.set (.nm 12) (.ite (.cmp .lt (.bin .mul (.var 16) (.ix (.var 11) (.num 1))) (.bin .mul (.ix (.var 11) (.num 0)) (.var 17))) (.tup (.cons (.txt 7) (.cons (.txt 8) .nil))) (.tup (.cons (.txt 7) .nil))))
 (.cons (.ite (.and2 (.cmp .eq (.bin .add (.var 5) (.num 1)) (.b1 .len (.var 15))) (.one (.or2 (.val (.var 18)) (.one (.cmp .ge (.bin .mul (.var 16) (.ix (.var 7) (.num 1))) (.bin .mul (.ix (.var 7) (.num 0)) (.var 17))))))) (.cons (.ret (.tup (.cons (.ite (.or2 (.val (.var 18)) (.one (.cmp .isin (.var 1) (.tup (.cons (.txt 9) (.cons (.txt 5) .nil)))))) (.tup (.cons (.txt 10) (.cons (.var 14) .nil))) (.bin .add (.bin .add (.sl (.ix (.var 15) (.var 5)) .non (.num 1)) (.tup (.cons (.var 14) .nil))) (.sl (.ix (.var 15) (.var 5)) (.num 2) .non))) (.cons (.tup (.cons (.txt 7) (.cons (.txt 6) .nil))) .nil))))
 .nil) .nil)
 (.cons (.set (.nm 13) (.ite (.val (.var 18)) (.ix (.var 15) (.bin .add (.var 5) (.num 1))) (.ix (.var 15) (.var 5))))
 (.cons (.ret (.tup (.cons (.bin .add (.bin .add (.sl (.var 13) .non (.num 1)) (.tup (.cons (.var 14) .nil))) (.sl (.var 13) (.num 2) .non)) (.cons (.var 12) .nil))))
 .nil))))))))))))))))))
def N__law_round : List Str := ["form", "way", "one", "sign", "values", "low", "top", "beyond_v", "above", "first", "even", "small", "marks", "found", "own", "rows", "a", "b", "up", "number", "k"]
def ps__law_round : List Str := ["form", "way", "one", "sign"]
def d__law_round : Def := ⟨4, 21, b__law_round⟩
def b__law_mul : Sts :=
 (.cons (.ret (.call 65 (.cons (.bin .mul (.ix (.var 0) (.num 0)) (.ix (.var 1) (.num 0))) (.cons (.bin .mul (.ix (.var 0) (.num 1)) (.ix (.var 1) (.num 1))) .nil))))
 .nil)
def N__law_mul : List Str := ["one", "other"]
def ps__law_mul : List Str := ["one", "other"]
def d__law_mul : Def := ⟨2, 2, b__law_mul⟩
def b__law_off : Sts :=
 (.cons (.ret (.tup (.cons (.bin .sub (.num 0) (.ix (.var 0) (.num 0))) (.cons (.ix (.var 0) (.num 1)) .nil))))
 .nil)
def N__law_off : List Str := ["one"]
def ps__law_off : List Str := ["one"]
def d__law_off : Def := ⟨1, 1, b__law_off⟩
def b__law_size : Sts :=
 (.cons (.ret (.tup (.cons (.b2 .max (.ix (.var 0) (.num 0)) (.bin .sub (.num 0) (.ix (.var 0) (.num 0)))) (.cons (.ix (.var 0) (.num 1)) .nil))))
 .nil)
def N__law_size : List Str := ["one"]
def ps__law_size : List Str := ["one"]
def d__law_size : Def := ⟨1, 1, b__law_size⟩
def b__law_more : Sts :=
 (.cons (.ret (.ite (.val (.call 69 (.cons (.var 0) (.cons (.var 1) .nil)))) (.var 1) (.var 0)))
 .nil)
def N__law_more : List Str := ["one", "other"]
def ps__law_more : List Str := ["one", "other"]
def d__law_more : Def := ⟨2, 2, b__law_more⟩
def b__law_fewer : Sts :=
 (.cons (.ret (.ite (.val (.call 69 (.cons (.var 1) (.cons (.var 0) .nil)))) (.var 1) (.var 0)))
 .nil)
def N__law_fewer : List Str := ["one", "other"]
def ps__law_fewer : List Str := ["one", "other"]
def d__law_fewer : Def := ⟨2, 2, b__law_fewer⟩
def b__law_two : Sts :=
 (.cons (.ret (.ite (.cmp .ge (.var 0) (.num 0)) (.tup (.cons (.bin .shl (.num 1) (.var 0)) (.cons (.num 1) .nil))) (.tup (.cons (.num 1) (.cons (.bin .shl (.num 1) (.bin .sub (.num 0) (.var 0))) .nil)))))
 .nil)
def N__law_two : List Str := ["by"]
def ps__law_two : List Str := ["by"]
def d__law_two : Def := ⟨1, 1, b__law_two⟩
def b__law_big : Sts :=
 (.cons (.ret (.call 74 (.cons (.call 73 (.cons (.ix (.var 0) (.num 0)) .nil)) (.cons (.call 73 (.cons (.ix (.var 0) (.num 1)) .nil)) .nil))))
 .nil)
def N__law_big : List Str := ["span"]
def ps__law_big : List Str := ["span"]
def d__law_big : Def := ⟨1, 1, b__law_big⟩
def b__law_small : Sts :=
 (.cons (.ite (.chain .le .le (.ix (.ix (.var 0) (.num 0)) (.num 0)) (.num 0) (.ix (.ix (.var 0) (.num 1)) (.num 0))) (.cons (.ret (.tup (.cons (.num 0) (.cons (.num 1) .nil))))
 .nil) .nil)
 (.cons (.ret (.call 75 (.cons (.call 73 (.cons (.ix (.var 0) (.num 0)) .nil)) (.cons (.call 73 (.cons (.ix (.var 0) (.num 1)) .nil)) .nil))))
 .nil))
def N__law_small : List Str := ["span"]
def ps__law_small : List Str := ["span"]
def d__law_small : Def := ⟨1, 1, b__law_small⟩
def t__law_unit_0 : Tx := (.not (.val (.call 69 (.cons (.var 1) (.cons (.call 76 (.cons (.bin .add (.ix (.var 0) (.num 0)) (.var 2)) .nil)) .nil)))))
def l__law_unit_1 : Sts := (.cons (.aug 2 .add (.num 1))
 .nil)
def b__law_unit : Sts :=
 (.cons (.set (.nm 2) (.ix (.var 0) (.num 1)))
 (.cons (.whl t__law_unit_0 l__law_unit_1)
 (.cons (.ret (.var 2))
 .nil)))
def N__law_unit : List Str := ["form", "most", "power"]
def ps__law_unit : List Str := ["form", "most"]
def d__law_unit : Def := ⟨2, 3, b__law_unit⟩
def b__law_bound : Sts :=
 (.cons (.ret (.call 76 (.cons (.bin .sub (.call 79 (.cons (.var 0) (.cons (.var 2) .nil))) (.ite (.cmp .isin (.var 1) (.tup (.cons (.txt 9) (.cons (.txt 5) .nil)))) (.num 1) (.num 0))) .nil)))
 .nil)
def N__law_bound : List Str := ["form", "way", "most"]
def ps__law_bound : List Str := ["form", "way", "most"]
def d__law_bound : Def := ⟨3, 3, b__law_bound⟩
def b__law_reached : Sts :=
 (.cons (.ret (.notv (.call 69 (.cons (.call 71 (.cons (.tup (.cons (.bin .sub (.bin .shl (.num 1) (.ix (.var 0) (.num 0))) (.num 1)) (.cons (.num 1) .nil))) (.cons (.call 76 (.cons (.ix (.var 0) (.num 2)) .nil)) .nil))) (.cons (.var 1) .nil)))))
 .nil)
def N__law_reached : List Str := ["form", "most"]
def ps__law_reached : List Str := ["form", "most"]
def d__law_reached : Def := ⟨2, 2, b__law_reached⟩
def l__law_corners_0 : Sts := (.cons (.par [(2, false), (3, false)] (.cons (.call 75 (.cons (.var 2) (.cons (.var 1) .nil))) (.cons (.call 74 (.cons (.var 3) (.cons (.var 1) .nil))) .nil)))
 .nil)
def b__law_corners : Sts :=
 (.cons (.par [(2, false), (3, false)] (.cons (.ix (.var 0) (.num 0)) (.cons (.ix (.var 0) (.num 0)) .nil)))
 (.cons (.for_ (.nm 1) (.sl (.var 0) (.num 1) .non) l__law_corners_0)
 (.cons (.ret (.tup (.cons (.var 2) (.cons (.var 3) .nil))))
 .nil)))
def N__law_corners : List Str := ["rows", "own", "low", "high"]
def ps__law_corners : List Str := ["rows"]
def d__law_corners : Def := ⟨1, 4, b__law_corners⟩
def b__law_under : Sts :=
 (.cons (.ret (.call 65 (.cons (.bin .mul (.ix (.var 0) (.num 0)) (.ix (.var 1) (.num 1))) (.cons (.bin .mul (.ix (.var 0) (.num 1)) (.ix (.var 1) (.num 0))) .nil))))
 .nil)
def N__law_under : List Str := ["one", "other"]
def ps__law_under : List Str := ["one", "other"]
def d__law_under : Def := ⟨2, 2, b__law_under⟩
def x__law_spanned_0 : Ex := (.call 83 (.cons (.ix (.var 3) (.bin .fdiv (.var 6) (.num 2))) (.cons (.ix (.var 4) (.bin .mod (.b1 .int (.var 6)) (.num 2))) .nil)))
def x__law_spanned_1 : Ex := (.call 71 (.cons (.ix (.var 3) (.bin .fdiv (.var 6) (.num 2))) (.cons (.ix (.var 4) (.bin .mod (.b1 .int (.var 6)) (.num 2))) .nil)))
def b__law_spanned : Sts :=
 (.cons (.par [(3, false), (4, false)] (.cons (.ix (.var 1) (.num 0)) (.cons (.ite (.cmp .ne (.var 0) (.txt 15)) (.ix (.var 1) (.neg (.num 1))) (.ix (.var 1) (.num 1))) .nil)))
 (.cons (.ite (.cmp .eq (.var 0) (.txt 13)) (.cons (.ret (.tup (.cons (.call 72 (.cons (.ix (.var 3) (.num 1)) .nil)) (.cons (.call 72 (.cons (.ix (.var 3) (.num 0)) .nil)) .nil))))
 .nil) .nil)
 (.cons (.ite (.cmp .eq (.var 0) (.txt 14)) (.cons (.ret (.tup (.cons (.call 78 (.cons (.var 3) .nil)) (.cons (.call 77 (.cons (.var 3) .nil)) .nil))))
 .nil) .nil)
 (.cons (.ite (.cmp .isin (.var 0) (.tup (.cons (.txt 16) (.cons (.txt 17) .nil)))) (.cons (.set (.nm 5) (.ite (.cmp .eq (.var 0) (.txt 16)) (.var 4) (.tup (.cons (.call 72 (.cons (.ix (.var 4) (.num 1)) .nil)) (.cons (.call 72 (.cons (.ix (.var 4) (.num 0)) .nil)) .nil)))))
 (.cons (.ret (.tup (.cons (.call 66 (.cons (.lst (.cons (.ix (.var 3) (.num 0)) (.cons (.ix (.var 5) (.num 0)) .nil))) .nil)) (.cons (.call 66 (.cons (.lst (.cons (.ix (.var 3) (.num 1)) (.cons (.ix (.var 5) (.num 1)) .nil))) .nil)) .nil))))
 .nil)) .nil)
 (.cons (.ite (.cmp .eq (.var 0) (.txt 20)) (.cons (.ret (.tup (.cons (.call 75 (.cons (.ix (.var 3) (.num 0)) (.cons (.ix (.var 4) (.num 0)) .nil))) (.cons (.call 75 (.cons (.ix (.var 3) (.num 1)) (.cons (.ix (.var 4) (.num 1)) .nil))) .nil))))
 .nil) .nil)
 (.cons (.ite (.cmp .eq (.var 0) (.txt 21)) (.cons (.ret (.tup (.cons (.call 74 (.cons (.ix (.var 3) (.num 0)) (.cons (.ix (.var 4) (.num 0)) .nil))) (.cons (.call 74 (.cons (.ix (.var 3) (.num 1)) (.cons (.ix (.var 4) (.num 1)) .nil))) .nil))))
 .nil) .nil)
 (.cons (.ite (.cmp .eq (.var 0) (.txt 19)) (.cons (.ite (.chain .le .le (.ix (.ix (.var 4) (.num 0)) (.num 0)) (.num 0) (.ix (.ix (.var 4) (.num 1)) (.num 0))) (.cons (.ret .non)
 .nil) .nil)
 (.cons (.ret (.call 82 (.cons (.comp (.nm 6) (.rng (.num 4)) x__law_spanned_0) .nil)))
 .nil)) .nil)
 (.cons (.set (.nm 2) (.call 82 (.cons (.comp (.nm 6) (.rng (.num 4)) x__law_spanned_1) .nil)))
 (.cons (.ite (.cmp .eq (.var 0) (.txt 18)) (.cons (.ret (.var 2))
 .nil) .nil)
 (.cons (.ret (.tup (.cons (.call 66 (.cons (.lst (.cons (.ix (.var 2) (.num 0)) (.cons (.ix (.ix (.var 1) (.num 2)) (.num 0)) .nil))) .nil)) (.cons (.call 66 (.cons (.lst (.cons (.ix (.var 2) (.num 1)) (.cons (.ix (.ix (.var 1) (.num 2)) (.num 1)) .nil))) .nil)) .nil))))
 .nil))))))))))
def N__law_spanned : List Str := ["kind", "rows", "found", "one", "other", "more", "k"]
def ps__law_spanned : List Str := ["kind", "rows"]
def d__law_spanned : Def := ⟨2, 7, b__law_spanned⟩
def b__law_passed : Sts :=
 (.cons (.ite (.cmp .isin (.var 0) (.tup (.cons (.txt 16) (.cons (.txt 17) .nil)))) (.cons (.ret (.call 66 (.cons (.lst (.cons (.ix (.ix (.var 1) (.num 0)) (.num 1)) (.cons (.ix (.ix (.var 1) (.num 1)) (.num 1)) .nil))) .nil)))
 .nil) .nil)
 (.cons (.ite (.cmp .eq (.var 0) (.txt 19)) (.cons (.set (.nm 4) (.call 66 (.cons (.lst (.cons (.call 78 (.cons (.ix (.ix (.var 1) (.num 1)) (.num 0)) .nil)) (.cons (.call 72 (.cons (.ix (.ix (.var 1) (.num 1)) (.num 1)) .nil)) .nil))) .nil)))
 (.cons (.ret (.ite (.cmp .gt (.ix (.var 4) (.num 0)) (.num 0)) (.call 83 (.cons (.call 66 (.cons (.lst (.cons (.ix (.ix (.var 1) (.num 0)) (.num 1)) (.cons (.call 71 (.cons (.call 77 (.cons (.var 2) .nil)) (.cons (.ix (.ix (.var 1) (.num 1)) (.num 1)) .nil))) .nil))) .nil)) (.cons (.var 4) .nil))) .non))
 .nil)) .nil)
 (.cons (.set (.nm 3) (.lst (.cons (.call 71 (.cons (.call 77 (.cons (.ix (.ix (.var 1) (.num 0)) (.num 0)) .nil)) (.cons (.ix (.ix (.var 1) (.num 1)) (.num 1)) .nil))) (.cons (.call 71 (.cons (.call 77 (.cons (.ix (.ix (.var 1) (.num 1)) (.num 0)) .nil)) (.cons (.ix (.ix (.var 1) (.num 0)) (.num 1)) .nil))) (.cons (.call 71 (.cons (.ix (.ix (.var 1) (.num 0)) (.num 1)) (.cons (.ix (.ix (.var 1) (.num 1)) (.num 1)) .nil))) .nil)))))
 (.cons (.ret (.call 66 (.cons (.bin .add (.var 3) (.ite (.cmp .eq (.var 0) (.txt 15)) (.lst (.cons (.ix (.ix (.var 1) (.num 2)) (.num 1)) .nil)) (.lst .nil))) .nil)))
 .nil))))
def N__law_passed : List Str := ["kind", "rows", "span", "found", "least"]
def ps__law_passed : List Str := ["kind", "rows", "span"]
def d__law_passed : Def := ⟨3, 5, b__law_passed⟩
def x__law_raw_0 : Ex := (.ix (.var 3) (.num 2))
def b__law_raw : Sts :=
 (.cons (.own 2 (.comp (.nm 3) (.var 1) x__law_raw_0))
 (.cons (.frz 2)
 (.cons (.ite (.cmp .isin (.var 0) (.tup (.cons (.txt 16) (.cons (.txt 17) .nil)))) (.cons (.ret (.b1 .minL (.var 2)))
 .nil) .nil)
 (.cons (.ite (.cmp .eq (.var 0) (.txt 19)) (.cons (.ret .non)
 .nil) .nil)
 (.cons (.ret (.ite (.cmp .eq (.var 0) (.txt 18)) (.bin .add (.ix (.var 2) (.num 0)) (.ix (.var 2) (.num 1))) (.b2 .min (.bin .add (.ix (.var 2) (.num 0)) (.ix (.var 2) (.num 1))) (.ix (.var 2) (.num 2)))))
 .nil)))))
def N__law_raw : List Str := ["kind", "rows", "grids", "row"]
def ps__law_raw : List Str := ["kind", "rows"]
def d__law_raw : Def := ⟨2, 4, b__law_raw⟩
def b__law_wide : Sts :=
 (.cons (.ret (.tup (.cons (.call 66 (.cons (.lst (.cons (.ix (.ix (.var 0) (.num 0)) (.num 0)) (.cons (.call 72 (.cons (.ix (.var 0) (.num 1)) .nil)) .nil))) .nil)) (.cons (.call 66 (.cons (.lst (.cons (.ix (.ix (.var 0) (.num 0)) (.num 1)) (.cons (.ix (.var 0) (.num 1)) .nil))) .nil)) .nil))))
 .nil)
def N__law_wide : List Str := ["row"]
def ps__law_wide : List Str := ["row"]
def d__law_wide : Def := ⟨1, 1, b__law_wide⟩
def b__law_near : Sts :=
 (.cons (.ite (.or2 (.chain .le .le (.ix (.ix (.var 0) (.num 0)) (.num 0)) (.num 0) (.ix (.ix (.var 0) (.num 1)) (.num 0))) (.or2 (.chain .le .le (.ix (.ix (.var 1) (.num 0)) (.num 0)) (.num 0) (.ix (.ix (.var 1) (.num 1)) (.num 0))) (.one (.cmp .ne (.cmp .gt (.ix (.ix (.var 0) (.num 0)) (.num 0)) (.num 0)) (.cmp .gt (.ix (.ix (.var 1) (.num 0)) (.num 0)) (.num 0)))))) (.cons (.ret (.tt false))
 .nil) .nil)
 (.cons (.par [(2, false), (3, false)] (.cons (.call 71 (.cons (.tup (.cons (.num 2) (.cons (.num 1) .nil))) (.cons (.call 78 (.cons (.var 1) .nil)) .nil))) (.cons (.call 71 (.cons (.tup (.cons (.num 2) (.cons (.num 1) .nil))) (.cons (.call 78 (.cons (.var 0) .nil)) .nil))) .nil)))
 (.cons (.ret (.andv (.notv (.call 69 (.cons (.var 2) (.cons (.call 77 (.cons (.var 0) .nil)) .nil)))) (.one (.notv (.call 69 (.cons (.var 3) (.cons (.call 77 (.cons (.var 1) .nil)) .nil)))))))
 .nil)))
def N__law_near : List Str := ["one", "other", "first", "second"]
def ps__law_near : List Str := ["one", "other"]
def d__law_near : Def := ⟨2, 4, b__law_near⟩
def b__law_kept : Sts :=
 (.cons (.set (.nm 4) (.call 86 (.cons (.var 1) (.cons (.var 2) .nil))))
 (.cons (.ite (.and2 (.cmp .notN (.var 4) .non) (.and2 (.cmp .ge (.var 4) (.ix (.var 0) (.num 1))) (.one (.not (.val (.call 69 (.cons (.call 76 (.cons (.bin .add (.ix (.var 0) (.num 0)) (.var 4)) .nil)) (.cons (.var 3) .nil)))))))) (.cons (.ret (.tt true))
 .nil) .nil)
 (.cons (.ite (.cmp .notin (.var 1) (.tup (.cons (.txt 16) (.cons (.txt 17) .nil)))) (.cons (.ret (.tt false))
 .nil) .nil)
 (.cons (.par [(5, false), (6, false)] (.cons (.call 87 (.cons (.ix (.var 2) (.num 0)) .nil)) (.cons (.call 87 (.cons (.ix (.var 2) (.num 1)) .nil)) .nil)))
 (.cons (.ret (.call 88 (.cons (.var 5) (.cons (.ite (.cmp .eq (.var 1) (.txt 17)) (.var 6) (.tup (.cons (.call 72 (.cons (.ix (.var 6) (.num 1)) .nil)) (.cons (.call 72 (.cons (.ix (.var 6) (.num 0)) .nil)) .nil)))) .nil))))
 .nil)))))
def N__law_kept : List Str := ["form", "kind", "rows", "reach", "grid", "one", "other"]
def ps__law_kept : List Str := ["form", "kind", "rows", "reach"]
def d__law_kept : Def := ⟨4, 7, b__law_kept⟩
def x__law_operation_0 : Ex := (.ix (.var 9) (.num 0))
def b__law_operation : Sts :=
 (.cons (.set (.nm 4) (.call 84 (.cons (.var 2) (.cons (.comp (.nm 9) (.var 3) x__law_operation_0) .nil))))
 (.cons (.ite (.cmp .isN (.var 4) .non) (.cons (.ret .non)
 .nil) .nil)
 (.cons (.ite (.cmp .isin (.var 2) (.tup (.cons (.txt 13) (.cons (.txt 14) .nil)))) (.cons (.ret (.tup (.cons (.var 4) (.cons (.ix (.ix (.var 3) (.num 0)) (.num 1)) (.cons (.ix (.ix (.var 3) (.num 0)) (.num 2)) .nil)))))
 .nil) .nil)
 (.cons (.ite (.cmp .isin (.var 2) (.tup (.cons (.txt 20) (.cons (.txt 21) .nil)))) (.cons (.ret (.tup (.cons (.var 4) (.cons (.call 74 (.cons (.ix (.ix (.var 3) (.num 0)) (.num 1)) (.cons (.ix (.ix (.var 3) (.num 1)) (.num 1)) .nil))) (.cons (.b2 .min (.ix (.ix (.var 3) (.num 0)) (.num 2)) (.ix (.ix (.var 3) (.num 1)) (.num 2))) .nil)))))
 .nil) .nil)
 (.cons (.set (.nm 5) (.call 85 (.cons (.var 2) (.cons (.var 3) (.cons (.var 4) .nil)))))
 (.cons (.ite (.cmp .isN (.var 5) .non) (.cons (.ret .non)
 .nil) .nil)
 (.cons (.par [(7, false), (8, false)] (.cons (.call 66 (.cons (.lst (.cons (.call 77 (.cons (.var 4) .nil)) (.cons (.var 5) .nil))) .nil)) (.cons (.call 86 (.cons (.var 2) (.cons (.var 3) .nil))) .nil)))
 (.cons (.ite (.not (.val (.call 81 (.cons (.var 0) (.cons (.var 7) .nil))))) (.cons (.ret .non)
 .nil) .nil)
 (.cons (.set (.nm 6) (.ite (.val (.call 89 (.cons (.var 0) (.cons (.var 2) (.cons (.var 3) (.cons (.var 7) .nil)))))) (.tup (.cons (.num 0) (.cons (.num 1) .nil))) (.call 80 (.cons (.var 0) (.cons (.var 1) (.cons (.var 7) .nil))))))
 (.cons (.ret (.tup (.cons (.var 4) (.cons (.call 66 (.cons (.lst (.cons (.var 5) (.cons (.var 6) .nil))) .nil)) (.cons (.ite (.cmp .isN (.var 8) .non) (.ix (.var 0) (.num 1)) (.b2 .max (.ix (.var 0) (.num 1)) (.var 8))) .nil)))))
 .nil))))))))))
def N__law_operation : List Str := ["form", "way", "kind", "rows", "span", "passed", "lost", "reach", "grid", "row"]
def ps__law_operation : List Str := ["form", "way", "kind", "rows"]
def d__law_operation : Def := ⟨4, 10, b__law_operation⟩
def b__law_sure : Sts :=
 (.cons (.ite (.or2 (.val (.call 69 (.cons (.ix (.var 1) (.num 1)) (.cons (.ix (.var 2) (.num 0)) .nil)))) (.one (.and2 (.cmp .eq (.var 0) (.txt 11)) (.one (.cmp .eq (.ix (.var 1) (.num 1)) (.ix (.var 2) (.num 0))))))) (.cons (.ret (.tt true))
 .nil) .nil)
 (.cons (.ite (.or2 (.val (.call 69 (.cons (.ix (.var 2) (.num 1)) (.cons (.ix (.var 1) (.num 0)) .nil)))) (.one (.and2 (.cmp .eq (.var 0) (.txt 12)) (.one (.cmp .eq (.ix (.var 2) (.num 1)) (.ix (.var 1) (.num 0))))))) (.cons (.ret (.tt false))
 .nil) .nil)
 (.cons (.ret .non)
 .nil)))
def N__law_sure : List Str := ["sign", "one", "other"]
def ps__law_sure : List Str := ["sign", "one", "other"]
def d__law_sure : Def := ⟨3, 3, b__law_sure⟩
def b__law_turns : Sts :=
 (.cons (.ret (.andv (.orv (.cmp .gt (.ix (.ix (.var 1) (.num 1)) (.num 0)) (.num 0)) (.one (.cmp .gt (.ix (.ix (.var 2) (.num 1)) (.num 0)) (.num 0)))) (.one (.cmp .isN (.call 91 (.cons (.var 0) (.cons (.call 87 (.cons (.var 1) .nil)) (.cons (.call 87 (.cons (.var 2) .nil)) .nil)))) .non))))
 .nil)
def N__law_turns : List Str := ["sign", "one", "other"]
def ps__law_turns : List Str := ["sign", "one", "other"]
def d__law_turns : Def := ⟨3, 3, b__law_turns⟩
def b__law_choice : Sts :=
 (.cons (.set (.nm 5) (.call 91 (.cons (.var 0) (.cons (.call 87 (.cons (.var 1) .nil)) (.cons (.call 87 (.cons (.var 2) .nil)) .nil)))))
 (.cons (.ite (.cmp .notN (.var 5) .non) (.cons (.ret (.ite (.val (.var 5)) (.var 3) (.var 4)))
 .nil) .nil)
 (.cons (.set (.nm 6) (.call 74 (.cons (.ix (.var 3) (.num 1)) (.cons (.ix (.var 4) (.num 1)) .nil))))
 (.cons (.ite (.val (.call 92 (.cons (.var 0) (.cons (.var 1) (.cons (.var 2) .nil))))) (.cons (.set (.nm 6) (.call 66 (.cons (.lst (.cons (.var 6) (.cons (.call 77 (.cons (.call 84 (.cons (.txt 17) (.cons (.lst (.cons (.ix (.var 3) (.num 0)) (.cons (.ix (.var 4) (.num 0)) .nil))) .nil))) .nil)) .nil))) .nil)))
 .nil) .nil)
 (.cons (.ret (.tup (.cons (.tup (.cons (.call 75 (.cons (.ix (.ix (.var 3) (.num 0)) (.num 0)) (.cons (.ix (.ix (.var 4) (.num 0)) (.num 0)) .nil))) (.cons (.call 74 (.cons (.ix (.ix (.var 3) (.num 0)) (.num 1)) (.cons (.ix (.ix (.var 4) (.num 0)) (.num 1)) .nil))) .nil))) (.cons (.var 6) (.cons (.b2 .min (.ix (.var 3) (.num 2)) (.ix (.var 4) (.num 2))) .nil)))))
 .nil)))))
def N__law_choice : List Str := ["sign", "one", "other", "yes", "no", "sure", "error"]
def ps__law_choice : List Str := ["sign", "one", "other", "yes", "no"]
def d__law_choice : Def := ⟨5, 7, b__law_choice⟩
def t__law_grid_0 : Tx := (.cmp .eq (.bin .mod (.b1 .int (.var 2)) (.num 2)) (.num 0))
def l__law_grid_1 : Sts := (.cons (.par [(2, false), (3, false)] (.cons (.bin .fdiv (.var 2) (.num 2)) (.cons (.bin .add (.var 3) (.num 1)) .nil)))
 .nil)
def b__law_grid : Sts :=
 (.cons (.ite (.cmp .eq (.ix (.var 1) (.num 0)) (.txt 0)) (.cons (.ret (.ix (.var 0) (.num 2)))
 .nil) .nil)
 (.cons (.par [(2, false), (3, false)] (.cons (.ix (.var 1) (.num 2)) (.cons (.ix (.var 1) (.num 3)) .nil)))
 (.cons (.whl t__law_grid_0 l__law_grid_1)
 (.cons (.ret (.var 3))
 .nil))))
def N__law_grid : List Str := ["form", "number", "whole", "power"]
def ps__law_grid : List Str := ["form", "number"]
def d__law_grid : Def := ⟨2, 4, b__law_grid⟩
def b__law_constant : Sts :=
 (.cons (.set (.nm 3) (.ix (.call 70 (.cons (.var 0) (.cons (.var 1) (.cons (.var 2) (.cons (.num 0) .nil))))) (.num 0)))
 (.cons (.ite (.cmp .notin (.ix (.var 3) (.num 0)) (.tup (.cons (.txt 1) (.cons (.txt 0) .nil)))) (.cons (.ret .non)
 .nil) .nil)
 (.cons (.ret (.tup (.cons (.tup (.cons (.var 2) (.cons (.var 2) .nil))) (.cons (.call 73 (.cons (.call 66 (.cons (.lst (.cons (.call 68 (.cons (.var 3) .nil)) (.cons (.call 72 (.cons (.var 2) .nil)) .nil))) .nil)) .nil)) (.cons (.call 94 (.cons (.var 0) (.cons (.var 3) .nil))) .nil)))))
 .nil)))
def N__law_constant : List Str := ["form", "way", "one", "number"]
def ps__law_constant : List Str := ["form", "way", "one"]
def d__law_constant : Def := ⟨3, 4, b__law_constant⟩
def b__law_weaker : Sts :=
 (.cons (.ret (.andv (.notv (.call 69 (.cons (.ix (.ix (.var 1) (.num 0)) (.num 0)) (.cons (.ix (.ix (.var 0) (.num 0)) (.num 0)) .nil)))) (.andv (.notv (.call 69 (.cons (.ix (.ix (.var 0) (.num 0)) (.num 1)) (.cons (.ix (.ix (.var 1) (.num 0)) (.num 1)) .nil)))) (.andv (.notv (.call 69 (.cons (.ix (.var 0) (.num 1)) (.cons (.ix (.var 1) (.num 1)) .nil)))) (.one (.cmp .le (.ix (.var 0) (.num 2)) (.ix (.var 1) (.num 2))))))))
 .nil)
def N__law_weaker : List Str := ["one", "other"]
def ps__law_weaker : List Str := ["one", "other"]
def d__law_weaker : Def := ⟨2, 2, b__law_weaker⟩
def b__law_own_row : Sts :=
 (.cons (.set (.nm 2) (.call 65 (.cons (.bin .sub (.call 62 (.cons (.var 0) (.cons (.num 13) .nil))) (.num 6)) (.cons (.call 63 (.cons (.var 0) (.cons (.lst (.cons (.num 1) (.cons (.num 1) (.cons (.num 2) (.cons (.num 4) .nil))))) .nil))) .nil))))
 (.cons (.set (.nm 3) (.call 66 (.cons (.lst (.cons (.var 2) (.cons (.call 65 (.cons (.call 62 (.cons (.var 0) (.cons (.num 7) .nil))) (.cons (.call 63 (.cons (.var 0) (.cons (.lst (.cons (.num 1) (.cons (.num 2) (.cons (.num 4) .nil)))) .nil))) .nil))) .nil))) .nil)))
 (.cons (.ret (.tup (.cons (.tup (.cons (.var 2) (.cons (.var 3) .nil))) (.cons (.call 63 (.cons (.var 0) (.cons (.lst (.cons (.tup (.cons (.num 0) (.cons (.num 1) .nil))) (.cons (.tup (.cons (.num 0) (.cons (.num 1) .nil))) (.cons (.tup (.cons (.num 1) (.cons (.num 8) .nil))) (.cons (.tup (.cons (.num 1) (.cons (.num 2) .nil))) (.cons (.tup (.cons (.num 1) (.cons (.num 1) .nil))) .nil)))))) .nil))) (.cons (.bin .sub (.bin .add (.ix (.var 1) (.num 1)) (.call 62 (.cons (.var 0) (.cons (.num 5) .nil)))) (.num 1)) .nil)))))
 .nil)))
def N__law_own_row : List Str := ["w", "form", "low", "high"]
def ps__law_own_row : List Str := ["w", "form"]
def d__law_own_row : Def := ⟨2, 4, b__law_own_row⟩
def x__law_kind_right_0 : Ex := (.ix (.var 10) (.num 0))
def b__law_kind_right : Sts :=
 (.cons (.set (.nm 4) (.ite (.cmp .isin (.var 2) (.tup (.cons (.txt 13) (.cons (.txt 14) .nil)))) (.num 1) (.ite (.cmp .eq (.var 2) (.txt 15)) (.num 3) (.num 2))))
 (.cons (.set (.nm 5) (.sl (.var 3) .non (.var 4)))
 (.cons (.set (.nm 6) (.call 90 (.cons (.var 0) (.cons (.var 1) (.cons (.var 2) (.cons (.var 5) .nil))))))
 (.cons (.ite (.not (.val (.call 64 (.cons (.call 56 (.cons (.var 0) (.cons (.var 1) (.cons (.var 2) (.cons (.b1 .lstOf (.var 5)) .nil))))) (.cons (.var 6) .nil))))) (.cons (.ret (.tt false))
 .nil) .nil)
 (.cons (.ite (.not (.val (.call 64 (.cons (.call 60 (.cons (.var 0) (.cons (.var 1) (.cons (.bin .add (.tup (.cons (.var 2) .nil)) (.tupR (.var 4))) (.cons (.dic .nil .nil) (.cons (.b1 .tupOf (.var 3)) .nil)))))) (.cons (.var 6) .nil))))) (.cons (.ret (.tt false))
 .nil) .nil)
 (.cons (.set (.nm 7) (.call 84 (.cons (.var 2) (.cons (.comp (.nm 10) (.var 5) x__law_kind_right_0) .nil))))
 (.cons (.ite (.or2 (.cmp .isN (.var 7) .non) (.or2 (.cmp .eq (.var 4) (.num 1)) (.one (.cmp .isin (.var 2) (.tup (.cons (.txt 20) (.cons (.txt 21) .nil))))))) (.cons (.ret (.tt true))
 .nil) .nil)
 (.cons (.set (.nm 8) (.call 85 (.cons (.var 2) (.cons (.var 5) (.cons (.var 7) .nil)))))
 (.cons (.ite (.not (.val (.call 64 (.cons (.call 51 (.cons (.var 2) (.cons (.b1 .lstOf (.var 5)) (.cons (.var 7) .nil)))) (.cons (.var 8) .nil))))) (.cons (.ret (.tt false))
 .nil) .nil)
 (.cons (.set (.nm 9) (.ite (.cmp .notN (.var 8) .non) (.call 66 (.cons (.lst (.cons (.call 77 (.cons (.var 7) .nil)) (.cons (.var 8) .nil))) .nil)) (.tup (.cons (.num 1) (.cons (.num 1) .nil)))))
 (.cons (.ret (.call 64 (.cons (.call 55 (.cons (.var 0) (.cons (.var 2) (.cons (.b1 .lstOf (.var 5)) (.cons (.var 9) .nil))))) (.cons (.call 89 (.cons (.var 0) (.cons (.var 2) (.cons (.var 5) (.cons (.var 9) .nil))))) .nil))))
 .nil)))))))))))
def N__law_kind_right : List Str := ["form", "way", "kind", "rows", "many", "parts", "due", "span", "passed", "reach", "row"]
def ps__law_kind_right : List Str := ["form", "way", "kind", "rows"]
def d__law_kind_right : Def := ⟨4, 11, b__law_kind_right⟩
def l__law_choices_right_0 : Sts := (.cons (.set (.nm 8) (.call 93 (.cons (.var 3) (.cons (.var 4) (.cons (.var 5) (.cons (.var 6) (.cons (.var 7) .nil)))))))
 (.cons (.ite (.or2 (.not (.val (.call 64 (.cons (.call 58 (.cons (.var 3) (.cons (.var 4) (.cons (.var 5) (.cons (.var 6) (.cons (.var 7) .nil)))))) (.cons (.var 8) .nil))))) (.one (.not (.val (.call 64 (.cons (.call 57 (.cons (.var 3) (.cons (.var 4) (.cons (.var 5) .nil)))) (.cons (.call 92 (.cons (.var 3) (.cons (.var 4) (.cons (.var 5) .nil)))) .nil))))))) (.cons (.ret (.tt false))
 .nil) .nil)
 (.cons (.ite (.not (.val (.call 64 (.cons (.call 60 (.cons (.var 0) (.cons (.var 1) (.cons (.tup (.cons (.txt 23) (.cons (.var 3) (.cons (.num 0) (.cons (.num 1) (.cons (.num 2) (.cons (.num 3) .nil))))))) (.cons (.dic .nil .nil) (.cons (.b1 .tupOf (.var 2)) .nil)))))) (.cons (.var 8) .nil))))) (.cons (.ret (.tt false))
 .nil) .nil)
 .nil)))
def b__law_choices_right : Sts :=
 (.cons (.set (.tp [4, 5, 6, 7]) (.var 2))
 (.cons (.for_ (.nm 3) (.tup (.cons (.txt 12) (.cons (.txt 11) .nil))) l__law_choices_right_0)
 (.cons (.ret (.cmp .isN (.call 60 (.cons (.var 0) (.cons (.var 1) (.cons (.tup (.cons (.txt 23) (.cons (.txt 12) (.cons (.num 0) (.cons (.num 1) (.cons (.num 2) (.cons (.num 3) .nil))))))) (.cons (.dic .nil .nil) (.cons (.tup (.cons (.var 4) (.cons (.var 5) (.cons (.var 6) (.cons .non .nil))))) .nil)))))) .non))
 .nil)))
def N__law_choices_right : List Str := ["form", "way", "rows", "sign", "one", "other", "yes", "no", "due"]
def ps__law_choices_right : List Str := ["form", "way", "rows"]
def d__law_choices_right : Def := ⟨3, 9, b__law_choices_right⟩
def b__law_first_right : Sts :=
 (.cons (.set (.nm 4) (.dic (.cons (.txt 26) .nil) (.cons (.bin .add (.ix (.var 3) (.num 0)) (.tup (.cons (.ix (.var 3) (.num 1)) .nil))) .nil)))
 (.cons (.set (.nm 5) (.ite (.val (.call 81 (.cons (.var 1) (.cons (.call 66 (.cons (.lst (.cons (.call 77 (.cons (.ix (.var 3) (.num 0)) .nil)) (.cons (.ix (.var 3) (.num 1)) .nil))) .nil)) .nil)))) (.tup (.cons (.ix (.var 3) (.num 0)) (.cons (.ix (.var 3) (.num 1)) (.cons (.ix (.var 1) (.num 1)) .nil)))) .non))
 (.cons (.ite (.not (.val (.call 64 (.cons (.call 60 (.cons (.var 1) (.cons (.var 2) (.cons (.tup (.cons (.txt 22) (.cons (.txt 26) .nil))) (.cons (.var 4) (.cons (.tup .nil) .nil)))))) (.cons (.var 5) .nil))))) (.cons (.ret (.tt false))
 .nil) .nil)
 (.cons (.set (.nm 6) (.call 65 (.cons (.call 62 (.cons (.var 0) (.cons (.num 40) .nil))) (.cons (.call 63 (.cons (.var 0) (.cons (.lst (.cons (.num 1) (.cons (.num 2) (.cons (.num 4) (.cons (.num 5) (.cons (.num 10) .nil)))))) .nil))) .nil))))
 (.cons (.ret (.call 64 (.cons (.call 60 (.cons (.var 1) (.cons (.var 2) (.cons (.tup (.cons (.txt 1) (.cons (.var 6) .nil))) (.cons (.dic .nil .nil) (.cons (.tup .nil) .nil)))))) (.cons (.call 95 (.cons (.var 1) (.cons (.var 2) (.cons (.var 6) .nil)))) .nil))))
 .nil)))))
def N__law_first_right : List Str := ["w", "form", "way", "row", "ranges", "due", "one"]
def ps__law_first_right : List Str := ["w", "form", "way", "row"]
def d__law_first_right : Def := ⟨4, 7, b__law_first_right⟩
def x_law_0 : Ex := (.call 97 (.cons (.var 1) (.cons (.var 5) .nil)))
def l_law_1 : Sts := (.cons (.ite (.not (.val (.call 98 (.cons (.var 5) (.cons (.var 6) (.cons (.var 4) (.cons (.var 3) .nil))))))) (.cons (.ret (.tt false))
 .nil) .nil)
 .nil)
def l_law_2 : Sts := (.cons (.par [(5, false), (6, false)] (.cons (.tup (.cons (.bin .add (.num 2) (.call 62 (.cons (.var 1) (.cons (.num 3) .nil)))) (.cons (.bin .sub (.bin .sub (.num 0) (.num 2)) (.call 62 (.cons (.var 1) (.cons (.num 4) .nil)))) (.cons (.bin .add (.num 1) (.call 62 (.cons (.var 1) (.cons (.num 4) .nil)))) .nil)))) (.cons (.call 63 (.cons (.var 1) (.cons (.lst (.cons (.txt 9) (.cons (.txt 5) (.cons (.txt 3) (.cons (.txt 4) (.cons (.txt 2) .nil)))))) .nil))) .nil)))
 (.cons (.own 3 (.comp (.nm 9) (.rng (.num 4)) x_law_0))
 (.cons (.frz 3)
 (.cons (.for_ (.nm 4) (.tup (.cons (.txt 16) (.cons (.txt 17) (.cons (.txt 18) (.cons (.txt 19) (.cons (.txt 15) (.cons (.txt 20) (.cons (.txt 21) (.cons (.txt 13) (.cons (.txt 14) .nil)))))))))) l_law_1)
 (.cons (.ite (.or2 (.not (.val (.call 99 (.cons (.var 5) (.cons (.var 6) (.cons (.var 3) .nil)))))) (.one (.cmp .notN (.call 60 (.cons (.var 5) (.cons (.var 6) (.cons (.tup (.cons (.txt 16) (.cons (.num 0) (.cons (.num 1) .nil)))) (.cons (.dic .nil .nil) (.cons (.tup (.cons (.ix (.var 3) (.num 0)) (.cons .non .nil))) .nil)))))) .non))) (.cons (.ret (.tt false))
 .nil) .nil)
 (.cons (.set (.tp [7, 8]) (.sl (.var 3) .non (.num 2)))
 (.cons (.ite (.or2 (.not (.val (.call 64 (.cons (.call 54 (.cons (.ix (.var 7) (.num 0)) (.cons (.ix (.var 8) (.num 0)) .nil))) (.cons (.call 88 (.cons (.ix (.var 7) (.num 0)) (.cons (.ix (.var 8) (.num 0)) .nil))) .nil))))) (.one (.not (.val (.call 64 (.cons (.call 45 (.cons (.var 7) (.cons (.var 8) .nil))) (.cons (.call 96 (.cons (.var 7) (.cons (.var 8) .nil))) .nil))))))) (.cons (.ret (.tt false))
 .nil) .nil)
 (.cons (.ite (.or2 (.not (.val (.call 64 (.cons (.call 46 (.cons (.var 7) .nil)) (.cons (.call 66 (.cons (.lst (.cons (.call 77 (.cons (.ix (.var 7) (.num 0)) .nil)) (.cons (.ix (.var 7) (.num 1)) .nil))) .nil)) .nil))))) (.one (.not (.val (.call 64 (.cons (.call 47 (.cons (.var 7) .nil)) (.cons (.call 87 (.cons (.var 7) .nil)) .nil))))))) (.cons (.ret (.tt false))
 .nil) .nil)
 (.cons (.ite (.not (.val (.call 100 (.cons (.var 1) (.cons (.var 5) (.cons (.var 6) (.cons (.var 7) .nil))))))) (.cons (.ret (.tt false))
 .nil) .nil)
 .nil)))))))))
def b_law : Sts :=
 (.cons (.mkw 1 25 24 (.call 61 (.cons (.var 0) (.cons (.num 320) .nil))) (.num 0))
 (.cons (.for_ (.nm 2) (.rng (.num 6)) l_law_2)
 (.cons (.ret (.tt true))
 .nil)))
def N_law : List Str := ["script", "w", "time", "rows", "kind", "form", "way", "one", "other", "k"]
def ps_law : List Str := ["script"]
def d_law : Def := ⟨1, 10, b_law⟩
def P : Nat → Option Def
  | 0 => some d_bits_of
  | 1 => some d_common
  | 2 => some d_fraction
  | 3 => some d_added
  | 4 => some d_negated
  | 5 => some d_taken
  | 6 => some d_times
  | 7 => some d_quotient
  | 8 => some d_size
  | 9 => some d_is_less
  | 10 => some d_is_most
  | 11 => some d_lesser
  | 12 => some d_greater
  | 13 => some d_two_to
  | 14 => some d_shifted
  | 15 => some d_exponent_of
  | 16 => some d_value_of
  | 17 => some d_is_finite
  | 18 => some d_greatest_of
  | 19 => some d_least_full
  | 20 => some d_unit_at
  | 21 => some d_is_raised
  | 22 => some d_rounded
  | 23 => some d_marks_of
  | 24 => some d_beyond
  | 25 => some d_error_bound
  | 26 => some d_is_in_reach
  | 27 => some d_is_inside
  | 28 => some d_hull
  | 29 => some d_hull_of
  | 30 => some d_point
  | 31 => some d_added_spans
  | 32 => some d_negated_span
  | 33 => some d_taken_spans
  | 34 => some d_times_spans
  | 35 => some d_has_nothing
  | 36 => some d_over_spans
  | 37 => some d_size_span
  | 38 => some d_most_size
  | 39 => some d_least_size
  | 40 => some d_widened_by
  | 41 => some d_least_span
  | 42 => some d_most_span
  | 43 => some d_is_surely
  | 44 => some d_span_of_step
  | 45 => some d_is_weaker
  | 46 => some d_reach_of
  | 47 => some d_rounded_span
  | 48 => some d_input_row
  | 49 => some d_grid_of
  | 50 => some d_number_row
  | 51 => some d_passed_error
  | 52 => some d_grid_of_step
  | 53 => some d_exact_grid
  | 54 => some d_is_near
  | 55 => some d_is_without_loss
  | 56 => some d_operation_row
  | 57 => some d_can_turn
  | 58 => some d_choice_row
  | 59 => some d_parts_of
  | 60 => some d_next_row
  | 61 => some d__law_draws
  | 62 => some d__law_next
  | 63 => some d__law_pick
  | 64 => some d__law_same
  | 65 => some d__law_least
  | 66 => some d__law_sum
  | 67 => some d__law_fin
  | 68 => some d__law_val
  | 69 => some d__law_less
  | 70 => some d__law_round
  | 71 => some d__law_mul
  | 72 => some d__law_off
  | 73 => some d__law_size
  | 74 => some d__law_more
  | 75 => some d__law_fewer
  | 76 => some d__law_two
  | 77 => some d__law_big
  | 78 => some d__law_small
  | 79 => some d__law_unit
  | 80 => some d__law_bound
  | 81 => some d__law_reached
  | 82 => some d__law_corners
  | 83 => some d__law_under
  | 84 => some d__law_spanned
  | 85 => some d__law_passed
  | 86 => some d__law_raw
  | 87 => some d__law_wide
  | 88 => some d__law_near
  | 89 => some d__law_kept
  | 90 => some d__law_operation
  | 91 => some d__law_sure
  | 92 => some d__law_turns
  | 93 => some d__law_choice
  | 94 => some d__law_grid
  | 95 => some d__law_constant
  | 96 => some d__law_weaker
  | 97 => some d__law_own_row
  | 98 => some d__law_kind_right
  | 99 => some d__law_choices_right
  | 100 => some d__law_first_right
  | _ => none
def fn : Nat → List Str
  | 0 => ["bits_of"]
  | 1 => ["common"]
  | 2 => ["fraction"]
  | 3 => ["added"]
  | 4 => ["negated"]
  | 5 => ["taken"]
  | 6 => ["times"]
  | 7 => ["quotient"]
  | 8 => ["size"]
  | 9 => ["is_less"]
  | 10 => ["is_most"]
  | 11 => ["lesser"]
  | 12 => ["greater"]
  | 13 => ["two_to"]
  | 14 => ["shifted"]
  | 15 => ["exponent_of"]
  | 16 => ["value_of"]
  | 17 => ["is_finite"]
  | 18 => ["greatest_of"]
  | 19 => ["least_full"]
  | 20 => ["unit_at"]
  | 21 => ["is_raised"]
  | 22 => ["rounded"]
  | 23 => ["marks_of"]
  | 24 => ["beyond"]
  | 25 => ["error_bound"]
  | 26 => ["is_in_reach"]
  | 27 => ["is_inside"]
  | 28 => ["hull"]
  | 29 => ["hull_of"]
  | 30 => ["point"]
  | 31 => ["added_spans"]
  | 32 => ["negated_span"]
  | 33 => ["taken_spans"]
  | 34 => ["times_spans"]
  | 35 => ["has_nothing"]
  | 36 => ["over_spans"]
  | 37 => ["size_span"]
  | 38 => ["most_size"]
  | 39 => ["least_size"]
  | 40 => ["widened_by"]
  | 41 => ["least_span"]
  | 42 => ["most_span"]
  | 43 => ["is_surely"]
  | 44 => ["span_of_step"]
  | 45 => ["is_weaker"]
  | 46 => ["reach_of"]
  | 47 => ["rounded_span"]
  | 48 => ["input_row"]
  | 49 => ["grid_of"]
  | 50 => ["number_row"]
  | 51 => ["passed_error"]
  | 52 => ["grid_of_step"]
  | 53 => ["exact_grid"]
  | 54 => ["is_near"]
  | 55 => ["is_without_loss"]
  | 56 => ["operation_row"]
  | 57 => ["can_turn"]
  | 58 => ["choice_row"]
  | 59 => ["parts_of"]
  | 60 => ["next_row"]
  | 61 => ["_law_draws"]
  | 62 => ["_law_next"]
  | 63 => ["_law_pick"]
  | 64 => ["_law_same"]
  | 65 => ["_law_least"]
  | 66 => ["_law_sum"]
  | 67 => ["_law_fin"]
  | 68 => ["_law_val"]
  | 69 => ["_law_less"]
  | 70 => ["_law_round"]
  | 71 => ["_law_mul"]
  | 72 => ["_law_off"]
  | 73 => ["_law_size"]
  | 74 => ["_law_more"]
  | 75 => ["_law_fewer"]
  | 76 => ["_law_two"]
  | 77 => ["_law_big"]
  | 78 => ["_law_small"]
  | 79 => ["_law_unit"]
  | 80 => ["_law_bound"]
  | 81 => ["_law_reached"]
  | 82 => ["_law_corners"]
  | 83 => ["_law_under"]
  | 84 => ["_law_spanned"]
  | 85 => ["_law_passed"]
  | 86 => ["_law_raw"]
  | 87 => ["_law_wide"]
  | 88 => ["_law_near"]
  | 89 => ["_law_kept"]
  | 90 => ["_law_operation"]
  | 91 => ["_law_sure"]
  | 92 => ["_law_turns"]
  | 93 => ["_law_choice"]
  | 94 => ["_law_grid"]
  | 95 => ["_law_constant"]
  | 96 => ["_law_weaker"]
  | 97 => ["_law_own_row"]
  | 98 => ["_law_kind_right"]
  | 99 => ["_law_choices_right"]
  | 100 => ["_law_first_right"]
  | _ => []
def co : Nat → Option (Str × D)
  | 0 => some ("NOTHING", (.tup [(.int 0), (.int 1)]))
  | _ => none
def Tl : List Str := ["nothing", "number", "cut", "up", "down", "away", "overflow", "inexact", "underflow", "even", "endless", "<=", "<", "negate", "size", "joined", "add", "less", "times", "over", "least", "most", "input", "choice", "at", "draws", "x"]
def T : Nat → Str := TT Tl
def at_ (i : Nat) : Stmt := PySem.Challenge.pw_roundedwithin_k33_whole_rows_by_own_hand.main.body.getD i (.Pass ⟨0, 0, 0, 0⟩)
theorem ok_bits_of : okSs ⟨N_bits_of, T, fn, co⟩ b_bits_of (defScope (at_ 1)) (defBody (at_ 1)) = true := by decide +kernel
theorem ok_common : okSs ⟨N_common, T, fn, co⟩ b_common (defScope (at_ 4)) (defBody (at_ 4)) = true := by decide +kernel
theorem ok_fraction : okSs ⟨N_fraction, T, fn, co⟩ b_fraction (defScope (at_ 5)) (defBody (at_ 5)) = true := by decide +kernel
theorem ok_added : okSs ⟨N_added, T, fn, co⟩ b_added (defScope (at_ 6)) (defBody (at_ 6)) = true := by decide +kernel
theorem ok_negated : okSs ⟨N_negated, T, fn, co⟩ b_negated (defScope (at_ 7)) (defBody (at_ 7)) = true := by decide +kernel
theorem ok_taken : okSs ⟨N_taken, T, fn, co⟩ b_taken (defScope (at_ 8)) (defBody (at_ 8)) = true := by decide +kernel
theorem ok_times : okSs ⟨N_times, T, fn, co⟩ b_times (defScope (at_ 9)) (defBody (at_ 9)) = true := by decide +kernel
theorem ok_quotient : okSs ⟨N_quotient, T, fn, co⟩ b_quotient (defScope (at_ 10)) (defBody (at_ 10)) = true := by decide +kernel
theorem ok_size : okSs ⟨N_size, T, fn, co⟩ b_size (defScope (at_ 11)) (defBody (at_ 11)) = true := by decide +kernel
theorem ok_is_less : okSs ⟨N_is_less, T, fn, co⟩ b_is_less (defScope (at_ 12)) (defBody (at_ 12)) = true := by decide +kernel
theorem ok_is_most : okSs ⟨N_is_most, T, fn, co⟩ b_is_most (defScope (at_ 13)) (defBody (at_ 13)) = true := by decide +kernel
theorem ok_lesser : okSs ⟨N_lesser, T, fn, co⟩ b_lesser (defScope (at_ 14)) (defBody (at_ 14)) = true := by decide +kernel
theorem ok_greater : okSs ⟨N_greater, T, fn, co⟩ b_greater (defScope (at_ 15)) (defBody (at_ 15)) = true := by decide +kernel
theorem ok_two_to : okSs ⟨N_two_to, T, fn, co⟩ b_two_to (defScope (at_ 16)) (defBody (at_ 16)) = true := by decide +kernel
theorem ok_shifted : okSs ⟨N_shifted, T, fn, co⟩ b_shifted (defScope (at_ 17)) (defBody (at_ 17)) = true := by decide +kernel
theorem ok_exponent_of : okSs ⟨N_exponent_of, T, fn, co⟩ b_exponent_of (defScope (at_ 18)) (defBody (at_ 18)) = true := by decide +kernel
theorem ok_value_of : okSs ⟨N_value_of, T, fn, co⟩ b_value_of (defScope (at_ 20)) (defBody (at_ 20)) = true := by decide +kernel
theorem ok_is_finite : okSs ⟨N_is_finite, T, fn, co⟩ b_is_finite (defScope (at_ 21)) (defBody (at_ 21)) = true := by decide +kernel
theorem ok_greatest_of : okSs ⟨N_greatest_of, T, fn, co⟩ b_greatest_of (defScope (at_ 22)) (defBody (at_ 22)) = true := by decide +kernel
theorem ok_least_full : okSs ⟨N_least_full, T, fn, co⟩ b_least_full (defScope (at_ 23)) (defBody (at_ 23)) = true := by decide +kernel
theorem ok_unit_at : okSs ⟨N_unit_at, T, fn, co⟩ b_unit_at (defScope (at_ 24)) (defBody (at_ 24)) = true := by decide +kernel
theorem ok_is_raised : okSs ⟨N_is_raised, T, fn, co⟩ b_is_raised (defScope (at_ 26)) (defBody (at_ 26)) = true := by decide +kernel
theorem ok_rounded : okSs ⟨N_rounded, T, fn, co⟩ b_rounded (defScope (at_ 27)) (defBody (at_ 27)) = true := by decide +kernel
theorem ok_marks_of : okSs ⟨N_marks_of, T, fn, co⟩ b_marks_of (defScope (at_ 28)) (defBody (at_ 28)) = true := by decide +kernel
theorem ok_beyond : okSs ⟨N_beyond, T, fn, co⟩ b_beyond (defScope (at_ 29)) (defBody (at_ 29)) = true := by decide +kernel
theorem ok_error_bound : okSs ⟨N_error_bound, T, fn, co⟩ b_error_bound (defScope (at_ 30)) (defBody (at_ 30)) = true := by decide +kernel
theorem ok_is_in_reach : okSs ⟨N_is_in_reach, T, fn, co⟩ b_is_in_reach (defScope (at_ 31)) (defBody (at_ 31)) = true := by decide +kernel
theorem ok_is_inside : okSs ⟨N_is_inside, T, fn, co⟩ b_is_inside (defScope (at_ 33)) (defBody (at_ 33)) = true := by decide +kernel
theorem ok_hull : okSs ⟨N_hull, T, fn, co⟩ b_hull (defScope (at_ 34)) (defBody (at_ 34)) = true := by decide +kernel
theorem ok_hull_of : okSs ⟨N_hull_of, T, fn, co⟩ b_hull_of (defScope (at_ 35)) (defBody (at_ 35)) = true := by decide +kernel
theorem ok_point : okSs ⟨N_point, T, fn, co⟩ b_point (defScope (at_ 36)) (defBody (at_ 36)) = true := by decide +kernel
theorem ok_added_spans : okSs ⟨N_added_spans, T, fn, co⟩ b_added_spans (defScope (at_ 37)) (defBody (at_ 37)) = true := by decide +kernel
theorem ok_negated_span : okSs ⟨N_negated_span, T, fn, co⟩ b_negated_span (defScope (at_ 38)) (defBody (at_ 38)) = true := by decide +kernel
theorem ok_taken_spans : okSs ⟨N_taken_spans, T, fn, co⟩ b_taken_spans (defScope (at_ 39)) (defBody (at_ 39)) = true := by decide +kernel
theorem ok_times_spans : okSs ⟨N_times_spans, T, fn, co⟩ b_times_spans (defScope (at_ 40)) (defBody (at_ 40)) = true := by decide +kernel
theorem ok_has_nothing : okSs ⟨N_has_nothing, T, fn, co⟩ b_has_nothing (defScope (at_ 41)) (defBody (at_ 41)) = true := by decide +kernel
theorem ok_over_spans : okSs ⟨N_over_spans, T, fn, co⟩ b_over_spans (defScope (at_ 42)) (defBody (at_ 42)) = true := by decide +kernel
theorem ok_size_span : okSs ⟨N_size_span, T, fn, co⟩ b_size_span (defScope (at_ 43)) (defBody (at_ 43)) = true := by decide +kernel
theorem ok_most_size : okSs ⟨N_most_size, T, fn, co⟩ b_most_size (defScope (at_ 44)) (defBody (at_ 44)) = true := by decide +kernel
theorem ok_least_size : okSs ⟨N_least_size, T, fn, co⟩ b_least_size (defScope (at_ 45)) (defBody (at_ 45)) = true := by decide +kernel
theorem ok_widened_by : okSs ⟨N_widened_by, T, fn, co⟩ b_widened_by (defScope (at_ 46)) (defBody (at_ 46)) = true := by decide +kernel
theorem ok_least_span : okSs ⟨N_least_span, T, fn, co⟩ b_least_span (defScope (at_ 47)) (defBody (at_ 47)) = true := by decide +kernel
theorem ok_most_span : okSs ⟨N_most_span, T, fn, co⟩ b_most_span (defScope (at_ 48)) (defBody (at_ 48)) = true := by decide +kernel
theorem ok_is_surely : okSs ⟨N_is_surely, T, fn, co⟩ b_is_surely (defScope (at_ 49)) (defBody (at_ 49)) = true := by decide +kernel
theorem ok_span_of_step : okSs ⟨N_span_of_step, T, fn, co⟩ b_span_of_step (defScope (at_ 50)) (defBody (at_ 50)) = true := by decide +kernel
theorem ok_is_weaker : okSs ⟨N_is_weaker, T, fn, co⟩ b_is_weaker (defScope (at_ 52)) (defBody (at_ 52)) = true := by decide +kernel
theorem ok_reach_of : okSs ⟨N_reach_of, T, fn, co⟩ b_reach_of (defScope (at_ 53)) (defBody (at_ 53)) = true := by decide +kernel
theorem ok_rounded_span : okSs ⟨N_rounded_span, T, fn, co⟩ b_rounded_span (defScope (at_ 54)) (defBody (at_ 54)) = true := by decide +kernel
theorem ok_input_row : okSs ⟨N_input_row, T, fn, co⟩ b_input_row (defScope (at_ 55)) (defBody (at_ 55)) = true := by decide +kernel
theorem ok_grid_of : okSs ⟨N_grid_of, T, fn, co⟩ b_grid_of (defScope (at_ 56)) (defBody (at_ 56)) = true := by decide +kernel
theorem ok_number_row : okSs ⟨N_number_row, T, fn, co⟩ b_number_row (defScope (at_ 57)) (defBody (at_ 57)) = true := by decide +kernel
theorem ok_passed_error : okSs ⟨N_passed_error, T, fn, co⟩ b_passed_error (defScope (at_ 58)) (defBody (at_ 58)) = true := by decide +kernel
theorem ok_grid_of_step : okSs ⟨N_grid_of_step, T, fn, co⟩ b_grid_of_step (defScope (at_ 59)) (defBody (at_ 59)) = true := by decide +kernel
theorem ok_exact_grid : okSs ⟨N_exact_grid, T, fn, co⟩ b_exact_grid (defScope (at_ 60)) (defBody (at_ 60)) = true := by decide +kernel
theorem ok_is_near : okSs ⟨N_is_near, T, fn, co⟩ b_is_near (defScope (at_ 61)) (defBody (at_ 61)) = true := by decide +kernel
theorem ok_is_without_loss : okSs ⟨N_is_without_loss, T, fn, co⟩ b_is_without_loss (defScope (at_ 62)) (defBody (at_ 62)) = true := by decide +kernel
theorem ok_operation_row : okSs ⟨N_operation_row, T, fn, co⟩ b_operation_row (defScope (at_ 63)) (defBody (at_ 63)) = true := by decide +kernel
theorem ok_can_turn : okSs ⟨N_can_turn, T, fn, co⟩ b_can_turn (defScope (at_ 64)) (defBody (at_ 64)) = true := by decide +kernel
theorem ok_choice_row : okSs ⟨N_choice_row, T, fn, co⟩ b_choice_row (defScope (at_ 65)) (defBody (at_ 65)) = true := by decide +kernel
theorem ok_parts_of : okSs ⟨N_parts_of, T, fn, co⟩ b_parts_of (defScope (at_ 67)) (defBody (at_ 67)) = true := by decide +kernel
theorem ok_next_row : okSs ⟨N_next_row, T, fn, co⟩ b_next_row (defScope (at_ 69)) (defBody (at_ 69)) = true := by decide +kernel
theorem ok__law_draws : okSs ⟨N__law_draws, T, fn, co⟩ b__law_draws (defScope (at_ 71)) (defBody (at_ 71)) = true := by decide +kernel
theorem ok__law_next : okSs ⟨N__law_next, T, fn, co⟩ b__law_next (defScope (at_ 72)) (defBody (at_ 72)) = true := by decide +kernel
theorem ok__law_pick : okSs ⟨N__law_pick, T, fn, co⟩ b__law_pick (defScope (at_ 73)) (defBody (at_ 73)) = true := by decide +kernel
theorem ok__law_same : okSs ⟨N__law_same, T, fn, co⟩ b__law_same (defScope (at_ 74)) (defBody (at_ 74)) = true := by decide +kernel
theorem ok__law_least : okSs ⟨N__law_least, T, fn, co⟩ b__law_least (defScope (at_ 75)) (defBody (at_ 75)) = true := by decide +kernel
theorem ok__law_sum : okSs ⟨N__law_sum, T, fn, co⟩ b__law_sum (defScope (at_ 76)) (defBody (at_ 76)) = true := by decide +kernel
theorem ok__law_fin : okSs ⟨N__law_fin, T, fn, co⟩ b__law_fin (defScope (at_ 77)) (defBody (at_ 77)) = true := by decide +kernel
theorem ok__law_val : okSs ⟨N__law_val, T, fn, co⟩ b__law_val (defScope (at_ 78)) (defBody (at_ 78)) = true := by decide +kernel
theorem ok__law_less : okSs ⟨N__law_less, T, fn, co⟩ b__law_less (defScope (at_ 79)) (defBody (at_ 79)) = true := by decide +kernel
theorem ok__law_round : okSs ⟨N__law_round, T, fn, co⟩ b__law_round (defScope (at_ 80)) (defBody (at_ 80)) = true := by decide +kernel
theorem ok__law_mul : okSs ⟨N__law_mul, T, fn, co⟩ b__law_mul (defScope (at_ 81)) (defBody (at_ 81)) = true := by decide +kernel
theorem ok__law_off : okSs ⟨N__law_off, T, fn, co⟩ b__law_off (defScope (at_ 82)) (defBody (at_ 82)) = true := by decide +kernel
theorem ok__law_size : okSs ⟨N__law_size, T, fn, co⟩ b__law_size (defScope (at_ 83)) (defBody (at_ 83)) = true := by decide +kernel
theorem ok__law_more : okSs ⟨N__law_more, T, fn, co⟩ b__law_more (defScope (at_ 84)) (defBody (at_ 84)) = true := by decide +kernel
theorem ok__law_fewer : okSs ⟨N__law_fewer, T, fn, co⟩ b__law_fewer (defScope (at_ 85)) (defBody (at_ 85)) = true := by decide +kernel
theorem ok__law_two : okSs ⟨N__law_two, T, fn, co⟩ b__law_two (defScope (at_ 86)) (defBody (at_ 86)) = true := by decide +kernel
theorem ok__law_big : okSs ⟨N__law_big, T, fn, co⟩ b__law_big (defScope (at_ 87)) (defBody (at_ 87)) = true := by decide +kernel
theorem ok__law_small : okSs ⟨N__law_small, T, fn, co⟩ b__law_small (defScope (at_ 88)) (defBody (at_ 88)) = true := by decide +kernel
theorem ok__law_unit : okSs ⟨N__law_unit, T, fn, co⟩ b__law_unit (defScope (at_ 89)) (defBody (at_ 89)) = true := by decide +kernel
theorem ok__law_bound : okSs ⟨N__law_bound, T, fn, co⟩ b__law_bound (defScope (at_ 90)) (defBody (at_ 90)) = true := by decide +kernel
theorem ok__law_reached : okSs ⟨N__law_reached, T, fn, co⟩ b__law_reached (defScope (at_ 91)) (defBody (at_ 91)) = true := by decide +kernel
theorem ok__law_corners : okSs ⟨N__law_corners, T, fn, co⟩ b__law_corners (defScope (at_ 92)) (defBody (at_ 92)) = true := by decide +kernel
theorem ok__law_under : okSs ⟨N__law_under, T, fn, co⟩ b__law_under (defScope (at_ 93)) (defBody (at_ 93)) = true := by decide +kernel
theorem ok__law_spanned : okSs ⟨N__law_spanned, T, fn, co⟩ b__law_spanned (defScope (at_ 94)) (defBody (at_ 94)) = true := by decide +kernel
theorem ok__law_passed : okSs ⟨N__law_passed, T, fn, co⟩ b__law_passed (defScope (at_ 95)) (defBody (at_ 95)) = true := by decide +kernel
theorem ok__law_raw : okSs ⟨N__law_raw, T, fn, co⟩ b__law_raw (defScope (at_ 96)) (defBody (at_ 96)) = true := by decide +kernel
theorem ok__law_wide : okSs ⟨N__law_wide, T, fn, co⟩ b__law_wide (defScope (at_ 97)) (defBody (at_ 97)) = true := by decide +kernel
theorem ok__law_near : okSs ⟨N__law_near, T, fn, co⟩ b__law_near (defScope (at_ 98)) (defBody (at_ 98)) = true := by decide +kernel
theorem ok__law_kept : okSs ⟨N__law_kept, T, fn, co⟩ b__law_kept (defScope (at_ 99)) (defBody (at_ 99)) = true := by decide +kernel
theorem ok__law_operation : okSs ⟨N__law_operation, T, fn, co⟩ b__law_operation (defScope (at_ 100)) (defBody (at_ 100)) = true := by decide +kernel
theorem ok__law_sure : okSs ⟨N__law_sure, T, fn, co⟩ b__law_sure (defScope (at_ 101)) (defBody (at_ 101)) = true := by decide +kernel
theorem ok__law_turns : okSs ⟨N__law_turns, T, fn, co⟩ b__law_turns (defScope (at_ 102)) (defBody (at_ 102)) = true := by decide +kernel
theorem ok__law_choice : okSs ⟨N__law_choice, T, fn, co⟩ b__law_choice (defScope (at_ 103)) (defBody (at_ 103)) = true := by decide +kernel
theorem ok__law_grid : okSs ⟨N__law_grid, T, fn, co⟩ b__law_grid (defScope (at_ 104)) (defBody (at_ 104)) = true := by decide +kernel
theorem ok__law_constant : okSs ⟨N__law_constant, T, fn, co⟩ b__law_constant (defScope (at_ 105)) (defBody (at_ 105)) = true := by decide +kernel
theorem ok__law_weaker : okSs ⟨N__law_weaker, T, fn, co⟩ b__law_weaker (defScope (at_ 106)) (defBody (at_ 106)) = true := by decide +kernel
theorem ok__law_own_row : okSs ⟨N__law_own_row, T, fn, co⟩ b__law_own_row (defScope (at_ 107)) (defBody (at_ 107)) = true := by decide +kernel
theorem ok__law_kind_right : okSs ⟨N__law_kind_right, T, fn, co⟩ b__law_kind_right (defScope (at_ 108)) (defBody (at_ 108)) = true := by decide +kernel
theorem ok__law_choices_right : okSs ⟨N__law_choices_right, T, fn, co⟩ b__law_choices_right (defScope (at_ 109)) (defBody (at_ 109)) = true := by decide +kernel
theorem ok__law_first_right : okSs ⟨N__law_first_right, T, fn, co⟩ b__law_first_right (defScope (at_ 110)) (defBody (at_ 110)) = true := by decide +kernel
theorem ok_law : okSs ⟨N_law, T, fn, co⟩ b_law (defScope (at_ 111)) (defBody (at_ 111)) = true := by decide +kernel
theorem sc_bits_of : scOk N_bits_of ps_bits_of (defScope (at_ 1)) = true := by decide +kernel
theorem sc_common : scOk N_common ps_common (defScope (at_ 4)) = true := by decide +kernel
theorem sc_fraction : scOk N_fraction ps_fraction (defScope (at_ 5)) = true := by decide +kernel
theorem sc_added : scOk N_added ps_added (defScope (at_ 6)) = true := by decide +kernel
theorem sc_negated : scOk N_negated ps_negated (defScope (at_ 7)) = true := by decide +kernel
theorem sc_taken : scOk N_taken ps_taken (defScope (at_ 8)) = true := by decide +kernel
theorem sc_times : scOk N_times ps_times (defScope (at_ 9)) = true := by decide +kernel
theorem sc_quotient : scOk N_quotient ps_quotient (defScope (at_ 10)) = true := by decide +kernel
theorem sc_size : scOk N_size ps_size (defScope (at_ 11)) = true := by decide +kernel
theorem sc_is_less : scOk N_is_less ps_is_less (defScope (at_ 12)) = true := by decide +kernel
theorem sc_is_most : scOk N_is_most ps_is_most (defScope (at_ 13)) = true := by decide +kernel
theorem sc_lesser : scOk N_lesser ps_lesser (defScope (at_ 14)) = true := by decide +kernel
theorem sc_greater : scOk N_greater ps_greater (defScope (at_ 15)) = true := by decide +kernel
theorem sc_two_to : scOk N_two_to ps_two_to (defScope (at_ 16)) = true := by decide +kernel
theorem sc_shifted : scOk N_shifted ps_shifted (defScope (at_ 17)) = true := by decide +kernel
theorem sc_exponent_of : scOk N_exponent_of ps_exponent_of (defScope (at_ 18)) = true := by decide +kernel
theorem sc_value_of : scOk N_value_of ps_value_of (defScope (at_ 20)) = true := by decide +kernel
theorem sc_is_finite : scOk N_is_finite ps_is_finite (defScope (at_ 21)) = true := by decide +kernel
theorem sc_greatest_of : scOk N_greatest_of ps_greatest_of (defScope (at_ 22)) = true := by decide +kernel
theorem sc_least_full : scOk N_least_full ps_least_full (defScope (at_ 23)) = true := by decide +kernel
theorem sc_unit_at : scOk N_unit_at ps_unit_at (defScope (at_ 24)) = true := by decide +kernel
theorem sc_is_raised : scOk N_is_raised ps_is_raised (defScope (at_ 26)) = true := by decide +kernel
theorem sc_rounded : scOk N_rounded ps_rounded (defScope (at_ 27)) = true := by decide +kernel
theorem sc_marks_of : scOk N_marks_of ps_marks_of (defScope (at_ 28)) = true := by decide +kernel
theorem sc_beyond : scOk N_beyond ps_beyond (defScope (at_ 29)) = true := by decide +kernel
theorem sc_error_bound : scOk N_error_bound ps_error_bound (defScope (at_ 30)) = true := by decide +kernel
theorem sc_is_in_reach : scOk N_is_in_reach ps_is_in_reach (defScope (at_ 31)) = true := by decide +kernel
theorem sc_is_inside : scOk N_is_inside ps_is_inside (defScope (at_ 33)) = true := by decide +kernel
theorem sc_hull : scOk N_hull ps_hull (defScope (at_ 34)) = true := by decide +kernel
theorem sc_hull_of : scOk N_hull_of ps_hull_of (defScope (at_ 35)) = true := by decide +kernel
theorem sc_point : scOk N_point ps_point (defScope (at_ 36)) = true := by decide +kernel
theorem sc_added_spans : scOk N_added_spans ps_added_spans (defScope (at_ 37)) = true := by decide +kernel
theorem sc_negated_span : scOk N_negated_span ps_negated_span (defScope (at_ 38)) = true := by decide +kernel
theorem sc_taken_spans : scOk N_taken_spans ps_taken_spans (defScope (at_ 39)) = true := by decide +kernel
theorem sc_times_spans : scOk N_times_spans ps_times_spans (defScope (at_ 40)) = true := by decide +kernel
theorem sc_has_nothing : scOk N_has_nothing ps_has_nothing (defScope (at_ 41)) = true := by decide +kernel
theorem sc_over_spans : scOk N_over_spans ps_over_spans (defScope (at_ 42)) = true := by decide +kernel
theorem sc_size_span : scOk N_size_span ps_size_span (defScope (at_ 43)) = true := by decide +kernel
theorem sc_most_size : scOk N_most_size ps_most_size (defScope (at_ 44)) = true := by decide +kernel
theorem sc_least_size : scOk N_least_size ps_least_size (defScope (at_ 45)) = true := by decide +kernel
theorem sc_widened_by : scOk N_widened_by ps_widened_by (defScope (at_ 46)) = true := by decide +kernel
theorem sc_least_span : scOk N_least_span ps_least_span (defScope (at_ 47)) = true := by decide +kernel
theorem sc_most_span : scOk N_most_span ps_most_span (defScope (at_ 48)) = true := by decide +kernel
theorem sc_is_surely : scOk N_is_surely ps_is_surely (defScope (at_ 49)) = true := by decide +kernel
theorem sc_span_of_step : scOk N_span_of_step ps_span_of_step (defScope (at_ 50)) = true := by decide +kernel
theorem sc_is_weaker : scOk N_is_weaker ps_is_weaker (defScope (at_ 52)) = true := by decide +kernel
theorem sc_reach_of : scOk N_reach_of ps_reach_of (defScope (at_ 53)) = true := by decide +kernel
theorem sc_rounded_span : scOk N_rounded_span ps_rounded_span (defScope (at_ 54)) = true := by decide +kernel
theorem sc_input_row : scOk N_input_row ps_input_row (defScope (at_ 55)) = true := by decide +kernel
theorem sc_grid_of : scOk N_grid_of ps_grid_of (defScope (at_ 56)) = true := by decide +kernel
theorem sc_number_row : scOk N_number_row ps_number_row (defScope (at_ 57)) = true := by decide +kernel
theorem sc_passed_error : scOk N_passed_error ps_passed_error (defScope (at_ 58)) = true := by decide +kernel
theorem sc_grid_of_step : scOk N_grid_of_step ps_grid_of_step (defScope (at_ 59)) = true := by decide +kernel
theorem sc_exact_grid : scOk N_exact_grid ps_exact_grid (defScope (at_ 60)) = true := by decide +kernel
theorem sc_is_near : scOk N_is_near ps_is_near (defScope (at_ 61)) = true := by decide +kernel
theorem sc_is_without_loss : scOk N_is_without_loss ps_is_without_loss (defScope (at_ 62)) = true := by decide +kernel
theorem sc_operation_row : scOk N_operation_row ps_operation_row (defScope (at_ 63)) = true := by decide +kernel
theorem sc_can_turn : scOk N_can_turn ps_can_turn (defScope (at_ 64)) = true := by decide +kernel
theorem sc_choice_row : scOk N_choice_row ps_choice_row (defScope (at_ 65)) = true := by decide +kernel
theorem sc_parts_of : scOk N_parts_of ps_parts_of (defScope (at_ 67)) = true := by decide +kernel
theorem sc_next_row : scOk N_next_row ps_next_row (defScope (at_ 69)) = true := by decide +kernel
theorem sc__law_draws : scOk N__law_draws ps__law_draws (defScope (at_ 71)) = true := by decide +kernel
theorem sc__law_next : scOk N__law_next ps__law_next (defScope (at_ 72)) = true := by decide +kernel
theorem sc__law_pick : scOk N__law_pick ps__law_pick (defScope (at_ 73)) = true := by decide +kernel
theorem sc__law_same : scOk N__law_same ps__law_same (defScope (at_ 74)) = true := by decide +kernel
theorem sc__law_least : scOk N__law_least ps__law_least (defScope (at_ 75)) = true := by decide +kernel
theorem sc__law_sum : scOk N__law_sum ps__law_sum (defScope (at_ 76)) = true := by decide +kernel
theorem sc__law_fin : scOk N__law_fin ps__law_fin (defScope (at_ 77)) = true := by decide +kernel
theorem sc__law_val : scOk N__law_val ps__law_val (defScope (at_ 78)) = true := by decide +kernel
theorem sc__law_less : scOk N__law_less ps__law_less (defScope (at_ 79)) = true := by decide +kernel
theorem sc__law_round : scOk N__law_round ps__law_round (defScope (at_ 80)) = true := by decide +kernel
theorem sc__law_mul : scOk N__law_mul ps__law_mul (defScope (at_ 81)) = true := by decide +kernel
theorem sc__law_off : scOk N__law_off ps__law_off (defScope (at_ 82)) = true := by decide +kernel
theorem sc__law_size : scOk N__law_size ps__law_size (defScope (at_ 83)) = true := by decide +kernel
theorem sc__law_more : scOk N__law_more ps__law_more (defScope (at_ 84)) = true := by decide +kernel
theorem sc__law_fewer : scOk N__law_fewer ps__law_fewer (defScope (at_ 85)) = true := by decide +kernel
theorem sc__law_two : scOk N__law_two ps__law_two (defScope (at_ 86)) = true := by decide +kernel
theorem sc__law_big : scOk N__law_big ps__law_big (defScope (at_ 87)) = true := by decide +kernel
theorem sc__law_small : scOk N__law_small ps__law_small (defScope (at_ 88)) = true := by decide +kernel
theorem sc__law_unit : scOk N__law_unit ps__law_unit (defScope (at_ 89)) = true := by decide +kernel
theorem sc__law_bound : scOk N__law_bound ps__law_bound (defScope (at_ 90)) = true := by decide +kernel
theorem sc__law_reached : scOk N__law_reached ps__law_reached (defScope (at_ 91)) = true := by decide +kernel
theorem sc__law_corners : scOk N__law_corners ps__law_corners (defScope (at_ 92)) = true := by decide +kernel
theorem sc__law_under : scOk N__law_under ps__law_under (defScope (at_ 93)) = true := by decide +kernel
theorem sc__law_spanned : scOk N__law_spanned ps__law_spanned (defScope (at_ 94)) = true := by decide +kernel
theorem sc__law_passed : scOk N__law_passed ps__law_passed (defScope (at_ 95)) = true := by decide +kernel
theorem sc__law_raw : scOk N__law_raw ps__law_raw (defScope (at_ 96)) = true := by decide +kernel
theorem sc__law_wide : scOk N__law_wide ps__law_wide (defScope (at_ 97)) = true := by decide +kernel
theorem sc__law_near : scOk N__law_near ps__law_near (defScope (at_ 98)) = true := by decide +kernel
theorem sc__law_kept : scOk N__law_kept ps__law_kept (defScope (at_ 99)) = true := by decide +kernel
theorem sc__law_operation : scOk N__law_operation ps__law_operation (defScope (at_ 100)) = true := by decide +kernel
theorem sc__law_sure : scOk N__law_sure ps__law_sure (defScope (at_ 101)) = true := by decide +kernel
theorem sc__law_turns : scOk N__law_turns ps__law_turns (defScope (at_ 102)) = true := by decide +kernel
theorem sc__law_choice : scOk N__law_choice ps__law_choice (defScope (at_ 103)) = true := by decide +kernel
theorem sc__law_grid : scOk N__law_grid ps__law_grid (defScope (at_ 104)) = true := by decide +kernel
theorem sc__law_constant : scOk N__law_constant ps__law_constant (defScope (at_ 105)) = true := by decide +kernel
theorem sc__law_weaker : scOk N__law_weaker ps__law_weaker (defScope (at_ 106)) = true := by decide +kernel
theorem sc__law_own_row : scOk N__law_own_row ps__law_own_row (defScope (at_ 107)) = true := by decide +kernel
theorem sc__law_kind_right : scOk N__law_kind_right ps__law_kind_right (defScope (at_ 108)) = true := by decide +kernel
theorem sc__law_choices_right : scOk N__law_choices_right ps__law_choices_right (defScope (at_ 109)) = true := by decide +kernel
theorem sc__law_first_right : scOk N__law_first_right ps__law_first_right (defScope (at_ 110)) = true := by decide +kernel
theorem sc_law : scOk N_law ps_law (defScope (at_ 111)) = true := by decide +kernel
end Pv.K33

set_option Elab.async false
set_option linter.all false
set_option maxRecDepth 100000
set_option exponentiation.threshold 20
/-! L0: steps of the evaluator. -/
namespace Pv.K33
open Pv
theorem call_at {P : Nat → Option Def} {n f : Nat} {d : Def} {ds : List D} {ws : WS} (h : P f = some d) (hl : ds.length = d.np) : callO P (n + 1) f ds ws = chk ws (fin (execs (callO P n) d.body (mkEnv ds d.ns) ws)) := by
  simp only [callO, h, hl, if_true]
theorem chk_own (ws : WS) (d : D) : chk ws (some (d, ws)) = some (d, ws) := by cases ws <;> rfl
theorem chk_some (kvs : List (Nat × D)) (r : Option (D × WS)) : chk (some kvs) r = r := rfl
/-! statement by statement -/
theorem run_ex {Φ : Fns} {b : Sts} {env : Env} {ws ws2 : WS} {d : D} (hc : ∀ r : Option (D × WS), r = some (d, ws2) → chk ws r = some (d, ws2)) (h : ∃ env', execs Φ b env ws = some (.rt d, env', ws2)) : chk ws (fin (execs Φ b env ws)) = some (d, ws2) := by
  obtain ⟨env', e⟩ := h
  rw [e]
  exact hc _ rfl
theorem chk_ok (ws : WS) (d : D) : ∀ r : Option (D × WS), r = some (d, ws) → chk ws r = some (d, ws) := fun r h => by rw [h]; cases ws <;> rfl
theorem step_nx {Φ : Fns} {s : St} {r : Sts} {env : Env} {ws ws2 : WS} {d : D} (env1 : Env) (ws1 : WS) (h : exec Φ s env ws = some (.nx, env1, ws1)) (k : ∃ env', execs Φ r env1 ws1 = some (.rt d, env', ws2)) : ∃ env', execs Φ (.cons s r) env ws = some (.rt d, env', ws2) := by
  simp only [execs, h]
  exact k
theorem step_eq {Φ : Fns} {s : St} {r : Sts} {env : Env} {ws : WS} {out : Out} (env1 : Env) (ws1 : WS) (h : exec Φ s env ws = some (.nx, env1, ws1)) (k : execs Φ r env1 ws1 = out) : execs Φ (.cons s r) env ws = out := by
  simp only [execs, h]
  exact k
theorem step_rt {Φ : Fns} {s : St} {r : Sts} {env env1 : Env} {ws ws2 : WS} {d : D} (h : exec Φ s env ws = some (.rt d, env1, ws2)) : ∃ env', execs Φ (.cons s r) env ws = some (.rt d, env', ws2) := by
  simp only [execs, h]
  exact ⟨_, rfl⟩
/-! loops -/
def whlX (Φ : Fns) (c : Tx) (b : Sts) (n : Nat) (env : Env) (ws : WS) : Out := whlN (fun env ws => evT Φ c env ws) (fun env ws => execs Φ b env ws) n env ws
def forX (Φ : Fns) (tg : Tg) (b : Sts) (ds : List D) (env : Env) (ws : WS) : Out := forL (fun env ws => execs Φ b env ws) tg ds env ws
def cmpX (Φ : Fns) (tg : Tg) (elt : Ex) (env : Env) (ds : List D) (ws : WS) : Option (List D × WS) := compL (fun _ ws => some (true, ws)) (fun env ws => ev Φ elt env ws) tg env ds ws
def cmpY (Φ : Fns) (tg : Tg) (c : Tx) (elt : Ex) (env : Env) (ds : List D) (ws : WS) : Option (List D × WS) := compL (fun env ws => evT Φ c env ws) (fun env ws => ev Φ elt env ws) tg env ds ws
section
variable {Φ : Fns} {c : Tx} {b : Sts} {tg : Tg} {it elt : Ex} {env : Env} {ws : WS}
theorem x_whl : exec Φ (.whl c b) env ws = whlX Φ c b fuel env ws := by simp only [exec, whlX]
theorem x_for : exec Φ (.for_ tg it b) env ws = match ev Φ it env ws with
    | none => none
    | some (x, ws1) => match itemsOf x with
      | none => none
      | some ds => forX Φ tg b ds env ws1 := by simp only [exec, forX]; try rfl
theorem x_comp : ev Φ (.comp tg it elt) env ws = match bor (vi it) env ws (ev Φ it env ws) with
    | none => none
    | some (x, ws1) => match itemsOf x with
      | none => none
      | some ds => if okLen ds.length then match cmpX Φ tg elt (wipeE env (tgs tg)) ds ws1 with
        | none => none
        | some (r, ws2) => some (.lst r, ws2) else none := by simp only [ev, cmpX]; try rfl
theorem x_compIf : ev Φ (.compIf tg it c elt) env ws = match bor (vi it) env ws (ev Φ it env ws) with
    | none => none
    | some (x, ws1) => match itemsOf x with
      | none => none
      | some ds => if okLen ds.length then match cmpY Φ tg c elt (wipeE env (tgs tg)) ds ws1 with
        | none => none
        | some (r, ws2) => some (.lst r, ws2) else none := by simp only [ev, cmpY]; try rfl
theorem x_comp2 {tg2 : Tg} {it2 : Ex} : ev Φ (.comp2 tg it tg2 it2 elt) env ws = match bor (vi it) env ws (ev Φ it env ws) with
    | none => none
    | some (x, ws1) => match itemsOf x with
      | none => none
      | some ds => match compL2 (fun env ws => ev Φ it2 env ws) (fun _ ws => some (true, ws)) (fun env ws => ev Φ elt env ws) tg tg2 (wipeE env (tgs tg ++ tgs tg2)) ds ws1 with
        | none => none
        | some (r, ws2) => if okLen r.length then some (.lst r, ws2) else none := by simp only [ev]; try rfl
theorem x_comp2If {tg2 : Tg} {it2 : Ex} : ev Φ (.comp2If tg it tg2 it2 c elt) env ws = match bor (vi it) env ws (ev Φ it env ws) with
    | none => none
    | some (x, ws1) => match itemsOf x with
      | none => none
      | some ds => match compL2 (fun env ws => ev Φ it2 env ws) (fun env ws => evT Φ c env ws) (fun env ws => ev Φ elt env ws) tg tg2 (wipeE env (tgs tg ++ tgs tg2)) ds ws1 with
        | none => none
        | some (r, ws2) => if okLen r.length then some (.lst r, ws2) else none := by simp only [ev]; try rfl
theorem for_nil : forX Φ tg b [] env ws = some (.nx, env, ws) := rfl
theorem for_cons {d : D} {ds : List D} : forX Φ tg b (d :: ds) env ws = match bindT env tg d with
    | none => none
    | some env1 => match execs Φ b env1 ws with
      | none => none
      | some (.nx, env2, ws2) => forX Φ tg b ds env2 ws2
      | some (.ct, env2, ws2) => forX Φ tg b ds env2 ws2
      | some (.br, env2, ws2) => some (.nx, env2, ws2)
      | some (.rt v, env2, ws2) => some (.rt v, env2, ws2) := rfl
theorem cmp_nil : cmpX Φ tg elt env [] ws = some ([], ws) := rfl
theorem cmp_cons {d : D} {ds : List D} : cmpX Φ tg elt env (d :: ds) ws = match bindT env tg d with
    | none => none
    | some env1 => match ev Φ elt env1 ws with
        | none => none
        | some (y, ws2) => match cmpX Φ tg elt env ds ws2 with
          | none => none
          | some (r, ws3) => some (y :: r, ws3) := rfl
theorem cmpY_nil : cmpY Φ tg c elt env [] ws = some ([], ws) := rfl
theorem cmpY_cons {d : D} {ds : List D} : cmpY Φ tg c elt env (d :: ds) ws = match bindT env tg d with
    | none => none
    | some env1 => match evT Φ c env1 ws with
      | none => none
      | some (false, ws1) => cmpY Φ tg c elt env ds ws1
      | some (true, ws1) => match ev Φ elt env1 ws1 with
        | none => none
        | some (y, ws2) => match cmpY Φ tg c elt env ds ws2 with
          | none => none
          | some (r, ws3) => some (y :: r, ws3) := rfl
theorem whl_stop {n : Nat} {ws1 : WS} (h : evT Φ c env ws = some (false, ws1)) : whlX Φ c b (n + 1) env ws = some (.nx, env, ws1) := by
  unfold whlX
  simp only [whlN, h]
theorem whl_go {n : Nat} {ws1 ws2 : WS} {env2 : Env} (h : evT Φ c env ws = some (true, ws1)) (h2 : execs Φ b env ws1 = some (.nx, env2, ws2)) : whlX Φ c b (n + 1) env ws = whlX Φ c b n env2 ws2 := by
  unfold whlX
  simp only [whlN, h, h2]
/-- a walk over a list, each member read by rep -/
theorem for_ind {α β : Type} {I : α → Env → WS → Prop} {rep : β → D} {f : α → β → α} : ∀ {xs : List β} {s : α} {env : Env} {ws : WS},
    (∀ s x env ws, x ∈ xs → I s env ws → ∃ env1 env2 ws2, bindT env tg (rep x) = some env1 ∧ execs Φ b env1 ws = some (.nx, env2, ws2) ∧ I (f s x) env2 ws2) → I s env ws →
    ∃ env2 ws2, forX Φ tg b (xs.map rep) env ws = some (.nx, env2, ws2) ∧ I (xs.foldl f s) env2 ws2
  | [], s, env, ws, _, h => ⟨env, ws, rfl, h⟩
  | x :: xs, s, env, ws, st, h => by
    obtain ⟨env1, env2, ws2, h1, h2, h3⟩ := st s x env ws List.mem_cons_self h
    obtain ⟨env3, ws3, g1, g2⟩ := for_ind (fun s x env ws hx => st s x env ws (List.mem_cons_of_mem _ hx)) h3
    refine ⟨env3, ws3, ?_, g2⟩
    rw [List.map_cons, for_cons, h1]
    dsimp only
    rw [h2]
    exact g1
theorem cmp_map {β : Type} {rep g : β → D} : ∀ {xs : List β}, (∀ x ∈ xs, ∃ env1, bindT env tg (rep x) = some env1 ∧ ev Φ elt env1 ws = some (g x, ws)) → cmpX Φ tg elt env (xs.map rep) ws = some (xs.map g, ws)
  | [], _ => rfl
  | x :: xs, h => by
    obtain ⟨env1, h1, h2⟩ := h x List.mem_cons_self
    rw [List.map_cons, cmp_cons, h1]
    dsimp only
    rw [h2]
    dsimp only
    rw [cmp_map fun y hy => h y (List.mem_cons_of_mem _ hy)]
    rfl
theorem cmpY_map {β : Type} {rep g : β → D} {p : β → Bool} : ∀ {xs : List β}, (∀ x ∈ xs, ∃ env1, bindT env tg (rep x) = some env1 ∧ evT Φ c env1 ws = some (p x, ws) ∧ (p x = true → ev Φ elt env1 ws = some (g x, ws))) →
    cmpY Φ tg c elt env (xs.map rep) ws = some ((xs.filter p).map g, ws)
  | [], _ => rfl
  | x :: xs, h => by
    obtain ⟨env1, h1, h2, h3⟩ := h x List.mem_cons_self
    have ih := cmpY_map fun y hy => h y (List.mem_cons_of_mem _ hy)
    rw [List.map_cons, cmpY_cons, h1]
    dsimp only
    rw [h2]
    cases hp : p x with
    | false =>
      dsimp only
      rw [ih, List.filter_cons_of_neg (by rw [hp]; decide)]
    | true =>
      dsimp only
      rw [h3 hp]
      dsimp only
      rw [ih, List.filter_cons_of_pos hp]
      rfl
end
/-! values -/
section
variable {i j : Int} {a b : Bool} {xs ys : List D} {x y : D} {ws : WS}
theorem b_add : bop .add (.int i) (.int j) = some (.int (i + j)) := rfl
theorem b_sub : bop .sub (.int i) (.int j) = some (.int (i - j)) := rfl
theorem b_mul : bop .mul (.int i) (.int j) = if okI i && okI j then some (.int (i * j)) else none := rfl
theorem b_fdiv : bop .fdiv (.int i) (.int j) = if decide (0 < j) && okI j then some (.int (i / j)) else if decide (j < 0) && okI j then some (.int (i.fdiv j)) else none := rfl
theorem b_mod : bop .mod (.int i) (.int j) = if decide (0 < j) then some (.int (i % j)) else none := rfl
theorem b_shl : bop .shl (.int i) (.int j) = if decide (0 ≤ j) && decide (j ≤ 100000) && decide (i.natAbs < 18446744073709551616) then some (.int (i * 2 ^ j.toNat)) else none := rfl
theorem b_shr : bop .shr (.int i) (.int j) = if decide (0 ≤ j) then some (.int (i / 2 ^ j.toNat)) else none := rfl
theorem b_pow : bop .pow (.int i) (.int j) = if decide (0 ≤ j) && decide (j ≤ 1000) && decide (i.natAbs < 18446744073709551616) then some (.int (i ^ j.toNat)) else none := rfl
theorem b_tup : bop .add (.tup xs) (.tup ys) = if okLen (xs.length + ys.length) then some (.tup (xs ++ ys)) else none := rfl
theorem b_lst : bop .add (.lst xs) (.lst ys) = if okLen (xs.length + ys.length) then some (.lst (xs ++ ys)) else none := rfl
theorem o_lt : cop .lt (.int i) (.int j) = some (decide (i < j)) := rfl
theorem o_le : cop .le (.int i) (.int j) = some (decide (i ≤ j)) := rfl
theorem o_gt : cop .gt (.int i) (.int j) = some (decide (j < i)) := rfl
theorem o_ge : cop .ge (.int i) (.int j) = some (decide (j ≤ i)) := rfl
theorem o_eqi : cop .eq (.int i) (.int j) = some (decide (i = j)) := rfl
theorem o_nei : cop .ne (.int i) (.int j) = some (!decide (i = j)) := rfl
theorem o_neb : cop .ne (.bl a) (.bl b) = some (!(a == b)) := rfl
theorem o_isb : cop .isB (.bl a) (.bl b) = some (decide (a = b)) := rfl
theorem o_eqs {a b : Nat} : cop .eq (.str a) (.str b) = if (decide (a < 512) && decide (b < 512)) = true then some (decide (a = b)) else none := by simp only [cop, okq, deq]; rfl
theorem o_nes {a b : Nat} : cop .ne (.str a) (.str b) = if (decide (a < 512) && decide (b < 512)) = true then some (!decide (a = b)) else none := by simp only [cop, okq, deq]; rfl
theorem o_int : cop .isin x (.tup xs) = if (isFlat x && xs.all isFlat) = true then some (xs.any fun y => deq y x) else none := rfl
theorem o_nit : cop .notin x (.tup xs) = if (isFlat x && xs.all isFlat) = true then some (!xs.any fun y => deq y x) else none := rfl
theorem isF_s {k : Nat} : isFlat (.str k) = decide (k < 512) := rfl
theorem isF_i : isFlat (.int i) = true := rfl
theorem deq_ss {a b : Nat} : deq (.str a) (.str b) = decide (a = b) := by simp only [deq]
theorem deq_ii : deq (.int i) (.int j) = decide (i = j) := by simp only [deq]
theorem u_len1 : bf1 .len (.tup xs) = some (.int xs.length) := rfl
theorem u_len2 : bf1 .len (.lst xs) = some (.int xs.length) := rfl
theorem u_len3 {ns : List Int} : bf1 .len (.scr ns) = some (.int ns.length) := rfl
theorem u_abs : bf1 .abs (.int i) = some (.int (if i < 0 then -i else i)) := rfl
theorem u_int : bf1 .int (.int i) = some (.int i) := rfl
theorem u_intb : bf1 .int (.bl a) = some (.int (if a then 1 else 0)) := rfl
theorem u_lst1 : bf1 .lstOf (.tup xs) = some (.lst xs) := rfl
theorem u_lst2 {ks vs : List D} : bf1 .lstOf (.dic ks vs) = some (.lst ks) := rfl
theorem u_lst3 : bf1 .lstOf (.lst xs) = some (.lst xs) := rfl
theorem u_tup : bf1 .tupOf (.lst xs) = some (.tup xs) := rfl
theorem u_max : bf2 .max (.int i) (.int j) = some (.int (if j > i then j else i)) := rfl
theorem u_minL2 : bf1 .minL (.lst [.int i, .int j]) = some (.int (if j < i then j else i)) := rfl
theorem u_min : bf2 .min (.int i) (.int j) = some (.int (if j < i then j else i)) := rfl
theorem s_int {t : Ty} : isiD t (.int i) = some (match t with | .int => true | _ => false) := by cases t <;> rfl
theorem s_bl {t : Ty} : isiD t (.bl a) = some (match t with | .int => true | .bool => true | _ => false) := by cases t <;> rfl
theorem s_tup {t : Ty} : isiD t (.tup xs) = some (match t with | .tuple => true | _ => false) := by cases t <;> rfl
theorem s_lst {t : Ty} : isiD t (.lst xs) = some (match t with | .list => true | _ => false) := by cases t <;> rfl
theorem s_non {t : Ty} : isiD t .non = some false := by cases t <;> rfl
theorem s_str {t : Ty} {k : Nat} : isiD t (.str k) = some (match t with | .str => true | _ => false) := by cases t <;> rfl
theorem a_add : aop .add i j = some (i + j) := rfl
theorem a_sub : aop .sub i j = some (i - j) := rfl
theorem i_tup : itemsOf (.tup xs) = some xs := rfl
theorem i_lst : itemsOf (.lst xs) = some xs := rfl
theorem r_bl : truth (.bl a) = some a := rfl
theorem r_int : truth (.int i) = some (i != 0) := rfl
theorem sl_a : slD (.tup (x :: xs)) none (some 1) = some (.tup [x]) := by
  have : cutD (x :: xs) none (some 1) = [x] := by
    unfold cutD
    rw [show HT.sIx (x :: xs).length 0 none = 0 from rfl, show HT.sIx (x :: xs).length (x :: xs).length (some 1) = min 1 (xs.length + 1) from HT.sIx_nat _ _ 1, show min 1 (xs.length + 1) = 1 by omega]
    rfl
  simp only [slD, this]
theorem sl_bl : slD (.lst (x :: xs)) (some 1) none = some (.lst xs) := by
  have : cutD (x :: xs) (some 1) none = xs := by
    unfold cutD
    rw [show HT.sIx (x :: xs).length 0 (some 1) = min 1 (xs.length + 1) from HT.sIx_nat _ _ 1, show min 1 (xs.length + 1) = 1 by omega, HT.sIx_none]
    simp
  simp only [slD, this]
theorem sl_b : slD (.tup (x :: xs)) (some 1) none = some (.tup xs) := by
  have : cutD (x :: xs) (some 1) none = xs := by
    unfold cutD
    rw [show HT.sIx (x :: xs).length 0 (some 1) = min 1 (xs.length + 1) from HT.sIx_nat _ _ 1, show min 1 (xs.length + 1) = 1 by omega, HT.sIx_none]
    simp
  simp only [slD, this]
theorem sl_c : slD (.tup (x :: y :: xs)) (some 2) none = some (.tup xs) := by
  have : cutD (x :: y :: xs) (some 2) none = xs := by
    unfold cutD
    rw [show HT.sIx (x :: y :: xs).length 0 (some 2) = min 2 (xs.length + 2) from HT.sIx_nat _ _ 2, show min 2 (xs.length + 2) = 2 by omega, HT.sIx_none]
    simp
  simp only [slD, this]
end
/-! reading -/
theorem wg_1 (x y : D) : wg [(25, x), (24, y)] 25 = some x := rfl
theorem wg_0 (x y : D) : wg [(25, x), (24, y)] 24 = some y := rfl
theorem wp_0 (x y e : D) : wp [(25, x), (24, y)] 24 e = [(25, x), (24, e)] := rfl
theorem bn (env : Env) (i : Nat) (d : D) : bindT env (.nm i) d = some (es env i (.va d)) := rfl
theorem bt (env : Env) (is : List Nat) (ds : List D) : bindT env (.tp is) (.tup ds) = setAll env is ds := rfl
theorem btl (env : Env) (is : List Nat) (ds : List D) : bindT env (.tp is) (.lst ds) = setAll env is ds := rfl
theorem bq (env : Env) (is : List (List Nat)) (ds : List D) : bindT env (.tq is) (.tup ds) = setAllT env is ds := rfl
theorem ixN_lt {n : Nat} {i : Int} {j : Nat} (h : i = (j : Int)) (hj : j < n) : L2.ixN n i = some j := by
  subst h
  unfold L2.ixN
  rw [if_pos (by omega), if_pos (by omega)]
  rfl
theorem atI_of {α : Type} {xs : List α} {j : Nat} {i : Int} {x : α} (hi : i = (j : Int)) (h : xs[j]? = some x) : L2.atI xs i = some x := by
  unfold L2.atI
  rw [ixN_lt hi (List.getElem?_eq_some_iff.mp h).1]
  exact h
theorem ixW_0 (ws : WS) (x : D) (xs : List D) : ixW ws (.tup (x :: xs)) (.int 0) = some x := atI_of (j := 0) rfl rfl
theorem ixW_1 (ws : WS) (x y : D) (xs : List D) : ixW ws (.tup (x :: y :: xs)) (.int 1) = some y := atI_of (j := 1) rfl rfl
theorem ixW_2 (ws : WS) (x y z : D) (xs : List D) : ixW ws (.tup (x :: y :: z :: xs)) (.int 2) = some z := atI_of (j := 2) rfl rfl
theorem ixW_3 (ws : WS) (x y z u : D) (xs : List D) : ixW ws (.tup (x :: y :: z :: u :: xs)) (.int 3) = some u := atI_of (j := 3) rfl rfl
theorem ixL_0 (ws : WS) (x : D) (xs : List D) : ixW ws (.lst (x :: xs)) (.int 0) = some x := atI_of (j := 0) rfl rfl
theorem ixL_1 (ws : WS) (x y : D) (xs : List D) : ixW ws (.lst (x :: y :: xs)) (.int 1) = some y := atI_of (j := 1) rfl rfl
theorem ixL_2 (ws : WS) (x y z : D) (xs : List D) : ixW ws (.lst (x :: y :: z :: xs)) (.int 2) = some z := atI_of (j := 2) rfl rfl
theorem ixL_3 (ws : WS) (x y z u : D) (xs : List D) : ixW ws (.lst (x :: y :: z :: u :: xs)) (.int 3) = some u := atI_of (j := 3) rfl rfl
theorem ixL_n1 (ws : WS) (x : D) : ixW ws (.lst [x]) (.int (-1)) = some x := rfl
theorem ixL_n2 (ws : WS) (x y : D) : ixW ws (.lst [x, y]) (.int (-1)) = some y := rfl
theorem ixD_1 (ws : WS) (k : Nat) (v : D) (h : k < 512) : ixW ws (.dic [.str k] [v]) (.str k) = some v := by
  show (if isK (.str k) = true then dget [.str k] [v] (.str k) else none) = _
  unfold isK dget keq
  simp [h]
theorem ixW_w (kvs : List (Nat × D)) (k : Nat) : ixW (some kvs) .wd (.str k) = wg kvs k := rfl
theorem iN_non : isNone .non = true := rfl
theorem iN_int (i : Int) : isNone (.int i) = false := rfl
theorem iN_bl (i : Bool) : isNone (.bl i) = false := rfl
theorem iN_str (i : Nat) : isNone (.str i) = false := rfl
theorem iN_tup (i : List D) : isNone (.tup i) = false := rfl
theorem iN_lst (i : List D) : isNone (.lst i) = false := rfl
def F (q : Rat) : D := .tup [.int q.num, .int q.den]
theorem iN_F (q : Rat) : isNone (F q) = false := rfl
theorem F_0 (ws : WS) (q : Rat) : ixW ws (F q) (.int 0) = some (.int q.num) := ixW_0 _ _ _
theorem F_1 (ws : WS) (q : Rat) : ixW ws (F q) (.int 1) = some (.int q.den) := ixW_1 _ _ _ _
theorem bind_F (env : Env) (i j : Nat) (q : Rat) : bindT env (.tp [i, j]) (F q) = some (es (es env i (.va (.int q.num))) j (.va (.int q.den))) := rfl
theorem big_lt : 2 ^ 8000 < big := by
  unfold big
  exact Nat.pow_lt_pow_right (by decide) (by decide)
theorem okI_of {i : Int} (h : i.natAbs < 2 ^ 8000) : okI i = true := by
  unfold okI
  rw [decide_eq_true_eq]
  exact Nat.lt_trans h big_lt
theorem okI_s {i : Int} (h : i.natAbs < 1048576) : okI i = true := okI_of (Nat.lt_trans h (by rw [show (1048576 : Nat) = 2 ^ 20 by decide]; exact Nat.pow_lt_pow_right (by decide) (by decide)))
theorem mk_env (ds : List D) (n : Nat) : mkEnv ds n = ds.map .va ++ List.replicate (n - ds.length) .un := rfl
end Pv.K33


set_option Elab.async false
set_option linter.all false
set_option maxRecDepth 100000
set_option exponentiation.threshold 20
/-! L1: gcd and fractions. -/
namespace Pv.K33
open Pv
local macro_rules
  | `(tactic| simp! only [$xs,*]) => `(tactic| simp only [ev.eq_1, ev.eq_2, ev.eq_3, ev.eq_4, ev.eq_5, ev.eq_6, ev.eq_7, ev.eq_8, ev.eq_9, ev.eq_10, ev.eq_11, ev.eq_12, ev.eq_13, ev.eq_14, ev.eq_15, ev.eq_16, ev.eq_17, ev.eq_18, ev.eq_19, ev.eq_20, ev.eq_21, ev.eq_22, ev.eq_23, ev.eq_24, ev.eq_25, ev.eq_26, ev.eq_27, ev.eq_28, ev.eq_29, ev.eq_30, ev.eq_35, evs, evT, exec.eq_1, exec.eq_2, exec.eq_3, exec.eq_4, exec.eq_5, exec.eq_6, exec.eq_7, exec.eq_8, exec.eq_9, exec.eq_10, exec.eq_11, exec.eq_12, exec.eq_13, exec.eq_14, exec.eq_15, exec.eq_16, exec.eq_19, exec.eq_20, exec.eq_21, exec.eq_22, exec.eq_23, execs, x_whl, x_for, x_comp, x_compIf, x_comp2, x_comp2If, bor, vi, mkEnv, eg, es, frzA, frzS, bn, bt, bq, bind_F, setAll, setAllT, bind1, setPar, wipeE, tgs, b_add, b_sub, b_mul, b_fdiv, b_mod, b_shl, b_shr, b_pow, b_tup, b_lst, o_lt, o_le, o_gt, o_ge, o_eqi, o_nei, o_neb, sl_a, sl_b, sl_bl, sl_c, cmp_nil, cmp_cons, cmpY_nil, cmpY_cons, ixW_3, ixL_0, ixL_1, ixL_2, ixL_3, btl, o_isb, o_eqs, o_nes, o_int, o_nit, isF_s, isF_i, deq_ss, deq_ii, List.all_cons, List.all_nil, List.any_cons, List.any_nil, Nat.reduceEqDiff, Int.reduceEq, u_len1, u_len2, u_len3, u_abs, u_int, u_intb, u_lst1, u_lst2, u_lst3, u_tup, u_max, u_min, s_int, s_bl, s_tup, s_lst, s_non, s_str, a_add, a_sub, i_tup, i_lst, r_bl, r_int, fin, chk_own, chk_some, isN, bnd, iN_non, iN_int, iN_bl, iN_str, iN_tup, iN_lst, iN_F, ixW_0, ixW_1, ixW_2, F_0, F_1, ixW_w, wg_1, wg_0, wp_0, List.map, List.length, List.replicate, List.cons_append, List.nil_append, List.append_nil, Nat.reduceSub, Nat.reduceAdd, Nat.sub_self, Nat.sub_zero, if_true, Bool.false_eq_true, if_false, reduceIte, ite_true, ite_false, Bool.and_self, Bool.and_true, Bool.true_and, Bool.not_true, Bool.not_false, Nat.reduceLT, Nat.reduceLeDiff, decide_true, decide_false, Int.reduceLT, Int.reduceLE, Int.reduceAdd, Int.reduceSub, Int.reduceNeg, Bool.or_true, Bool.or_false, Bool.true_or, Bool.false_or, Bool.and_false, Bool.false_and, $xs,*])
  | `(tactic| simp! only) => `(tactic| simp only [ev.eq_1, ev.eq_2, ev.eq_3, ev.eq_4, ev.eq_5, ev.eq_6, ev.eq_7, ev.eq_8, ev.eq_9, ev.eq_10, ev.eq_11, ev.eq_12, ev.eq_13, ev.eq_14, ev.eq_15, ev.eq_16, ev.eq_17, ev.eq_18, ev.eq_19, ev.eq_20, ev.eq_21, ev.eq_22, ev.eq_23, ev.eq_24, ev.eq_25, ev.eq_26, ev.eq_27, ev.eq_28, ev.eq_29, ev.eq_30, ev.eq_35, evs, evT, exec.eq_1, exec.eq_2, exec.eq_3, exec.eq_4, exec.eq_5, exec.eq_6, exec.eq_7, exec.eq_8, exec.eq_9, exec.eq_10, exec.eq_11, exec.eq_12, exec.eq_13, exec.eq_14, exec.eq_15, exec.eq_16, exec.eq_19, exec.eq_20, exec.eq_21, exec.eq_22, exec.eq_23, execs, x_whl, x_for, x_comp, x_compIf, x_comp2, x_comp2If, bor, vi, mkEnv, eg, es, frzA, frzS, bn, bt, bq, bind_F, setAll, setAllT, bind1, setPar, wipeE, tgs, b_add, b_sub, b_mul, b_fdiv, b_mod, b_shl, b_shr, b_pow, b_tup, b_lst, o_lt, o_le, o_gt, o_ge, o_eqi, o_nei, o_neb, sl_a, sl_b, sl_bl, sl_c, cmp_nil, cmp_cons, cmpY_nil, cmpY_cons, ixW_3, ixL_0, ixL_1, ixL_2, ixL_3, btl, o_isb, o_eqs, o_nes, o_int, o_nit, isF_s, isF_i, deq_ss, deq_ii, List.all_cons, List.all_nil, List.any_cons, List.any_nil, Nat.reduceEqDiff, Int.reduceEq, u_len1, u_len2, u_len3, u_abs, u_int, u_intb, u_lst1, u_lst2, u_lst3, u_tup, u_max, u_min, s_int, s_bl, s_tup, s_lst, s_non, s_str, a_add, a_sub, i_tup, i_lst, r_bl, r_int, fin, chk_own, chk_some, isN, bnd, iN_non, iN_int, iN_bl, iN_str, iN_tup, iN_lst, iN_F, ixW_0, ixW_1, ixW_2, F_0, F_1, ixW_w, wg_1, wg_0, wp_0, List.map, List.length, List.replicate, List.cons_append, List.nil_append, List.append_nil, Nat.reduceSub, Nat.reduceAdd, Nat.sub_self, Nat.sub_zero, if_true, Bool.false_eq_true, if_false, reduceIte, ite_true, ite_false, Bool.and_self, Bool.and_true, Bool.true_and, Bool.not_true, Bool.not_false, Nat.reduceLT, Nat.reduceLeDiff, decide_true, decide_false, Int.reduceLT, Int.reduceLE, Int.reduceAdd, Int.reduceSub, Int.reduceNeg, Bool.or_true, Bool.or_false, Bool.true_or, Bool.false_or, Bool.and_false, Bool.false_and])
/-! Euclid -/
theorem gcd_step {x y : Int} (hx : 0 ≤ x) (hy : 0 < y) : Int.gcd y (x % y) = Int.gcd x y := by
  unfold Int.gcd
  have : (x % y).natAbs = x.natAbs % y.natAbs := by
    obtain ⟨a, rfl⟩ := Int.eq_ofNat_of_zero_le hx
    obtain ⟨b, rfl⟩ := Int.eq_ofNat_of_zero_le (Int.le_of_lt hy)
    show ((a : Int) % (b : Int)).natAbs = a % b
    rw [← Int.natCast_emod]
    exact Int.natAbs_natCast _
  rw [this, Nat.gcd_comm, ← Nat.gcd_rec, Nat.gcd_comm]

theorem euclid {c : Env → WS → Option (Bool × WS)} {b : Env → WS → Out} {ws : WS} (E : Int → Int → Env)
    (hc : ∀ x y, c (E x y) ws = some (decide (0 < y), ws)) (hb : ∀ x y, 0 < y → b (E x y) ws = some (.nx, E y (x % y), ws)) :
    ∀ (k : Nat) (x y : Int) (n : Nat), 0 ≤ x → 0 ≤ y → y < 2 ^ k → 2 * k + 1 ≤ n → whlN c b n (E x y) ws = some (.nx, E (Int.gcd x y) 0, ws) := by
  intro k
  induction k with
  | zero =>
    intro x y n hx hy hk hn
    have : y = 0 := by simp at hk; omega
    subst this
    obtain ⟨n, rfl⟩ : ∃ m, n = m + 1 := ⟨n - 1, by omega⟩
    simp only [whlN, hc]
    simp
    rw [Int.natAbs_of_nonneg hx]
  | succ k ih =>
    intro x y n hx hy hk hn
    obtain ⟨n, rfl⟩ : ∃ m, n = m + 2 := ⟨n - 2, by omega⟩
    by_cases h0 : 0 < y
    · simp only [whlN, hc, hb _ _ h0, decide_eq_true h0]
      have hz : 0 ≤ x % y := Int.emod_nonneg _ (by omega)
      have hz2 : x % y < y := Int.emod_lt_of_pos _ h0
      by_cases h1 : 0 < x % y
      · simp only [hb _ _ h1, decide_eq_true h1]
        have hw : 0 ≤ y % (x % y) := Int.emod_nonneg _ (by omega)
        have hw2 : y % (x % y) < x % y := Int.emod_lt_of_pos _ h1
        have hw3 : y % (x % y) < 2 ^ k := by
          rw [Int.pow_succ] at hk
          by_cases q : x % y < 2 ^ k
          · omega
          · have e : y % (x % y) = y - (x % y) * (y / (x % y)) := Int.emod_def _ _
            have : 1 ≤ y / (x % y) := by
              rw [Int.le_ediv_iff_mul_le h1]; omega
            have : (x % y) * 1 ≤ (x % y) * (y / (x % y)) := Int.mul_le_mul_of_nonneg_left this hz
            omega
        rw [ih (x % y) (y % (x % y)) n hz hw hw3 (by omega)]
        rw [gcd_step (Int.le_of_lt h0) h1, gcd_step hx h0]
      · have h2 : x % y = 0 := by omega
        simp only [h2]
        simp
        have : Int.gcd x y = y.natAbs := by
          rw [← gcd_step hx h0, h2]
          simp
        rw [this, Int.natAbs_of_nonneg hy]
    · have : y = 0 := by omega
      subst this
      simp only [whlN, hc]
      simp
      rw [Int.natAbs_of_nonneg hx]

theorem absI (x : Int) : (if x < 0 then -x else x) = (x.natAbs : Int) := by split <;> omega
theorem pow3 {x : Int} (h : x.natAbs < 2 ^ 8000) : ((x.natAbs : Nat) : Int) < 2 ^ 8000 := by
  have : ((x.natAbs : Nat) : Int) < ((2 ^ 8000 : Nat) : Int) := Int.ofNat_lt.mpr h
  rw [Int.natCast_pow] at this
  exact this
theorem c_common (n : Nat) (a b : Int) (ws : WS) (hb : b.natAbs < 2 ^ 8000) : callO P (n + 1) 1 [.int a, .int b] ws = some (.int (Int.gcd a b), ws) := by
  have := euclid (ws := ws) (c := fun env ws => evT (callO P n) t_common_0 env ws) (b := fun env ws => execs (callO P n) l_common_1 env ws)
    (fun x y => [.va (.int x), .va (.int y)]) (fun x y => by simp! only [t_common_0]) (fun x y h => by simp! only [l_common_1, decide_eq_true h])
    8000 a.natAbs b.natAbs fuel (by omega) (by omega) (pow3 hb) (by unfold fuel; omega)
  have e : Int.gcd (a.natAbs : Int) (b.natAbs : Int) = Int.gcd a b := by simp [Int.gcd]
  rw [e] at this
  change whlX (callO P n) _ _ fuel _ _ = _ at this
  rw [call_at (d := d_common) rfl rfl]
  simp! only [d_common, b_common, absI, this]
theorem gcd_lt {a b : Int} {k : Nat} (h : b ≠ 0) (hb : b.natAbs < k) : ((Int.gcd a b : Int)).natAbs < k := by
  rw [Int.natAbs_natCast]
  refine Nat.lt_of_le_of_lt (Nat.le_of_dvd (by omega) ?_) hb
  exact Int.gcd_dvd_natAbs_right a b
theorem mkF {a b : Int} (hb : 0 < b) : D.tup [.int (a / (Int.gcd a b : Int)), .int (b / (Int.gcd a b : Int))] = F (Rat.divInt a b) := by
  unfold F
  rw [Rat.num_divInt, Rat.den_divInt, if_neg (by omega), Int.sign_eq_one_of_pos hb, Int.one_mul, Int.gcd_comm b a, Int.natCast_ediv, Int.natAbs_of_nonneg (by omega)]
theorem c__law_least (n : Nat) (a b : Int) (ws : WS) (hb : 0 < b) (hb2 : b.natAbs < 2 ^ 8000) : callO P (n + 1) 65 [.int a, .int b] ws = some (F (Rat.divInt a b), ws) := by
  have := euclid (ws := ws) (c := fun env ws => evT (callO P n) t__law_least_0 env ws) (b := fun env ws => execs (callO P n) l__law_least_1 env ws)
    (fun x y => [.va (.int a), .va (.int b), .va (.int x), .va (.int y)]) (fun x y => by simp! only [t__law_least_0]) (fun x y h => by simp! only [l__law_least_1, decide_eq_true h])
    8000 a.natAbs b.natAbs fuel (by omega) (by omega) (pow3 hb2) (by unfold fuel; omega)
  have e : Int.gcd (a.natAbs : Int) (b.natAbs : Int) = Int.gcd a b := by simp [Int.gcd]
  rw [e] at this
  change whlX (callO P n) _ _ fuel _ _ = _ at this
  have g0 : 0 < (Int.gcd a b : Int) := by
    have : Int.gcd a b ≠ 0 := fun z => by rw [Int.gcd_eq_zero_iff] at z; omega
    omega
  have g1 := okI_of (i := (Int.gcd a b : Int)) (gcd_lt (by omega) hb2)
  rw [call_at (d := d__law_least) rfl rfl]
  simp! only [d__law_least, b__law_least, absI, this, decide_eq_true hb, decide_eq_true g0, g1]
  rw [mkF hb]
theorem c_fraction (n : Nat) (a b : Int) (ws : WS) (hb : 0 < b) (hb2 : b.natAbs < 2 ^ 8000) : callO P (n + 2) 2 [.int a, .int b] ws = some (F (Rat.divInt a b), ws) := by
  have g0 : 0 < (Int.gcd a b : Int) := by
    have : Int.gcd a b ≠ 0 := fun z => by rw [Int.gcd_eq_zero_iff] at z; omega
    omega
  have g1 := okI_of (i := (Int.gcd a b : Int)) (gcd_lt (by omega) hb2)
  rw [call_at (d := d_fraction) rfl rfl]
  simp! only [d_fraction, b_fraction, c_common n a b ws hb2, decide_eq_true hb, decide_eq_true g0, g1]
  rw [mkF hb]
/-! sizes -/
def Z (k : Nat) (q : Rat) : Prop := q.num.natAbs < 2 ^ k ∧ q.den < 2 ^ k
theorem Z.mono {j k : Nat} {q : Rat} (h : Z j q) (e : j ≤ k) : Z k q := ⟨Nat.lt_of_lt_of_le h.1 (Nat.pow_le_pow_right (by decide) e), Nat.lt_of_lt_of_le h.2 (Nat.pow_le_pow_right (by decide) e)⟩
theorem div_le {u l : Int} (hl : 0 < l) : (Rat.divInt u l).num.natAbs ≤ u.natAbs ∧ (Rat.divInt u l).den ≤ l.natAbs := by
  rw [Rat.num_divInt, Rat.den_divInt, if_neg (by omega), Int.sign_eq_one_of_pos hl, Int.one_mul]
  refine ⟨?_, Nat.div_le_self _ _⟩
  have := Int.natAbs_ediv_le_natAbs u (l.gcd u)
  exact this
theorem Z_div {u l : Int} {k : Nat} (hl : 0 < l) (h1 : u.natAbs < 2 ^ k) (h2 : l.natAbs < 2 ^ k) : Z k (Rat.divInt u l) := ⟨Nat.lt_of_le_of_lt (div_le hl).1 h1, Nat.lt_of_le_of_lt (div_le hl).2 h2⟩
theorem den_pos (q : Rat) : (0 : Int) < q.den := by have := q.den_pos; omega
theorem mul_lt {a b : Int} {i j : Nat} (h1 : a.natAbs < 2 ^ i) (h2 : b.natAbs < 2 ^ j) : (a * b).natAbs < 2 ^ (i + j) := by
  rw [Int.natAbs_mul, Nat.pow_add]
  exact Nat.mul_lt_mul'' h1 h2
theorem add_eq (p q : Rat) : p + q = Rat.divInt (p.num * q.den + q.num * p.den) (p.den * q.den) := by
  have := Rat.divInt_add_divInt p.num q.num (d₁ := p.den) (d₂ := q.den) (by have := den_pos p; omega) (by have := den_pos q; omega)
  rw [Rat.num_divInt_den, Rat.num_divInt_den] at this
  exact this
theorem mul_eq (p q : Rat) : p * q = Rat.divInt (p.num * q.num) (p.den * q.den) := by
  have := Rat.divInt_mul_divInt p.num q.num (d₁ := p.den) (d₂ := q.den)
  rw [Rat.num_divInt_den, Rat.num_divInt_den] at this
  exact this
theorem den_lt {q : Rat} {k : Nat} (h : Z k q) : ((q.den : Int)).natAbs < 2 ^ k := by rw [Int.natAbs_natCast]; exact h.2
theorem den_mul (p q : Rat) : (0 : Int) < p.den * q.den := Int.mul_pos (den_pos p) (den_pos q)
theorem num_lt {p q : Rat} {i j : Nat} (hp : Z i p) (hq : Z j q) : (p.num * q.den + q.num * p.den).natAbs < 2 ^ (i + j + 1) := by
  have h1 := mul_lt hp.1 (den_lt hq)
  have h2 := mul_lt hq.1 (den_lt hp)
  rw [Nat.add_comm j i] at h2
  rw [Nat.pow_succ]
  omega
theorem Z_add {p q : Rat} {i j : Nat} (hp : Z i p) (hq : Z j q) : Z (i + j + 1) (p + q) := by
  rw [add_eq]
  exact Z_div (den_mul p q) (num_lt hp hq) (Nat.lt_of_lt_of_le (mul_lt (den_lt hp) (den_lt hq)) (Nat.pow_le_pow_right (by decide) (by omega)))
theorem Z_mul {p q : Rat} {i j : Nat} (hp : Z i p) (hq : Z j q) : Z (i + j) (p * q) := by
  rw [mul_eq]
  exact Z_div (den_mul p q) (mul_lt hp.1 hq.1) (mul_lt (den_lt hp) (den_lt hq))
theorem Z_neg {p : Rat} {i : Nat} (hp : Z i p) : Z i (-p) := ⟨by rw [Rat.neg_num, Int.natAbs_neg]; exact hp.1, by rw [Rat.neg_den]; exact hp.2⟩
theorem Z_sub {p q : Rat} {i j : Nat} (hp : Z i p) (hq : Z j q) : Z (i + j + 1) (p - q) := by
  rw [Rat.sub_eq_add_neg]
  exact Z_add hp (Z_neg hq)
def ab (q : Rat) : Rat := if q.num < 0 then -q else q
theorem Z_ab {p : Rat} {i : Nat} (hp : Z i p) : Z i (ab p) := by
  unfold ab
  split
  · exact Z_neg hp
  · exact hp
theorem p3 {i k : Nat} {x : Int} (h : x.natAbs < 2 ^ i) (e : i ≤ 8000 := by omega) : x.natAbs < 2 ^ 8000 := Nat.lt_of_lt_of_le h (Nat.pow_le_pow_right (by decide) e)
end Pv.K33


set_option Elab.async false
set_option linter.all false
set_option maxRecDepth 100000
set_option exponentiation.threshold 20
/-! L2: the fractions' defs. -/
namespace Pv.K33
open Pv
local macro_rules
  | `(tactic| simp! only [$xs,*]) => `(tactic| simp only [ev.eq_1, ev.eq_2, ev.eq_3, ev.eq_4, ev.eq_5, ev.eq_6, ev.eq_7, ev.eq_8, ev.eq_9, ev.eq_10, ev.eq_11, ev.eq_12, ev.eq_13, ev.eq_14, ev.eq_15, ev.eq_16, ev.eq_17, ev.eq_18, ev.eq_19, ev.eq_20, ev.eq_21, ev.eq_22, ev.eq_23, ev.eq_24, ev.eq_25, ev.eq_26, ev.eq_27, ev.eq_28, ev.eq_29, ev.eq_30, ev.eq_35, evs, evT, exec.eq_1, exec.eq_2, exec.eq_3, exec.eq_4, exec.eq_5, exec.eq_6, exec.eq_7, exec.eq_8, exec.eq_9, exec.eq_10, exec.eq_11, exec.eq_12, exec.eq_13, exec.eq_14, exec.eq_15, exec.eq_16, exec.eq_19, exec.eq_20, exec.eq_21, exec.eq_22, exec.eq_23, execs, x_whl, x_for, x_comp, x_compIf, x_comp2, x_comp2If, bor, vi, mkEnv, eg, es, frzA, frzS, bn, bt, bq, bind_F, setAll, setAllT, bind1, setPar, wipeE, tgs, b_add, b_sub, b_mul, b_fdiv, b_mod, b_shl, b_shr, b_pow, b_tup, b_lst, o_lt, o_le, o_gt, o_ge, o_eqi, o_nei, o_neb, sl_a, sl_b, sl_bl, sl_c, cmp_nil, cmp_cons, cmpY_nil, cmpY_cons, ixW_3, ixL_0, ixL_1, ixL_2, ixL_3, btl, o_isb, o_eqs, o_nes, o_int, o_nit, isF_s, isF_i, deq_ss, deq_ii, List.all_cons, List.all_nil, List.any_cons, List.any_nil, Nat.reduceEqDiff, Int.reduceEq, u_len1, u_len2, u_len3, u_abs, u_int, u_intb, u_lst1, u_lst2, u_lst3, u_tup, u_max, u_min, s_int, s_bl, s_tup, s_lst, s_non, s_str, a_add, a_sub, i_tup, i_lst, r_bl, r_int, fin, chk_own, chk_some, isN, bnd, iN_non, iN_int, iN_bl, iN_str, iN_tup, iN_lst, iN_F, ixW_0, ixW_1, ixW_2, F_0, F_1, ixW_w, wg_1, wg_0, wp_0, List.map, List.length, List.replicate, List.cons_append, List.nil_append, List.append_nil, Nat.reduceSub, Nat.reduceAdd, Nat.sub_self, Nat.sub_zero, if_true, Bool.false_eq_true, if_false, reduceIte, ite_true, ite_false, Bool.and_self, Bool.and_true, Bool.true_and, Bool.not_true, Bool.not_false, Nat.reduceLT, Nat.reduceLeDiff, decide_true, decide_false, Int.reduceLT, Int.reduceLE, Int.reduceAdd, Int.reduceSub, Int.reduceNeg, Bool.or_true, Bool.or_false, Bool.true_or, Bool.false_or, Bool.and_false, Bool.false_and, $xs,*])
  | `(tactic| simp! only) => `(tactic| simp only [ev.eq_1, ev.eq_2, ev.eq_3, ev.eq_4, ev.eq_5, ev.eq_6, ev.eq_7, ev.eq_8, ev.eq_9, ev.eq_10, ev.eq_11, ev.eq_12, ev.eq_13, ev.eq_14, ev.eq_15, ev.eq_16, ev.eq_17, ev.eq_18, ev.eq_19, ev.eq_20, ev.eq_21, ev.eq_22, ev.eq_23, ev.eq_24, ev.eq_25, ev.eq_26, ev.eq_27, ev.eq_28, ev.eq_29, ev.eq_30, ev.eq_35, evs, evT, exec.eq_1, exec.eq_2, exec.eq_3, exec.eq_4, exec.eq_5, exec.eq_6, exec.eq_7, exec.eq_8, exec.eq_9, exec.eq_10, exec.eq_11, exec.eq_12, exec.eq_13, exec.eq_14, exec.eq_15, exec.eq_16, exec.eq_19, exec.eq_20, exec.eq_21, exec.eq_22, exec.eq_23, execs, x_whl, x_for, x_comp, x_compIf, x_comp2, x_comp2If, bor, vi, mkEnv, eg, es, frzA, frzS, bn, bt, bq, bind_F, setAll, setAllT, bind1, setPar, wipeE, tgs, b_add, b_sub, b_mul, b_fdiv, b_mod, b_shl, b_shr, b_pow, b_tup, b_lst, o_lt, o_le, o_gt, o_ge, o_eqi, o_nei, o_neb, sl_a, sl_b, sl_bl, sl_c, cmp_nil, cmp_cons, cmpY_nil, cmpY_cons, ixW_3, ixL_0, ixL_1, ixL_2, ixL_3, btl, o_isb, o_eqs, o_nes, o_int, o_nit, isF_s, isF_i, deq_ss, deq_ii, List.all_cons, List.all_nil, List.any_cons, List.any_nil, Nat.reduceEqDiff, Int.reduceEq, u_len1, u_len2, u_len3, u_abs, u_int, u_intb, u_lst1, u_lst2, u_lst3, u_tup, u_max, u_min, s_int, s_bl, s_tup, s_lst, s_non, s_str, a_add, a_sub, i_tup, i_lst, r_bl, r_int, fin, chk_own, chk_some, isN, bnd, iN_non, iN_int, iN_bl, iN_str, iN_tup, iN_lst, iN_F, ixW_0, ixW_1, ixW_2, F_0, F_1, ixW_w, wg_1, wg_0, wp_0, List.map, List.length, List.replicate, List.cons_append, List.nil_append, List.append_nil, Nat.reduceSub, Nat.reduceAdd, Nat.sub_self, Nat.sub_zero, if_true, Bool.false_eq_true, if_false, reduceIte, ite_true, ite_false, Bool.and_self, Bool.and_true, Bool.true_and, Bool.not_true, Bool.not_false, Nat.reduceLT, Nat.reduceLeDiff, decide_true, decide_false, Int.reduceLT, Int.reduceLE, Int.reduceAdd, Int.reduceSub, Int.reduceNeg, Bool.or_true, Bool.or_false, Bool.true_or, Bool.false_or, Bool.and_false, Bool.false_and])
variable (n : Nat) (ws : WS)
theorem okZ1 {q : Rat} (h : Z 4000 q) : okI q.num = true := okI_of (p3 (k := 0) h.1)
theorem okZ2 {q : Rat} (h : Z 4000 q) : okI (q.den : Int) = true := okI_of (p3 (k := 0) (den_lt h))
theorem F_ab (q : Rat) : D.tup [.int (if q.num < 0 then -q.num else q.num), .int q.den] = F (ab q) := by
  unfold ab F
  split
  · rw [Rat.neg_num, Rat.neg_den]
  · rfl
theorem c_added {p q : Rat} (hp : Z 4000 p) (hq : Z 4000 q) : callO P (n + 3) 3 [F p, F q] ws = some (F (p + q), ws) := by
  rw [call_at (d := d_added) rfl rfl]
  simp! only [d_added, b_added, okZ1 hp, okZ1 hq, okZ2 hp, okZ2 hq]
  rw [c_fraction n _ _ ws (den_mul p q) (p3 (k := 0) (mul_lt (den_lt hp) (den_lt hq))), ← add_eq]
  simp! only
theorem c_times {p q : Rat} (hp : Z 4000 p) (hq : Z 4000 q) : callO P (n + 3) 6 [F p, F q] ws = some (F (p * q), ws) := by
  rw [call_at (d := d_times) rfl rfl]
  simp! only [d_times, b_times, okZ1 hp, okZ1 hq, okZ2 hp, okZ2 hq]
  rw [c_fraction n _ _ ws (den_mul p q) (p3 (k := 0) (mul_lt (den_lt hp) (den_lt hq))), ← mul_eq]
  simp! only
theorem c_negated (q : Rat) : callO P (n + 1) 4 [F q] ws = some (F (-q), ws) := by
  rw [call_at (d := d_negated) rfl rfl]
  simp! only [d_negated, b_negated]
  rw [F, Rat.neg_num, Rat.neg_den]
theorem c_taken {p q : Rat} (hp : Z 4000 p) (hq : Z 4000 q) : callO P (n + 4) 5 [F p, F q] ws = some (F (p - q), ws) := by
  rw [call_at (d := d_taken) rfl rfl]
  simp! only [d_taken, b_taken, c_negated, c_added n ws hp (Z_neg hq)]
  rw [Rat.sub_eq_add_neg]
theorem c_size (q : Rat) : callO P (n + 1) 8 [F q] ws = some (F (ab q), ws) := by
  rw [call_at (d := d_size) rfl rfl]
  simp! only [d_size, b_size, F_ab]
theorem c_is_most {p q : Rat} (hp : Z 4000 p) (hq : Z 4000 q) : callO P (n + 1) 10 [F p, F q] ws = some (.bl (decide (p ≤ q)), ws) := by
  rw [call_at (d := d_is_most) rfl rfl]
  simp! only [d_is_most, b_is_most, okZ1 hp, okZ1 hq, okZ2 hp, okZ2 hq, Rat.le_iff]
theorem c__law_less {p q : Rat} (hp : Z 4000 p) (hq : Z 4000 q) : callO P (n + 1) 69 [F p, F q] ws = some (.bl (decide (p < q)), ws) := by
  rw [call_at (d := d__law_less) rfl rfl]
  simp! only [d__law_less, b__law_less, okZ1 hp, okZ1 hq, okZ2 hp, okZ2 hq, Rat.lt_iff]
theorem c__law_mul {p q : Rat} (hp : Z 4000 p) (hq : Z 4000 q) : callO P (n + 2) 71 [F p, F q] ws = some (F (p * q), ws) := by
  rw [call_at (d := d__law_mul) rfl rfl]
  simp! only [d__law_mul, b__law_mul, okZ1 hp, okZ1 hq, okZ2 hp, okZ2 hq]
  rw [c__law_least n _ _ ws (den_mul p q) (p3 (k := 0) (mul_lt (den_lt hp) (den_lt hq))), ← mul_eq]
  simp! only
theorem c__law_off (q : Rat) : callO P (n + 1) 72 [F q] ws = some (F (-q), ws) := by
  rw [call_at (d := d__law_off) rfl rfl]
  simp! only [d__law_off, b__law_off]
  rw [F, Rat.neg_num, Rat.neg_den, Int.zero_sub]
theorem c__law_size (q : Rat) : callO P (n + 1) 73 [F q] ws = some (F (ab q), ws) := by
  rw [call_at (d := d__law_size) rfl rfl]
  simp! only [d__law_size, b__law_size]
  rw [← F_ab]
  congr 4
  · split <;> split <;> first | rfl | omega | (congr 1; omega) | (exfalso; omega)
/-- 2 to by -/
def pw (e : Int) : Rat := if 0 ≤ e then Rat.divInt (2 ^ e.toNat) 1 else Rat.divInt 1 (2 ^ (-e).toNat)
theorem pos2 (k : Nat) : (0 : Int) < 2 ^ k := Int.pow_pos (by decide)
theorem F_pw (e : Int) : F (pw e) = if 0 ≤ e then .tup [.int (2 ^ e.toNat), .int 1] else .tup [.int 1, .int (2 ^ (-e).toNat)] := by
  unfold pw
  split
  · rw [← mkF (by decide)]
    simp
  · rw [← mkF (pos2 _)]
    simp
theorem c_two_to {e : Int} (h1 : -3000 ≤ e) (h2 : e ≤ 3000) : callO P (n + 1) 13 [.int e] ws = some (F (pw e), ws) := by
  rw [call_at (d := d_two_to) rfl rfl, F_pw]
  by_cases h : 0 ≤ e
  · have : e ≤ 100000 := by omega
    simp! only [d_two_to, b_two_to, h, this, decide_true, Int.one_mul, Int.natAbs_one]
    done
  · have g1 : 0 ≤ -e := by omega
    have g2 : -e ≤ 100000 := by omega
    simp! only [d_two_to, b_two_to, h, g1, g2, decide_true, decide_false, Int.one_mul, Int.natAbs_one]
    done
theorem c__law_two {e : Int} (h1 : -3000 ≤ e) (h2 : e ≤ 3000) : callO P (n + 1) 76 [.int e] ws = some (F (pw e), ws) := by
  rw [call_at (d := d__law_two) rfl rfl, F_pw]
  by_cases h : 0 ≤ e
  · have : e ≤ 100000 := by omega
    simp! only [d__law_two, b__law_two, h, this, decide_true, Int.one_mul, Int.natAbs_one]
    done
  · have g1 : 0 ≤ -e := by omega
    have g2 : -e ≤ 100000 := by omega
    simp! only [d__law_two, b__law_two, h, g1, g2, decide_true, decide_false, Int.one_mul, Int.natAbs_one, Int.zero_sub]
    done
end Pv.K33


set_option Elab.async false
set_option linter.all false
set_option maxRecDepth 100000
set_option exponentiation.threshold 20
/-! L3: quotients, comparisons, powers of 2, exponents. -/
namespace Pv.K33
open Pv
local macro_rules
  | `(tactic| simp! only [$xs,*]) => `(tactic| simp only [ev.eq_1, ev.eq_2, ev.eq_3, ev.eq_4, ev.eq_5, ev.eq_6, ev.eq_7, ev.eq_8, ev.eq_9, ev.eq_10, ev.eq_11, ev.eq_12, ev.eq_13, ev.eq_14, ev.eq_15, ev.eq_16, ev.eq_17, ev.eq_18, ev.eq_19, ev.eq_20, ev.eq_21, ev.eq_22, ev.eq_23, ev.eq_24, ev.eq_25, ev.eq_26, ev.eq_27, ev.eq_28, ev.eq_29, ev.eq_30, ev.eq_35, evs, evT, exec.eq_1, exec.eq_2, exec.eq_3, exec.eq_4, exec.eq_5, exec.eq_6, exec.eq_7, exec.eq_8, exec.eq_9, exec.eq_10, exec.eq_11, exec.eq_12, exec.eq_13, exec.eq_14, exec.eq_15, exec.eq_16, exec.eq_19, exec.eq_20, exec.eq_21, exec.eq_22, exec.eq_23, execs, x_whl, x_for, x_comp, x_compIf, x_comp2, x_comp2If, bor, vi, mkEnv, eg, es, frzA, frzS, bn, bt, bq, bind_F, setAll, setAllT, bind1, setPar, wipeE, tgs, b_add, b_sub, b_mul, b_fdiv, b_mod, b_shl, b_shr, b_pow, b_tup, b_lst, o_lt, o_le, o_gt, o_ge, o_eqi, o_nei, o_neb, sl_a, sl_b, sl_bl, sl_c, cmp_nil, cmp_cons, cmpY_nil, cmpY_cons, ixW_3, ixL_0, ixL_1, ixL_2, ixL_3, btl, o_isb, o_eqs, o_nes, o_int, o_nit, isF_s, isF_i, deq_ss, deq_ii, List.all_cons, List.all_nil, List.any_cons, List.any_nil, Nat.reduceEqDiff, Int.reduceEq, u_len1, u_len2, u_len3, u_abs, u_int, u_intb, u_lst1, u_lst2, u_lst3, u_tup, u_max, u_min, s_int, s_bl, s_tup, s_lst, s_non, s_str, a_add, a_sub, i_tup, i_lst, r_bl, r_int, fin, chk_own, chk_some, isN, bnd, iN_non, iN_int, iN_bl, iN_str, iN_tup, iN_lst, iN_F, ixW_0, ixW_1, ixW_2, F_0, F_1, ixW_w, wg_1, wg_0, wp_0, List.map, List.length, List.replicate, List.cons_append, List.nil_append, List.append_nil, Nat.reduceSub, Nat.reduceAdd, Nat.sub_self, Nat.sub_zero, if_true, Bool.false_eq_true, if_false, reduceIte, ite_true, ite_false, Bool.and_self, Bool.and_true, Bool.true_and, Bool.not_true, Bool.not_false, Nat.reduceLT, Nat.reduceLeDiff, decide_true, decide_false, Int.reduceLT, Int.reduceLE, Int.reduceAdd, Int.reduceSub, Int.reduceNeg, Bool.or_true, Bool.or_false, Bool.true_or, Bool.false_or, Bool.and_false, Bool.false_and, $xs,*])
  | `(tactic| simp! only) => `(tactic| simp only [ev.eq_1, ev.eq_2, ev.eq_3, ev.eq_4, ev.eq_5, ev.eq_6, ev.eq_7, ev.eq_8, ev.eq_9, ev.eq_10, ev.eq_11, ev.eq_12, ev.eq_13, ev.eq_14, ev.eq_15, ev.eq_16, ev.eq_17, ev.eq_18, ev.eq_19, ev.eq_20, ev.eq_21, ev.eq_22, ev.eq_23, ev.eq_24, ev.eq_25, ev.eq_26, ev.eq_27, ev.eq_28, ev.eq_29, ev.eq_30, ev.eq_35, evs, evT, exec.eq_1, exec.eq_2, exec.eq_3, exec.eq_4, exec.eq_5, exec.eq_6, exec.eq_7, exec.eq_8, exec.eq_9, exec.eq_10, exec.eq_11, exec.eq_12, exec.eq_13, exec.eq_14, exec.eq_15, exec.eq_16, exec.eq_19, exec.eq_20, exec.eq_21, exec.eq_22, exec.eq_23, execs, x_whl, x_for, x_comp, x_compIf, x_comp2, x_comp2If, bor, vi, mkEnv, eg, es, frzA, frzS, bn, bt, bq, bind_F, setAll, setAllT, bind1, setPar, wipeE, tgs, b_add, b_sub, b_mul, b_fdiv, b_mod, b_shl, b_shr, b_pow, b_tup, b_lst, o_lt, o_le, o_gt, o_ge, o_eqi, o_nei, o_neb, sl_a, sl_b, sl_bl, sl_c, cmp_nil, cmp_cons, cmpY_nil, cmpY_cons, ixW_3, ixL_0, ixL_1, ixL_2, ixL_3, btl, o_isb, o_eqs, o_nes, o_int, o_nit, isF_s, isF_i, deq_ss, deq_ii, List.all_cons, List.all_nil, List.any_cons, List.any_nil, Nat.reduceEqDiff, Int.reduceEq, u_len1, u_len2, u_len3, u_abs, u_int, u_intb, u_lst1, u_lst2, u_lst3, u_tup, u_max, u_min, s_int, s_bl, s_tup, s_lst, s_non, s_str, a_add, a_sub, i_tup, i_lst, r_bl, r_int, fin, chk_own, chk_some, isN, bnd, iN_non, iN_int, iN_bl, iN_str, iN_tup, iN_lst, iN_F, ixW_0, ixW_1, ixW_2, F_0, F_1, ixW_w, wg_1, wg_0, wp_0, List.map, List.length, List.replicate, List.cons_append, List.nil_append, List.append_nil, Nat.reduceSub, Nat.reduceAdd, Nat.sub_self, Nat.sub_zero, if_true, Bool.false_eq_true, if_false, reduceIte, ite_true, ite_false, Bool.and_self, Bool.and_true, Bool.true_and, Bool.not_true, Bool.not_false, Nat.reduceLT, Nat.reduceLeDiff, decide_true, decide_false, Int.reduceLT, Int.reduceLE, Int.reduceAdd, Int.reduceSub, Int.reduceNeg, Bool.or_true, Bool.or_false, Bool.true_or, Bool.false_or, Bool.and_false, Bool.false_and])
variable (n : Nat) (ws : WS)
/-! a divisor below 0 -/
theorem fdiv_neg {a g : Int} (hg : 0 < g) (h : g ∣ a) : a.fdiv (-g) = -a / g := by
  obtain ⟨c, rfl⟩ := h
  rw [show g * c = (-g) * (-c) by grind, Int.mul_fdiv_cancel_left _ (by omega), show -(-g * -c) = g * (-c) by grind, Int.mul_ediv_cancel_left _ (by omega)]
theorem mkFn {a b : Int} (hb : b < 0) : D.tup [.int (a.fdiv (-(Int.gcd a b : Int))), .int (b.fdiv (-(Int.gcd a b : Int)))] = F (Rat.divInt a b) := by
  have g0 : 0 < (Int.gcd a b : Int) := by
    have : Int.gcd a b ≠ 0 := fun z => by rw [Int.gcd_eq_zero_iff] at z; omega
    omega
  rw [fdiv_neg g0 (Int.gcd_dvd_left ..), fdiv_neg g0 (Int.gcd_dvd_right ..)]
  have e : Int.gcd a b = Int.gcd (-a) (-b) := by rw [Int.gcd_neg, Int.neg_gcd]
  rw [e, mkF (by omega), Rat.neg_divInt_neg]
theorem c_fraction_n (a b : Int) (hb : b < 0) (hb2 : b.natAbs < 2 ^ 8000) : callO P (n + 2) 2 [.int a, .int b] ws = some (F (Rat.divInt a b), ws) := by
  have g0 : 0 < (Int.gcd a b : Int) := by
    have : Int.gcd a b ≠ 0 := fun z => by rw [Int.gcd_eq_zero_iff] at z; omega
    omega
  have g1 := okI_of (i := -(Int.gcd a b : Int)) (by rw [Int.natAbs_neg]; exact gcd_lt (by omega) hb2)
  have c1 : ¬ 0 < b := by omega
  have c2 : ¬ 0 < -(Int.gcd a b : Int) := by omega
  have c3 : -(Int.gcd a b : Int) < 0 := by omega
  rw [call_at (d := d_fraction) rfl rfl]
  simp! only [d_fraction, b_fraction, c_common n a b ws hb2, decide_eq_false c1, decide_eq_false c2, decide_eq_true c3, g1]
  rw [mkFn hb]
theorem c__law_least_n (a b : Int) (hb : b < 0) (hb2 : b.natAbs < 2 ^ 8000) : callO P (n + 1) 65 [.int a, .int b] ws = some (F (Rat.divInt a b), ws) := by
  have := euclid (ws := ws) (c := fun env ws => evT (callO P n) t__law_least_0 env ws) (b := fun env ws => execs (callO P n) l__law_least_1 env ws)
    (fun x y => [.va (.int a), .va (.int b), .va (.int x), .va (.int y)]) (fun x y => by simp! only [t__law_least_0]) (fun x y h => by simp! only [l__law_least_1, decide_eq_true h])
    8000 a.natAbs b.natAbs fuel (by omega) (by omega) (pow3 hb2) (by unfold fuel; omega)
  have e : Int.gcd (a.natAbs : Int) (b.natAbs : Int) = Int.gcd a b := by simp [Int.gcd]
  rw [e] at this
  change whlX (callO P n) _ _ fuel _ _ = _ at this
  have g0 : 0 < (Int.gcd a b : Int) := by
    have : Int.gcd a b ≠ 0 := fun z => by rw [Int.gcd_eq_zero_iff] at z; omega
    omega
  have g1 := okI_of (i := -(Int.gcd a b : Int)) (by rw [Int.natAbs_neg]; exact gcd_lt (by omega) hb2)
  have c1 : ¬ 0 < b := by omega
  have c2 : ¬ 0 < -(Int.gcd a b : Int) := by omega
  have c3 : -(Int.gcd a b : Int) < 0 := by omega
  rw [call_at (d := d__law_least) rfl rfl]
  simp! only [d__law_least, b__law_least, absI, this, Int.zero_sub, decide_eq_false c1, decide_eq_false c2, decide_eq_true c3, g1]
  rw [mkFn hb]
theorem div_eq {p q : Rat} (h : q.num ≠ 0) : p / q = Rat.divInt (p.num * q.den) (p.den * q.num) := by
  rw [Rat.div_def, Rat.inv_def]
  have := Rat.divInt_mul_divInt p.num q.den (d₁ := p.den) (d₂ := q.num)
  rw [Rat.num_divInt_den] at this
  exact this
theorem Z_divn {u l : Int} {k : Nat} (hl : l ≠ 0) (h1 : u.natAbs < 2 ^ k) (h2 : l.natAbs < 2 ^ k) : Z k (Rat.divInt u l) := by
  by_cases h : 0 < l
  · exact Z_div h h1 h2
  · have e : Rat.divInt u l = Rat.divInt (-u) (-l) := (Rat.neg_divInt_neg _ _).symm
    rw [e]
    exact Z_div (by omega) (by rw [Int.natAbs_neg]; exact h1) (by rw [Int.natAbs_neg]; exact h2)
theorem Z_quo {p q : Rat} {i j : Nat} (hp : Z i p) (hq : Z j q) (h : q.num ≠ 0) : Z (i + j) (p / q) := by
  rw [div_eq h]
  exact Z_divn (Int.mul_ne_zero (by have := den_pos p; omega) h) (mul_lt hp.1 (den_lt hq)) (mul_lt (den_lt hp) hq.1)
theorem dn_ne {p q : Rat} (h : q.num ≠ 0) : (p.den : Int) * q.num ≠ 0 := Int.mul_ne_zero (by have := den_pos p; omega) h
theorem c_quotient {p q : Rat} (hp : Z 4000 p) (hq : Z 4000 q) (h : q.num ≠ 0) : callO P (n + 3) 7 [F p, F q] ws = some (F (p / q), ws) := by
  have e : callO P (n + 2) 2 [.int (p.num * q.den), .int (p.den * q.num)] ws = some (F (p / q), ws) := by
    rw [div_eq h]
    by_cases c : 0 < (p.den : Int) * q.num
    · exact c_fraction n _ _ ws c (p3 (k := 0) (mul_lt (den_lt hp) hq.1))
    · exact c_fraction_n n ws _ _ (by have := dn_ne (p := p) h; omega) (p3 (k := 0) (mul_lt (den_lt hp) hq.1))
  rw [call_at (d := d_quotient) rfl rfl]
  simp! only [d_quotient, b_quotient, okZ1 hp, okZ1 hq, okZ2 hp, okZ2 hq, e]
theorem c__law_under {p q : Rat} (hp : Z 4000 p) (hq : Z 4000 q) (h : q.num ≠ 0) : callO P (n + 2) 83 [F p, F q] ws = some (F (p / q), ws) := by
  have e : callO P (n + 1) 65 [.int (p.num * q.den), .int (p.den * q.num)] ws = some (F (p / q), ws) := by
    rw [div_eq h]
    by_cases c : 0 < (p.den : Int) * q.num
    · exact c__law_least n _ _ ws c (p3 (k := 0) (mul_lt (den_lt hp) hq.1))
    · exact c__law_least_n n ws _ _ (by have := dn_ne (p := p) h; omega) (p3 (k := 0) (mul_lt (den_lt hp) hq.1))
  rw [call_at (d := d__law_under) rfl rfl]
  simp! only [d__law_under, b__law_under, okZ1 hp, okZ1 hq, okZ2 hp, okZ2 hq, e]
/-! comparisons -/
/-- the lesser, the greater -/
def mn (p q : Rat) : Rat := if q < p then q else p
def mx (p q : Rat) : Rat := if p < q then q else p
theorem Z_mn {p q : Rat} {k : Nat} (hp : Z k p) (hq : Z k q) : Z k (mn p q) := by unfold mn; split <;> assumption
theorem Z_mx {p q : Rat} {k : Nat} (hp : Z k p) (hq : Z k q) : Z k (mx p q) := by unfold mx; split <;> assumption
theorem F_if {c : Prop} [Decidable c] {p q : Rat} : (if c then F p else F q) = F (if c then p else q) := by split <;> rfl
theorem c_is_less {p q : Rat} (hp : Z 4000 p) (hq : Z 4000 q) : callO P (n + 1) 9 [F p, F q] ws = some (.bl (decide (p < q)), ws) := by
  rw [call_at (d := d_is_less) rfl rfl]
  simp! only [d_is_less, b_is_less, okZ1 hp, okZ1 hq, okZ2 hp, okZ2 hq, Rat.lt_iff]
theorem c_lesser {p q : Rat} (hp : Z 4000 p) (hq : Z 4000 q) : callO P (n + 2) 11 [F p, F q] ws = some (F (mn p q), ws) := by
  rw [call_at (d := d_lesser) rfl rfl]
  by_cases h : q < p
  · simp! only [d_lesser, b_lesser, c_is_less n ws hq hp, decide_eq_true h, mn, if_pos h]
  · simp! only [d_lesser, b_lesser, c_is_less n ws hq hp, decide_eq_false h, mn, if_neg h]
theorem c_greater {p q : Rat} (hp : Z 4000 p) (hq : Z 4000 q) : callO P (n + 2) 12 [F p, F q] ws = some (F (mx p q), ws) := by
  rw [call_at (d := d_greater) rfl rfl]
  by_cases h : p < q
  · simp! only [d_greater, b_greater, c_is_less n ws hp hq, decide_eq_true h, mx, if_pos h]
  · simp! only [d_greater, b_greater, c_is_less n ws hp hq, decide_eq_false h, mx, if_neg h]
theorem c__law_fewer {p q : Rat} (hp : Z 4000 p) (hq : Z 4000 q) : callO P (n + 2) 75 [F p, F q] ws = some (F (mn p q), ws) := by
  rw [call_at (d := d__law_fewer) rfl rfl]
  by_cases h : q < p
  · simp! only [d__law_fewer, b__law_fewer, c__law_less n ws hq hp, decide_eq_true h, mn, if_pos h]
  · simp! only [d__law_fewer, b__law_fewer, c__law_less n ws hq hp, decide_eq_false h, mn, if_neg h]
theorem c__law_more {p q : Rat} (hp : Z 4000 p) (hq : Z 4000 q) : callO P (n + 2) 74 [F p, F q] ws = some (F (mx p q), ws) := by
  rw [call_at (d := d__law_more) rfl rfl]
  by_cases h : p < q
  · simp! only [d__law_more, b__law_more, c__law_less n ws hp hq, decide_eq_true h, mx, if_pos h]
  · simp! only [d__law_more, b__law_more, c__law_less n ws hp hq, decide_eq_false h, mx, if_neg h]
/-! powers of 2 -/
theorem F_inj {q : Rat} {a b : Int} (h : F q = .tup [.int a, .int b]) : q.num = a ∧ (q.den : Int) = b := by
  unfold F at h
  simp only [D.tup.injEq, List.cons.injEq, D.int.injEq, and_true] at h
  exact h
theorem pw_nn {e : Int} (h : 0 ≤ e) : (pw e).num = 2 ^ e.toNat ∧ ((pw e).den : Int) = 1 := F_inj (by rw [F_pw, if_pos h])
theorem pw_ng {e : Int} (h : ¬ 0 ≤ e) : (pw e).num = 1 ∧ ((pw e).den : Int) = 2 ^ (-e).toNat := F_inj (by rw [F_pw, if_neg h])
theorem pw_le {e : Int} {a b : Nat} (h : e = (a : Int) - b) (q : Rat) : pw e ≤ q ↔ 2 ^ a * (q.den : Int) ≤ q.num * 2 ^ b := by
  rw [Rat.le_iff]
  by_cases h0 : 0 ≤ e
  · rw [(pw_nn h0).1, (pw_nn h0).2, Int.mul_one]
    have : a = e.toNat + b := by omega
    rw [this, Int.pow_add, Int.mul_right_comm]
    exact ⟨fun z => Int.mul_le_mul_of_nonneg_right z (Int.le_of_lt (pos2 b)), fun z => Int.le_of_mul_le_mul_right z (pos2 b)⟩
  · rw [(pw_ng h0).1, (pw_ng h0).2, Int.one_mul]
    have : b = a + (-e).toNat := by omega
    rw [this, Int.pow_add, ← Int.mul_assoc, Int.mul_right_comm q.num, Int.mul_comm (2 ^ a)]
    exact ⟨fun z => Int.mul_le_mul_of_nonneg_right z (Int.le_of_lt (pos2 a)), fun z => Int.le_of_mul_le_mul_right z (pos2 a)⟩
theorem lt_pw {e : Int} {a b : Nat} (h : e = (a : Int) - b) (q : Rat) : q < pw e ↔ q.num * 2 ^ b < 2 ^ a * (q.den : Int) := by
  rw [← Rat.not_le, pw_le h, Int.not_le]
theorem pw_pos (e : Int) : (0 : Rat) < pw e := by
  rw [Rat.lt_iff]
  have h1 : (0 : Rat).num = 0 := rfl
  have h2 : (((0 : Rat).den : Nat) : Int) = 1 := rfl
  rw [h1, h2, Int.zero_mul, Int.mul_one]
  by_cases h0 : 0 ≤ e
  · rw [(pw_nn h0).1]; exact pos2 _
  · rw [(pw_ng h0).1]; decide
theorem p2m {a b : Nat} (h : a ≤ b) : (2 : Int) ^ a ≤ 2 ^ b := by
  have := Int.ofNat_le.mpr (Nat.pow_le_pow_right (show 0 < 2 by decide) h)
  rw [Int.natCast_pow, Int.natCast_pow] at this
  exact this
theorem pw_mono {e f : Int} (h : e ≤ f) : pw e ≤ pw f := by
  have ea : e = ((e + (e.natAbs + f.natAbs : Nat)).toNat : Int) - ((e.natAbs + f.natAbs : Nat) : Int) := by omega
  rw [pw_le ea]
  by_cases h0 : 0 ≤ f
  · rw [(pw_nn h0).1, (pw_nn h0).2, Int.mul_one, ← Int.pow_add]
    exact p2m (by omega)
  · rw [(pw_ng h0).1, (pw_ng h0).2, Int.one_mul, ← Int.pow_add]
    exact p2m (by omega)
theorem pw_inv (e : Int) : pw e * pw (-e) = 1 := by
  have key : ∀ k : Nat, Rat.divInt (2 ^ k) 1 * Rat.divInt 1 (2 ^ k) = 1 := fun k => by
    rw [Rat.divInt_mul_divInt, Int.mul_one, Int.one_mul]
    have := Rat.divInt_self' (n := (2 : Int) ^ k) (by have := pos2 k; omega)
    exact this
  unfold pw
  by_cases h0 : 0 ≤ e
  · by_cases h1 : 0 ≤ -e
    · have : e = 0 := by omega
      subst this
      rw [if_pos h0, if_pos h1]
      simpa using key 0
    · rw [if_pos h0, if_neg h1, Int.neg_neg]
      exact key _
  · rw [if_neg h0, if_pos (by omega), Rat.mul_comm]
    exact key _
theorem two_lt {k : Nat} {e : Int} {m : Nat} (h1 : e.toNat ≤ m) : (2 ^ e.toNat : Int).natAbs < 2 ^ (m + 1) := by
  rw [Int.natAbs_pow]
  exact Nat.pow_lt_pow_right (by decide) (by omega)
theorem Z_pw {e : Int} {m : Nat} (h1 : -(m : Int) ≤ e) (h2 : e ≤ m) : Z (m + 1) (pw e) := by
  have o : (1 : Int).natAbs < 2 ^ (m + 1) := Nat.one_lt_two_pow (by omega)
  unfold pw
  split
  · exact Z_div (by decide) (two_lt (k := 0) (by omega)) o
  · exact Z_div (pos2 _) o (two_lt (k := 0) (by omega))
/-- the exponent of q -/
def isE (q : Rat) (e : Int) : Prop := pw e ≤ ab q ∧ ab q < pw (e + 1)
theorem isE_one {q : Rat} {e f : Int} (h1 : isE q e) (h2 : isE q f) : e = f := by
  have key : ∀ {e f : Int}, isE q e → isE q f → ¬ e < f := fun {e f} h1 h2 h => by
    have := pw_mono (show e + 1 ≤ f by omega)
    have a := h1.2
    have b := h2.1
    grind
  have := key h1 h2
  have := key h2 h1
  omega
open Classical in
noncomputable def ex (q : Rat) : Int := if h : ∃ e, isE q e then Classical.choose h else 0
theorem ex_of {q : Rat} {e : Int} (h : isE q e) : ex q = e := by
  unfold ex
  rw [dif_pos ⟨e, h⟩]
  exact isE_one (Classical.choose_spec _) h
theorem pw_z (e : Int) : pw e = (2 : Rat) ^ e := by
  have key : ∀ k : Nat, Rat.divInt (2 ^ k) 1 = (2 : Rat) ^ k := fun k => by
    induction k with
    | zero => rfl
    | succ k ih =>
      rw [Rat.pow_succ, ← ih, Int.pow_succ]
      have := Rat.divInt_mul_divInt (2 ^ k) 2 (d₁ := 1) (d₂ := 1)
      rw [show (2 : Rat) = Rat.divInt 2 1 from rfl, this]
      rfl
  have nn : ∀ e : Int, 0 ≤ e → pw e = (2 : Rat) ^ e := fun e h => by
    obtain ⟨k, rfl⟩ := Int.eq_ofNat_of_zero_le h
    unfold pw
    rw [if_pos h, Int.toNat_natCast, key, Rat.zpow_natCast]
  by_cases h : 0 ≤ e
  · exact nn e h
  · have h1 := pw_inv e
    rw [nn (-e) (by omega), Rat.zpow_neg] at h1
    have h2 : (2 : Rat) ^ e ≠ 0 := by
      have : (0 : Rat) < 2 ^ e := Rat.zpow_pos (by decide)
      grind
    grind
theorem pw_add (a b : Int) : pw (a + b) = pw a * pw b := by
  rw [pw_z, pw_z, pw_z, Rat.zpow_add (by decide)]
theorem pw_one : pw 1 = 2 := rfl
theorem pw_zero : pw 0 = 1 := rfl
theorem pw_succ (a : Int) : pw (a + 1) = pw a * 2 := by rw [pw_add, pw_one]
theorem pw_lt {e f : Int} (h : e < f) : pw e < pw f := by
  have h1 := pw_mono (show e + 1 ≤ f by omega)
  have h2 := pw_pos e
  rw [pw_succ] at h1
  grind
theorem pw_lt_iff {e f : Int} : pw e < pw f ↔ e < f := ⟨fun h => by
  by_cases c : e < f
  · exact c
  · have := pw_mono (show f ≤ e by omega)
    grind, pw_lt⟩
theorem pw_le_iff {e f : Int} : pw e ≤ pw f ↔ e ≤ f := ⟨fun h => by
  by_cases c : e ≤ f
  · exact c
  · have := pw_lt (show f < e by omega)
    grind, pw_mono⟩
theorem ab_num (q : Rat) : (ab q).num = q.num.natAbs := by
  unfold ab
  split
  · rw [Rat.neg_num]; omega
  · omega
theorem ab_den (q : Rat) : (ab q).den = q.den := by
  unfold ab
  split
  · rw [Rat.neg_den]
  · rfl
/-! bits -/
theorem bits_loop : ∀ (j k m : Nat) (x : Int), 0 ≤ x → x < 2 ^ (k + j) → j + 1 ≤ m → (k = 0 ∨ 2 ^ (k - 1) ≤ x) →
    ∃ r : Nat, k ≤ r ∧ r ≤ k + j ∧ whlX (callO P n) t_bits_of_0 l_bits_of_1 m [.va (.int x), .va (.int k)] ws = some (.nx, [.va (.int x), .va (.int r)], ws) ∧ x < 2 ^ r ∧ (r = 0 ∨ 2 ^ (r - 1) ≤ x)
  | j, k, m, x, hx, hk, hm, hp => by
    obtain ⟨m, rfl⟩ : ∃ i, m = i + 1 := ⟨m - 1, by omega⟩
    have p0 := pos2 k
    have k0 : (0 : Int) ≤ k := by omega
    by_cases h : x < 2 ^ k
    · refine ⟨k, Nat.le_refl _, by omega, whl_stop ?_, h, hp⟩
      have : ¬ 0 < x / 2 ^ k := by rw [Int.ediv_eq_zero_of_lt hx h]; decide
      simp! only [t_bits_of_0, decide_eq_true k0, Int.toNat_natCast, decide_eq_false this]
    · cases j with
      | zero => exact absurd hk h
      | succ j =>
        have : 0 < x / 2 ^ k := by have := (Int.le_ediv_iff_mul_le (a := 1) (b := x) p0).mpr (by omega); omega
        obtain ⟨r, h1, h2, h3, h4⟩ := bits_loop j (k + 1) m x hx (by rw [show k + 1 + j = k + (j + 1) by omega]; exact hk) (by omega) (.inr (by simpa using h))
        refine ⟨r, by omega, by omega, ?_, h4⟩
        rw [whl_go (ws1 := ws) (ws2 := ws) (env2 := [.va (.int x), .va (.int ((k + 1 : Nat) : Int))])]
        · exact h3
        · simp! only [t_bits_of_0, decide_eq_true k0, Int.toNat_natCast, decide_eq_true this]
        · simp! only [l_bits_of_1]
          rfl
theorem c_bits_of {x : Int} (hx : 0 < x) (hl : x.natAbs < 2 ^ 4000) : ∃ r : Nat, r ≤ 4000 ∧ 1 ≤ r ∧ callO P (n + 1) 0 [.int x] ws = some (.int r, ws) ∧ x < 2 ^ r ∧ 2 ^ (r - 1) ≤ x := by
  have hx2 : x < 2 ^ (0 + 4000) := by
    have : ((x.natAbs : Nat) : Int) < ((2 ^ 4000 : Nat) : Int) := Int.ofNat_lt.mpr hl
    rw [Int.natCast_pow] at this
    rw [Nat.zero_add]
    have e : (x.natAbs : Int) = x := by omega
    rw [e] at this
    exact this
  obtain ⟨r, _, h2, h3, h4, h5⟩ := bits_loop n ws 4000 0 fuel x (by omega) hx2 (by unfold fuel; omega) (.inl rfl)
  have r1 : 1 ≤ r := by
    rcases Nat.eq_zero_or_pos r with z | z
    · subst z; simp at h4; omega
    · exact z
  refine ⟨r, by omega, r1, ?_, h4, h5.resolve_left (by omega)⟩
  have h3' : whlX (callO P n) t_bits_of_0 l_bits_of_1 fuel [.va (.int x), .va (.int 0)] ws = some (.nx, [.va (.int x), .va (.int r)], ws) := h3
  rw [call_at (d := d_bits_of) rfl rfl]
  simp! only [d_bits_of, b_bits_of, h3']
theorem c_shifted {q : Rat} {e : Int} (hq : Z 4000 q) (h1 : -2999 ≤ e) (h2 : e ≤ 2999) : callO P (n + 4) 14 [F q, .int e] ws = some (F (q * pw e), ws) := by
  rw [call_at (d := d_shifted) rfl rfl]
  simp! only [d_shifted, b_shifted, c_two_to (n + 2) ws (e := e) (by omega) (by omega), c_times n ws hq ((Z_pw (m := 2999) (by omega) (by omega)).mono (by decide))]
theorem lt_of_pow {x : Int} {r b : Nat} (h1 : 2 ^ (r - 1) ≤ x) (h2 : x.natAbs < 2 ^ b) : r ≤ b := by
  by_cases h : r ≤ b
  · exact h
  · exfalso
    have := p2m (show b ≤ r - 1 by omega)
    have h3 : ((x.natAbs : Nat) : Int) < ((2 ^ b : Nat) : Int) := Int.ofNat_lt.mpr h2
    rw [Int.natCast_pow] at h3
    have e : ((2 : Nat) : Int) ^ b = 2 ^ b := rfl
    omega
theorem c_exponent_of {q : Rat} {b : Nat} (hq : Z b q) (hb : b ≤ 2900) (h0 : q.num ≠ 0) : ∃ e : Int, isE q e ∧ -(b : Int) ≤ e ∧ e ≤ b ∧ callO P (n + 2) 15 [F q] ws = some (.int e, ws) := by
  have hu : (0 : Int) < q.num.natAbs := by omega
  have z := hq.mono (show b ≤ 4000 by omega)
  obtain ⟨u, _, u1, u2, u3, u4⟩ := c_bits_of n ws hu (by rw [Int.natAbs_natCast]; exact z.1)
  obtain ⟨l, _, l1, l2, l3, l4⟩ := c_bits_of n ws (den_pos q) (den_lt z)
  have ub := lt_of_pow u4 (by rw [Int.natAbs_natCast]; exact hq.1)
  have lb := lt_of_pow l4 (den_lt hq)
  have zf : Z 4000 (pw ((u : Int) - l)) := (Z_pw (m := 2900) (by omega) (by omega)).mono (by decide)
  have eF : D.tup [.int (if q.num < 0 then -q.num else q.num), .int q.den] = F (ab q) := F_ab q
  rw [absI] at eF
  have e14 := c_two_to n ws (e := (u : Int) - l) (by omega) (by omega)
  have e13 := c_is_most n ws zf (Z_ab z)
  have e2 : (q.num.natAbs : Int) < 2 ^ u := u3
  by_cases hc : pw ((u : Int) - l) ≤ ab q
  · refine ⟨(u : Int) - l, ⟨hc, ?_⟩, by omega, by omega, ?_⟩
    · rw [lt_pw (a := u) (b := l - 1) (by omega), ab_num, ab_den]
      exact Int.lt_of_lt_of_le (Int.mul_lt_mul_of_pos_right u3 (pos2 _)) (Int.mul_le_mul_of_nonneg_left l4 (Int.le_of_lt (pos2 _)))
    · rw [call_at (d := d_exponent_of) rfl rfl]
      simp! only [d_exponent_of, b_exponent_of, absI, u2, l2, e14, eF, e13, decide_eq_true hc]
  · refine ⟨(u : Int) - l - 1, ⟨?_, ?_⟩, by omega, by omega, ?_⟩
    · rw [pw_le (a := u - 1) (b := l) (by omega), ab_num, ab_den]
      exact Int.mul_le_mul u4 (Int.le_of_lt l3) (Int.le_of_lt (den_pos q)) (Int.natCast_nonneg _)
    · rw [Int.sub_add_cancel]
      exact Rat.not_le.mp hc
    · rw [call_at (d := d_exponent_of) rfl rfl]
      simp! only [d_exponent_of, b_exponent_of, absI, u2, l2, e14, eF, e13, decide_eq_false hc]
def rI (w : Int) : Rat := Rat.divInt w 1
theorem F_rI (w : Int) : D.tup [.int w, .int 1] = F (rI w) := by rw [rI, ← mkF (by decide)]; simp
end Pv.K33


set_option Elab.async false
set_option linter.all false
set_option maxRecDepth 100000
set_option exponentiation.threshold 20
/-! L4: formats and rounding: what the program's defs do. -/
namespace Pv.K33
open Pv
local macro_rules
  | `(tactic| simp! only [$xs,*]) => `(tactic| simp only [ev.eq_1, ev.eq_2, ev.eq_3, ev.eq_4, ev.eq_5, ev.eq_6, ev.eq_7, ev.eq_8, ev.eq_9, ev.eq_10, ev.eq_11, ev.eq_12, ev.eq_13, ev.eq_14, ev.eq_15, ev.eq_16, ev.eq_17, ev.eq_18, ev.eq_19, ev.eq_20, ev.eq_21, ev.eq_22, ev.eq_23, ev.eq_24, ev.eq_25, ev.eq_26, ev.eq_27, ev.eq_28, ev.eq_29, ev.eq_30, ev.eq_35, evs, evT, exec.eq_1, exec.eq_2, exec.eq_3, exec.eq_4, exec.eq_5, exec.eq_6, exec.eq_7, exec.eq_8, exec.eq_9, exec.eq_10, exec.eq_11, exec.eq_12, exec.eq_13, exec.eq_14, exec.eq_15, exec.eq_16, exec.eq_19, exec.eq_20, exec.eq_21, exec.eq_22, exec.eq_23, execs, x_whl, x_for, x_comp, x_compIf, x_comp2, x_comp2If, bor, vi, mkEnv, eg, es, frzA, frzS, bn, bt, bq, bind_F, setAll, setAllT, bind1, setPar, wipeE, tgs, b_add, b_sub, b_mul, b_fdiv, b_mod, b_shl, b_shr, b_pow, b_tup, b_lst, o_lt, o_le, o_gt, o_ge, o_eqi, o_nei, o_neb, sl_a, sl_b, sl_bl, sl_c, cmp_nil, cmp_cons, cmpY_nil, cmpY_cons, ixW_3, ixL_0, ixL_1, ixL_2, ixL_3, btl, o_isb, o_eqs, o_nes, o_int, o_nit, isF_s, isF_i, deq_ss, deq_ii, List.all_cons, List.all_nil, List.any_cons, List.any_nil, Nat.reduceEqDiff, Int.reduceEq, u_len1, u_len2, u_len3, u_abs, u_int, u_intb, u_lst1, u_lst2, u_lst3, u_tup, u_max, u_min, s_int, s_bl, s_tup, s_lst, s_non, s_str, a_add, a_sub, i_tup, i_lst, r_bl, r_int, fin, chk_own, chk_some, isN, bnd, iN_non, iN_int, iN_bl, iN_str, iN_tup, iN_lst, iN_F, ixW_0, ixW_1, ixW_2, F_0, F_1, ixW_w, wg_1, wg_0, wp_0, List.map, List.length, List.replicate, List.cons_append, List.nil_append, List.append_nil, Nat.reduceSub, Nat.reduceAdd, Nat.sub_self, Nat.sub_zero, if_true, Bool.false_eq_true, if_false, reduceIte, ite_true, ite_false, Bool.and_self, Bool.and_true, Bool.true_and, Bool.not_true, Bool.not_false, Nat.reduceLT, Nat.reduceLeDiff, decide_true, decide_false, Int.reduceLT, Int.reduceLE, Int.reduceAdd, Int.reduceSub, Int.reduceNeg, Bool.or_true, Bool.or_false, Bool.true_or, Bool.false_or, Bool.and_false, Bool.false_and, $xs,*])
  | `(tactic| simp! only) => `(tactic| simp only [ev.eq_1, ev.eq_2, ev.eq_3, ev.eq_4, ev.eq_5, ev.eq_6, ev.eq_7, ev.eq_8, ev.eq_9, ev.eq_10, ev.eq_11, ev.eq_12, ev.eq_13, ev.eq_14, ev.eq_15, ev.eq_16, ev.eq_17, ev.eq_18, ev.eq_19, ev.eq_20, ev.eq_21, ev.eq_22, ev.eq_23, ev.eq_24, ev.eq_25, ev.eq_26, ev.eq_27, ev.eq_28, ev.eq_29, ev.eq_30, ev.eq_35, evs, evT, exec.eq_1, exec.eq_2, exec.eq_3, exec.eq_4, exec.eq_5, exec.eq_6, exec.eq_7, exec.eq_8, exec.eq_9, exec.eq_10, exec.eq_11, exec.eq_12, exec.eq_13, exec.eq_14, exec.eq_15, exec.eq_16, exec.eq_19, exec.eq_20, exec.eq_21, exec.eq_22, exec.eq_23, execs, x_whl, x_for, x_comp, x_compIf, x_comp2, x_comp2If, bor, vi, mkEnv, eg, es, frzA, frzS, bn, bt, bq, bind_F, setAll, setAllT, bind1, setPar, wipeE, tgs, b_add, b_sub, b_mul, b_fdiv, b_mod, b_shl, b_shr, b_pow, b_tup, b_lst, o_lt, o_le, o_gt, o_ge, o_eqi, o_nei, o_neb, sl_a, sl_b, sl_bl, sl_c, cmp_nil, cmp_cons, cmpY_nil, cmpY_cons, ixW_3, ixL_0, ixL_1, ixL_2, ixL_3, btl, o_isb, o_eqs, o_nes, o_int, o_nit, isF_s, isF_i, deq_ss, deq_ii, List.all_cons, List.all_nil, List.any_cons, List.any_nil, Nat.reduceEqDiff, Int.reduceEq, u_len1, u_len2, u_len3, u_abs, u_int, u_intb, u_lst1, u_lst2, u_lst3, u_tup, u_max, u_min, s_int, s_bl, s_tup, s_lst, s_non, s_str, a_add, a_sub, i_tup, i_lst, r_bl, r_int, fin, chk_own, chk_some, isN, bnd, iN_non, iN_int, iN_bl, iN_str, iN_tup, iN_lst, iN_F, ixW_0, ixW_1, ixW_2, F_0, F_1, ixW_w, wg_1, wg_0, wp_0, List.map, List.length, List.replicate, List.cons_append, List.nil_append, List.append_nil, Nat.reduceSub, Nat.reduceAdd, Nat.sub_self, Nat.sub_zero, if_true, Bool.false_eq_true, if_false, reduceIte, ite_true, ite_false, Bool.and_self, Bool.and_true, Bool.true_and, Bool.not_true, Bool.not_false, Nat.reduceLT, Nat.reduceLeDiff, decide_true, decide_false, Int.reduceLT, Int.reduceLE, Int.reduceAdd, Int.reduceSub, Int.reduceNeg, Bool.or_true, Bool.or_false, Bool.true_or, Bool.false_or, Bool.and_false, Bool.false_and])
variable (n : Nat) (ws : WS)
/-! numbers and formats -/
abbrev nO (s : Int) : D := .tup [.str 0, .int s]
abbrev nE (s : Int) : D := .tup [.str 10, .int s]
abbrev nN (s w p : Int) : D := .tup [.str 1, .int s, .int w, .int p]
structure Fo where
  d : Int
  f : Int
  g : Int
abbrev FO (x : Fo) : D := .tup [.int x.d, .int x.f, .int x.g]
/-- a format of bounded size -/
structure OkFo (x : Fo) : Prop where
  d1 : 2 ≤ x.d
  d2 : x.d ≤ 150
  f1 : -1000 ≤ x.f
  fg : x.f < x.g
  g2 : x.g ≤ 1000
def isWay (y : Nat) : Prop := y = 9 ∨ y = 5 ∨ y = 3 ∨ y = 4 ∨ y = 2
def near (y : Nat) : Bool := decide (y = 9 ∨ y = 5)
/-- the value of a number -/
def vN (s w p : Int) : Rat := if s = 1 then -(rI w * pw p) else rI w * pw p
theorem Z_rI {w : Int} {k : Nat} (h : w.natAbs < 2 ^ k) (hk : 1 ≤ k) : Z k (rI w) := Z_div (by decide) h (Nat.one_lt_two_pow (by omega))
theorem F_0' : D.tup [.int 0, .int 1] = F 0 := rfl
theorem F_neg (q : Rat) : D.tup [.int (-q.num), .int q.den] = F (-q) := by rw [F, Rat.neg_num, Rat.neg_den]
theorem c_value_of_o (s : Int) : callO P (n + 1) 16 [nO s] ws = some (F 0, ws) := by
  rw [call_at (d := d_value_of) rfl rfl]
  simp! only [d_value_of, b_value_of, F_0']
theorem c_value_of {s w p : Int} {k : Nat} (hw : w.natAbs < 2 ^ k) (hk : 1 ≤ k) (hk2 : k ≤ 4000) (h1 : -2999 ≤ p) (h2 : p ≤ 2999) : callO P (n + 5) 16 [nN s w p] ws = some (F (vN s w p), ws) := by
  rw [call_at (d := d_value_of) rfl rfl]
  by_cases h : s = 1
  · simp! only [d_value_of, b_value_of, F_rI, c_shifted n ws ((Z_rI hw hk).mono hk2) h1 h2, h, F_neg, vN, if_true]
  · simp! only [d_value_of, b_value_of, F_rI, c_shifted n ws ((Z_rI hw hk).mono hk2) h1 h2, decide_eq_false h, F_neg, vN, if_neg h]
theorem big2 {k : Int} (h0 : 0 ≤ k) : (0 : Int) < 2 ^ k.toNat := pos2 _
theorem Z_pow2 {d : Int} {k : Nat} (h : d.toNat < k) : ((2 : Int) ^ d.toNat).natAbs < 2 ^ k := by
  rw [Int.natAbs_pow]; exact Nat.pow_lt_pow_right (by decide) h
def fullW (x : Fo) : Int := 2 ^ x.d.toNat - 1
def halfW (x : Fo) : Int := 2 ^ (x.d - 1).toNat
theorem fullW_pos {x : Fo} (h : OkFo x) : 3 ≤ fullW x := by
  have : (2 : Int) ^ 2 ≤ 2 ^ x.d.toNat := p2m (by have := h.d1; omega)
  unfold fullW
  omega
theorem fullW_lt {x : Fo} (h : OkFo x) : (fullW x).natAbs < 2 ^ 201 := by
  have h1 := fullW_pos h
  have h2 := Z_pow2 (d := x.d) (k := 201) (by have := h.d2; omega)
  have := pos2 x.d.toNat
  unfold fullW at h1 ⊢
  omega
theorem halfW_lt {x : Fo} (h : OkFo x) : (halfW x).natAbs < 2 ^ 201 := Z_pow2 (by have := h.d2; have := h.d1; omega)
theorem half_full {x : Fo} (h : OkFo x) : fullW x = 2 * halfW x - 1 := by
  unfold fullW halfW
  have : x.d.toNat = (x.d - 1).toNat + 1 := by have := h.d1; omega
  rw [this, Int.pow_succ]
  omega
theorem c_greatest_of {x : Fo} (h : OkFo x) : callO P (n + 1) 18 [FO x] ws = some (nN 0 (fullW x) x.g, ws) := by
  have d0 : 0 ≤ x.d := by have := h.d1; omega
  have d2 : x.d ≤ 100000 := by have := h.d2; omega
  rw [call_at (d := d_greatest_of) rfl rfl]
  simp! only [d_greatest_of, b_greatest_of, decide_eq_true d0, decide_eq_true d2, Int.natAbs_one, Int.one_mul, fullW]
theorem c_least_full {x : Fo} (h : OkFo x) : callO P (n + 1) 19 [FO x] ws = some (nN 0 (halfW x) x.f, ws) := by
  have d0 : 0 ≤ x.d - 1 := by have := h.d1; omega
  have d2 : x.d - 1 ≤ 100000 := by have := h.d2; omega
  rw [call_at (d := d_least_full) rfl rfl]
  simp! only [d_least_full, b_least_full, decide_eq_true d0, decide_eq_true d2, Int.natAbs_one, Int.one_mul, halfW]
/-- the exponent of the last digit -/
noncomputable def un (x : Fo) (q : Rat) : Int := if q.num = 0 then x.f else if ex q - x.d + 1 > x.f then ex q - x.d + 1 else x.f
theorem ex_bd {q : Rat} {b : Nat} (hq : Z b q) (h0 : q.num ≠ 0) : isE q (ex q) ∧ -(b : Int) ≤ ex q ∧ ex q ≤ b := by
  have hu : (0 : Int) < q.num.natAbs := by omega
  -- by the bits
  have key : ∃ e : Int, isE q e ∧ -(b : Int) ≤ e ∧ e ≤ b := by
    let u : Nat := Nat.log2 q.num.natAbs
    let l : Nat := Nat.log2 q.den
    have dn : q.den ≠ 0 := by have := den_pos q; omega
    have n0 : q.num.natAbs ≠ 0 := by omega
    have u1 : 2 ^ u ≤ q.num.natAbs := Nat.log2_self_le n0
    have u2 : q.num.natAbs < 2 ^ (u + 1) := Nat.lt_log2_self
    have l1 : 2 ^ l ≤ q.den := Nat.log2_self_le dn
    have l2 : q.den < 2 ^ (l + 1) := Nat.lt_log2_self
    have ub : u < b := (Nat.pow_lt_pow_iff_right (by decide : 1 < 2)).mp (Nat.lt_of_le_of_lt u1 hq.1)
    have lb : l < b := (Nat.pow_lt_pow_iff_right (by decide : 1 < 2)).mp (Nat.lt_of_le_of_lt l1 hq.2)
    have c : ∀ {a c : Nat}, a ≤ 2 ^ c → (a : Int) ≤ 2 ^ c := fun h => by have := Int.ofNat_le.mpr h; rw [Int.natCast_pow] at this; exact this
    have c' : ∀ {a c : Nat}, 2 ^ c ≤ a → (2 : Int) ^ c ≤ (a : Int) := fun h => by have := Int.ofNat_le.mpr h; rw [Int.natCast_pow] at this; exact this
    have c2 : ∀ {a c : Nat}, a < 2 ^ c → (a : Int) < 2 ^ c := fun h => by have := Int.ofNat_lt.mpr h; rw [Int.natCast_pow] at this; exact this
    by_cases hc : pw ((u : Int) - l) ≤ ab q
    · refine ⟨(u : Int) - l, ⟨hc, ?_⟩, by omega, by omega⟩
      rw [lt_pw (a := u + 1) (b := l) (by omega), ab_num, ab_den]
      exact Int.lt_of_lt_of_le (Int.mul_lt_mul_of_pos_right (c2 u2) (pos2 _)) (Int.mul_le_mul_of_nonneg_left (c' l1) (Int.le_of_lt (pos2 _)))
    · refine ⟨(u : Int) - l - 1, ⟨?_, ?_⟩, by omega, by omega⟩
      · rw [pw_le (a := u) (b := l + 1) (by omega), ab_num, ab_den]
        exact Int.mul_le_mul (c' u1) (Int.le_of_lt (c2 l2)) (Int.le_of_lt (den_pos q)) (Int.natCast_nonneg _)
      · rw [Int.sub_add_cancel]
        exact Rat.not_le.mp hc
  obtain ⟨e, h1, h2, h3⟩ := key
  rw [ex_of h1]
  exact ⟨h1, h2, h3⟩
theorem c_exponent_ex {q : Rat} {b : Nat} (hq : Z b q) (hb : b ≤ 2900) (h0 : q.num ≠ 0) : callO P (n + 2) 15 [F q] ws = some (.int (ex q), ws) := by
  obtain ⟨e, h1, _, _, h4⟩ := c_exponent_of n ws hq hb h0
  rw [ex_of h1]
  exact h4
theorem un_bd {x : Fo} (h : OkFo x) {q : Rat} {b : Nat} (hq : Z b q) : -1000 ≤ un x q ∧ un x q ≤ b + 1000 ∧ x.f ≤ un x q := by
  have := h.d1
  have := h.f1
  have := h.fg
  have := h.g2
  unfold un
  split
  · omega
  · rename_i h0
    have := ex_bd hq h0
    split <;> omega
theorem c_unit_at {x : Fo} {q : Rat} {b : Nat} (hq : Z b q) (hb : b ≤ 2900) : callO P (n + 3) 20 [FO x, F q] ws = some (.int (un x q), ws) := by
  rw [call_at (d := d_unit_at) rfl rfl]
  by_cases h0 : q.num = 0
  · simp! only [d_unit_at, b_unit_at, decide_eq_true h0, un, if_pos h0]
  · simp! only [d_unit_at, b_unit_at, decide_eq_false h0, c_exponent_ex n ws hq hb h0, un, if_neg h0]
/-- whether what is left makes one more -/
def rz (y : Nat) (s w r l : Int) : Bool :=
  if y = 2 then false else if y = 3 then decide (s = 0) else if y = 4 then decide (s = 1) else if 2 * r = l then (decide (y = 5) || decide (w % 2 = 1)) else decide (l < 2 * r)
theorem c_is_raised {y : Nat} (hy : isWay y) {s w r l : Int} (hr : okI r = true) : callO P (n + 1) 21 [.str y, .int s, .int w, .tup [.int r, .int l]] ws = some (.bl (rz y s w r l), ws) := by
  have o2 : okI 2 = true := okI_s (by decide)
  rw [call_at (d := d_is_raised) rfl rfl]
  rcases hy with rfl | rfl | rfl | rfl | rfl
  · by_cases h : 2 * r = l
    · simp! only [d_is_raised, b_is_raised, o2, hr, decide_eq_true h, rz, if_pos h]
    · simp! only [d_is_raised, b_is_raised, o2, hr, decide_eq_false h, rz, if_neg h]
  · by_cases h : 2 * r = l
    · simp! only [d_is_raised, b_is_raised, o2, hr, decide_eq_true h, rz, if_pos h]
    · simp! only [d_is_raised, b_is_raised, o2, hr, decide_eq_false h, rz, if_neg h]
  · simp! only [d_is_raised, b_is_raised, rz]
  · simp! only [d_is_raised, b_is_raised, rz]
  · simp! only [d_is_raised, b_is_raised, rz]
/-- the marks of what is rounded -/
def mks (x : Fo) (q : Rat) (r : Int) : D := if r = 0 then .tup [] else if ab q < vN 0 (halfW x) x.f then .tup [.str 7, .str 8] else .tup [.str 7]
theorem Z_vN {s w p : Int} {k m : Nat} (hw : w.natAbs < 2 ^ k) (hk : 1 ≤ k) (h1 : -(m : Int) ≤ p) (h2 : p ≤ m) : Z (k + (m + 1)) (vN s w p) := by
  have := Z_mul (Z_rI hw hk) (Z_pw h1 h2)
  unfold vN
  split
  · exact Z_neg this
  · exact this
theorem Z_half {x : Fo} (h : OkFo x) : Z 1300 (vN 0 (halfW x) x.f) := (Z_vN (halfW_lt h) (by decide) (m := 1000) (by have := h.f1; omega) (by have := h.fg; have := h.g2; omega)).mono (by decide)
theorem Z_full {x : Fo} (h : OkFo x) : Z 1300 (vN 0 (fullW x) x.g) := (Z_vN (fullW_lt h) (by decide) (m := 1000) (by have := h.f1; have := h.fg; omega) (by have := h.g2; omega)).mono (by decide)
theorem c_marks_of {x : Fo} (h : OkFo x) {q : Rat} (hq : Z 4000 q) (r : Int) : callO P (n + 6) 23 [FO x, F q, .int r] ws = some (mks x q r, ws) := by
  rw [call_at (d := d_marks_of) rfl rfl]
  by_cases h0 : r = 0
  · simp! only [d_marks_of, b_marks_of, h0, mks]
  · have e1 := c_least_full (n + 4) ws h
    have e2 := c_value_of n ws (s := 0) (w := halfW x) (p := x.f) (halfW_lt h) (by decide) (by decide) (by have := h.f1; omega) (by have := h.fg; have := h.g2; omega)
    have e3 := c_is_less (n + 4) ws (Z_ab hq) ((Z_half h).mono (by decide))
    by_cases hl : ab q < vN 0 (halfW x) x.f
    · simp! only [d_marks_of, b_marks_of, decide_eq_false h0, c_size (n + 4) ws, e1, e2, e3, mks, if_neg h0, decide_eq_true hl, if_pos hl]
    · simp! only [d_marks_of, b_marks_of, decide_eq_false h0, c_size (n + 4) ws, e1, e2, e3, mks, if_neg h0, decide_eq_false hl, if_neg hl]
/-- beyond the greatest -/
def byd (x : Fo) (y : Nat) (s : Int) : D := if y = 9 ∨ y = 5 ∨ (y = 3 ∧ s = 0) ∨ (y = 4 ∧ s = 1) then nE s else nN s (fullW x) x.g
theorem okLen_of {k : Nat} (h : k ≤ 1000) : okLen k = true := decide_eq_true (by omega)
theorem c_beyond {x : Fo} (h : OkFo x) {y : Nat} (hy : isWay y) (s : Int) : callO P (n + 2) 24 [FO x, .str y, .int s] ws = some (byd x y s, ws) := by
  have o2 : okLen 2 = true := okLen_of (by decide)
  have o4 : okLen 4 = true := okLen_of (by decide)
  have e1 := c_greatest_of n ws h
  rw [call_at (d := d_beyond) rfl rfl]
  rcases hy with rfl | rfl | rfl | rfl | rfl
  · simp! only [d_beyond, b_beyond, byd, true_or]
  · simp! only [d_beyond, b_beyond, byd, true_or, or_true]
  · by_cases g : s = 0
    · simp! only [d_beyond, b_beyond, byd, decide_eq_true g, g, and_self, true_or, or_true, false_or, false_and]
    · simp! only [d_beyond, b_beyond, byd, decide_eq_false g, g, and_false, false_or, false_and, e1, o2, o4]
  · by_cases g : s = 1
    · simp! only [d_beyond, b_beyond, byd, decide_eq_true g, g, and_self, true_or, or_true, false_or, false_and]
    · simp! only [d_beyond, b_beyond, byd, decide_eq_false g, g, and_false, false_or, false_and, e1, o2, o4]
  · simp! only [d_beyond, b_beyond, byd, false_or, false_and, e1, o2, o4]
/-- the program's rounding -/
noncomputable def rdX (x : Fo) (q : Rat) : Rat := ab (q * pw (-un x q))
noncomputable def rdW (x : Fo) (q : Rat) : Int := (rdX x q).num / (rdX x q).den
noncomputable def rdR (x : Fo) (q : Rat) : Int := (rdX x q).num % (rdX x q).den
def sg (q : Rat) : Int := if q.num < 0 then 1 else 0
noncomputable def rdV (x : Fo) (y : Nat) (q : Rat) : Int := if 0 < rdR x q ∧ rz y (sg q) (rdW x q) (rdR x q) (rdX x q).den = true then rdW x q + 1 else rdW x q
noncomputable def rdN (x : Fo) (y : Nat) (q : Rat) (s : Int) : D :=
  if q.num = 0 then nO s else
  if rdV x y q = 2 ^ x.d.toNat then (if x.g < un x q + 1 then byd x y (sg q) else if rdV x y q / 2 = 0 then nO (sg q) else nN (sg q) (rdV x y q / 2) (un x q + 1)) else
  if x.g < un x q then byd x y (sg q) else if rdV x y q = 0 then nO (sg q) else nN (sg q) (rdV x y q) (un x q)
noncomputable def rdM (x : Fo) (y : Nat) (q : Rat) : D :=
  if q.num = 0 then .tup [] else
  if x.g < (if rdV x y q = 2 ^ x.d.toNat then un x q + 1 else un x q) then .tup [.str 7, .str 6] else mks x q (rdR x q)
end Pv.K33


set_option Elab.async false
set_option linter.all false
set_option maxRecDepth 100000
set_option exponentiation.threshold 20
/-! L5: rounded, as the program does it. -/
namespace Pv.K33
open Pv
local macro_rules
  | `(tactic| simp! only [$xs,*]) => `(tactic| simp only [ev.eq_1, ev.eq_2, ev.eq_3, ev.eq_4, ev.eq_5, ev.eq_6, ev.eq_7, ev.eq_8, ev.eq_9, ev.eq_10, ev.eq_11, ev.eq_12, ev.eq_13, ev.eq_14, ev.eq_15, ev.eq_16, ev.eq_17, ev.eq_18, ev.eq_19, ev.eq_20, ev.eq_21, ev.eq_22, ev.eq_23, ev.eq_24, ev.eq_25, ev.eq_26, ev.eq_27, ev.eq_28, ev.eq_29, ev.eq_30, ev.eq_35, evs, evT, exec.eq_1, exec.eq_2, exec.eq_3, exec.eq_4, exec.eq_5, exec.eq_6, exec.eq_7, exec.eq_8, exec.eq_9, exec.eq_10, exec.eq_11, exec.eq_12, exec.eq_13, exec.eq_14, exec.eq_15, exec.eq_16, exec.eq_19, exec.eq_20, exec.eq_21, exec.eq_22, exec.eq_23, execs, x_whl, x_for, x_comp, x_compIf, x_comp2, x_comp2If, bor, vi, mkEnv, eg, es, frzA, frzS, bn, bt, bq, bind_F, setAll, setAllT, bind1, setPar, wipeE, tgs, b_add, b_sub, b_mul, b_fdiv, b_mod, b_shl, b_shr, b_pow, b_tup, b_lst, o_lt, o_le, o_gt, o_ge, o_eqi, o_nei, o_neb, sl_a, sl_b, sl_bl, sl_c, cmp_nil, cmp_cons, cmpY_nil, cmpY_cons, ixW_3, ixL_0, ixL_1, ixL_2, ixL_3, btl, o_isb, o_eqs, o_nes, o_int, o_nit, isF_s, isF_i, deq_ss, deq_ii, List.all_cons, List.all_nil, List.any_cons, List.any_nil, Nat.reduceEqDiff, Int.reduceEq, u_len1, u_len2, u_len3, u_abs, u_int, u_intb, u_lst1, u_lst2, u_lst3, u_tup, u_max, u_min, s_int, s_bl, s_tup, s_lst, s_non, s_str, a_add, a_sub, i_tup, i_lst, r_bl, r_int, fin, chk_own, chk_some, isN, bnd, iN_non, iN_int, iN_bl, iN_str, iN_tup, iN_lst, iN_F, ixW_0, ixW_1, ixW_2, F_0, F_1, ixW_w, wg_1, wg_0, wp_0, List.map, List.length, List.replicate, List.cons_append, List.nil_append, List.append_nil, Nat.reduceSub, Nat.reduceAdd, Nat.sub_self, Nat.sub_zero, if_true, Bool.false_eq_true, if_false, reduceIte, ite_true, ite_false, Bool.and_self, Bool.and_true, Bool.true_and, Bool.not_true, Bool.not_false, Nat.reduceLT, Nat.reduceLeDiff, decide_true, decide_false, Int.reduceLT, Int.reduceLE, Int.reduceAdd, Int.reduceSub, Int.reduceNeg, Bool.or_true, Bool.or_false, Bool.true_or, Bool.false_or, Bool.and_false, Bool.false_and, $xs,*])
  | `(tactic| simp! only) => `(tactic| simp only [ev.eq_1, ev.eq_2, ev.eq_3, ev.eq_4, ev.eq_5, ev.eq_6, ev.eq_7, ev.eq_8, ev.eq_9, ev.eq_10, ev.eq_11, ev.eq_12, ev.eq_13, ev.eq_14, ev.eq_15, ev.eq_16, ev.eq_17, ev.eq_18, ev.eq_19, ev.eq_20, ev.eq_21, ev.eq_22, ev.eq_23, ev.eq_24, ev.eq_25, ev.eq_26, ev.eq_27, ev.eq_28, ev.eq_29, ev.eq_30, ev.eq_35, evs, evT, exec.eq_1, exec.eq_2, exec.eq_3, exec.eq_4, exec.eq_5, exec.eq_6, exec.eq_7, exec.eq_8, exec.eq_9, exec.eq_10, exec.eq_11, exec.eq_12, exec.eq_13, exec.eq_14, exec.eq_15, exec.eq_16, exec.eq_19, exec.eq_20, exec.eq_21, exec.eq_22, exec.eq_23, execs, x_whl, x_for, x_comp, x_compIf, x_comp2, x_comp2If, bor, vi, mkEnv, eg, es, frzA, frzS, bn, bt, bq, bind_F, setAll, setAllT, bind1, setPar, wipeE, tgs, b_add, b_sub, b_mul, b_fdiv, b_mod, b_shl, b_shr, b_pow, b_tup, b_lst, o_lt, o_le, o_gt, o_ge, o_eqi, o_nei, o_neb, sl_a, sl_b, sl_bl, sl_c, cmp_nil, cmp_cons, cmpY_nil, cmpY_cons, ixW_3, ixL_0, ixL_1, ixL_2, ixL_3, btl, o_isb, o_eqs, o_nes, o_int, o_nit, isF_s, isF_i, deq_ss, deq_ii, List.all_cons, List.all_nil, List.any_cons, List.any_nil, Nat.reduceEqDiff, Int.reduceEq, u_len1, u_len2, u_len3, u_abs, u_int, u_intb, u_lst1, u_lst2, u_lst3, u_tup, u_max, u_min, s_int, s_bl, s_tup, s_lst, s_non, s_str, a_add, a_sub, i_tup, i_lst, r_bl, r_int, fin, chk_own, chk_some, isN, bnd, iN_non, iN_int, iN_bl, iN_str, iN_tup, iN_lst, iN_F, ixW_0, ixW_1, ixW_2, F_0, F_1, ixW_w, wg_1, wg_0, wp_0, List.map, List.length, List.replicate, List.cons_append, List.nil_append, List.append_nil, Nat.reduceSub, Nat.reduceAdd, Nat.sub_self, Nat.sub_zero, if_true, Bool.false_eq_true, if_false, reduceIte, ite_true, ite_false, Bool.and_self, Bool.and_true, Bool.true_and, Bool.not_true, Bool.not_false, Nat.reduceLT, Nat.reduceLeDiff, decide_true, decide_false, Int.reduceLT, Int.reduceLE, Int.reduceAdd, Int.reduceSub, Int.reduceNeg, Bool.or_true, Bool.or_false, Bool.true_or, Bool.false_or, Bool.and_false, Bool.false_and])
variable (n : Nat) (ws : WS)
theorem Z_rdX {x : Fo} (h : OkFo x) {q : Rat} {b : Nat} (hq : Z b q) (hb : b ≤ 1400) : Z 3900 (rdX x q) := by
  have u := un_bd h hq
  exact Z_ab ((Z_mul hq (Z_pw (m := b + 1000) (by omega) (by omega))).mono (by omega))
theorem sg_i (q : Rat) : (if decide (q.num < 0) = true then (1 : Int) else 0) = sg q := by
  unfold sg
  by_cases h : q.num < 0 <;> simp [h]
theorem rdR_nn (x : Fo) (q : Rat) : 0 ≤ rdR x q := Int.emod_nonneg _ (by have := den_pos (rdX x q); omega)
theorem rdR_lt (x : Fo) (q : Rat) : rdR x q < (rdX x q).den := Int.emod_lt_of_pos _ (den_pos _)
theorem c_rounded {x : Fo} (h : OkFo x) {y : Nat} (hy : isWay y) {q : Rat} {b : Nat} (hq : Z b q) (hb : b ≤ 1400) (s : Int) :
    callO P (n + 7) 22 [FO x, .str y, F q, .int s] ws = some (.tup [rdN x y q s, rdM x y q], ws) := by
  rw [call_at (d := d_rounded) rfl rfl]
  by_cases h0 : q.num = 0
  · simp! only [d_rounded, b_rounded, decide_eq_true h0, rdN, rdM, if_pos h0]
  have u := un_bd h hq
  have e1 := c_unit_at (n + 3) ws (x := x) hq (by omega)
  have e2 := c_shifted (n + 2) ws (q := q) (e := -un x q) (hq.mono (by omega)) (by omega) (by omega)
  have e3 := c_size (n + 5) ws (q * pw (-un x q))
  have zx := Z_rdX h hq hb
  have e4 := c_marks_of n ws h (hq.mono (show b ≤ 4000 by omega)) (rdR x q)
  have eX : ab (q * pw (-un x q)) = rdX x q := rfl
  rw [eX] at e3
  have okd : okI ((rdX x q).den : Int) = true := okI_of (p3 (k := 0) (den_lt zx))
  have dp := den_pos (rdX x q)
  have eW : (rdX x q).num / ((rdX x q).den : Int) = rdW x q := rfl
  have eR : (rdX x q).num % ((rdX x q).den : Int) = rdR x q := rfl
  have r0 := rdR_nn x q
  have r1 := rdR_lt x q
  have okr : okI (rdR x q) = true := okI_of (Nat.lt_of_lt_of_le (show (rdR x q).natAbs < 2 ^ 3900 by have := den_lt zx; omega) (Nat.pow_le_pow_right (by decide) (by decide)))
  have e5 := c_is_raised (n + 5) ws hy (s := sg q) (w := rdW x q) (l := ((rdX x q).den : Int)) okr
  have e6 := c_beyond (n + 4) ws h hy (sg q)
  have d0 : 0 ≤ x.d := by have := h.d1; omega
  have d2 : x.d ≤ 100000 := by have := h.d2; omega
  have ok2 : okI 2 = true := okI_s (by decide)
  -- behind the step that makes one more
  have fin_ : ∀ V : Int, rdV x y q = V → (∀ m : D, m = mks x q (rdR x q) →
    (if V = 2 ^ x.d.toNat then (if x.g < un x q + 1 then D.tup [byd x y (sg q), .tup [.str 7, .str 6]] else if V / 2 = 0 then .tup [nO (sg q), m] else .tup [nN (sg q) (V / 2) (un x q + 1), m]) else
      if x.g < un x q then .tup [byd x y (sg q), .tup [.str 7, .str 6]] else if V = 0 then .tup [nO (sg q), m] else .tup [nN (sg q) V (un x q), m]) = .tup [rdN x y q s, rdM x y q]) := by
    intro V hV m hm
    subst hm
    unfold rdN rdM
    rw [if_neg h0, if_neg h0, hV]
    by_cases c1 : V = 2 ^ x.d.toNat
    · rw [if_pos c1, if_pos c1, if_pos c1]
      by_cases c2 : x.g < un x q + 1
      · rw [if_pos c2, if_pos c2, if_pos c2]
      · rw [if_neg c2, if_neg c2, if_neg c2]
        by_cases c3 : V / 2 = 0
        · rw [if_pos c3, if_pos c3]
        · rw [if_neg c3, if_neg c3]
    · rw [if_neg c1, if_neg c1, if_neg c1]
      by_cases c2 : x.g < un x q
      · rw [if_pos c2, if_pos c2, if_pos c2]
      · rw [if_neg c2, if_neg c2, if_neg c2]
        by_cases c3 : V = 0
        · rw [if_pos c3, if_pos c3]
        · rw [if_neg c3, if_neg c3]
  by_cases hr : 0 < rdR x q
  · by_cases hz : rz y (sg q) (rdW x q) (rdR x q) ((rdX x q).den : Int) = true
    · have hV : rdV x y q = rdW x q + 1 := by unfold rdV; rw [if_pos ⟨hr, hz⟩]
      rw [← fin_ _ hV _ rfl]
      by_cases c1 : rdW x q + 1 = 2 ^ x.d.toNat
      · by_cases c2 : x.g < un x q + 1
        · simp! only [d_rounded, b_rounded, decide_eq_false h0, sg_i, e1, e2, e3, eW, eR, decide_eq_true dp, okd, e4, decide_eq_true hr, e5, hz, decide_eq_true d0, decide_eq_true d2, Int.natAbs_one, Int.one_mul, decide_eq_true c1, ok2, decide_eq_true c2, e6, if_pos c1, if_pos c2]
        · by_cases c3 : (rdW x q + 1) / 2 = 0
          · simp! only [d_rounded, b_rounded, decide_eq_false h0, sg_i, e1, e2, e3, eW, eR, decide_eq_true dp, okd, e4, decide_eq_true hr, e5, hz, decide_eq_true d0, decide_eq_true d2, Int.natAbs_one, Int.one_mul, decide_eq_true c1, ok2, decide_eq_false c2, decide_eq_true c3, if_pos c1, if_neg c2, if_pos c3]
          · simp! only [d_rounded, b_rounded, decide_eq_false h0, sg_i, e1, e2, e3, eW, eR, decide_eq_true dp, okd, e4, decide_eq_true hr, e5, hz, decide_eq_true d0, decide_eq_true d2, Int.natAbs_one, Int.one_mul, decide_eq_true c1, ok2, decide_eq_false c2, decide_eq_false c3, if_pos c1, if_neg c2, if_neg c3]
      · by_cases c2 : x.g < un x q
        · simp! only [d_rounded, b_rounded, decide_eq_false h0, sg_i, e1, e2, e3, eW, eR, decide_eq_true dp, okd, e4, decide_eq_true hr, e5, hz, decide_eq_true d0, decide_eq_true d2, Int.natAbs_one, Int.one_mul, decide_eq_false c1, decide_eq_true c2, e6, if_neg c1, if_pos c2]
        · by_cases c3 : rdW x q + 1 = 0
          · simp! only [d_rounded, b_rounded, decide_eq_false h0, sg_i, e1, e2, e3, eW, eR, decide_eq_true dp, okd, e4, decide_eq_true hr, e5, hz, decide_eq_true d0, decide_eq_true d2, Int.natAbs_one, Int.one_mul, decide_eq_false c1, decide_eq_false c2, decide_eq_true c3, if_neg c1, if_neg c2, if_pos c3]
          · simp! only [d_rounded, b_rounded, decide_eq_false h0, sg_i, e1, e2, e3, eW, eR, decide_eq_true dp, okd, e4, decide_eq_true hr, e5, hz, decide_eq_true d0, decide_eq_true d2, Int.natAbs_one, Int.one_mul, decide_eq_false c1, decide_eq_false c2, decide_eq_false c3, if_neg c1, if_neg c2, if_neg c3]
    · have hV : rdV x y q = rdW x q := by unfold rdV; rw [if_neg fun z => hz z.2]
      have hz : rz y (sg q) (rdW x q) (rdR x q) ((rdX x q).den : Int) = false := by simpa using hz
      rw [← fin_ _ hV _ rfl]
      by_cases c1 : rdW x q = 2 ^ x.d.toNat
      · by_cases c2 : x.g < un x q + 1
        · simp! only [d_rounded, b_rounded, decide_eq_false h0, sg_i, e1, e2, e3, eW, eR, decide_eq_true dp, okd, e4, decide_eq_true hr, e5, hz, decide_eq_true d0, decide_eq_true d2, Int.natAbs_one, Int.one_mul, decide_eq_true c1, ok2, decide_eq_true c2, e6, if_pos c1, if_pos c2]
        · by_cases c3 : rdW x q / 2 = 0
          · simp! only [d_rounded, b_rounded, decide_eq_false h0, sg_i, e1, e2, e3, eW, eR, decide_eq_true dp, okd, e4, decide_eq_true hr, e5, hz, decide_eq_true d0, decide_eq_true d2, Int.natAbs_one, Int.one_mul, decide_eq_true c1, ok2, decide_eq_false c2, decide_eq_true c3, if_pos c1, if_neg c2, if_pos c3]
          · simp! only [d_rounded, b_rounded, decide_eq_false h0, sg_i, e1, e2, e3, eW, eR, decide_eq_true dp, okd, e4, decide_eq_true hr, e5, hz, decide_eq_true d0, decide_eq_true d2, Int.natAbs_one, Int.one_mul, decide_eq_true c1, ok2, decide_eq_false c2, decide_eq_false c3, if_pos c1, if_neg c2, if_neg c3]
      · by_cases c2 : x.g < un x q
        · simp! only [d_rounded, b_rounded, decide_eq_false h0, sg_i, e1, e2, e3, eW, eR, decide_eq_true dp, okd, e4, decide_eq_true hr, e5, hz, decide_eq_true d0, decide_eq_true d2, Int.natAbs_one, Int.one_mul, decide_eq_false c1, decide_eq_true c2, e6, if_neg c1, if_pos c2]
        · by_cases c3 : rdW x q = 0
          · simp! only [d_rounded, b_rounded, decide_eq_false h0, sg_i, e1, e2, e3, eW, eR, decide_eq_true dp, okd, e4, decide_eq_true hr, e5, hz, decide_eq_true d0, decide_eq_true d2, Int.natAbs_one, Int.one_mul, decide_eq_false c1, decide_eq_false c2, decide_eq_true c3, if_neg c1, if_neg c2, if_pos c3]
          · simp! only [d_rounded, b_rounded, decide_eq_false h0, sg_i, e1, e2, e3, eW, eR, decide_eq_true dp, okd, e4, decide_eq_true hr, e5, hz, decide_eq_true d0, decide_eq_true d2, Int.natAbs_one, Int.one_mul, decide_eq_false c1, decide_eq_false c2, decide_eq_false c3, if_neg c1, if_neg c2, if_neg c3]
  · have hV : rdV x y q = rdW x q := by unfold rdV; rw [if_neg fun z => hr z.1]
    rw [← fin_ _ hV _ rfl]
    by_cases c1 : rdW x q = 2 ^ x.d.toNat
    · by_cases c2 : x.g < un x q + 1
      · simp! only [d_rounded, b_rounded, decide_eq_false h0, sg_i, e1, e2, e3, eW, eR, decide_eq_true dp, okd, e4, decide_eq_false hr, decide_eq_true d0, decide_eq_true d2, Int.natAbs_one, Int.one_mul, decide_eq_true c1, ok2, decide_eq_true c2, e6, if_pos c1, if_pos c2]
      · by_cases c3 : rdW x q / 2 = 0
        · simp! only [d_rounded, b_rounded, decide_eq_false h0, sg_i, e1, e2, e3, eW, eR, decide_eq_true dp, okd, e4, decide_eq_false hr, decide_eq_true d0, decide_eq_true d2, Int.natAbs_one, Int.one_mul, decide_eq_true c1, ok2, decide_eq_false c2, decide_eq_true c3, if_pos c1, if_neg c2, if_pos c3]
        · simp! only [d_rounded, b_rounded, decide_eq_false h0, sg_i, e1, e2, e3, eW, eR, decide_eq_true dp, okd, e4, decide_eq_false hr, decide_eq_true d0, decide_eq_true d2, Int.natAbs_one, Int.one_mul, decide_eq_true c1, ok2, decide_eq_false c2, decide_eq_false c3, if_pos c1, if_neg c2, if_neg c3]
    · by_cases c2 : x.g < un x q
      · simp! only [d_rounded, b_rounded, decide_eq_false h0, sg_i, e1, e2, e3, eW, eR, decide_eq_true dp, okd, e4, decide_eq_false hr, decide_eq_true d0, decide_eq_true d2, Int.natAbs_one, Int.one_mul, decide_eq_false c1, decide_eq_true c2, e6, if_neg c1, if_pos c2]
      · by_cases c3 : rdW x q = 0
        · simp! only [d_rounded, b_rounded, decide_eq_false h0, sg_i, e1, e2, e3, eW, eR, decide_eq_true dp, okd, e4, decide_eq_false hr, decide_eq_true d0, decide_eq_true d2, Int.natAbs_one, Int.one_mul, decide_eq_false c1, decide_eq_false c2, decide_eq_true c3, if_neg c1, if_neg c2, if_pos c3]
        · simp! only [d_rounded, b_rounded, decide_eq_false h0, sg_i, e1, e2, e3, eW, eR, decide_eq_true dp, okd, e4, decide_eq_false hr, decide_eq_true d0, decide_eq_true d2, Int.natAbs_one, Int.one_mul, decide_eq_false c1, decide_eq_false c2, decide_eq_false c3, if_neg c1, if_neg c2, if_neg c3]
/-- the size of a half unit, or a unit -/
noncomputable def ebd (x : Fo) (y : Nat) (q : Rat) : Rat := (if near y = true then Rat.divInt 1 2 else 1) * pw (un x q)
theorem F_12 : D.tup [.int 1, .int 2] = F (Rat.divInt 1 2) := by rw [← mkF (by decide)]; rfl
theorem F_one : D.tup [.int 1, .int 1] = F 1 := rfl
theorem Z_12 : Z 2 (Rat.divInt 1 2) := Z_div (by decide) (by decide) (by decide)
theorem Z_one : Z 1 1 := ⟨by decide, by decide⟩
theorem Z_zero : Z 1 0 := ⟨by decide, by decide⟩
theorem Z_ebd {x : Fo} (h : OkFo x) {q : Rat} {b : Nat} (hq : Z b q) (y : Nat) : Z (b + 1003) (ebd x y q) := by
  have u := un_bd h hq
  have z := Z_pw (e := un x q) (m := b + 1000) (by omega) (by omega)
  unfold ebd
  split
  · exact (Z_mul Z_12 z).mono (by omega)
  · exact (Z_mul Z_one z).mono (by omega)
theorem c_error_bound {x : Fo} (h : OkFo x) {y : Nat} (hy : isWay y) {q : Rat} {b : Nat} (hq : Z b q) (hb : b ≤ 1900) : callO P (n + 5) 25 [FO x, .str y, F q] ws = some (F (ebd x y q), ws) := by
  have u := un_bd h hq
  have e1 := c_unit_at (n + 1) ws (x := x) hq (by omega)
  have e2 := c_shifted n ws (q := Rat.divInt 1 2) (e := un x q) (Z_12.mono (by decide)) (by omega) (by omega)
  have e3 := c_shifted n ws (q := 1) (e := un x q) (Z_one.mono (by decide)) (by omega) (by omega)
  rw [call_at (d := d_error_bound) rfl rfl]
  rcases hy with rfl | rfl | rfl | rfl | rfl
  · simp! only [d_error_bound, b_error_bound, e1, F_12, e2, ebd, near, true_or]
  · simp! only [d_error_bound, b_error_bound, e1, F_12, e2, ebd, near, or_true]
  · simp! only [d_error_bound, b_error_bound, e1, F_one, e3, ebd, near, or_self]
  · simp! only [d_error_bound, b_error_bound, e1, F_one, e3, ebd, near, or_self]
  · simp! only [d_error_bound, b_error_bound, e1, F_one, e3, ebd, near, or_self]
/-- the greatest value -/
def top (x : Fo) : Rat := vN 0 (fullW x) x.g
theorem c_is_in_reach {x : Fo} (h : OkFo x) {q : Rat} (hq : Z 4000 q) : callO P (n + 6) 26 [FO x, F q] ws = some (.bl (decide (q ≤ top x)), ws) := by
  have e1 := c_greatest_of (n + 4) ws h
  have e2 := c_value_of n ws (s := 0) (w := fullW x) (p := x.g) (fullW_lt h) (by decide) (by decide) (by have := h.f1; have := h.fg; omega) (by have := h.g2; omega)
  have e3 := c_is_less (n + 4) ws ((Z_full h).mono (by decide)) hq
  rw [call_at (d := d_is_in_reach) rfl rfl]
  have : (!decide (vN 0 (fullW x) x.g < q)) = decide (q ≤ top x) := by
    unfold top
    by_cases c : vN 0 (fullW x) x.g < q
    · rw [decide_eq_true c, decide_eq_false (by grind)]; rfl
    · rw [decide_eq_false c, decide_eq_true (by grind)]; rfl
  simp! only [d_is_in_reach, b_is_in_reach, e1, e2, e3, this]
end Pv.K33


set_option Elab.async false
set_option linter.all false
set_option maxRecDepth 100000
set_option exponentiation.threshold 20
/-! L6: spans. -/
namespace Pv.K33
open Pv
local macro_rules
  | `(tactic| simp! only [$xs,*]) => `(tactic| simp only [ev.eq_1, ev.eq_2, ev.eq_3, ev.eq_4, ev.eq_5, ev.eq_6, ev.eq_7, ev.eq_8, ev.eq_9, ev.eq_10, ev.eq_11, ev.eq_12, ev.eq_13, ev.eq_14, ev.eq_15, ev.eq_16, ev.eq_17, ev.eq_18, ev.eq_19, ev.eq_20, ev.eq_21, ev.eq_22, ev.eq_23, ev.eq_24, ev.eq_25, ev.eq_26, ev.eq_27, ev.eq_28, ev.eq_29, ev.eq_30, ev.eq_35, evs, evT, exec.eq_1, exec.eq_2, exec.eq_3, exec.eq_4, exec.eq_5, exec.eq_6, exec.eq_7, exec.eq_8, exec.eq_9, exec.eq_10, exec.eq_11, exec.eq_12, exec.eq_13, exec.eq_14, exec.eq_15, exec.eq_16, exec.eq_19, exec.eq_20, exec.eq_21, exec.eq_22, exec.eq_23, execs, x_whl, x_for, x_comp, x_compIf, x_comp2, x_comp2If, bor, vi, mkEnv, eg, es, frzA, frzS, bn, bt, bq, bind_F, setAll, setAllT, bind1, setPar, wipeE, tgs, b_add, b_sub, b_mul, b_fdiv, b_mod, b_shl, b_shr, b_pow, b_tup, b_lst, o_lt, o_le, o_gt, o_ge, o_eqi, o_nei, o_neb, sl_a, sl_b, sl_bl, sl_c, cmp_nil, cmp_cons, cmpY_nil, cmpY_cons, ixW_3, ixL_0, ixL_1, ixL_2, ixL_3, btl, o_isb, o_eqs, o_nes, o_int, o_nit, isF_s, isF_i, deq_ss, deq_ii, List.all_cons, List.all_nil, List.any_cons, List.any_nil, Nat.reduceEqDiff, Int.reduceEq, u_len1, u_len2, u_len3, u_abs, u_int, u_intb, u_lst1, u_lst2, u_lst3, u_tup, u_max, u_min, s_int, s_bl, s_tup, s_lst, s_non, s_str, a_add, a_sub, i_tup, i_lst, r_bl, r_int, fin, chk_own, chk_some, isN, bnd, iN_non, iN_int, iN_bl, iN_str, iN_tup, iN_lst, iN_F, ixW_0, ixW_1, ixW_2, F_0, F_1, ixW_w, wg_1, wg_0, wp_0, List.map, List.length, List.replicate, List.cons_append, List.nil_append, List.append_nil, Nat.reduceSub, Nat.reduceAdd, Nat.sub_self, Nat.sub_zero, if_true, Bool.false_eq_true, if_false, reduceIte, ite_true, ite_false, Bool.and_self, Bool.and_true, Bool.true_and, Bool.not_true, Bool.not_false, Nat.reduceLT, Nat.reduceLeDiff, decide_true, decide_false, Int.reduceLT, Int.reduceLE, Int.reduceAdd, Int.reduceSub, Int.reduceNeg, Bool.or_true, Bool.or_false, Bool.true_or, Bool.false_or, Bool.and_false, Bool.false_and, $xs,*])
  | `(tactic| simp! only) => `(tactic| simp only [ev.eq_1, ev.eq_2, ev.eq_3, ev.eq_4, ev.eq_5, ev.eq_6, ev.eq_7, ev.eq_8, ev.eq_9, ev.eq_10, ev.eq_11, ev.eq_12, ev.eq_13, ev.eq_14, ev.eq_15, ev.eq_16, ev.eq_17, ev.eq_18, ev.eq_19, ev.eq_20, ev.eq_21, ev.eq_22, ev.eq_23, ev.eq_24, ev.eq_25, ev.eq_26, ev.eq_27, ev.eq_28, ev.eq_29, ev.eq_30, ev.eq_35, evs, evT, exec.eq_1, exec.eq_2, exec.eq_3, exec.eq_4, exec.eq_5, exec.eq_6, exec.eq_7, exec.eq_8, exec.eq_9, exec.eq_10, exec.eq_11, exec.eq_12, exec.eq_13, exec.eq_14, exec.eq_15, exec.eq_16, exec.eq_19, exec.eq_20, exec.eq_21, exec.eq_22, exec.eq_23, execs, x_whl, x_for, x_comp, x_compIf, x_comp2, x_comp2If, bor, vi, mkEnv, eg, es, frzA, frzS, bn, bt, bq, bind_F, setAll, setAllT, bind1, setPar, wipeE, tgs, b_add, b_sub, b_mul, b_fdiv, b_mod, b_shl, b_shr, b_pow, b_tup, b_lst, o_lt, o_le, o_gt, o_ge, o_eqi, o_nei, o_neb, sl_a, sl_b, sl_bl, sl_c, cmp_nil, cmp_cons, cmpY_nil, cmpY_cons, ixW_3, ixL_0, ixL_1, ixL_2, ixL_3, btl, o_isb, o_eqs, o_nes, o_int, o_nit, isF_s, isF_i, deq_ss, deq_ii, List.all_cons, List.all_nil, List.any_cons, List.any_nil, Nat.reduceEqDiff, Int.reduceEq, u_len1, u_len2, u_len3, u_abs, u_int, u_intb, u_lst1, u_lst2, u_lst3, u_tup, u_max, u_min, s_int, s_bl, s_tup, s_lst, s_non, s_str, a_add, a_sub, i_tup, i_lst, r_bl, r_int, fin, chk_own, chk_some, isN, bnd, iN_non, iN_int, iN_bl, iN_str, iN_tup, iN_lst, iN_F, ixW_0, ixW_1, ixW_2, F_0, F_1, ixW_w, wg_1, wg_0, wp_0, List.map, List.length, List.replicate, List.cons_append, List.nil_append, List.append_nil, Nat.reduceSub, Nat.reduceAdd, Nat.sub_self, Nat.sub_zero, if_true, Bool.false_eq_true, if_false, reduceIte, ite_true, ite_false, Bool.and_self, Bool.and_true, Bool.true_and, Bool.not_true, Bool.not_false, Nat.reduceLT, Nat.reduceLeDiff, decide_true, decide_false, Int.reduceLT, Int.reduceLE, Int.reduceAdd, Int.reduceSub, Int.reduceNeg, Bool.or_true, Bool.or_false, Bool.true_or, Bool.false_or, Bool.and_false, Bool.false_and])
variable (n : Nat) (ws : WS)
structure Sn where
  l : Rat
  h : Rat
abbrev SD (s : Sn) : D := .tup [F s.l, F s.h]
structure ZS (k : Nat) (s : Sn) : Prop where
  l : Z k s.l
  h : Z k s.h
theorem ZS.mono {j k : Nat} {s : Sn} (h : ZS j s) (e : j ≤ k) : ZS k s := ⟨h.l.mono e, h.h.mono e⟩
def addS (a b : Sn) : Sn := ⟨a.l + b.l, a.h + b.h⟩
def negS (a : Sn) : Sn := ⟨-a.h, -a.l⟩
def hullL (q : Rat) (qs : List Rat) : Sn := qs.foldl (fun s q => ⟨mn s.l q, mx s.h q⟩) ⟨q, q⟩
def mulL (a b : Sn) : List Rat := [a.l * b.h, a.h * b.l, a.h * b.h]
def mulS (a b : Sn) : Sn := hullL (a.l * b.l) (mulL a b)
def quoL (a b : Sn) : List Rat := [a.l / b.h, a.h / b.l, a.h / b.h]
def quoS (a b : Sn) : Sn := hullL (a.l / b.l) (quoL a b)
def has0 (a : Sn) : Bool := decide (a.l.num ≤ 0) && decide (0 ≤ a.h.num)
def bigS (a : Sn) : Rat := mx (ab a.l) (ab a.h)
def smlS (a : Sn) : Rat := if has0 a = true then 0 else mn (ab a.l) (ab a.h)
def sizS (a : Sn) : Sn := ⟨smlS a, bigS a⟩
def leaS (a b : Sn) : Sn := ⟨mn a.l b.l, mn a.h b.h⟩
def mosS (a b : Sn) : Sn := ⟨mx a.l b.l, mx a.h b.h⟩
def hulS (a b : Sn) : Sn := ⟨mn a.l b.l, mx a.h b.h⟩
def widS (a : Sn) (e : Rat) : Sn := ⟨a.l - e, a.h + e⟩
theorem ZS_add {a b : Sn} {i j : Nat} (ha : ZS i a) (hb : ZS j b) : ZS (i + j + 1) (addS a b) := ⟨Z_add ha.l hb.l, Z_add ha.h hb.h⟩
theorem ZS_neg {a : Sn} {i : Nat} (ha : ZS i a) : ZS i (negS a) := ⟨Z_neg ha.h, Z_neg ha.l⟩
theorem ZS_hull {k : Nat} : ∀ {qs : List Rat} {s : Sn}, ZS k s → (∀ q ∈ qs, Z k q) → ZS k (qs.foldl (fun s q => ⟨mn s.l q, mx s.h q⟩) s)
  | [], s, h, _ => h
  | q :: qs, s, h, hq => ZS_hull (qs := qs) ⟨Z_mn h.l (hq q List.mem_cons_self), Z_mx h.h (hq q List.mem_cons_self)⟩ fun p hp => hq p (List.mem_cons_of_mem _ hp)
theorem ZS_mul {a b : Sn} {i j : Nat} (ha : ZS i a) (hb : ZS j b) : ZS (i + j) (mulS a b) :=
  ZS_hull ⟨Z_mul ha.l hb.l, Z_mul ha.l hb.l⟩ fun q hq => by
    simp only [mulL, List.mem_cons, List.not_mem_nil, or_false] at hq
    rcases hq with rfl | rfl | rfl
    · exact Z_mul ha.l hb.h
    · exact Z_mul ha.h hb.l
    · exact Z_mul ha.h hb.h
theorem num_ne {b : Sn} (hb : has0 b = false) (o : b.l ≤ b.h) : b.l.num ≠ 0 ∧ b.h.num ≠ 0 := by
  unfold has0 at hb
  rw [Bool.and_eq_false_iff, decide_eq_false_iff_not, decide_eq_false_iff_not] at hb
  have k : b.l.num = 0 → ¬ b.h.num < 0 := fun h z => by
    have : b.l = 0 := Rat.num_eq_zero.mp h
    rw [this] at o
    have := Rat.num_nonneg.mpr o
    omega
  have k2 : b.h.num = 0 → ¬ 0 < b.l.num := fun h z => by
    have : b.h = 0 := Rat.num_eq_zero.mp h
    rw [this] at o
    have : (0 : Rat) < b.l := by rw [Rat.lt_iff]; simpa using z
    grind
  constructor <;> intro z <;> rcases hb with q | q <;> first | omega | (have := k z; omega) | (have := k2 z; omega)
theorem ZS_quo {a b : Sn} {i j : Nat} (ha : ZS i a) (hb : ZS j b) (h : b.l.num ≠ 0 ∧ b.h.num ≠ 0) : ZS (i + j) (quoS a b) :=
  ZS_hull ⟨Z_quo ha.l hb.l h.1, Z_quo ha.l hb.l h.1⟩ fun q hq => by
    simp only [quoL, List.mem_cons, List.not_mem_nil, or_false] at hq
    rcases hq with rfl | rfl | rfl
    · exact Z_quo ha.l hb.h h.2
    · exact Z_quo ha.h hb.l h.1
    · exact Z_quo ha.h hb.h h.2
theorem Z_big {a : Sn} {k : Nat} (ha : ZS k a) : Z k (bigS a) := Z_mx (Z_ab ha.l) (Z_ab ha.h)
theorem Z_0 {k : Nat} (h : 1 ≤ k) : Z k 0 := Z_zero.mono h
theorem Z_sml {a : Sn} {k : Nat} (ha : ZS k a) (h : 1 ≤ k) : Z k (smlS a) := by
  unfold smlS
  split
  · exact Z_0 h
  · exact Z_mn (Z_ab ha.l) (Z_ab ha.h)
theorem ZS_siz {a : Sn} {k : Nat} (ha : ZS k a) (h : 1 ≤ k) : ZS k (sizS a) := ⟨Z_sml ha h, Z_big ha⟩
theorem ZS_lea {a b : Sn} {k : Nat} (ha : ZS k a) (hb : ZS k b) : ZS k (leaS a b) := ⟨Z_mn ha.l hb.l, Z_mn ha.h hb.h⟩
theorem ZS_mos {a b : Sn} {k : Nat} (ha : ZS k a) (hb : ZS k b) : ZS k (mosS a b) := ⟨Z_mx ha.l hb.l, Z_mx ha.h hb.h⟩
theorem ZS_hul {a b : Sn} {k : Nat} (ha : ZS k a) (hb : ZS k b) : ZS k (hulS a b) := ⟨Z_mn ha.l hb.l, Z_mx ha.h hb.h⟩
theorem ZS_wid {a : Sn} {e : Rat} {i j : Nat} (ha : ZS i a) (he : Z j e) : ZS (i + j + 1) (widS a e) := ⟨Z_sub ha.l he, Z_add ha.h he⟩
theorem F_eqv (p q : Rat) : deq (F p) (F q) = decide (p = q) := by
  unfold F
  simp only [deq, deqs, Bool.and_true]
  by_cases h : p = q
  · subst h; simp
  · have : ¬ (p.num = q.num ∧ p.den = q.den) := fun z => h (Rat.ext z.1 z.2)
    rw [decide_eq_false h]
    by_cases a : p.num = q.num
    · have b : ¬ ((p.den : Int) = q.den) := fun z => this ⟨a, by omega⟩
      rw [decide_eq_false b, Bool.and_false]
    · rw [decide_eq_false a, Bool.false_and]
theorem o_eqF (p q : Rat) : cop .eq (F p) (F q) = some (decide (p = q)) := by
  show (if (okq (F p) 64 && okq (F q) 64) = true then some (deq (F p) (F q)) else none) = _
  rw [show okq (F p) 64 = true from rfl, show okq (F q) 64 = true from rfl, F_eqv]
  rfl
theorem c_is_inside {a b : Sn} (ha : ZS 4000 a) (hb : ZS 4000 b) : callO P (n + 2) 27 [SD a, SD b] ws = some (.bl (decide (b.l ≤ a.l) && decide (a.h ≤ b.h)), ws) := by
  rw [call_at (d := d_is_inside) rfl rfl]
  by_cases h : b.l ≤ a.l
  · simp! only [d_is_inside, b_is_inside, c_is_most n ws hb.l ha.l, c_is_most n ws ha.h hb.h, decide_eq_true h]
  · simp! only [d_is_inside, b_is_inside, c_is_most n ws hb.l ha.l, c_is_most n ws ha.h hb.h, decide_eq_false h]
theorem c_hull {a b : Sn} (ha : ZS 4000 a) (hb : ZS 4000 b) : callO P (n + 3) 28 [SD a, SD b] ws = some (SD (hulS a b), ws) := by
  rw [call_at (d := d_hull) rfl rfl]
  simp! only [d_hull, b_hull, c_lesser n ws ha.l hb.l, c_greater n ws ha.h hb.h, hulS]
theorem loop_hull {L : D} : ∀ {qs : List Rat} {s : Sn} {t : Slot}, ZS 4000 s → (∀ q ∈ qs, Z 4000 q) →
    ∃ t', forX (callO P (n + 2)) (.nm 2) l_hull_of_0 (qs.map F) [.va L, .va (SD s), t] ws = some (.nx, [.va L, .va (SD (qs.foldl (fun s q => ⟨mn s.l q, mx s.h q⟩) s)), t'], ws)
  | [], s, t, _, _ => ⟨t, rfl⟩
  | q :: qs, s, t, h, hq => by
    have h0 := hq q List.mem_cons_self
    obtain ⟨t', e⟩ := loop_hull (L := L) (qs := qs) (s := ⟨mn s.l q, mx s.h q⟩) (t := .va (F q)) ⟨Z_mn h.l h0, Z_mx h.h h0⟩ fun p hp => hq p (List.mem_cons_of_mem _ hp)
    refine ⟨t', ?_⟩
    rw [List.map_cons, for_cons]
    simp! only [l_hull_of_0, c_lesser n ws h.l h0, c_greater n ws h.h h0]
    exact e
theorem c_hull_of {q : Rat} {qs : List Rat} (h : Z 4000 q) (hq : ∀ q ∈ qs, Z 4000 q) : callO P (n + 3) 29 [.lst (F q :: qs.map F)] ws = some (SD (hullL q qs), ws) := by
  obtain ⟨t, e⟩ := loop_hull n ws (L := .lst (F q :: qs.map F)) (t := .un) (s := ⟨q, q⟩) ⟨h, h⟩ hq
  rw [call_at (d := d_hull_of) rfl rfl]
  simp! only [d_hull_of, b_hull_of, e, hullL]
theorem c_point (q : Rat) : callO P (n + 1) 30 [F q] ws = some (SD ⟨q, q⟩, ws) := by
  rw [call_at (d := d_point) rfl rfl]
  simp! only [d_point, b_point]
theorem c_added_spans {a b : Sn} (ha : ZS 4000 a) (hb : ZS 4000 b) : callO P (n + 4) 31 [SD a, SD b] ws = some (SD (addS a b), ws) := by
  rw [call_at (d := d_added_spans) rfl rfl]
  simp! only [d_added_spans, b_added_spans, c_added n ws ha.l hb.l, c_added n ws ha.h hb.h, addS]
theorem c_negated_span {a : Sn} : callO P (n + 2) 32 [SD a] ws = some (SD (negS a), ws) := by
  rw [call_at (d := d_negated_span) rfl rfl]
  simp! only [d_negated_span, b_negated_span, c_negated, negS]
theorem c_taken_spans {a b : Sn} (ha : ZS 4000 a) (hb : ZS 4000 b) : callO P (n + 5) 33 [SD a, SD b] ws = some (SD (addS a (negS b)), ws) := by
  rw [call_at (d := d_taken_spans) rfl rfl]
  simp! only [d_taken_spans, b_taken_spans, c_negated_span (n + 2) ws (a := b), c_added_spans n ws ha (ZS_neg hb)]
theorem c_times_spans {a b : Sn} {i j : Nat} (ha : ZS i a) (hb : ZS j b) (h : i + j ≤ 4000) : callO P (n + 4) 34 [SD a, SD b] ws = some (SD (mulS a b), ws) := by
  have a4 := ha.mono (show i ≤ 4000 by omega)
  have b4 := hb.mono (show j ≤ 4000 by omega)
  have e := c_hull_of n ws (q := a.l * b.l) (qs := mulL a b) ((Z_mul ha.l hb.l).mono h) fun q hq => by
    simp only [mulL, List.mem_cons, List.not_mem_nil, or_false] at hq
    rcases hq with rfl | rfl | rfl
    · exact (Z_mul ha.l hb.h).mono h
    · exact (Z_mul ha.h hb.l).mono h
    · exact (Z_mul ha.h hb.h).mono h
  have o : okLen (0 + 1 + 1 + (0 + 1 + 1)) = true := okLen_of (by decide)
  have e' : callO P (n + 3) 29 [.lst [F (a.l * b.l), F (a.l * b.h), F (a.h * b.l), F (a.h * b.h)]] ws = some (SD (mulS a b), ws) := e
  have o4 : okLen 4 = true := okLen_of (by decide)
  rw [call_at (d := d_times_spans) rfl rfl]
  simp! only [d_times_spans, b_times_spans, compL2, compL, x_times_spans_0, c_times n ws a4.l b4.l, c_times n ws a4.l b4.h, c_times n ws a4.h b4.l, c_times n ws a4.h b4.h, o, o4, e']
theorem c_has_nothing (a : Sn) : callO P (n + 1) 35 [SD a] ws = some (.bl (has0 a), ws) := by
  rw [call_at (d := d_has_nothing) rfl rfl]
  by_cases h : a.l.num ≤ 0
  · simp! only [d_has_nothing, b_has_nothing, decide_eq_true h, has0]
  · simp! only [d_has_nothing, b_has_nothing, decide_eq_false h, has0]
def OD : Option Sn → D
  | none => .non
  | some s => SD s
def ovrS (a b : Sn) : Option Sn := if has0 b = true then none else some (quoS a b)
theorem c_over_spans {a b : Sn} {i j : Nat} (ha : ZS i a) (hb : ZS j b) (h : i + j ≤ 4000) (o : b.l ≤ b.h) : callO P (n + 4) 36 [SD a, SD b] ws = some (OD (ovrS a b), ws) := by
  rw [call_at (d := d_over_spans) rfl rfl]
  have e0 := c_has_nothing (n + 2) ws b
  cases h0 : has0 b with
  | true =>
    rw [h0] at e0
    simp! only [d_over_spans, b_over_spans, e0, ovrS, h0, OD]
  | false =>
    rw [h0] at e0
    have nz := num_ne h0 o
    have a4 := ha.mono (show i ≤ 4000 by omega)
    have b4 := hb.mono (show j ≤ 4000 by omega)
    have e := c_hull_of n ws (q := a.l / b.l) (qs := quoL a b) ((Z_quo ha.l hb.l nz.1).mono h) fun q hq => by
      simp only [quoL, List.mem_cons, List.not_mem_nil, or_false] at hq
      rcases hq with rfl | rfl | rfl
      · exact (Z_quo ha.l hb.h nz.2).mono h
      · exact (Z_quo ha.h hb.l nz.1).mono h
      · exact (Z_quo ha.h hb.h nz.2).mono h
    have e' : callO P (n + 3) 29 [.lst [F (a.l / b.l), F (a.l / b.h), F (a.h / b.l), F (a.h / b.h)]] ws = some (SD (quoS a b), ws) := e
    have o4 : okLen 4 = true := okLen_of (by decide)
    simp! only [d_over_spans, b_over_spans, e0, compL2, compL, x_over_spans_0, c_quotient n ws a4.l b4.l nz.1, c_quotient n ws a4.l b4.h nz.2, c_quotient n ws a4.h b4.l nz.1, c_quotient n ws a4.h b4.h nz.2, o4, e', ovrS, h0, OD]
theorem c_most_size {a : Sn} (ha : ZS 4000 a) : callO P (n + 3) 38 [SD a] ws = some (F (bigS a), ws) := by
  rw [call_at (d := d_most_size) rfl rfl]
  simp! only [d_most_size, b_most_size, c_size (n + 1), c_greater n ws (Z_ab ha.l) (Z_ab ha.h), bigS]
theorem hull_2 (p q : Rat) : hullL p [q] = ⟨mn p q, mx p q⟩ := rfl
theorem c_size_span {a : Sn} (ha : ZS 4000 a) : callO P (n + 4) 37 [SD a] ws = some (SD (sizS a), ws) := by
  have e0 := c_has_nothing (n + 2) ws a
  rw [call_at (d := d_size_span) rfl rfl]
  cases h0 : has0 a with
  | true =>
    rw [h0] at e0
    simp! only [d_size_span, b_size_span, e0, c_most_size n ws ha, F_0', sizS, smlS, h0]
  | false =>
    rw [h0] at e0
    have e := c_hull_of n ws (q := ab a.l) (qs := [ab a.h]) (Z_ab ha.l) (by simp; exact Z_ab ha.h)
    have e' : callO P (n + 3) 29 [.lst [F (ab a.l), F (ab a.h)]] ws = some (SD ⟨mn (ab a.l) (ab a.h), mx (ab a.l) (ab a.h)⟩, ws) := e
    simp! only [d_size_span, b_size_span, e0, c_size (n + 2), e', sizS, smlS, bigS, h0]
theorem c_least_size {a : Sn} (ha : ZS 4000 a) : callO P (n + 5) 39 [SD a] ws = some (F (smlS a), ws) := by
  rw [call_at (d := d_least_size) rfl rfl]
  simp! only [d_least_size, b_least_size, c_size_span n ws ha, sizS]
theorem c_widened_by {a : Sn} {e : Rat} (ha : ZS 4000 a) (he : Z 4000 e) : callO P (n + 5) 40 [SD a, F e] ws = some (SD (widS a e), ws) := by
  rw [call_at (d := d_widened_by) rfl rfl]
  simp! only [d_widened_by, b_widened_by, c_taken n ws ha.l he, c_added (n + 1) ws ha.h he, widS]
theorem c_least_span {a b : Sn} (ha : ZS 4000 a) (hb : ZS 4000 b) : callO P (n + 3) 41 [SD a, SD b] ws = some (SD (leaS a b), ws) := by
  rw [call_at (d := d_least_span) rfl rfl]
  simp! only [d_least_span, b_least_span, c_lesser n ws ha.l hb.l, c_lesser n ws ha.h hb.h, leaS]
theorem c_most_span {a b : Sn} (ha : ZS 4000 a) (hb : ZS 4000 b) : callO P (n + 3) 42 [SD a, SD b] ws = some (SD (mosS a b), ws) := by
  rw [call_at (d := d_most_span) rfl rfl]
  simp! only [d_most_span, b_most_span, c_greater n ws ha.l hb.l, c_greater n ws ha.h hb.h, mosS]
/-- how two spans compare: le tells the sign <= -/
def sure (le : Bool) (a b : Sn) : Option Bool := if a.h < b.l ∨ (le = true ∧ a.h ≤ b.l) then some true else if b.h < a.l ∨ (le = false ∧ b.h ≤ a.l) then some false else none
def OB : Option Bool → D
  | none => .non
  | some b => .bl b
abbrev sgD (le : Bool) : D := if le = true then .str 11 else .str 12
theorem c_is_surely (le : Bool) {a b : Sn} (ha : ZS 4000 a) (hb : ZS 4000 b) : callO P (n + 2) 43 [sgD le, SD a, SD b] ws = some (OB (sure le a b), ws) := by
  have e1 := c_is_less n ws ha.h hb.l
  have e2 := c_is_most n ws ha.h hb.l
  have e3 := c_is_less n ws hb.h ha.l
  have e4 := c_is_most n ws hb.h ha.l
  rw [call_at (d := d_is_surely) rfl rfl]
  by_cases h1 : a.h < b.l
  · cases le <;> simp! only [d_is_surely, b_is_surely, sgD, e1, decide_eq_true h1, sure, h1, true_or, OB]
  · cases le with
    | true =>
      by_cases h2 : a.h ≤ b.l
      · simp! only [d_is_surely, b_is_surely, sgD, e1, decide_eq_false h1, e2, decide_eq_true h2, sure, h1, h2, and_self, or_true, OB]
      · by_cases h3 : b.h < a.l
        · simp! only [d_is_surely, b_is_surely, sgD, e1, decide_eq_false h1, e2, decide_eq_false h2, e3, decide_eq_true h3, sure, h1, h2, h3, and_false, or_false, true_or, OB]
        · simp! only [d_is_surely, b_is_surely, sgD, e1, decide_eq_false h1, e2, decide_eq_false h2, e3, decide_eq_false h3, sure, h1, h2, h3, and_false, or_false, false_and, reduceCtorEq, OB]
    | false =>
      by_cases h3 : b.h < a.l
      · simp! only [d_is_surely, b_is_surely, sgD, e1, decide_eq_false h1, e3, decide_eq_true h3, sure, h1, h3, and_false, or_false, false_and, true_or, reduceCtorEq, OB]
      · by_cases h4 : b.h ≤ a.l
        · simp! only [d_is_surely, b_is_surely, sgD, e1, decide_eq_false h1, e3, decide_eq_false h3, e4, decide_eq_true h4, sure, h1, h3, h4, and_self, or_true, or_false, false_and, true_or, reduceCtorEq, OB]
        · simp! only [d_is_surely, b_is_surely, sgD, e1, decide_eq_false h1, e3, decide_eq_false h3, e4, decide_eq_false h4, sure, h1, h3, h4, and_false, or_false, false_and, reduceCtorEq, OB]
/-! the span of a step -/
inductive Kd where
  | negate | size | joined | add | less | times | over | least | most
abbrev Kd.s : Kd → Nat
  | .negate => 13 | .size => 14 | .joined => 15 | .add => 16 | .less => 17 | .times => 18 | .over => 19 | .least => 20 | .most => 21
/-- of one, two or three spans (those not needed are not looked at) -/
def spanK (k : Kd) (a b c : Sn) : Option Sn := match k with
  | .negate => some (negS a)
  | .size => some (sizS a)
  | .joined => some (addS (mulS a b) c)
  | .add => some (addS a b)
  | .less => some (addS a (negS b))
  | .times => some (mulS a b)
  | .over => ovrS a b
  | .least => some (leaS a b)
  | .most => some (mosS a b)
/-- the parts that a kind has -/
def pts {α : Type} (k : Kd) (a b c : α) : List α := match k with
  | .negate | .size => [a]
  | .joined => [a, b, c]
  | _ => [a, b]
theorem nin1 (a : Sn) : cop .isin .non (.lst [SD a]) = some false := rfl
theorem nin2 (a b : Sn) : cop .isin .non (.lst [SD a, SD b]) = some false := rfl
theorem nin3 (a b c : Sn) : cop .isin .non (.lst [SD a, SD b, SD c]) = some false := rfl
theorem c_span_of_step (k : Kd) {a b c : Sn} {i : Nat} (ha : ZS i a) (hb : ZS i b) (hc : ZS i c) (hi : i + i ≤ 4000) (o : b.l ≤ b.h) : callO P (n + 6) 44 [.str k.s, .lst ((pts k a b c).map SD)] ws = some (OD (spanK k a b c), ws) := by
  have a4 := ha.mono (show i ≤ 4000 by omega)
  have b4 := hb.mono (show i ≤ 4000 by omega)
  have c4 := hc.mono (show i ≤ 4000 by omega)
  have e1 := c_negated_span (n + 3) ws (a := a)
  have e2 := c_size_span (n + 1) ws a4
  have e3 := c_times_spans (n + 1) ws ha hb hi
  have e4 := c_added_spans (n + 1) ws ((ZS_mul ha hb).mono hi) c4
  have e5 := c_added_spans (n + 1) ws a4 b4
  have e6 := c_taken_spans n ws a4 b4
  have e7 := c_over_spans (n + 1) ws ha hb hi o
  have e8 := c_least_span (n + 2) ws a4 b4
  have e9 := c_most_span (n + 2) ws a4 b4
  rw [call_at (d := d_span_of_step) rfl rfl]
  cases k <;> simp! only [d_span_of_step, b_span_of_step, pts, nin1, nin2, nin3, Kd.s, e1, e2, e3, e4, e5, e6, e7, e8, e9, spanK, OD]
end Pv.K33


set_option Elab.async false
set_option linter.all false
set_option maxRecDepth 100000
set_option exponentiation.threshold 20
/-! L7: rows. -/
namespace Pv.K33
open Pv
local macro_rules
  | `(tactic| simp! only [$xs,*]) => `(tactic| simp only [ev.eq_1, ev.eq_2, ev.eq_3, ev.eq_4, ev.eq_5, ev.eq_6, ev.eq_7, ev.eq_8, ev.eq_9, ev.eq_10, ev.eq_11, ev.eq_12, ev.eq_13, ev.eq_14, ev.eq_15, ev.eq_16, ev.eq_17, ev.eq_18, ev.eq_19, ev.eq_20, ev.eq_21, ev.eq_22, ev.eq_23, ev.eq_24, ev.eq_25, ev.eq_26, ev.eq_27, ev.eq_28, ev.eq_29, ev.eq_30, ev.eq_35, evs, evT, exec.eq_1, exec.eq_2, exec.eq_3, exec.eq_4, exec.eq_5, exec.eq_6, exec.eq_7, exec.eq_8, exec.eq_9, exec.eq_10, exec.eq_11, exec.eq_12, exec.eq_13, exec.eq_14, exec.eq_15, exec.eq_16, exec.eq_19, exec.eq_20, exec.eq_21, exec.eq_22, exec.eq_23, execs, x_whl, x_for, x_comp, x_compIf, x_comp2, x_comp2If, bor, vi, mkEnv, eg, es, frzA, frzS, bn, bt, bq, bind_F, setAll, setAllT, bind1, setPar, wipeE, tgs, b_add, b_sub, b_mul, b_fdiv, b_mod, b_shl, b_shr, b_pow, b_tup, b_lst, o_lt, o_le, o_gt, o_ge, o_eqi, o_nei, o_neb, sl_a, sl_b, sl_bl, sl_c, cmp_nil, cmp_cons, cmpY_nil, cmpY_cons, ixW_3, ixL_0, ixL_1, ixL_2, ixL_3, btl, o_isb, o_eqs, o_nes, o_int, o_nit, isF_s, isF_i, deq_ss, deq_ii, List.all_cons, List.all_nil, List.any_cons, List.any_nil, Nat.reduceEqDiff, Int.reduceEq, u_len1, u_len2, u_len3, u_abs, u_int, u_intb, u_lst1, u_lst2, u_lst3, u_tup, u_max, u_min, s_int, s_bl, s_tup, s_lst, s_non, s_str, a_add, a_sub, i_tup, i_lst, r_bl, r_int, fin, chk_own, chk_some, isN, bnd, iN_non, iN_int, iN_bl, iN_str, iN_tup, iN_lst, iN_F, ixW_0, ixW_1, ixW_2, F_0, F_1, ixW_w, wg_1, wg_0, wp_0, List.map, List.length, List.replicate, List.cons_append, List.nil_append, List.append_nil, Nat.reduceSub, Nat.reduceAdd, Nat.sub_self, Nat.sub_zero, if_true, Bool.false_eq_true, if_false, reduceIte, ite_true, ite_false, Bool.and_self, Bool.and_true, Bool.true_and, Bool.not_true, Bool.not_false, Nat.reduceLT, Nat.reduceLeDiff, decide_true, decide_false, Int.reduceLT, Int.reduceLE, Int.reduceAdd, Int.reduceSub, Int.reduceNeg, Bool.or_true, Bool.or_false, Bool.true_or, Bool.false_or, Bool.and_false, Bool.false_and, $xs,*])
  | `(tactic| simp! only) => `(tactic| simp only [ev.eq_1, ev.eq_2, ev.eq_3, ev.eq_4, ev.eq_5, ev.eq_6, ev.eq_7, ev.eq_8, ev.eq_9, ev.eq_10, ev.eq_11, ev.eq_12, ev.eq_13, ev.eq_14, ev.eq_15, ev.eq_16, ev.eq_17, ev.eq_18, ev.eq_19, ev.eq_20, ev.eq_21, ev.eq_22, ev.eq_23, ev.eq_24, ev.eq_25, ev.eq_26, ev.eq_27, ev.eq_28, ev.eq_29, ev.eq_30, ev.eq_35, evs, evT, exec.eq_1, exec.eq_2, exec.eq_3, exec.eq_4, exec.eq_5, exec.eq_6, exec.eq_7, exec.eq_8, exec.eq_9, exec.eq_10, exec.eq_11, exec.eq_12, exec.eq_13, exec.eq_14, exec.eq_15, exec.eq_16, exec.eq_19, exec.eq_20, exec.eq_21, exec.eq_22, exec.eq_23, execs, x_whl, x_for, x_comp, x_compIf, x_comp2, x_comp2If, bor, vi, mkEnv, eg, es, frzA, frzS, bn, bt, bq, bind_F, setAll, setAllT, bind1, setPar, wipeE, tgs, b_add, b_sub, b_mul, b_fdiv, b_mod, b_shl, b_shr, b_pow, b_tup, b_lst, o_lt, o_le, o_gt, o_ge, o_eqi, o_nei, o_neb, sl_a, sl_b, sl_bl, sl_c, cmp_nil, cmp_cons, cmpY_nil, cmpY_cons, ixW_3, ixL_0, ixL_1, ixL_2, ixL_3, btl, o_isb, o_eqs, o_nes, o_int, o_nit, isF_s, isF_i, deq_ss, deq_ii, List.all_cons, List.all_nil, List.any_cons, List.any_nil, Nat.reduceEqDiff, Int.reduceEq, u_len1, u_len2, u_len3, u_abs, u_int, u_intb, u_lst1, u_lst2, u_lst3, u_tup, u_max, u_min, s_int, s_bl, s_tup, s_lst, s_non, s_str, a_add, a_sub, i_tup, i_lst, r_bl, r_int, fin, chk_own, chk_some, isN, bnd, iN_non, iN_int, iN_bl, iN_str, iN_tup, iN_lst, iN_F, ixW_0, ixW_1, ixW_2, F_0, F_1, ixW_w, wg_1, wg_0, wp_0, List.map, List.length, List.replicate, List.cons_append, List.nil_append, List.append_nil, Nat.reduceSub, Nat.reduceAdd, Nat.sub_self, Nat.sub_zero, if_true, Bool.false_eq_true, if_false, reduceIte, ite_true, ite_false, Bool.and_self, Bool.and_true, Bool.true_and, Bool.not_true, Bool.not_false, Nat.reduceLT, Nat.reduceLeDiff, decide_true, decide_false, Int.reduceLT, Int.reduceLE, Int.reduceAdd, Int.reduceSub, Int.reduceNeg, Bool.or_true, Bool.or_false, Bool.true_or, Bool.false_or, Bool.and_false, Bool.false_and])
variable (n : Nat) (ws : WS)
structure Rw where
  s : Sn
  e : Rat
  g : Int
abbrev RD (r : Rw) : D := .tup [SD r.s, F r.e, .int r.g]
structure ZR (k : Nat) (r : Rw) : Prop where
  s : ZS k r.s
  e : Z k r.e
  o : r.s.l ≤ r.s.h
  e0 : 0 ≤ r.e
  g1 : -1400 ≤ r.g
  g2 : r.g ≤ 1400
theorem ZR.mono {j k : Nat} {r : Rw} (h : ZR j r) (e : j ≤ k) : ZR k r := ⟨h.s.mono e, h.e.mono e, h.o, h.e0, h.g1, h.g2⟩
def wideR (r : Rw) : Sn := widS r.s r.e
theorem ZS_wide {r : Rw} {k : Nat} (h : ZR k r) : ZS (k + k + 1) (wideR r) := ZS_wid h.s h.e
def reachR (r : Rw) : Rat := bigS r.s + r.e
theorem c_is_weaker {a b : Rw} (ha : ZR 4000 a) (hb : ZR 4000 b) : callO P (n + 3) 45 [RD a, RD b] ws = some (.bl ((decide (a.s.l ≤ b.s.l) && decide (b.s.h ≤ a.s.h)) && (decide (b.e ≤ a.e) && decide (a.g ≤ b.g))), ws) := by
  have e1 := c_is_inside n ws hb.s ha.s
  have e2 := c_is_most (n + 1) ws hb.e ha.e
  rw [call_at (d := d_is_weaker) rfl rfl]
  cases h : (decide (a.s.l ≤ b.s.l) && decide (b.s.h ≤ a.s.h)) with
  | true =>
    rw [h] at e1
    by_cases h2 : b.e ≤ a.e
    · simp! only [d_is_weaker, b_is_weaker, e1, e2, decide_eq_true h2]
    · simp! only [d_is_weaker, b_is_weaker, e1, e2, decide_eq_false h2]
  | false =>
    rw [h] at e1
    simp! only [d_is_weaker, b_is_weaker, e1]
theorem c_reach_of {a : Rw} (ha : ZR 4000 a) : callO P (n + 4) 46 [RD a] ws = some (F (reachR a), ws) := by
  rw [call_at (d := d_reach_of) rfl rfl]
  simp! only [d_reach_of, b_reach_of, c_most_size n ws ha.s, c_added n ws (Z_big ha.s) ha.e, reachR]
theorem c_rounded_span {a : Rw} (ha : ZR 4000 a) : callO P (n + 6) 47 [RD a] ws = some (SD (wideR a), ws) := by
  rw [call_at (d := d_rounded_span) rfl rfl]
  simp! only [d_rounded_span, b_rounded_span, c_widened_by n ws ha.s ha.e, wideR]
theorem c_input_row {x : Fo} {a : Rw} : callO P (n + 1) 48 [FO x, F a.s.l, F a.s.h, F a.e] ws = some (RD ⟨a.s, a.e, x.f⟩, ws) := by
  rw [call_at (d := d_input_row) rfl rfl]
  simp! only [d_input_row, b_input_row]
/-! kinds that are rounded -/
inductive isRd : Kd → Prop
  | add : isRd .add
  | less : isRd .less
  | times : isRd .times
  | over : isRd .over
  | joined : isRd .joined
/-- by how much an operation of rounded values is off ahead of its rounding -/
def passK (k : Kd) (a b c : Rw) (s : Sn) : Option Rat := match k with
  | .add | .less => some (a.e + b.e)
  | .times => some (bigS a.s * b.e + (bigS b.s + b.e) * a.e)
  | .joined => some (bigS a.s * b.e + (bigS b.s + b.e) * a.e + c.e)
  | .over => if (smlS b.s - b.e).num ≤ 0 then none else some ((a.e + bigS s * b.e) / (smlS b.s - b.e))
  | _ => none
def OQ : Option Rat → D
  | none => .non
  | some q => F q
theorem Z_pass {k : Kd} {a b c : Rw} {s : Sn} {i j : Nat} {q : Rat} (ha : ZR i a) (hb : ZR i b) (hc : ZR i c) (hs : ZS j s) (hi : 1 ≤ i) (h : passK k a b c s = some q) : Z (7 * i + j + 10) q := by
  cases k <;> simp only [passK, Option.some.injEq, reduceCtorEq] at h
  · subst h
    exact (Z_add (Z_add (Z_mul (Z_big ha.s) hb.e) (Z_mul (Z_add (Z_big hb.s) hb.e) ha.e)) hc.e).mono (by omega)
  · subst h; exact (Z_add ha.e hb.e).mono (by omega)
  · subst h; exact (Z_add ha.e hb.e).mono (by omega)
  · subst h
    exact (Z_add (Z_mul (Z_big ha.s) hb.e) (Z_mul (Z_add (Z_big hb.s) hb.e) ha.e)).mono (by omega)
  · split at h
    · cases h
    · rename_i hn
      simp only [Option.some.injEq] at h
      subst h
      exact (Z_quo (Z_add ha.e (Z_mul (Z_big hs) hb.e)) (Z_sub (Z_sml hb.s hi) hb.e) (by omega)).mono (by omega)
theorem c_passed_error {k : Kd} (hk : isRd k) {a b c : Rw} {s : Sn} {i j : Nat} (ha : ZR i a) (hb : ZR i b) (hc : ZR i c) (hs : ZS j s) (hi : 1 ≤ i) (hi2 : i ≤ 500) (hj : j ≤ 1500) :
    callO P (n + 6) 51 [.str k.s, .lst ((pts k a b c).map RD), SD s] ws = some (OQ (passK k a b c s), ws) := by
  have o1 : okLen 1 = true := okLen_of (by decide)
  have o2 : okLen 2 = true := okLen_of (by decide)
  have o3 : okLen 3 = true := okLen_of (by decide)
  have a4 := ha.mono (show i ≤ 4000 by omega)
  have b4 := hb.mono (show i ≤ 4000 by omega)
  have c4 := hc.mono (show i ≤ 4000 by omega)
  have s4 := hs.mono (show j ≤ 4000 by omega)
  have e1 := c_added (n + 2) ws a4.e b4.e
  have m1 := c_most_size (n + 2) ws a4.s
  have m2 := c_most_size (n + 2) ws b4.s
  have m3 := c_most_size (n + 2) ws s4
  have t1 := c_times (n + 2) ws (Z_big a4.s) b4.e
  have z2 := Z_add (Z_big hb.s) hb.e
  have t2 := c_added (n + 2) ws (Z_big b4.s) b4.e
  have t3 := c_times (n + 2) ws (z2.mono (show _ ≤ 4000 by omega)) a4.e
  have z1 := Z_mul (Z_big ha.s) hb.e
  have z3 := Z_mul z2 ha.e
  have t4 := c_added (n + 2) ws (z1.mono (show _ ≤ 4000 by omega)) (z3.mono (show _ ≤ 4000 by omega))
  have t5 := c_added (n + 2) ws ((Z_add z1 z3).mono (show _ ≤ 4000 by omega)) c4.e
  have l1 := c_least_size n ws b4.s
  have l2 := c_taken (n + 1) ws (Z_sml b4.s (by decide)) b4.e
  have t6 := c_times (n + 2) ws (Z_big s4) b4.e
  have z6 := Z_mul (Z_big hs) hb.e
  have t7 := c_added (n + 2) ws a4.e (z6.mono (show _ ≤ 4000 by omega))
  have zl := Z_sub (Z_sml hb.s hi) hb.e
  rw [call_at (d := d_passed_error) rfl rfl]
  cases hk
  · simp! only [d_passed_error, b_passed_error, x_passed_error_0, pts, o2, Kd.s, e1, passK, OQ]
  · simp! only [d_passed_error, b_passed_error, x_passed_error_0, pts, o2, Kd.s, e1, passK, OQ]
  · simp! only [d_passed_error, b_passed_error, x_passed_error_0, pts, o2, Kd.s, m1, m2, t1, t2, t3, t4, passK, OQ]
  · by_cases h : (smlS b.s - b.e).num ≤ 0
    · simp! only [d_passed_error, b_passed_error, x_passed_error_0, pts, o2, Kd.s, l1, l2, decide_eq_true h, passK, if_pos h, OQ]
    · have t8 := c_quotient (n + 2) ws (p := a.e + bigS s * b.e) ((Z_add ha.e z6).mono (show _ ≤ 4000 by omega)) (zl.mono (show _ ≤ 4000 by omega)) (by omega)
      simp! only [d_passed_error, b_passed_error, x_passed_error_0, pts, o2, Kd.s, l1, l2, decide_eq_false h, m3, t6, t7, t8, passK, if_neg h, OQ]
  · simp! only [d_passed_error, b_passed_error, x_passed_error_0, pts, o3, Kd.s, m1, m2, t1, t2, t3, t4, t5, passK, OQ]
def mnI (i j : Int) : Int := if j < i then j else i
def mxI (i j : Int) : Int := if j > i then j else i
/-- the grid ahead of rounding -/
def rawK (k : Kd) (a b c : Rw) : Option Int := match k with
  | .add | .less => some (mnI a.g b.g)
  | .times => some (a.g + b.g)
  | .joined => some (mnI (a.g + b.g) c.g)
  | _ => none
def OI : Option Int → D
  | none => .non
  | some i => .int i
theorem raw_bd {k : Kd} {a b c : Rw} {i : Nat} {r : Int} (ha : ZR i a) (hb : ZR i b) (hc : ZR i c) (h : rawK k a b c = some r) : -2800 ≤ r ∧ r ≤ 2800 := by
  have := ha.g1; have := ha.g2; have := hb.g1; have := hb.g2; have := hc.g1; have := hc.g2
  cases k <;> simp only [rawK, Option.some.injEq, reduceCtorEq, mnI] at h <;> (subst h; first | omega | (split <;> omega))
theorem c_exact_grid {k : Kd} (hk : isRd k) (a b c : Rw) : callO P (n + 1) 53 [.str k.s, .lst ((pts k a b c).map RD)] ws = some (OI (rawK k a b c), ws) := by
  have o2 : okLen 2 = true := okLen_of (by decide)
  have o3 : okLen 3 = true := okLen_of (by decide)
  rw [call_at (d := d_exact_grid) rfl rfl]
  cases hk <;> simp! only [d_exact_grid, b_exact_grid, x_exact_grid_0, u_minL2, pts, o2, o3, Kd.s, rawK, OI, mnI]
/-- the grid behind rounding -/
def grdK (x : Fo) (k : Kd) (a b c : Rw) : Int := match rawK k a b c with
  | none => x.f
  | some r => mxI x.f r
theorem c_grid_of_step {k : Kd} (hk : isRd k) (x : Fo) (a b c : Rw) : callO P (n + 1) 52 [FO x, .str k.s, .lst ((pts k a b c).map RD)] ws = some (.int (grdK x k a b c), ws) := by
  have o2 : okLen 2 = true := okLen_of (by decide)
  have o3 : okLen 3 = true := okLen_of (by decide)
  rw [call_at (d := d_grid_of_step) rfl rfl]
  cases hk <;> simp! only [d_grid_of_step, b_grid_of_step, x_grid_of_step_0, u_minL2, pts, o2, o3, Kd.s, grdK, rawK, mnI, mxI]
/-- whether two spans are near -/
def nearS (a b : Sn) : Bool := if has0 a = true ∨ has0 b = true ∨ decide (0 < a.l.num) ≠ decide (0 < b.l.num) then false else decide (bigS a ≤ 2 * smlS b) && decide (bigS b ≤ 2 * smlS a)
theorem F_two : D.tup [.int 2, .int 1] = F 2 := rfl
theorem Z_two : Z 2 2 := ⟨by decide, by decide⟩
theorem c_is_near {a b : Sn} {i j : Nat} (ha : ZS i a) (hb : ZS j b) (hi : i ≤ 3900) (hj : j ≤ 3900) : callO P (n + 6) 54 [SD a, SD b] ws = some (.bl (nearS a b), ws) := by
  have a4 := ha.mono (show i ≤ 4000 by omega)
  have b4 := hb.mono (show j ≤ 4000 by omega)
  have e1 := c_most_size (n + 2) ws a4
  have e2 := c_most_size (n + 2) ws b4
  have e3 := c_least_size n ws a4
  have e4 := c_least_size n ws b4
  have e5 := c_times (n + 2) ws (Z_two.mono (by decide)) (Z_sml a4 (by decide))
  have e6 := c_times (n + 2) ws (Z_two.mono (by decide)) (Z_sml b4 (by decide))
  have z5 := Z_mul Z_two (Z_sml (ha.mono hi) (by decide))
  have z6 := Z_mul Z_two (Z_sml (hb.mono hj) (by decide))
  have e7 := c_is_most (n + 4) ws (Z_big a4) (z6.mono (by decide))
  have e8 := c_is_most (n + 4) ws (Z_big b4) (z5.mono (by decide))
  have h0 : ∀ s : Sn, has0 s = (decide (s.l.num ≤ 0) && decide (0 ≤ s.h.num)) := fun _ => rfl
  rw [call_at (d := d_is_near) rfl rfl]
  -- the tests by their parts
  have c1 : ∀ s : Sn, (has0 s = true ∧ s.l.num ≤ 0 ∧ 0 ≤ s.h.num) ∨ (has0 s = false ∧ s.l.num ≤ 0 ∧ ¬ 0 ≤ s.h.num) ∨ (has0 s = false ∧ ¬ s.l.num ≤ 0) := fun s => by
    rw [h0]
    by_cases p : s.l.num ≤ 0 <;> by_cases q : 0 ≤ s.h.num <;> simp [p, q]
  rcases c1 a with ⟨p1, p2, p3⟩ | ⟨p1, p2, p3⟩ | ⟨p1, p2⟩
  · simp! only [d_is_near, b_is_near, decide_eq_true p2, decide_eq_true p3, nearS, p1, true_or]
  all_goals rcases c1 b with ⟨q1, q2, q3⟩ | ⟨q1, q2, q3⟩ | ⟨q1, q2⟩
  · simp! only [d_is_near, b_is_near, decide_eq_true p2, decide_eq_false p3, decide_eq_true q2, decide_eq_true q3, nearS, q1, true_or, or_true]
  · have r1 : ¬ 0 < a.l.num := by omega
    have r2 : ¬ 0 < b.l.num := by omega
    by_cases s1 : bigS a ≤ 2 * smlS b <;> simp! only [d_is_near, b_is_near, decide_eq_true p2, decide_eq_false p3, decide_eq_true q2, decide_eq_false q3, decide_eq_false r1, decide_eq_false r2, beq_self_eq_true, e1, e2, e3, e4, F_two, e5, e6, e7, e8, nearS, p1, q1, ne_eq, not_true, or_false, s1]
  · have r1 : ¬ 0 < a.l.num := by omega
    have r2 : 0 < b.l.num := by omega
    simp! only [d_is_near, b_is_near, decide_eq_true p2, decide_eq_false p3, decide_eq_false q2, decide_eq_false r1, decide_eq_true r2, show (false == true) = false from rfl, nearS, ne_eq, not_false_iff, or_true, Bool.not_eq_true, reduceCtorEq]
  · simp! only [d_is_near, b_is_near, decide_eq_false p2, decide_eq_true q2, decide_eq_true q3, nearS, q1, true_or, or_true]
  · have r1 : 0 < a.l.num := by omega
    have r2 : ¬ 0 < b.l.num := by omega
    simp! only [d_is_near, b_is_near, decide_eq_false p2, decide_eq_true q2, decide_eq_false q3, decide_eq_true r1, decide_eq_false r2, show (true == false) = false from rfl, nearS, ne_eq, not_false_iff, or_true, Bool.not_eq_true, reduceCtorEq]
  · have r1 : 0 < a.l.num := by omega
    have r2 : 0 < b.l.num := by omega
    by_cases s1 : bigS a ≤ 2 * smlS b <;> simp! only [d_is_near, b_is_near, decide_eq_false p2, decide_eq_false q2, decide_eq_true r1, decide_eq_true r2, beq_self_eq_true, e1, e2, e3, e4, F_two, e5, e6, e7, e8, nearS, p1, q1, ne_eq, not_true, or_false, s1]
/-- whether an operation is never rounded -/
def onGrid (x : Fo) (k : Kd) (a b c : Rw) (q : Rat) : Bool := match rawK k a b c with
  | none => false
  | some r => decide (x.f ≤ r) && decide (q ≤ pw (x.d + r))
def keepK (x : Fo) (k : Kd) (a b c : Rw) (q : Rat) : Bool := if onGrid x k a b c q = true then true else match k with
  | .less => nearS (wideR a) (wideR b)
  | .add => nearS (wideR a) (negS (wideR b))
  | _ => false
theorem c_is_without_loss {k : Kd} (hk : isRd k) {x : Fo} (hx : OkFo x) {a b c : Rw} {i : Nat} (ha : ZR i a) (hb : ZR i b) (hc : ZR i c) (hi : i ≤ 1900) {q : Rat} (hq : Z 4000 q) :
    callO P (n + 7) 55 [FO x, .str k.s, .lst ((pts k a b c).map RD), F q] ws = some (.bl (keepK x k a b c q), ws) := by
  have a4 := ha.mono (show i ≤ 4000 by omega)
  have b4 := hb.mono (show i ≤ 4000 by omega)
  have w1 := c_rounded_span n ws a4
  have w2 := c_rounded_span n ws b4
  have z1 := (ZS_wide ha).mono (show i + i + 1 ≤ 3900 by omega)
  have z2 := (ZS_wide hb).mono (show i + i + 1 ≤ 3900 by omega)
  have n1 := c_is_near n ws z1 z2 (by decide) (by decide)
  have n2 := c_is_near n ws z1 (ZS_neg z2) (by decide) (by decide)
  have n3 := c_negated_span (n + 4) ws (a := wideR b)
  have g1 := c_exact_grid (n + 5) ws hk a b c
  have d1 := hx.d1
  have d2 := hx.d2
  rw [call_at (d := d_is_without_loss) rfl rfl]
  cases hr : rawK k a b c with
  | none =>
    rw [hr] at g1
    have ho : onGrid x k a b c q = false := by unfold onGrid; rw [hr]
    cases hk
    all_goals simp only [rawK, reduceCtorEq] at hr
    simp! only [d_is_without_loss, b_is_without_loss, g1, OI, Kd.s, keepK, ho]
  | some r =>
    rw [hr] at g1
    have rb := raw_bd ha hb hc hr
    have p1 := c_two_to (n + 5) ws (e := x.d + r) (by omega) (by omega)
    have zp := (Z_pw (e := x.d + r) (m := 2960) (by omega) (by omega)).mono (show _ ≤ 4000 by decide)
    have p2 := c_is_most (n + 5) ws hq zp
    have ho : onGrid x k a b c q = (decide (x.f ≤ r) && decide (q ≤ pw (x.d + r))) := by unfold onGrid; rw [hr]
    by_cases h1 : x.f ≤ r
    · by_cases h2 : q ≤ pw (x.d + r)
      · have ho : onGrid x k a b c q = true := by rw [ho, decide_eq_true h1, decide_eq_true h2]; rfl
        cases hk <;> simp! only [d_is_without_loss, b_is_without_loss, g1, OI, decide_eq_true h1, p1, p2, decide_eq_true h2, keepK, ho]
      · have ho : onGrid x k a b c q = false := by rw [ho, decide_eq_true h1, decide_eq_false h2]; rfl
        cases hk <;> (simp only [pts, List.map, Kd.s] at g1; simp! only [d_is_without_loss, b_is_without_loss, g1, OI, decide_eq_true h1, p1, p2, decide_eq_false h2, keepK, ho, Kd.s, pts, w1, w2, n1, n2, n3])
    · have ho : onGrid x k a b c q = false := by rw [ho, decide_eq_false h1]; rfl
      cases hk <;> (simp only [pts, List.map, Kd.s] at g1; simp! only [d_is_without_loss, b_is_without_loss, g1, OI, decide_eq_false h1, keepK, ho, Kd.s, pts, w1, w2, n1, n2, n3])
/-- the row of an operation -/
noncomputable def opRow (x : Fo) (y : Nat) (k : Kd) (a b c : Rw) : Option Rw := match spanK k a.s b.s c.s with
  | none => none
  | some s => match k with
    | .negate | .size => some ⟨s, a.e, a.g⟩
    | .least | .most => some ⟨s, mx a.e b.e, mnI a.g b.g⟩
    | _ => match passK k a b c s with
      | none => none
      | some p => if bigS s + p ≤ top x then some ⟨s, p + (if keepK x k a b c (bigS s + p) = true then 0 else ebd x y (bigS s + p)), grdK x k a b c⟩ else none
def OR : Option Rw → D
  | none => .non
  | some r => RD r
theorem ZS_span {k : Kd} {a b c s : Sn} {i : Nat} (ha : ZS i a) (hb : ZS i b) (hc : ZS i c) (hi : 1 ≤ i) (o : b.l ≤ b.h) (h : spanK k a b c = some s) : ZS (3 * i + 1) s := by
  cases k <;> simp only [spanK, Option.some.injEq] at h
  · subst h; exact (ZS_neg ha).mono (by omega)
  · subst h; exact (ZS_siz ha hi).mono (by omega)
  · subst h; exact (ZS_add (ZS_mul ha hb) hc).mono (by omega)
  · subst h; exact (ZS_add ha hb).mono (by omega)
  · subst h; exact (ZS_add ha (ZS_neg hb)).mono (by omega)
  · subst h; exact (ZS_mul ha hb).mono (by omega)
  · unfold ovrS at h
    split at h
    · cases h
    · rename_i h0
      cases h
      exact (ZS_quo ha hb (num_ne (by simpa using h0) o)).mono (by omega)
  · subst h; exact (ZS_lea ha hb).mono (by omega)
  · subst h; exact (ZS_mos ha hb).mono (by omega)
theorem pts_map {α β : Type} (f : α → β) (k : Kd) (a b c : α) : (pts k a b c).map f = pts k (f a) (f b) (f c) := by cases k <;> rfl
theorem c_operation_row (k : Kd) {x : Fo} (hx : OkFo x) {y : Nat} (hy : isWay y) {a b c : Rw} {i : Nat} (ha : ZR i a) (hb : ZR i b) (hc : ZR i c) (hi : 1 ≤ i) (hi2 : i ≤ 100) :
    callO P (n + 8) 56 [FO x, .str y, .str k.s, .lst ((pts k a b c).map RD)] ws = some (OR (opRow x y k a b c), ws) := by
  have o1 : okLen 1 = true := okLen_of (by decide)
  have o2 : okLen 2 = true := okLen_of (by decide)
  have o3 : okLen 3 = true := okLen_of (by decide)
  have a4 := ha.mono (show i ≤ 4000 by omega)
  have b4 := hb.mono (show i ≤ 4000 by omega)
  have e1 := c_span_of_step (n + 1) ws k ha.s hb.s hc.s (by omega) hb.o
  have e1' : ∀ ds, ds = (pts k a.s b.s c.s).map SD → callO P (n + 7) 44 [.str k.s, .lst ds] ws = some (OD (spanK k a.s b.s c.s), ws) := fun ds h => by rw [h]; exact e1
  have e2 := c_greater (n + 5) ws a4.e b4.e
  rw [call_at (d := d_operation_row) rfl rfl]
  cases hs : spanK k a.s b.s c.s with
  | none =>
    rw [hs] at e1
    cases k
    all_goals simp only [spanK, reduceCtorEq] at hs
    simp only [pts, List.map, Kd.s] at e1
    simp! only [d_operation_row, b_operation_row, x_operation_row_0, pts, o2, Kd.s, e1, OD, opRow, spanK, hs, OR]
  | some s =>
    rw [hs] at e1
    have zs := ZS_span ha.s hb.s hc.s hi hb.o hs
    have zs4 := zs.mono (show _ ≤ 4000 by omega)
    have m1 := c_most_size (n + 4) ws zs4
    by_cases hk : isRd k
    · have g1 := c_passed_error (n + 1) ws hk ha hb hc zs hi (by omega) (by omega)
      have g4 := c_grid_of_step (n + 6) ws hk x a b c
      have fin_ : ∀ p, passK k a b c s = some p → callO P (n + 7) 26 [FO x, F (bigS s + p)] ws = some (.bl (decide (bigS s + p ≤ top x)), ws) ∧ callO P (n + 7) 55 [FO x, .str k.s, .lst ((pts k a b c).map RD), F (bigS s + p)] ws = some (.bl (keepK x k a b c (bigS s + p)), ws) ∧
          callO P (n + 7) 25 [FO x, .str y, F (bigS s + p)] ws = some (F (ebd x y (bigS s + p)), ws) ∧ callO P (n + 7) 3 [F (bigS s), F p] ws = some (F (bigS s + p), ws) ∧ callO P (n + 7) 3 [F p, F 0] ws = some (F (p + 0), ws) ∧ callO P (n + 7) 3 [F p, F (ebd x y (bigS s + p))] ws = some (F (p + ebd x y (bigS s + p)), ws) := by
        intro p hp
        have zp := Z_pass ha hb hc zs hi hp
        have zr := Z_add (Z_big zs) zp
        refine ⟨c_is_in_reach (n + 1) ws hx (zr.mono (by omega)), c_is_without_loss n ws hk hx ha hb hc (by omega) (zr.mono (by omega)), c_error_bound (n + 2) ws hx hy (zr.mono (show _ ≤ 1900 by omega)) (by decide), c_added (n + 4) ws (Z_big zs4) (zp.mono (by omega)), c_added (n + 4) ws (zp.mono (by omega)) (Z_0 (by decide)), c_added (n + 4) ws (zp.mono (by omega)) ((Z_ebd hx zr y).mono (by omega))⟩
      cases hp : passK k a b c s with
      | none =>
        rw [hp] at g1
        cases hk
        all_goals simp only [passK, reduceCtorEq] at hp
        simp only [pts, List.map, Kd.s, OD] at e1
        simp only [pts, List.map, Kd.s] at g1
        simp! only [d_operation_row, b_operation_row, x_operation_row_0, pts, o2, Kd.s, e1, g1, OD, OQ, opRow, hs, passK, hp, OR]
      | some p =>
        rw [hp] at g1
        obtain ⟨f1, f2, f3, f4, f5, f6⟩ := fin_ p hp
        have ho : opRow x y k a b c = if bigS s + p ≤ top x then some ⟨s, p + (if keepK x k a b c (bigS s + p) = true then 0 else ebd x y (bigS s + p)), grdK x k a b c⟩ else none := by
          cases hk <;> simp only [opRow, hs, hp]
        rw [ho]
        by_cases h1 : bigS s + p ≤ top x
        · rw [decide_eq_true h1] at f1
          rw [if_pos h1]
          cases h2 : keepK x k a b c (bigS s + p) with
          | true =>
            rw [h2] at f2
            cases hk <;> (simp only [pts, List.map, Kd.s, OD] at e1; simp only [pts, List.map, Kd.s] at g1 g4 f2; simp! only [d_operation_row, b_operation_row, x_operation_row_0, pts, o2, o3, Kd.s, e1, g1, OD, OQ, m1, f4, f1, f2, F_0', f5, g4, OR])
          | false =>
            rw [h2] at f2
            cases hk <;> (simp only [pts, List.map, Kd.s, OD] at e1; simp only [pts, List.map, Kd.s] at g1 g4 f2; simp! only [d_operation_row, b_operation_row, x_operation_row_0, pts, o2, o3, Kd.s, e1, g1, OD, OQ, m1, f4, f1, f2, f3, f6, g4, OR])
        · rw [decide_eq_false h1] at f1
          rw [if_neg h1]
          cases hk <;> (simp only [pts, List.map, Kd.s, OD] at e1; simp only [pts, List.map, Kd.s] at g1; simp! only [d_operation_row, b_operation_row, x_operation_row_0, pts, o2, o3, Kd.s, e1, g1, OD, OQ, m1, f4, f1, OR])
    · cases k
      case negate => simp only [pts, List.map, Kd.s, OD] at e1; simp! only [d_operation_row, b_operation_row, x_operation_row_0, pts, o1, Kd.s, e1, OD, opRow, hs, OR]
      case size => simp only [pts, List.map, Kd.s, OD] at e1; simp! only [d_operation_row, b_operation_row, x_operation_row_0, pts, o1, Kd.s, e1, OD, opRow, hs, OR]
      case least => simp only [pts, List.map, Kd.s, OD] at e1; simp! only [d_operation_row, b_operation_row, x_operation_row_0, pts, o2, Kd.s, e1, e2, OD, opRow, hs, OR, mnI]
      case most => simp only [pts, List.map, Kd.s, OD] at e1; simp! only [d_operation_row, b_operation_row, x_operation_row_0, pts, o2, Kd.s, e1, e2, OD, opRow, hs, OR, mnI]
      case joined => exact absurd .joined hk
      case add => exact absurd .add hk
      case less => exact absurd .less hk
      case times => exact absurd .times hk
      case over => exact absurd .over hk
end Pv.K33


set_option Elab.async false
set_option linter.all false
set_option maxRecDepth 100000
set_option exponentiation.threshold 20
/-! L8: choices, numbers, what follows. -/
namespace Pv.K33
open Pv
local macro_rules
  | `(tactic| simp! only [$xs,*]) => `(tactic| simp only [ev.eq_1, ev.eq_2, ev.eq_3, ev.eq_4, ev.eq_5, ev.eq_6, ev.eq_7, ev.eq_8, ev.eq_9, ev.eq_10, ev.eq_11, ev.eq_12, ev.eq_13, ev.eq_14, ev.eq_15, ev.eq_16, ev.eq_17, ev.eq_18, ev.eq_19, ev.eq_20, ev.eq_21, ev.eq_22, ev.eq_23, ev.eq_24, ev.eq_25, ev.eq_26, ev.eq_27, ev.eq_28, ev.eq_29, ev.eq_30, ev.eq_35, evs, evT, exec.eq_1, exec.eq_2, exec.eq_3, exec.eq_4, exec.eq_5, exec.eq_6, exec.eq_7, exec.eq_8, exec.eq_9, exec.eq_10, exec.eq_11, exec.eq_12, exec.eq_13, exec.eq_14, exec.eq_15, exec.eq_16, exec.eq_19, exec.eq_20, exec.eq_21, exec.eq_22, exec.eq_23, execs, x_whl, x_for, x_comp, x_compIf, x_comp2, x_comp2If, bor, vi, mkEnv, eg, es, frzA, frzS, bn, bt, bq, bind_F, setAll, setAllT, bind1, setPar, wipeE, tgs, b_add, b_sub, b_mul, b_fdiv, b_mod, b_shl, b_shr, b_pow, b_tup, b_lst, o_lt, o_le, o_gt, o_ge, o_eqi, o_nei, o_neb, sl_a, sl_b, sl_bl, sl_c, cmp_nil, cmp_cons, cmpY_nil, cmpY_cons, ixW_3, ixL_0, ixL_1, ixL_2, ixL_3, btl, o_isb, o_eqs, o_nes, o_int, o_nit, isF_s, isF_i, deq_ss, deq_ii, List.all_cons, List.all_nil, List.any_cons, List.any_nil, Nat.reduceEqDiff, Int.reduceEq, u_len1, u_len2, u_len3, u_abs, u_int, u_intb, u_lst1, u_lst2, u_lst3, u_tup, u_max, u_min, s_int, s_bl, s_tup, s_lst, s_non, s_str, a_add, a_sub, i_tup, i_lst, r_bl, r_int, fin, chk_own, chk_some, isN, bnd, iN_non, iN_int, iN_bl, iN_str, iN_tup, iN_lst, iN_F, ixW_0, ixW_1, ixW_2, F_0, F_1, ixW_w, wg_1, wg_0, wp_0, List.map, List.length, List.replicate, List.cons_append, List.nil_append, List.append_nil, Nat.reduceSub, Nat.reduceAdd, Nat.sub_self, Nat.sub_zero, if_true, Bool.false_eq_true, if_false, reduceIte, ite_true, ite_false, Bool.and_self, Bool.and_true, Bool.true_and, Bool.not_true, Bool.not_false, Nat.reduceLT, Nat.reduceLeDiff, decide_true, decide_false, Int.reduceLT, Int.reduceLE, Int.reduceAdd, Int.reduceSub, Int.reduceNeg, Bool.or_true, Bool.or_false, Bool.true_or, Bool.false_or, Bool.and_false, Bool.false_and, $xs,*])
  | `(tactic| simp! only) => `(tactic| simp only [ev.eq_1, ev.eq_2, ev.eq_3, ev.eq_4, ev.eq_5, ev.eq_6, ev.eq_7, ev.eq_8, ev.eq_9, ev.eq_10, ev.eq_11, ev.eq_12, ev.eq_13, ev.eq_14, ev.eq_15, ev.eq_16, ev.eq_17, ev.eq_18, ev.eq_19, ev.eq_20, ev.eq_21, ev.eq_22, ev.eq_23, ev.eq_24, ev.eq_25, ev.eq_26, ev.eq_27, ev.eq_28, ev.eq_29, ev.eq_30, ev.eq_35, evs, evT, exec.eq_1, exec.eq_2, exec.eq_3, exec.eq_4, exec.eq_5, exec.eq_6, exec.eq_7, exec.eq_8, exec.eq_9, exec.eq_10, exec.eq_11, exec.eq_12, exec.eq_13, exec.eq_14, exec.eq_15, exec.eq_16, exec.eq_19, exec.eq_20, exec.eq_21, exec.eq_22, exec.eq_23, execs, x_whl, x_for, x_comp, x_compIf, x_comp2, x_comp2If, bor, vi, mkEnv, eg, es, frzA, frzS, bn, bt, bq, bind_F, setAll, setAllT, bind1, setPar, wipeE, tgs, b_add, b_sub, b_mul, b_fdiv, b_mod, b_shl, b_shr, b_pow, b_tup, b_lst, o_lt, o_le, o_gt, o_ge, o_eqi, o_nei, o_neb, sl_a, sl_b, sl_bl, sl_c, cmp_nil, cmp_cons, cmpY_nil, cmpY_cons, ixW_3, ixL_0, ixL_1, ixL_2, ixL_3, btl, o_isb, o_eqs, o_nes, o_int, o_nit, isF_s, isF_i, deq_ss, deq_ii, List.all_cons, List.all_nil, List.any_cons, List.any_nil, Nat.reduceEqDiff, Int.reduceEq, u_len1, u_len2, u_len3, u_abs, u_int, u_intb, u_lst1, u_lst2, u_lst3, u_tup, u_max, u_min, s_int, s_bl, s_tup, s_lst, s_non, s_str, a_add, a_sub, i_tup, i_lst, r_bl, r_int, fin, chk_own, chk_some, isN, bnd, iN_non, iN_int, iN_bl, iN_str, iN_tup, iN_lst, iN_F, ixW_0, ixW_1, ixW_2, F_0, F_1, ixW_w, wg_1, wg_0, wp_0, List.map, List.length, List.replicate, List.cons_append, List.nil_append, List.append_nil, Nat.reduceSub, Nat.reduceAdd, Nat.sub_self, Nat.sub_zero, if_true, Bool.false_eq_true, if_false, reduceIte, ite_true, ite_false, Bool.and_self, Bool.and_true, Bool.true_and, Bool.not_true, Bool.not_false, Nat.reduceLT, Nat.reduceLeDiff, decide_true, decide_false, Int.reduceLT, Int.reduceLE, Int.reduceAdd, Int.reduceSub, Int.reduceNeg, Bool.or_true, Bool.or_false, Bool.true_or, Bool.false_or, Bool.and_false, Bool.false_and])
variable (n : Nat) (ws : WS)
/-! numbers -/
inductive Nm where
  | o (s : Int)
  | n (s w p : Int)
  | e (s : Int)
def ND : Nm → D
  | .o s => nO s
  | .n s w p => nN s w p
  | .e s => nE s
def bydM (x : Fo) (y : Nat) (s : Int) : Nm := if y = 9 ∨ y = 5 ∨ (y = 3 ∧ s = 0) ∨ (y = 4 ∧ s = 1) then .e s else .n s (fullW x) x.g
theorem byd_nm (x : Fo) (y : Nat) (s : Int) : byd x y s = ND (bydM x y s) := by unfold byd bydM; split <;> rfl
noncomputable def rdNm (x : Fo) (y : Nat) (q : Rat) (s : Int) : Nm :=
  if q.num = 0 then .o s else
  if rdV x y q = 2 ^ x.d.toNat then (if x.g < un x q + 1 then bydM x y (sg q) else if rdV x y q / 2 = 0 then .o (sg q) else .n (sg q) (rdV x y q / 2) (un x q + 1)) else
  if x.g < un x q then bydM x y (sg q) else if rdV x y q = 0 then .o (sg q) else .n (sg q) (rdV x y q) (un x q)
theorem rdN_nm (x : Fo) (y : Nat) (q : Rat) (s : Int) : rdN x y q s = ND (rdNm x y q s) := by
  unfold rdN rdNm
  split
  · rfl
  split
  · split
    · exact byd_nm _ _ _
    · split <;> rfl
  · split
    · exact byd_nm _ _ _
    · split <;> rfl
/-- a number of a format -/
def okNm (x : Fo) : Nm → Prop
  | .o _ => True
  | .n _ w p => 0 < w ∧ w ≤ fullW x ∧ x.f ≤ p ∧ p ≤ x.g
  | .e _ => True
/-! what is rounded -/
theorem num_neg (q : Rat) : q.num < 0 ↔ q < 0 := by
  have := Rat.num_nonneg (q := q)
  constructor
  · intro h
    rw [← Rat.not_le]
    exact fun z => by have := this.mpr z; omega
  · intro h
    have : ¬ 0 ≤ q.num := fun z => by have := this.mp z; grind
    omega
theorem num_z (q : Rat) : q.num = 0 ↔ q = 0 := Rat.num_eq_zero
theorem ab_def (q : Rat) : ab q = if q < 0 then -q else q := by
  unfold ab
  by_cases h : q < 0
  · rw [if_pos h, if_pos ((num_neg q).mpr h)]
  · rw [if_neg h, if_neg fun z => h ((num_neg q).mp z)]
theorem ab_nn (q : Rat) : 0 ≤ ab q := by rw [ab_def]; split <;> grind
theorem ab_of {q : Rat} (h : 0 ≤ q) : ab q = q := by rw [ab_def, if_neg (by grind)]
theorem sca (q : Rat) (p : Int) : ab (q * pw p) = ab q * pw p := by
  have hp := pw_pos p
  rw [ab_def, ab_def]
  by_cases h : q < 0
  · have : q * pw p < 0 := by
      have := Rat.mul_pos (show 0 < -q by grind) hp
      grind
    rw [if_pos h, if_pos this, Rat.neg_mul]
  · have : 0 ≤ q * pw p := Rat.mul_nonneg (by grind) (Rat.le_of_lt hp)
    rw [if_neg h, if_neg (by grind)]
theorem rI_c (w : Int) : rI w = (w : Rat) := by
  unfold rI
  have := Rat.num_divInt_den (w : Rat)
  rw [Rat.num_intCast, Rat.den_intCast] at this
  exact this
theorem mul_den (q : Rat) : q * (((q.den : Int)) : Rat) = ((q.num : Int) : Rat) := by
  have e := Rat.num_divInt_den q
  have h : (q.den : Int) ≠ 0 := by have := den_pos q; omega
  have h2 := Rat.divInt_mul_divInt q.num q.den (d₁ := q.den) (d₂ := 1)
  rw [e, ← rI, rI_c, Int.mul_one] at h2
  rw [h2, ← rI_c, rI]
  have h3 := Rat.divInt_mul_right (n := q.num) (d := 1) (a := (q.den : Int)) h
  rw [Int.one_mul] at h3
  exact h3
theorem pw_nat (d : Int) (h : 0 ≤ d) : pw d = ((2 ^ d.toNat : Int) : Rat) := by
  unfold pw
  rw [if_pos h]
  exact rI_c _
theorem pw_nc (p : Int) : pw p * pw (-p) = 1 := pw_inv p
theorem pw_cn (p : Int) : pw (-p) * pw p = 1 := by rw [Rat.mul_comm]; exact pw_inv p
theorem mul_lt_iff {a b : Rat} (p : Int) : a * pw p < b * pw p ↔ a < b := ⟨fun h => Rat.lt_of_mul_lt_mul_right h (Rat.le_of_lt (pw_pos p)), fun h => Rat.mul_lt_mul_of_pos_right h (pw_pos p)⟩
theorem mul_le_iff {a b : Rat} (p : Int) : a * pw p ≤ b * pw p ↔ a ≤ b := by
  rw [← Rat.not_lt, mul_lt_iff, Rat.not_lt]
section
variable {x : Fo} {q : Rat}
theorem un_hi (h0 : q.num ≠ 0) : ab q < pw (x.d + un x q) ∧ (un x q = x.f ∨ pw (x.d + un x q - 1) ≤ ab q) ∧ x.f ≤ un x q := by
  have hz : ∃ b, Z b q := ⟨max q.num.natAbs q.den, Nat.lt_of_le_of_lt (Nat.le_max_left _ _) Nat.lt_two_pow_self, Nat.lt_of_le_of_lt (Nat.le_max_right _ _) Nat.lt_two_pow_self⟩
  obtain ⟨b, hb⟩ := hz
  obtain ⟨e, _, _⟩ := ex_bd hb h0
  have u : un x q = if ex q - x.d + 1 > x.f then ex q - x.d + 1 else x.f := by unfold un; rw [if_neg h0]
  refine ⟨?_, ?_, ?_⟩
  · have := pw_mono (show ex q + 1 ≤ x.d + un x q by rw [u]; split <;> omega)
    have := e.2
    grind
  · by_cases c : ex q - x.d + 1 > x.f
    · right
      rw [u, if_pos c, show x.d + (ex q - x.d + 1) - 1 = ex q by omega]
      exact e.1
    · left
      rw [u, if_neg c]
  · rw [u]; split <;> omega
theorem rdX_eq : rdX x q = ab q * pw (-un x q) := sca _ _
theorem rdX_mul : rdX x q * pw (un x q) = ab q := by
  rw [rdX_eq, Rat.mul_assoc, pw_cn, Rat.mul_one]
theorem rdX_nn : 0 ≤ rdX x q := ab_nn _
theorem rdW_fl : rdW x q = (rdX x q).floor := (Rat.floor_def _).symm
theorem rdW_le : ((rdW x q : Int) : Rat) ≤ rdX x q := by rw [rdW_fl]; exact Rat.floor_le _
theorem lt_rdW : rdX x q < ((rdW x q : Int) : Rat) + 1 := by
  have := Rat.lt_floor_add_one (rdX x q)
  rw [← rdW_fl, Rat.intCast_add] at this
  exact this
theorem rdW_nn : 0 ≤ rdW x q := by
  rw [rdW_fl, Rat.le_floor_iff]
  exact rdX_nn
theorem rdR_eq : (rdR x q : Rat) = (rdX x q - (rdW x q : Int)) * (((rdX x q).den : Int) : Rat) := by
  have e : rdR x q = (rdX x q).num - (rdW x q) * ((rdX x q).den : Int) := by
    unfold rdR rdW
    rw [Int.emod_def, Int.mul_comm]
  have h : (((rdX x q).num : Int) : Rat) = rdX x q * (((rdX x q).den : Int) : Rat) := by
    exact (mul_den _).symm
  rw [e, Rat.intCast_sub, Rat.intCast_mul, h]
  grind
theorem den_p (q : Rat) : (0 : Rat) < ((q.den : Int) : Rat) := by
  have := Rat.intCast_lt_intCast.mpr (den_pos q)
  simpa using this
theorem rdR_z : rdR x q = 0 ↔ rdX x q = (rdW x q : Int) := by
  have h1 := rdR_eq (x := x) (q := q)
  have h2 := den_p (rdX x q)
  constructor
  · intro h
    rw [h] at h1
    have h1 : (0 : Rat) = (rdX x q - (rdW x q : Int)) * (((rdX x q).den : Int) : Rat) := h1
    have := (Rat.mul_eq_zero (a := rdX x q - (rdW x q : Int)) (b := (((rdX x q).den : Int) : Rat))).mp h1.symm
    grind
  · intro h
    rw [h] at h1
    have : ((rdR x q : Int) : Rat) = ((0 : Int) : Rat) := by
      rw [h1]
      have : (0 : Rat) = ((0 : Int) : Rat) := rfl
      grind
    exact Rat.intCast_inj.mp this
theorem rdR_c (c : Int) : (((c : Int) : Rat) * ((rdX x q).den : Int) < 2 * (rdR x q : Int) ↔ (c : Rat) < 2 * (rdX x q - (rdW x q : Int))) := by
  have h2 := den_p (rdX x q)
  rw [rdR_eq]
  constructor
  · intro h
    refine Rat.lt_of_mul_lt_mul_right (c := (((rdX x q).den : Int) : Rat)) ?_ (Rat.le_of_lt h2)
    grind
  · intro h
    have := Rat.mul_lt_mul_of_pos_right h h2
    grind
end
end Pv.K33


set_option Elab.async false
set_option linter.all false
set_option maxRecDepth 100000
set_option exponentiation.threshold 20
/-! L9: grids of numbers, choices, what follows for the next step. -/
namespace Pv.K33
open Pv
local macro_rules
  | `(tactic| simp! only [$xs,*]) => `(tactic| simp only [ev.eq_1, ev.eq_2, ev.eq_3, ev.eq_4, ev.eq_5, ev.eq_6, ev.eq_7, ev.eq_8, ev.eq_9, ev.eq_10, ev.eq_11, ev.eq_12, ev.eq_13, ev.eq_14, ev.eq_15, ev.eq_16, ev.eq_17, ev.eq_18, ev.eq_19, ev.eq_20, ev.eq_21, ev.eq_22, ev.eq_23, ev.eq_24, ev.eq_25, ev.eq_26, ev.eq_27, ev.eq_28, ev.eq_29, ev.eq_30, ev.eq_35, evs, evT, exec.eq_1, exec.eq_2, exec.eq_3, exec.eq_4, exec.eq_5, exec.eq_6, exec.eq_7, exec.eq_8, exec.eq_9, exec.eq_10, exec.eq_11, exec.eq_12, exec.eq_13, exec.eq_14, exec.eq_15, exec.eq_16, exec.eq_19, exec.eq_20, exec.eq_21, exec.eq_22, exec.eq_23, execs, x_whl, x_for, x_comp, x_compIf, x_comp2, x_comp2If, bor, vi, mkEnv, eg, es, frzA, frzS, bn, bt, bq, bind_F, setAll, setAllT, bind1, setPar, wipeE, tgs, b_add, b_sub, b_mul, b_fdiv, b_mod, b_shl, b_shr, b_pow, b_tup, b_lst, o_lt, o_le, o_gt, o_ge, o_eqi, o_nei, o_neb, sl_a, sl_b, sl_bl, sl_c, cmp_nil, cmp_cons, cmpY_nil, cmpY_cons, ixW_3, ixL_0, ixL_1, ixL_2, ixL_3, btl, o_isb, o_eqs, o_nes, o_int, o_nit, isF_s, isF_i, deq_ss, deq_ii, List.all_cons, List.all_nil, List.any_cons, List.any_nil, Nat.reduceEqDiff, Int.reduceEq, u_len1, u_len2, u_len3, u_abs, u_int, u_intb, u_lst1, u_lst2, u_lst3, u_tup, u_max, u_min, s_int, s_bl, s_tup, s_lst, s_non, s_str, a_add, a_sub, i_tup, i_lst, r_bl, r_int, fin, chk_own, chk_some, isN, bnd, iN_non, iN_int, iN_bl, iN_str, iN_tup, iN_lst, iN_F, ixW_0, ixW_1, ixW_2, F_0, F_1, ixW_w, wg_1, wg_0, wp_0, List.map, List.length, List.replicate, List.cons_append, List.nil_append, List.append_nil, Nat.reduceSub, Nat.reduceAdd, Nat.sub_self, Nat.sub_zero, if_true, Bool.false_eq_true, if_false, reduceIte, ite_true, ite_false, Bool.and_self, Bool.and_true, Bool.true_and, Bool.not_true, Bool.not_false, Nat.reduceLT, Nat.reduceLeDiff, decide_true, decide_false, Int.reduceLT, Int.reduceLE, Int.reduceAdd, Int.reduceSub, Int.reduceNeg, Bool.or_true, Bool.or_false, Bool.true_or, Bool.false_or, Bool.and_false, Bool.false_and, $xs,*])
  | `(tactic| simp! only) => `(tactic| simp only [ev.eq_1, ev.eq_2, ev.eq_3, ev.eq_4, ev.eq_5, ev.eq_6, ev.eq_7, ev.eq_8, ev.eq_9, ev.eq_10, ev.eq_11, ev.eq_12, ev.eq_13, ev.eq_14, ev.eq_15, ev.eq_16, ev.eq_17, ev.eq_18, ev.eq_19, ev.eq_20, ev.eq_21, ev.eq_22, ev.eq_23, ev.eq_24, ev.eq_25, ev.eq_26, ev.eq_27, ev.eq_28, ev.eq_29, ev.eq_30, ev.eq_35, evs, evT, exec.eq_1, exec.eq_2, exec.eq_3, exec.eq_4, exec.eq_5, exec.eq_6, exec.eq_7, exec.eq_8, exec.eq_9, exec.eq_10, exec.eq_11, exec.eq_12, exec.eq_13, exec.eq_14, exec.eq_15, exec.eq_16, exec.eq_19, exec.eq_20, exec.eq_21, exec.eq_22, exec.eq_23, execs, x_whl, x_for, x_comp, x_compIf, x_comp2, x_comp2If, bor, vi, mkEnv, eg, es, frzA, frzS, bn, bt, bq, bind_F, setAll, setAllT, bind1, setPar, wipeE, tgs, b_add, b_sub, b_mul, b_fdiv, b_mod, b_shl, b_shr, b_pow, b_tup, b_lst, o_lt, o_le, o_gt, o_ge, o_eqi, o_nei, o_neb, sl_a, sl_b, sl_bl, sl_c, cmp_nil, cmp_cons, cmpY_nil, cmpY_cons, ixW_3, ixL_0, ixL_1, ixL_2, ixL_3, btl, o_isb, o_eqs, o_nes, o_int, o_nit, isF_s, isF_i, deq_ss, deq_ii, List.all_cons, List.all_nil, List.any_cons, List.any_nil, Nat.reduceEqDiff, Int.reduceEq, u_len1, u_len2, u_len3, u_abs, u_int, u_intb, u_lst1, u_lst2, u_lst3, u_tup, u_max, u_min, s_int, s_bl, s_tup, s_lst, s_non, s_str, a_add, a_sub, i_tup, i_lst, r_bl, r_int, fin, chk_own, chk_some, isN, bnd, iN_non, iN_int, iN_bl, iN_str, iN_tup, iN_lst, iN_F, ixW_0, ixW_1, ixW_2, F_0, F_1, ixW_w, wg_1, wg_0, wp_0, List.map, List.length, List.replicate, List.cons_append, List.nil_append, List.append_nil, Nat.reduceSub, Nat.reduceAdd, Nat.sub_self, Nat.sub_zero, if_true, Bool.false_eq_true, if_false, reduceIte, ite_true, ite_false, Bool.and_self, Bool.and_true, Bool.true_and, Bool.not_true, Bool.not_false, Nat.reduceLT, Nat.reduceLeDiff, decide_true, decide_false, Int.reduceLT, Int.reduceLE, Int.reduceAdd, Int.reduceSub, Int.reduceNeg, Bool.or_true, Bool.or_false, Bool.true_or, Bool.false_or, Bool.and_false, Bool.false_and])
variable (n : Nat) (ws : WS)
theorem pow_d {x : Fo} (h : OkFo x) : (2 : Int) ^ x.d.toNat = 2 * halfW x ∧ 2 ≤ halfW x := by
  have d1 := h.d1
  have e : x.d.toNat = (x.d - 1).toNat + 1 := by omega
  have e2 : (x.d - 1).toNat = (x.d - 2).toNat + 1 := by omega
  have := pos2 (x.d - 2).toNat
  unfold halfW
  constructor
  · rw [e, Int.pow_succ]; omega
  · rw [e2, Int.pow_succ]; omega
theorem pw_d {x : Fo} (h : OkFo x) : pw x.d = ((2 * halfW x : Int) : Rat) := by
  rw [pw_nat _ (by have := h.d1; omega), (pow_d h).1]
theorem pw_d1 {x : Fo} (h : OkFo x) : pw (x.d - 1) = ((halfW x : Int) : Rat) := pw_nat _ (by have := h.d1; omega)
section
variable {x : Fo} {q : Rat}
theorem rdW_lt (h : OkFo x) (h0 : q.num ≠ 0) : rdW x q < 2 * halfW x := by
  have u := (un_hi (x := x) h0).1
  have e : rdX x q < pw x.d := by
    rw [← mul_lt_iff (un x q), rdX_mul, ← pw_add]
    exact u
  rw [pw_d h] at e
  have := rdW_le (x := x) (q := q)
  exact Rat.intCast_lt_intCast.mp (show ((rdW x q : Int) : Rat) < _ by grind)
theorem rdW_hi (h : OkFo x) (h0 : q.num ≠ 0) : un x q = x.f ∨ halfW x ≤ rdW x q := by
  rcases (un_hi (x := x) h0).2.1 with u | u
  · exact .inl u
  · right
    have e : pw (x.d - 1) ≤ rdX x q := by
      rw [← mul_le_iff (un x q), rdX_mul, ← pw_add, show x.d - 1 + un x q = x.d + un x q - 1 by omega]
      exact u
    rw [pw_d1 h] at e
    rw [rdW_fl, Rat.le_floor_iff]
    exact e
theorem rdV_bd (h : OkFo x) (h0 : q.num ≠ 0) (y : Nat) : rdW x q ≤ rdV x y q ∧ rdV x y q ≤ rdW x q + 1 := by
  unfold rdV
  split <;> omega
theorem okNm_rd (h : OkFo x) (y : Nat) (s : Int) : okNm x (rdNm x y q s) := by
  have hh := half_full h
  have ph := pow_d h
  have fp := fullW_pos h
  have fg := h.fg
  have byd_ok : okNm x (bydM x y (sg q)) := by
    unfold bydM
    split
    · trivial
    · exact ⟨by omega, by omega, by omega, by omega⟩
  unfold rdNm
  split
  · trivial
  rename_i h0
  have b := rdV_bd h h0 y
  have w0 := rdW_nn (x := x) (q := q)
  have w1 := rdW_lt h h0
  have u := (un_hi (x := x) h0).2.2
  split
  · split
    · exact byd_ok
    · split
      · trivial
      · rename_i c1 c2 c3
        rw [ph.1] at c1
        rw [c1] at c3 ⊢
        exact ⟨by omega, by omega, by omega, by omega⟩
  · split
    · exact byd_ok
    · split
      · trivial
      · rename_i c1 c2 c3
        rw [ph.1] at c1
        exact ⟨by omega, by omega, by omega, by omega⟩
end
/-! the greatest power of 2 in a number -/
def gr : Nat → Int → Int → Int
  | 0, _, p => p
  | k + 1, w, p => if w % 2 = 0 then gr k (w / 2) (p + 1) else p
theorem gr_bd : ∀ (k : Nat) (w p : Int), p ≤ gr k w p ∧ gr k w p ≤ p + k
  | 0, w, p => by unfold gr; omega
  | k + 1, w, p => by
    unfold gr
    split
    · have := gr_bd k (w / 2) (p + 1); omega
    · omega
theorem grid_step {c : Env → WS → Option (Bool × WS)} {b : Env → WS → Out} (E : Int → Int → Env) (hc : ∀ w p, c (E w p) ws = some (decide (w % 2 = 0), ws)) (hb : ∀ w p, b (E w p) ws = some (.nx, E (w / 2) (p + 1), ws)) :
    ∀ (k : Nat) (w p : Int) (m : Nat), 0 < w → w < 2 ^ k → k + 1 ≤ m → ∃ w', whlN c b m (E w p) ws = some (.nx, E w' (gr k w p), ws)
  | 0, w, p, m, h1, h2, _ => by simp at h2; omega
  | k + 1, w, p, m, h1, h2, hm => by
    obtain ⟨m, rfl⟩ : ∃ i, m = i + 1 := ⟨m - 1, by omega⟩
    by_cases h : w % 2 = 0
    · have h3 : w / 2 < 2 ^ k := by rw [Int.pow_succ] at h2; omega
      obtain ⟨w', e⟩ := grid_step E hc hb k (w / 2) (p + 1) m (by omega) h3 (by omega)
      refine ⟨w', ?_⟩
      simp only [whlN, hc, hb, decide_eq_true h, gr, if_pos h]
      exact e
    · refine ⟨w, ?_⟩
      simp only [whlN, hc, decide_eq_false h, gr, if_neg h]
theorem w_lt {x : Fo} (h : OkFo x) {w : Int} (h1 : 0 < w) (h2 : w ≤ fullW x) : w.natAbs < 2 ^ 201 := by
  have := fullW_lt h
  omega
theorem w_lt2 {x : Fo} (h : OkFo x) {w : Int} (h1 : 0 < w) (h2 : w ≤ fullW x) : w < 2 ^ 201 := by
  have := w_lt h h1 h2
  have e : ((w.natAbs : Nat) : Int) < ((2 ^ 201 : Nat) : Int) := Int.ofNat_lt.mpr this
  rw [Int.natCast_pow] at e
  have e2 : ((w.natAbs : Nat) : Int) = w := by omega
  rw [e2] at e
  exact e
def gridN (x : Fo) : Nm → Int
  | .n _ w p => gr 201 w p
  | _ => x.g
theorem c_grid_of {x : Fo} (h : OkFo x) {s w p : Int} (h1 : 0 < w) (h2 : w ≤ fullW x) : callO P (n + 1) 49 [nN s w p, FO x] ws = some (.int (gr 201 w p), ws) := by
  have ok2 : okI 2 = true := okI_s (by decide)
  obtain ⟨w', e⟩ := grid_step ws (c := fun env ws => evT (callO P n) t_grid_of_0 env ws) (b := fun env ws => execs (callO P n) l_grid_of_1 env ws) (fun a b => [.va (nN s w p), .va (FO x), .va (.int a), .va (.int b)])
    (fun a b => by simp! only [t_grid_of_0]) (fun a b => by simp! only [l_grid_of_1, ok2]) 201 w p fuel h1 (w_lt2 h h1 h2) (by unfold fuel; omega)
  change whlX (callO P n) _ _ fuel _ _ = _ at e
  rw [call_at (d := d_grid_of) rfl rfl]
  simp! only [d_grid_of, b_grid_of, e]
theorem c_grid_of_o {x : Fo} {s : Int} : callO P (n + 1) 49 [nO s, FO x] ws = some (.int x.g, ws) := by
  rw [call_at (d := d_grid_of) rfl rfl]
  simp! only [d_grid_of, b_grid_of]
/-- the row of a number -/
noncomputable def numRow (x : Fo) (y : Nat) (q : Rat) : Option Rw := match rdNm x y q 0 with
  | .o _ => some ⟨⟨q, q⟩, ab (0 - q), x.g⟩
  | .n s w p => some ⟨⟨q, q⟩, ab (vN s w p - q), gr 201 w p⟩
  | .e _ => none
theorem c_number_row {x : Fo} (h : OkFo x) {y : Nat} (hy : isWay y) {q : Rat} {b : Nat} (hq : Z b q) (hb : b ≤ 1400) : callO P (n + 8) 50 [FO x, .str y, F q] ws = some (OR (numRow x y q), ws) := by
  have e1 := c_rounded n ws h hy hq hb 0
  have q4 := hq.mono (show b ≤ 4000 by omega)
  have ok := okNm_rd h y 0 (q := q)
  rw [rdN_nm] at e1
  rw [call_at (d := d_number_row) rfl rfl]
  unfold numRow
  cases hr : rdNm x y q 0 with
  | o s =>
    rw [hr] at e1
    have e2 : callO P (n + 7) 17 [nO s] ws = some (.bl true, ws) := by
      rw [call_at (d := d_is_finite) rfl rfl]
      simp! only [d_is_finite, b_is_finite]
    have e3 := c_value_of_o (n + 6) ws s
    have e4 := c_taken (n + 3) ws (Z_0 (k := 4000) (by decide)) q4
    simp! only [d_number_row, b_number_row, e1, ND, e2, c_point (n + 6) ws q, e3, e4, c_size (n + 6) ws, c_grid_of_o (n + 6) ws, OR]
  | n s w p =>
    rw [hr] at e1 ok
    obtain ⟨o1, o2, o3, o4⟩ := ok
    have f1 := h.f1
    have g2 := h.g2
    have e2 : callO P (n + 7) 17 [nN s w p] ws = some (.bl true, ws) := by
      rw [call_at (d := d_is_finite) rfl rfl]
      simp! only [d_is_finite, b_is_finite]
    have e3 := c_value_of (n + 2) ws (s := s) (w := w) (p := p) (w_lt h o1 o2) (by decide) (by decide) (by omega) (by omega)
    have zv := (Z_vN (s := s) (p := p) (w_lt h o1 o2) (by decide) (m := 1000) (by omega) (by omega)).mono (show _ ≤ 4000 by decide)
    have e4 := c_taken (n + 3) ws zv q4
    simp! only [d_number_row, b_number_row, e1, ND, e2, c_point (n + 6) ws q, e3, e4, c_size (n + 6) ws, c_grid_of (n + 6) ws h o1 o2, OR]
  | e s =>
    rw [hr] at e1
    have e2 : callO P (n + 7) 17 [nE s] ws = some (.bl false, ws) := by
      rw [call_at (d := d_is_finite) rfl rfl]
      simp! only [d_is_finite, b_is_finite]
    simp! only [d_number_row, b_number_row, e1, ND, e2, OR]
/-! choices -/
def turnR (le : Bool) (a b : Rw) : Bool := if a.e = 0 ∧ b.e = 0 then false else (sure le (wideR a) (wideR b)).isNone
def chRow (le : Bool) (a b y n : Rw) : Rw := match sure le (wideR a) (wideR b) with
  | some true => y
  | some false => n
  | none => ⟨hulS y.s n.s, if turnR le a b = true then mx y.e n.e + bigS (addS y.s (negS n.s)) else mx y.e n.e, mnI y.g n.g⟩
theorem c_can_turn (le : Bool) {a b : Rw} (ha : ZR 1900 a) (hb : ZR 1900 b) : callO P (n + 7) 57 [sgD le, RD a, RD b] ws = some (.bl (turnR le a b), ws) := by
  have e1 := c_rounded_span n ws (ha.mono (by decide))
  have e2 := c_rounded_span n ws (hb.mono (by decide))
  have e3 := c_is_surely (n + 4) ws le ((ZS_wide ha).mono (show _ ≤ 4000 by decide)) ((ZS_wide hb).mono (show _ ≤ 4000 by decide))
  rw [call_at (d := d_can_turn) rfl rfl]
  by_cases h1 : a.e = 0
  · by_cases h2 : b.e = 0
    · simp! only [d_can_turn, b_can_turn, F_0', o_eqF, decide_eq_true h1, decide_eq_true h2, turnR, h1, h2, and_self]
    · cases hs : sure le (wideR a) (wideR b) with
      | none =>
        rw [hs] at e3
        simp! only [d_can_turn, b_can_turn, F_0', o_eqF, decide_eq_true h1, decide_eq_false h2, e1, e2, e3, OB, turnR, h1, h2, and_false, hs, Option.isNone]
      | some r =>
        rw [hs] at e3
        simp! only [d_can_turn, b_can_turn, F_0', o_eqF, decide_eq_true h1, decide_eq_false h2, e1, e2, e3, OB, turnR, h1, h2, and_false, hs, Option.isNone]
  · cases hs : sure le (wideR a) (wideR b) with
    | none =>
      rw [hs] at e3
      simp! only [d_can_turn, b_can_turn, F_0', o_eqF, decide_eq_false h1, e1, e2, e3, OB, turnR, h1, false_and, hs, Option.isNone]
    | some r =>
      rw [hs] at e3
      simp! only [d_can_turn, b_can_turn, F_0', o_eqF, decide_eq_false h1, e1, e2, e3, OB, turnR, h1, false_and, hs, Option.isNone]
theorem c_choice_row (le : Bool) {a b y o : Rw} (ha : ZR 1300 a) (hb : ZR 1300 b) (hy : ZR 1300 y) (ho : ZR 1300 o) : callO P (n + 8) 58 [sgD le, RD a, RD b, RD y, RD o] ws = some (RD (chRow le a b y o), ws) := by
  have e1 := c_rounded_span (n + 1) ws (ha.mono (by decide))
  have e2 := c_rounded_span (n + 1) ws (hb.mono (by decide))
  have e3 := c_is_surely (n + 5) ws le ((ZS_wide ha).mono (show _ ≤ 4000 by decide)) ((ZS_wide hb).mono (show _ ≤ 4000 by decide))
  have e4 := c_can_turn n ws le (ha.mono (by decide)) (hb.mono (by decide))
  have e5 := c_greater (n + 5) ws (hy.e.mono (show 1300 ≤ 4000 by decide)) (ho.e.mono (by decide))
  have e6 := c_taken_spans (n + 2) ws (hy.s.mono (show 1300 ≤ 4000 by decide)) (ho.s.mono (by decide))
  have z6 := ZS_add hy.s (ZS_neg ho.s)
  have e7 := c_most_size (n + 4) ws (z6.mono (show _ ≤ 4000 by decide))
  have e8 := c_added (n + 4) ws ((Z_mx hy.e ho.e).mono (show 1300 ≤ 4000 by decide)) ((Z_big z6).mono (by decide))
  have e9 := c_hull (n + 4) ws (hy.s.mono (show 1300 ≤ 4000 by decide)) (ho.s.mono (by decide))
  rw [call_at (d := d_choice_row) rfl rfl]
  cases hs : sure le (wideR a) (wideR b) with
  | some r =>
    rw [hs] at e3
    cases r <;> simp! only [d_choice_row, b_choice_row, e1, e2, e3, OB, chRow, hs]
  | none =>
    rw [hs] at e3
    cases ht : turnR le a b with
    | true =>
      rw [ht] at e4
      simp! only [d_choice_row, b_choice_row, e1, e2, e3, OB, e5, e4, e6, e7, e8, e9, chRow, hs, ht, mnI]
    | false =>
      rw [ht] at e4
      simp! only [d_choice_row, b_choice_row, e1, e2, e3, OB, e5, e4, e9, chRow, hs, ht, mnI, Bool.false_eq_true]
/-! what follows -/
theorem nrn1 (a : Rw) : cop .isin .non (.lst [RD a]) = some false := rfl
theorem nrn2 (a b : Rw) : cop .isin .non (.lst [RD a, RD b]) = some false := rfl
theorem nrn3 (a b c : Rw) : cop .isin .non (.lst [RD a, RD b, RD c]) = some false := rfl
theorem nrn4 (a b c d : Rw) : cop .isin .non (.lst [RD a, RD b, RD c, RD d]) = some false := rfl
theorem parts_k (k : Kd) (xs : List D) : callO P (n + 1) 59 [.tup (.str k.s :: xs)] ws = some (.tup xs, ws) := by
  rw [call_at (d := d_parts_of) rfl rfl]
  cases k <;> simp! only [d_parts_of, b_parts_of, Kd.s]
theorem parts_c (sg : D) (xs : List D) : callO P (n + 1) 59 [.tup (.str 23 :: sg :: xs)] ws = some (.tup xs, ws) := by
  rw [call_at (d := d_parts_of) rfl rfl]
  simp! only [d_parts_of, b_parts_of]
theorem c_next_op (k : Kd) {x : Fo} (hx : OkFo x) {y : Nat} (hy : isWay y) {a b c : Rw} {i : Nat} (ha : ZR i a) (hb : ZR i b) (hc : ZR i c) (hi : 1 ≤ i) (hi2 : i ≤ 100) {R rg : D} {p1 p2 p3 : Int}
    (h1 : ixW ws R (.int p1) = some (RD a)) (h2 : ixW ws R (.int p2) = some (RD b)) (h3 : ixW ws R (.int p3) = some (RD c)) :
    callO P (n + 9) 60 [FO x, .str y, .tup (.str k.s :: (pts k p1 p2 p3).map .int), rg, R] ws = some (OR (opRow x y k a b c), ws) := by
  have o1 : okLen 1 = true := okLen_of (by decide)
  have o2 : okLen 2 = true := okLen_of (by decide)
  have o3 : okLen 3 = true := okLen_of (by decide)
  have e1 := c_operation_row n ws k hx hy ha hb hc hi hi2
  have e2 := parts_k (n + 7) ws k ((pts k p1 p2 p3).map .int)
  rw [call_at (d := d_next_row) rfl rfl]
  cases k <;> (simp only [pts, List.map, Kd.s] at e1 e2; simp! only [d_next_row, b_next_row, x_next_row_0, pts, Kd.s, e2, o1, o2, o3, h1, h2, h3, nrn1, nrn2, nrn3, e1])
theorem c_next_choice (le : Bool) {x : Fo} {y : D} {a b t o : Rw} (ha : ZR 1300 a) (hb : ZR 1300 b) (ht : ZR 1300 t) (ho : ZR 1300 o) {R rg : D} {p1 p2 p3 p4 : Int}
    (h1 : ixW ws R (.int p1) = some (RD a)) (h2 : ixW ws R (.int p2) = some (RD b)) (h3 : ixW ws R (.int p3) = some (RD t)) (h4 : ixW ws R (.int p4) = some (RD o)) :
    callO P (n + 9) 60 [FO x, y, .tup [.str 23, sgD le, .int p1, .int p2, .int p3, .int p4], rg, R] ws = some (RD (chRow le a b t o), ws) := by
  have o4 : okLen 4 = true := okLen_of (by decide)
  have e1 := c_choice_row n ws le ha hb ht ho
  have e2 := parts_c (n + 7) ws (sgD le) [.int p1, .int p2, .int p3, .int p4]
  rw [call_at (d := d_next_row) rfl rfl]
  simp! only [d_next_row, b_next_row, x_next_row_0, e2, o4, h1, h2, h3, h4, nrn4, e1]
theorem c_next_number {x : Fo} (h : OkFo x) {y : Nat} (hy : isWay y) {q : Rat} {b : Nat} (hq : Z b q) (hb : b ≤ 1400) {R rg : D} : callO P (n + 9) 60 [FO x, .str y, .tup [.str 1, F q], rg, R] ws = some (OR (numRow x y q), ws) := by
  have e1 := c_number_row n ws h hy hq hb
  rw [call_at (d := d_next_row) rfl rfl]
  simp! only [d_next_row, b_next_row, e1]
/-- the row of an input -/
def inRow (x : Fo) (a : Rw) : Option Rw := if reachR a ≤ top x then some ⟨a.s, a.e, x.f⟩ else none
theorem c_next_input {x : Fo} (h : OkFo x) {y : D} {a : Rw} (ha : ZR 1300 a) {R rg : D} {nm : D} (hr : ixW ws rg nm = some (.tup [F a.s.l, F a.s.h, F a.e])) :
    callO P (n + 7) 60 [FO x, y, .tup [.str 22, nm], rg, R] ws = some (OR (inRow x a), ws) := by
  have g1 := h.f1
  have g2 := h.g2
  have g3 := h.fg
  have e1 := c_input_row (n + 5) ws (x := x) (a := a)
  have zr : ZR 4000 (⟨a.s, a.e, x.f⟩ : Rw) := ⟨(ha.mono (by decide : 1300 ≤ 4000)).s, (ha.mono (by decide : 1300 ≤ 4000)).e, ha.o, ha.e0, by show -1400 ≤ x.f; omega, by show x.f ≤ 1400; omega⟩
  have e2 := c_reach_of (n + 2) ws zr
  have e3 := c_is_in_reach n ws h (q := reachR a) ((Z_add (Z_big ha.s) ha.e).mono (by decide))
  have e4 : reachR (⟨a.s, a.e, x.f⟩ : Rw) = reachR a := rfl
  rw [e4] at e2
  rw [call_at (d := d_next_row) rfl rfl]
  by_cases c : reachR a ≤ top x
  · simp! only [d_next_row, b_next_row, hr, e1, e2, e3, decide_eq_true c, inRow, if_pos c, OR]
  · simp! only [d_next_row, b_next_row, hr, e1, e2, e3, decide_eq_false c, inRow, if_neg c, OR]
end Pv.K33


set_option Elab.async false
set_option linter.all false
set_option maxRecDepth 100000
set_option exponentiation.threshold 20
/-! Ls: the same. -/
namespace Pv.K33
open Pv
local macro_rules
  | `(tactic| simp! only [$xs,*]) => `(tactic| simp only [ev.eq_1, ev.eq_2, ev.eq_3, ev.eq_4, ev.eq_5, ev.eq_6, ev.eq_7, ev.eq_8, ev.eq_9, ev.eq_10, ev.eq_11, ev.eq_12, ev.eq_13, ev.eq_14, ev.eq_15, ev.eq_16, ev.eq_17, ev.eq_18, ev.eq_19, ev.eq_20, ev.eq_21, ev.eq_22, ev.eq_23, ev.eq_24, ev.eq_25, ev.eq_26, ev.eq_27, ev.eq_28, ev.eq_29, ev.eq_30, ev.eq_35, evs, evT, exec.eq_1, exec.eq_2, exec.eq_3, exec.eq_4, exec.eq_5, exec.eq_6, exec.eq_7, exec.eq_8, exec.eq_9, exec.eq_10, exec.eq_11, exec.eq_12, exec.eq_13, exec.eq_14, exec.eq_15, exec.eq_16, exec.eq_19, exec.eq_20, exec.eq_21, exec.eq_22, exec.eq_23, execs, x_whl, x_for, x_comp, x_compIf, x_comp2, x_comp2If, bor, vi, mkEnv, eg, es, frzA, frzS, bn, bt, bq, bind_F, setAll, setAllT, bind1, setPar, wipeE, tgs, b_add, b_sub, b_mul, b_fdiv, b_mod, b_shl, b_shr, b_pow, b_tup, b_lst, o_lt, o_le, o_gt, o_ge, o_eqi, o_nei, o_neb, sl_a, sl_b, sl_bl, sl_c, cmp_nil, cmp_cons, cmpY_nil, cmpY_cons, ixW_3, ixL_0, ixL_1, ixL_2, ixL_3, btl, o_isb, o_eqs, o_nes, o_int, o_nit, isF_s, isF_i, deq_ss, deq_ii, List.all_cons, List.all_nil, List.any_cons, List.any_nil, Nat.reduceEqDiff, Int.reduceEq, u_len1, u_len2, u_len3, u_abs, u_int, u_intb, u_lst1, u_lst2, u_lst3, u_tup, u_max, u_min, s_int, s_bl, s_tup, s_lst, s_non, s_str, a_add, a_sub, i_tup, i_lst, r_bl, r_int, fin, chk_own, chk_some, isN, bnd, iN_non, iN_int, iN_bl, iN_str, iN_tup, iN_lst, iN_F, ixW_0, ixW_1, ixW_2, F_0, F_1, ixW_w, wg_1, wg_0, wp_0, List.map, List.length, List.replicate, List.cons_append, List.nil_append, List.append_nil, Nat.reduceSub, Nat.reduceAdd, Nat.sub_self, Nat.sub_zero, if_true, Bool.false_eq_true, if_false, reduceIte, ite_true, ite_false, Bool.and_self, Bool.and_true, Bool.true_and, Bool.not_true, Bool.not_false, Nat.reduceLT, Nat.reduceLeDiff, decide_true, decide_false, Int.reduceLT, Int.reduceLE, Int.reduceAdd, Int.reduceSub, Int.reduceNeg, Bool.or_true, Bool.or_false, Bool.true_or, Bool.false_or, Bool.and_false, Bool.false_and, $xs,*])
  | `(tactic| simp! only) => `(tactic| simp only [ev.eq_1, ev.eq_2, ev.eq_3, ev.eq_4, ev.eq_5, ev.eq_6, ev.eq_7, ev.eq_8, ev.eq_9, ev.eq_10, ev.eq_11, ev.eq_12, ev.eq_13, ev.eq_14, ev.eq_15, ev.eq_16, ev.eq_17, ev.eq_18, ev.eq_19, ev.eq_20, ev.eq_21, ev.eq_22, ev.eq_23, ev.eq_24, ev.eq_25, ev.eq_26, ev.eq_27, ev.eq_28, ev.eq_29, ev.eq_30, ev.eq_35, evs, evT, exec.eq_1, exec.eq_2, exec.eq_3, exec.eq_4, exec.eq_5, exec.eq_6, exec.eq_7, exec.eq_8, exec.eq_9, exec.eq_10, exec.eq_11, exec.eq_12, exec.eq_13, exec.eq_14, exec.eq_15, exec.eq_16, exec.eq_19, exec.eq_20, exec.eq_21, exec.eq_22, exec.eq_23, execs, x_whl, x_for, x_comp, x_compIf, x_comp2, x_comp2If, bor, vi, mkEnv, eg, es, frzA, frzS, bn, bt, bq, bind_F, setAll, setAllT, bind1, setPar, wipeE, tgs, b_add, b_sub, b_mul, b_fdiv, b_mod, b_shl, b_shr, b_pow, b_tup, b_lst, o_lt, o_le, o_gt, o_ge, o_eqi, o_nei, o_neb, sl_a, sl_b, sl_bl, sl_c, cmp_nil, cmp_cons, cmpY_nil, cmpY_cons, ixW_3, ixL_0, ixL_1, ixL_2, ixL_3, btl, o_isb, o_eqs, o_nes, o_int, o_nit, isF_s, isF_i, deq_ss, deq_ii, List.all_cons, List.all_nil, List.any_cons, List.any_nil, Nat.reduceEqDiff, Int.reduceEq, u_len1, u_len2, u_len3, u_abs, u_int, u_intb, u_lst1, u_lst2, u_lst3, u_tup, u_max, u_min, s_int, s_bl, s_tup, s_lst, s_non, s_str, a_add, a_sub, i_tup, i_lst, r_bl, r_int, fin, chk_own, chk_some, isN, bnd, iN_non, iN_int, iN_bl, iN_str, iN_tup, iN_lst, iN_F, ixW_0, ixW_1, ixW_2, F_0, F_1, ixW_w, wg_1, wg_0, wp_0, List.map, List.length, List.replicate, List.cons_append, List.nil_append, List.append_nil, Nat.reduceSub, Nat.reduceAdd, Nat.sub_self, Nat.sub_zero, if_true, Bool.false_eq_true, if_false, reduceIte, ite_true, ite_false, Bool.and_self, Bool.and_true, Bool.true_and, Bool.not_true, Bool.not_false, Nat.reduceLT, Nat.reduceLeDiff, decide_true, decide_false, Int.reduceLT, Int.reduceLE, Int.reduceAdd, Int.reduceSub, Int.reduceNeg, Bool.or_true, Bool.or_false, Bool.true_or, Bool.false_or, Bool.and_false, Bool.false_and])
variable (n : Nat) (ws : WS)
mutual
def pln : D → Bool
  | .int _ => true
  | .bl _ => true
  | .str _ => true
  | .non => true
  | .tup xs => plns xs
  | .lst xs => plns xs
  | _ => false
def plns : List D → Bool
  | [] => true
  | x :: xs => pln x && plns xs
end
mutual
def wt : D → Nat
  | .tup xs => 1 + wts xs
  | .lst xs => 1 + wts xs
  | _ => 1
def wts : List D → Nat
  | [] => 0
  | x :: xs => wt x + wts xs
end
mutual
theorem okq_up : ∀ {d : D} {k : Nat}, okq d k = true → okq d (k + 1) = true
  | .non, _, _ => by simp [okq]
  | .bl _, _, _ => by simp [okq]
  | .int _, _, _ => by simp [okq]
  | .str j, _, h => by simpa [okq] using h
  | .tup xs, 0, h => by simp [okq] at h
  | .tup xs, k + 1, h => by
    simp only [okq] at h ⊢
    exact okqs_up h
  | .lst xs, 0, h => by simp [okq] at h
  | .lst xs, k + 1, h => by
    simp only [okq] at h ⊢
    exact okqs_up h
  | .dic _ _, _, h => by simp [okq] at h
  | .scr _, _, h => by simp [okq] at h
  | .wd, _, h => by simp [okq] at h
theorem okqs_up : ∀ {d : List D} {k : Nat}, okqs d k = true → okqs d (k + 1) = true
  | [], _, _ => by simp [okqs]
  | x :: xs, k, h => by
    simp only [okqs, Bool.and_eq_true] at h ⊢
    exact ⟨okq_up h.1, okqs_up h.2⟩
end
theorem okqs_of : ∀ {ds : List D} {k : Nat}, (∀ d ∈ ds, okq d k = true) → okqs ds k = true
  | [], _, _ => by simp [okqs]
  | d :: ds, k, h => by
    simp only [okqs, Bool.and_eq_true]
    exact ⟨h d List.mem_cons_self, okqs_of fun x hx => h x (List.mem_cons_of_mem _ hx)⟩
theorem okqs_all : ∀ {ds : List D} {k : Nat}, okqs ds k = true → ∀ d ∈ ds, okq d k = true
  | d :: ds, k, h, x, hx => by
    simp only [okqs, Bool.and_eq_true] at h
    rcases List.mem_cons.mp hx with rfl | hx
    · exact h.1
    · exact okqs_all h.2 x hx
theorem plns_all : ∀ {ds : List D}, plns ds = true → ∀ d ∈ ds, pln d = true
  | d :: ds, h, x, hx => by
    simp only [plns, Bool.and_eq_true] at h
    rcases List.mem_cons.mp hx with rfl | hx
    · exact h.1
    · exact plns_all h.2 x hx
theorem wts_app : ∀ (a b : List D), wts (a ++ b) = wts a + wts b
  | [], b => by simp [wts]
  | x :: a, b => by simp only [List.cons_append, wts, wts_app a b]; omega
theorem wt_pos : ∀ d : D, 1 ≤ wt d
  | .tup xs => by simp only [wt]; omega
  | .lst xs => by simp only [wt]; omega
  | .non | .bl _ | .int _ | .str _ | .dic _ _ | .scr _ | .wd => by simp [wt]
theorem len_wts : ∀ ds : List D, ds.length ≤ wts ds
  | [] => Nat.le_refl _
  | x :: ds => by
    have := wt_pos x
    have := len_wts ds
    simp only [List.length_cons, wts]; omega
def pr (d : D) : D := .tup [d, d]
theorem ne_nil {st : List D} (h : ∀ d ∈ st, okq d 60 = true) : cop .ne (.lst (st.map pr)) (.lst []) = some (!st.isEmpty) := by
  have h1 : okq (.lst (st.map pr)) 64 = true := by
    simp only [okq]
    refine okqs_of fun d hd => ?_
    obtain ⟨x, hx, rfl⟩ := List.mem_map.mp hd
    simp only [pr, okq, okqs, Bool.and_eq_true, and_true]
    exact ⟨okq_up (okq_up (h x hx)), okq_up (okq_up (h x hx))⟩
  have h2 : okq (.lst []) 64 = true := rfl
  show (if (okq (.lst (st.map pr)) 64 && okq (.lst []) 64) = true then some (!deq (.lst (st.map pr)) (.lst [])) else none) = _
  rw [h1, h2]
  cases st <;> rfl
theorem range_map {f : D → D} : ∀ (xs : List D), (List.range xs.length).map (fun k => f (xs.getD k .non)) = xs.map f := by
  intro xs
  apply List.ext_getElem
  · simp
  · intro i h1 h2
    simp at h1
    simp [List.getD_eq_getElem?_getD, List.getElem?_eq_getElem h1]
theorem ix_at {xs : List D} {k : Nat} (h : k < xs.length) : ixW ws (.tup xs) (.int (0 + (k : Int))) = some (xs.getD k .non) := by
  show L2.atI xs (0 + (k : Int)) = _
  refine atI_of (j := k) (by omega) ?_
  rw [List.getD_eq_getElem?_getD, List.getElem?_eq_getElem h]
  rfl
theorem ix_atl {xs : List D} {k : Nat} (h : k < xs.length) : ixW ws (.lst xs) (.int (0 + (k : Int))) = some (xs.getD k .non) := ix_at ws h
theorem o_nenn : cop .ne .non .non = some false := rfl
theorem pops (st : List D) (d : D) : ((st ++ [d]).map pr).getLast? = some (.tup [d, d]) ∧ ((st ++ [d]).map pr).dropLast = st.map pr := by
  rw [List.map_append]
  simp [pr]
theorem same_loop {a b : D} : ∀ (m : Nat) (st : List D) (t3 t4 t5 t6 t7 : Slot), wts st < m → wts st ≤ 10000 → (∀ d ∈ st, pln d = true ∧ okq d 60 = true) →
    ∃ u3 u4 u5 u6 u7, whlX (callO P n) t__law_same_0 l__law_same_7 m [.va a, .va b, .ow (.lst (st.map pr)), t3, t4, t5, t6, t7] ws = some (.nx, [.va a, .va b, .ow (.lst []), u3, u4, u5, u6, u7], ws)
  | 0, _, _, _, _, _, _, h, _, _ => absurd h (by omega)
  | m + 1, st, t3, t4, t5, t6, t7, hm, hw, hp => by
    have hne := ne_nil fun d hd => (hp d hd).2
    rcases List.eq_nil_or_concat st with rfl | ⟨st, d, rfl⟩
    · refine ⟨t3, t4, t5, t6, t7, whl_stop ?_⟩
      simp! only [t__law_same_0, hne]
      rfl
    · rw [List.concat_eq_append] at *
      have e1 : (st ++ [d]).isEmpty = false := by cases st <;> rfl
      rw [e1] at hne
      obtain ⟨g1, g2⟩ := pops st d
      rw [wts_app] at hm hw
      have hd := hp d (by simp)
      have hst : ∀ x ∈ st, pln x = true ∧ okq x 60 = true := fun x hx => hp x (by simp [hx])
      have w1 : wts [d] = wt d := by simp [wts]
      rw [w1] at hm hw
      cases d with
      | int i =>
        have w2 := wt_pos (.int i)
        obtain ⟨u3, u4, u5, u6, u7, e⟩ := same_loop m st (.va (.int i)) (.va (.int i)) t5 t6 t7 (by omega) (by omega) hst
        refine ⟨u3, u4, u5, u6, u7, ?_⟩
        rw [whl_go (ws1 := ws) (ws2 := ws) (env2 := [.va a, .va b, .ow (.lst (st.map pr)), .va (.int i), .va (.int i), t5, t6, t7])]
        · exact e
        · simp! only [t__law_same_0, hne]
        · simp! only [l__law_same_7, g1, g2, beq_self_eq_true]
      | bl i =>
        have w2 := wt_pos (.bl i)
        obtain ⟨u3, u4, u5, u6, u7, e⟩ := same_loop m st (.va (.bl i)) (.va (.bl i)) t5 t6 t7 (by omega) (by omega) hst
        refine ⟨u3, u4, u5, u6, u7, ?_⟩
        rw [whl_go (ws1 := ws) (ws2 := ws) (env2 := [.va a, .va b, .ow (.lst (st.map pr)), .va (.bl i), .va (.bl i), t5, t6, t7])]
        · exact e
        · simp! only [t__law_same_0, hne]
        · simp! only [l__law_same_7, g1, g2, beq_self_eq_true]
      | tup xs =>
        simp only [wt] at hm hw
        have hx1 := plns_all (by simpa only [pln] using hd.1)
        have hx2 := okqs_all (by simpa only [okq] using hd.2)
        obtain ⟨u3, u4, u5, u6, u7, e⟩ := same_loop m (st ++ xs) (.va (.tup xs)) (.va (.tup xs)) t5 t6 t7 (by rw [wts_app]; omega) (by rw [wts_app]; omega) (fun x hx => (List.mem_append.mp hx).elim (hst x) fun q => ⟨hx1 x q, okq_up (hx2 x q)⟩)
        refine ⟨u3, u4, u5, u6, u7, ?_⟩
        rw [List.map_append] at e
        have l1 := len_wts xs
        have l2 := len_wts st
        have c := cmp_map (Φ := callO P n) (tg := .nm 7) (elt := x__law_same_6) (env := [.va a, .va b, .ow (.lst (st.map pr)), .va (.tup xs), .va (.tup xs), t5, t6, .un]) (ws := ws) (xs := List.range xs.length) (rep := fun k : Nat => D.int (0 + (k : Int))) (g := fun k => pr (xs.getD k .non)) fun k hk => by
          refine ⟨[.va a, .va b, .ow (.lst (st.map pr)), .va (.tup xs), .va (.tup xs), t5, t6, .va (.int (0 + (k : Int)))], rfl, ?_⟩
          have := ix_at ws (xs := xs) (List.mem_range.mp hk)
          simp! only [x__law_same_6, this, pr]
        rw [range_map] at c
        have o1 : okLen xs.length = true := decide_eq_true (by omega)
        have o2 : okLen (st.length + xs.length) = true := decide_eq_true (by omega)
        have o3 : (-100000 : Int) ≤ xs.length := by omega
        have o4 : (xs.length : Int) ≤ 100000 := by omega
        rw [whl_go (ws1 := ws) (ws2 := ws) (env2 := [.va a, .va b, .ow (.lst (st.map pr ++ xs.map pr)), .va (.tup xs), .va (.tup xs), t5, t6, t7])]
        · exact e
        · simp! only [t__law_same_0, hne]
        · simp! only [l__law_same_7, g1, g2, beq_self_eq_true, decide_eq_true o3, decide_eq_true o4, Int.toNat_natCast, List.length_map, List.length_range, o1, c, o2]
      | lst xs =>
        simp only [wt] at hm hw
        have hx1 := plns_all (by simpa only [pln] using hd.1)
        have hx2 := okqs_all (by simpa only [okq] using hd.2)
        obtain ⟨u3, u4, u5, u6, u7, e⟩ := same_loop m (st ++ xs) (.va (.lst xs)) (.va (.lst xs)) t5 t6 t7 (by rw [wts_app]; omega) (by rw [wts_app]; omega) (fun x hx => (List.mem_append.mp hx).elim (hst x) fun q => ⟨hx1 x q, okq_up (hx2 x q)⟩)
        refine ⟨u3, u4, u5, u6, u7, ?_⟩
        rw [List.map_append] at e
        have l1 := len_wts xs
        have l2 := len_wts st
        have c := cmp_map (Φ := callO P n) (tg := .nm 7) (elt := x__law_same_6) (env := [.va a, .va b, .ow (.lst (st.map pr)), .va (.lst xs), .va (.lst xs), t5, t6, .un]) (ws := ws) (xs := List.range xs.length) (rep := fun k : Nat => D.int (0 + (k : Int))) (g := fun k => pr (xs.getD k .non)) fun k hk => by
          refine ⟨[.va a, .va b, .ow (.lst (st.map pr)), .va (.lst xs), .va (.lst xs), t5, t6, .va (.int (0 + (k : Int)))], rfl, ?_⟩
          have := ix_atl ws (xs := xs) (List.mem_range.mp hk)
          simp! only [x__law_same_6, this, pr]
        rw [range_map] at c
        have o1 : okLen xs.length = true := decide_eq_true (by omega)
        have o2 : okLen (st.length + xs.length) = true := decide_eq_true (by omega)
        have o3 : (-100000 : Int) ≤ xs.length := by omega
        have o4 : (xs.length : Int) ≤ 100000 := by omega
        rw [whl_go (ws1 := ws) (ws2 := ws) (env2 := [.va a, .va b, .ow (.lst (st.map pr ++ xs.map pr)), .va (.lst xs), .va (.lst xs), t5, t6, t7])]
        · exact e
        · simp! only [t__law_same_0, hne]
        · simp! only [l__law_same_7, g1, g2, beq_self_eq_true, decide_eq_true o3, decide_eq_true o4, Int.toNat_natCast, List.length_map, List.length_range, o1, c, o2]
      | str i =>
        have w2 := wt_pos (.str i)
        have i5 : i < 512 := by simpa [okq] using hd.2
        obtain ⟨u3, u4, u5, u6, u7, e⟩ := same_loop m st (.va (.str i)) (.va (.str i)) t5 t6 t7 (by omega) (by omega) hst
        refine ⟨u3, u4, u5, u6, u7, ?_⟩
        rw [whl_go (ws1 := ws) (ws2 := ws) (env2 := [.va a, .va b, .ow (.lst (st.map pr)), .va (.str i), .va (.str i), t5, t6, t7])]
        · exact e
        · simp! only [t__law_same_0, hne]
        · simp! only [l__law_same_7, g1, g2, beq_self_eq_true, decide_eq_true i5]
      | non =>
        have w2 := wt_pos .non
        obtain ⟨u3, u4, u5, u6, u7, e⟩ := same_loop m st (.va .non) (.va .non) t5 t6 t7 (by omega) (by omega) hst
        refine ⟨u3, u4, u5, u6, u7, ?_⟩
        rw [whl_go (ws1 := ws) (ws2 := ws) (env2 := [.va a, .va b, .ow (.lst (st.map pr)), .va .non, .va .non, t5, t6, t7])]
        · exact e
        · simp! only [t__law_same_0, hne]
        · simp! only [l__law_same_7, g1, g2, beq_self_eq_true, o_nenn]
      | dic _ _ => simp [pln] at hd
      | scr _ => simp [pln] at hd
      | wd => simp [pln] at hd
structure Good (d : D) : Prop where
  p : pln d = true
  q : okq d 60 = true
  w : wt d ≤ 10000
theorem c__law_same {d : D} (h : Good d) : callO P (n + 1) 64 [d, d] ws = some (.bl true, ws) := by
  have hw := h.w
  obtain ⟨u3, u4, u5, u6, u7, e⟩ := same_loop n ws (a := d) (b := d) fuel [d] .un .un .un .un .un (by simp only [wts]; unfold fuel; omega) (by simp only [wts]; omega) (by simp [h.p, h.q])
  have e' : whlX (callO P n) t__law_same_0 l__law_same_7 fuel [.va d, .va d, .ow (.lst [.tup [d, d]]), .un, .un, .un, .un, .un] ws = _ := e
  rw [call_at (d := d__law_same) rfl rfl]
  simp! only [d__law_same, b__law_same, e']
theorem good_bl (b : Bool) : Good (.bl b) := ⟨rfl, rfl, by simp [wt]⟩
theorem good_int (b : Int) : Good (.int b) := ⟨rfl, rfl, by simp [wt]⟩
theorem good_non : Good .non := ⟨rfl, rfl, by simp [wt]⟩
theorem good_F (q : Rat) : Good (F q) := ⟨rfl, rfl, by simp [F, wt, wts]⟩
theorem good_SD (s : Sn) : Good (SD s) := ⟨rfl, rfl, by simp [F, wt, wts]⟩
theorem good_RD (r : Rw) : Good (RD r) := ⟨rfl, rfl, by simp [F, wt, wts]⟩
theorem good_OR (r : Option Rw) : Good (OR r) := by cases r; exact good_non; exact good_RD _
theorem good_OQ (r : Option Rat) : Good (OQ r) := by cases r; exact good_non; exact good_F _
theorem good_OB (r : Option Bool) : Good (OB r) := by cases r; exact good_non; exact good_bl _
end Pv.K33


set_option Elab.async false
set_option linter.all false
set_option maxRecDepth 100000
set_option exponentiation.threshold 20
/-! Ld: what is drawn. -/
namespace Pv.K33
open Pv
local macro_rules
  | `(tactic| simp! only [$xs,*]) => `(tactic| simp only [ev.eq_1, ev.eq_2, ev.eq_3, ev.eq_4, ev.eq_5, ev.eq_6, ev.eq_7, ev.eq_8, ev.eq_9, ev.eq_10, ev.eq_11, ev.eq_12, ev.eq_13, ev.eq_14, ev.eq_15, ev.eq_16, ev.eq_17, ev.eq_18, ev.eq_19, ev.eq_20, ev.eq_21, ev.eq_22, ev.eq_23, ev.eq_24, ev.eq_25, ev.eq_26, ev.eq_27, ev.eq_28, ev.eq_29, ev.eq_30, ev.eq_35, evs, evT, exec.eq_1, exec.eq_2, exec.eq_3, exec.eq_4, exec.eq_5, exec.eq_6, exec.eq_7, exec.eq_8, exec.eq_9, exec.eq_10, exec.eq_11, exec.eq_12, exec.eq_13, exec.eq_14, exec.eq_15, exec.eq_16, exec.eq_19, exec.eq_20, exec.eq_21, exec.eq_22, exec.eq_23, execs, x_whl, x_for, x_comp, x_compIf, x_comp2, x_comp2If, bor, vi, mkEnv, eg, es, frzA, frzS, bn, bt, bq, bind_F, setAll, setAllT, bind1, setPar, wipeE, tgs, b_add, b_sub, b_mul, b_fdiv, b_mod, b_shl, b_shr, b_pow, b_tup, b_lst, o_lt, o_le, o_gt, o_ge, o_eqi, o_nei, o_neb, sl_a, sl_b, sl_bl, sl_c, cmp_nil, cmp_cons, cmpY_nil, cmpY_cons, ixW_3, ixL_0, ixL_1, ixL_2, ixL_3, btl, o_isb, o_eqs, o_nes, o_int, o_nit, isF_s, isF_i, deq_ss, deq_ii, List.all_cons, List.all_nil, List.any_cons, List.any_nil, Nat.reduceEqDiff, Int.reduceEq, u_len1, u_len2, u_len3, u_abs, u_int, u_intb, u_lst1, u_lst2, u_lst3, u_tup, u_max, u_min, s_int, s_bl, s_tup, s_lst, s_non, s_str, a_add, a_sub, i_tup, i_lst, r_bl, r_int, fin, chk_own, chk_some, isN, bnd, iN_non, iN_int, iN_bl, iN_str, iN_tup, iN_lst, iN_F, ixW_0, ixW_1, ixW_2, F_0, F_1, ixW_w, wg_1, wg_0, wp_0, List.map, List.length, List.replicate, List.cons_append, List.nil_append, List.append_nil, Nat.reduceSub, Nat.reduceAdd, Nat.sub_self, Nat.sub_zero, if_true, Bool.false_eq_true, if_false, reduceIte, ite_true, ite_false, Bool.and_self, Bool.and_true, Bool.true_and, Bool.not_true, Bool.not_false, Nat.reduceLT, Nat.reduceLeDiff, decide_true, decide_false, Int.reduceLT, Int.reduceLE, Int.reduceAdd, Int.reduceSub, Int.reduceNeg, Bool.or_true, Bool.or_false, Bool.true_or, Bool.false_or, Bool.and_false, Bool.false_and, $xs,*])
  | `(tactic| simp! only) => `(tactic| simp only [ev.eq_1, ev.eq_2, ev.eq_3, ev.eq_4, ev.eq_5, ev.eq_6, ev.eq_7, ev.eq_8, ev.eq_9, ev.eq_10, ev.eq_11, ev.eq_12, ev.eq_13, ev.eq_14, ev.eq_15, ev.eq_16, ev.eq_17, ev.eq_18, ev.eq_19, ev.eq_20, ev.eq_21, ev.eq_22, ev.eq_23, ev.eq_24, ev.eq_25, ev.eq_26, ev.eq_27, ev.eq_28, ev.eq_29, ev.eq_30, ev.eq_35, evs, evT, exec.eq_1, exec.eq_2, exec.eq_3, exec.eq_4, exec.eq_5, exec.eq_6, exec.eq_7, exec.eq_8, exec.eq_9, exec.eq_10, exec.eq_11, exec.eq_12, exec.eq_13, exec.eq_14, exec.eq_15, exec.eq_16, exec.eq_19, exec.eq_20, exec.eq_21, exec.eq_22, exec.eq_23, execs, x_whl, x_for, x_comp, x_compIf, x_comp2, x_comp2If, bor, vi, mkEnv, eg, es, frzA, frzS, bn, bt, bq, bind_F, setAll, setAllT, bind1, setPar, wipeE, tgs, b_add, b_sub, b_mul, b_fdiv, b_mod, b_shl, b_shr, b_pow, b_tup, b_lst, o_lt, o_le, o_gt, o_ge, o_eqi, o_nei, o_neb, sl_a, sl_b, sl_bl, sl_c, cmp_nil, cmp_cons, cmpY_nil, cmpY_cons, ixW_3, ixL_0, ixL_1, ixL_2, ixL_3, btl, o_isb, o_eqs, o_nes, o_int, o_nit, isF_s, isF_i, deq_ss, deq_ii, List.all_cons, List.all_nil, List.any_cons, List.any_nil, Nat.reduceEqDiff, Int.reduceEq, u_len1, u_len2, u_len3, u_abs, u_int, u_intb, u_lst1, u_lst2, u_lst3, u_tup, u_max, u_min, s_int, s_bl, s_tup, s_lst, s_non, s_str, a_add, a_sub, i_tup, i_lst, r_bl, r_int, fin, chk_own, chk_some, isN, bnd, iN_non, iN_int, iN_bl, iN_str, iN_tup, iN_lst, iN_F, ixW_0, ixW_1, ixW_2, F_0, F_1, ixW_w, wg_1, wg_0, wp_0, List.map, List.length, List.replicate, List.cons_append, List.nil_append, List.append_nil, Nat.reduceSub, Nat.reduceAdd, Nat.sub_self, Nat.sub_zero, if_true, Bool.false_eq_true, if_false, reduceIte, ite_true, ite_false, Bool.and_self, Bool.and_true, Bool.true_and, Bool.not_true, Bool.not_false, Nat.reduceLT, Nat.reduceLeDiff, decide_true, decide_false, Int.reduceLT, Int.reduceLE, Int.reduceAdd, Int.reduceSub, Int.reduceNeg, Bool.or_true, Bool.or_false, Bool.true_or, Bool.false_or, Bool.and_false, Bool.false_and])
variable (n : Nat) (ws : WS)
theorem okI_m {i : Int} (h1 : 0 ≤ i) (h2 : i < 65537) : okI i = true := okI_s (by omega)
theorem app_len (ds : List Int) (x : Int) : ds.map D.int ++ [.int x] = (ds ++ [x]).map .int := by simp
/-- inner walk -/
def I0 (s0 s1 s3 s4 s5 : Slot) (c : Nat) (w : WS) (s : Nat) (env : Env) (ws : WS) : Prop := ws = w ∧ ∃ (ds : List Int) (r : Int) (t7 : Slot), env = [s0, s1, .ow (.lst (ds.map .int)), s3, s4, s5, .va (.int r), t7] ∧ ds.length ≤ c + s
theorem in36 {s0 s1 s3 s4 s5 : Slot} {c : Nat} {s : Nat} {k : Nat} {env : Env} (hs : c + s ≤ 90000) (h : I0 s0 s1 s3 s4 s5 c ws s env ws) :
    ∃ env1 env2 ws2, bindT env (.nm 7) (.int (0 + (k : Int))) = some env1 ∧ execs (callO P n) l__law_draws_0 env1 ws = some (.nx, env2, ws2) ∧ I0 s0 s1 s3 s4 s5 c ws (s + 1) env2 ws2 := by
  obtain ⟨_, ds, r, t7, rfl, hl⟩ := h
  have o1 : okLen ds.length = true := decide_eq_true (by omega)
  have o2 : okI 997 = true := okI_s (by decide)
  by_cases g : 0 < r
  · refine ⟨[s0, s1, .ow (.lst (ds.map .int)), s3, s4, s5, .va (.int r), .va (.int (0 + (k : Int)))], [s0, s1, .ow (.lst ((ds ++ [r % 997]).map .int)), s3, s4, s5, .va (.int (r / 997)), .va (.int (0 + (k : Int)))], ws, rfl, ?_, rfl, ds ++ [r % 997], r / 997, _, rfl, by simp; omega⟩
    rw [← app_len]
    simp! only [l__law_draws_0, decide_eq_true g, List.length_map, o1, o2]
  · refine ⟨[s0, s1, .ow (.lst (ds.map .int)), s3, s4, s5, .va (.int r), .va (.int (0 + (k : Int)))], _, ws, rfl, ?_, rfl, ds, r, .va (.int (0 + (k : Int))), rfl, by omega⟩
    simp! only [l__law_draws_0, decide_eq_false g]
theorem loopIn {s0 s1 s3 s4 s5 : Slot} {c : Nat} : ∀ (xs : List Nat) (s : Nat) (env : Env), c + s + xs.length ≤ 90000 → I0 s0 s1 s3 s4 s5 c ws s env ws →
    ∃ env2, forX (callO P n) (.nm 7) l__law_draws_0 (xs.map fun k : Nat => .int (0 + (k : Int))) env ws = some (.nx, env2, ws) ∧ I0 s0 s1 s3 s4 s5 c ws (s + xs.length) env2 ws
  | [], s, env, _, h => ⟨env, rfl, h⟩
  | x :: xs, s, env, hl, h => by
    rw [List.length_cons] at hl
    obtain ⟨env1, env2, ws2, h1, h2, h3⟩ := in36 n ws (k := x) (by omega) h
    have ew := h3.1
    rw [ew] at h2 h3
    obtain ⟨env3, g1, g2⟩ := loopIn xs (s + 1) env2 (by omega) h3
    refine ⟨env3, ?_, by rw [List.length_cons, show s + (xs.length + 1) = s + 1 + xs.length by omega]; exact g2⟩
    rw [List.map_cons, for_cons, h1]
    dsimp only
    rw [h2]
    exact g1
/-- outer walk -/
def I1 (s0 s1 : Slot) (c : Nat) (env : Env) : Prop := ∃ (ds : List Int) (m : Int) (t4 t5 t6 t7 : Slot), env = [s0, s1, .ow (.lst (ds.map .int)), .va (.int m), t4, t5, t6, t7] ∧ 0 ≤ m ∧ m < 65537 ∧ ds.length ≤ c
theorem ix_scr {ns : List Int} {k : Nat} (h : k < ns.length) : ixW ws (.scr ns) (.int (0 + (k : Int))) = some (.int (ns.getD k 0)) := by
  show (L2.atI ns (0 + (k : Int))).map D.int = _
  rw [atI_of (j := k) (x := ns.getD k 0) (by omega)]
  · rfl
  · rw [List.getD_eq_getElem?_getD, List.getElem?_eq_getElem h]
    rfl
theorem step36 {ns : List Int} {s1 : Slot} {c k : Nat} {env : Env} (hk : k < ns.length) (hc : c ≤ 80000) (h : I1 (.va (.scr ns)) s1 c env) :
    ∃ env1 env2, bindT env (.nm 4) (.int (0 + (k : Int))) = some env1 ∧ execs (callO P n) l__law_draws_1 env1 ws = some (.nx, env2, ws) ∧ I1 (.va (.scr ns)) s1 (c + 62) env2 := by
  obtain ⟨ds, m, t4, t5, t6, t7, rfl, h1, h2, hl⟩ := h
  have ix := ix_scr ws hk
  have o1 : okLen ds.length = true := decide_eq_true (by omega)
  have o1' : okLen (ds.length + 1) = true := decide_eq_true (by omega)
  have q1 := okI_m h1 h2
  have q2 : okI 48271 = true := okI_s (by decide)
  have q3 : okI 69621 = true := okI_s (by decide)
  let cell : Int := (ns.getD k 0).natAbs
  let m2 : Int := (m * 48271 + cell % 1000003 + (0 + (k : Int))) % 65537
  have m20 : 0 ≤ m2 := Int.emod_nonneg _ (by decide)
  have m21 : m2 < 65537 := Int.emod_lt_of_pos _ (by decide)
  have q4 := okI_m m20 m21
  have p1 : (10 : Int) ^ Int.toNat 18 = 1000000000000000000 := by decide
  have r60 : (List.range 60).length = 60 := by simp
  have t60 : Int.toNat 60 = 60 := rfl
  have na : Int.natAbs 10 = 10 := rfl
  have tn : Int.toNat 18 = 18 := rfl
  have p2 : (10 : Int) ^ 18 = 1000000000000000000 := by decide
  have e60 : (List.range 60).map (fun k : Nat => D.int (0 + (k : Int))) = (List.range (Int.toNat 60)).map (fun k : Nat => D.int (0 + (k : Int))) := rfl
  have m2e : (m * 48271 + cell % 1000003 + (0 + (k : Int))) % 65537 = m2 := rfl
  have ce : ((ns.getD k 0).natAbs : Int) = cell := rfl
  by_cases g : (1000000000000000000 : Int) ≤ cell
  · obtain ⟨env2, e, _, ds2, r, t, rfl, hl2⟩ := loopIn n ws (s0 := .va (.scr ns)) (s1 := s1) (s3 := .va (.int m2)) (s4 := .va (.int (0 + (k : Int)))) (s5 := .va (.int cell)) (c := ds.length) (List.range 60) 0 [.va (.scr ns), s1, .ow (.lst (ds.map .int)), .va (.int m2), .va (.int (0 + (k : Int))), .va (.int cell), .va (.int cell), t7] (by simp; omega)
      ⟨rfl, ds, cell, t7, rfl, by omega⟩
    refine ⟨[.va (.scr ns), s1, .ow (.lst (ds.map .int)), .va (.int m), .va (.int (0 + (k : Int))), t5, t6, t7], [.va (.scr ns), s1, .ow (.lst (ds2.map .int)), .va (.int m2), .va (.int (0 + (k : Int))), .va (.int cell), .va (.int r), t], rfl, ?_, ds2, m2, _, _, _, _, rfl, m20, m21, by simp at hl2; omega⟩
    simp! only [l__law_draws_1, ix, absI, ce, q1, q2, m2e, na, tn, p2, decide_eq_true g, t60, e]
  · obtain ⟨env2, e, _, ds2, r, t, rfl, hl2⟩ := loopIn n ws (s0 := .va (.scr ns)) (s1 := s1) (s3 := .va (.int m2)) (s4 := .va (.int (0 + (k : Int)))) (s5 := .va (.int cell)) (c := ds.length + 2) (List.range 60) 0 [.va (.scr ns), s1, .ow (.lst (((ds ++ [cell % 997]) ++ [(m2 * 69621 + 5) % 65521 % 997]).map .int)), .va (.int m2), .va (.int (0 + (k : Int))), .va (.int cell), .va (.int 0), t7] (by simp; omega)
      ⟨rfl, (ds ++ [cell % 997]) ++ [(m2 * 69621 + 5) % 65521 % 997], 0, t7, rfl, by simp⟩
    rw [← app_len, ← app_len] at e
    refine ⟨[.va (.scr ns), s1, .ow (.lst (ds.map .int)), .va (.int m), .va (.int (0 + (k : Int))), t5, t6, t7], [.va (.scr ns), s1, .ow (.lst (ds2.map .int)), .va (.int m2), .va (.int (0 + (k : Int))), .va (.int cell), .va (.int r), t], rfl, ?_, ds2, m2, _, _, _, _, rfl, m20, m21, by simp at hl2; omega⟩
    have o3 : okLen (List.map D.int ds).length = true := by rw [List.length_map]; exact o1
    have o4 : okLen (List.map D.int ds ++ [D.int (cell % 997)]).length = true := by rw [List.length_append, List.length_map]; exact o1'
    simp! only [l__law_draws_1, ix, absI, ce, q1, q2, q3, q4, m2e, na, tn, p2, decide_eq_false g, t60, o3, o4, e]
theorem out36 {ns : List Int} {s1 : Slot} : ∀ (xs : List Nat) (c : Nat) (env : Env), (∀ x ∈ xs, x < ns.length) → c + 62 * xs.length ≤ 80000 → I1 (.va (.scr ns)) s1 c env →
    ∃ env2, forX (callO P n) (.nm 4) l__law_draws_1 (xs.map fun k : Nat => .int (0 + (k : Int))) env ws = some (.nx, env2, ws) ∧ I1 (.va (.scr ns)) s1 (c + 62 * xs.length) env2
  | [], c, env, _, _, h => ⟨env, rfl, h⟩
  | x :: xs, c, env, hx, hl, h => by
    rw [List.length_cons] at hl
    obtain ⟨env1, env2, h1, h2, h3⟩ := step36 n ws (hx x List.mem_cons_self) (by omega) h
    obtain ⟨env3, g1, g2⟩ := out36 xs (c + 62) env2 (fun y hy => hx y (List.mem_cons_of_mem _ hy)) (by omega) h3
    refine ⟨env3, ?_, by rw [List.length_cons, show c + 62 * (xs.length + 1) = c + 62 + 62 * xs.length by omega]; exact g2⟩
    rw [List.map_cons, for_cons, h1]
    dsimp only
    rw [h2]
    exact g1
theorem last36 {s0 s1 : Slot} : ∀ (xs : List Nat) (c : Nat) (env : Env), c + xs.length ≤ 80000 → I1 s0 s1 c env →
    ∃ env2, forX (callO P n) (.nm 4) l__law_draws_2 (xs.map fun k : Nat => .int (0 + (k : Int))) env ws = some (.nx, env2, ws) ∧ I1 s0 s1 (c + xs.length) env2
  | [], c, env, _, h => ⟨env, rfl, h⟩
  | x :: xs, c, env, hl, h => by
    rw [List.length_cons] at hl
    obtain ⟨ds, m, t4, t5, t6, t7, rfl, h1, h2, h3⟩ := h
    let m2 : Int := (m * 16807 + (0 + (x : Int)) + 1) % 65537
    have m2e : (m * 16807 + (0 + (x : Int)) + 1) % 65537 = m2 := rfl
    have m20 : 0 ≤ m2 := Int.emod_nonneg _ (by decide)
    have m21 : m2 < 65537 := Int.emod_lt_of_pos _ (by decide)
    obtain ⟨env3, g1, g2⟩ := last36 (s0 := s0) (s1 := s1) xs (c + 1) [s0, s1, .ow (.lst ((ds ++ [m2 % 997]).map .int)), .va (.int m2), .va (.int (0 + (x : Int))), t5, t6, t7] (by omega) ⟨_, m2, _, _, _, _, rfl, m20, m21, by simp; omega⟩
    refine ⟨env3, ?_, by rw [List.length_cons, show c + (xs.length + 1) = c + 1 + xs.length by omega]; exact g2⟩
    have q1 := okI_m h1 h2
    have q2 : okI 16807 = true := okI_s (by decide)
    have o3 : okLen (List.map D.int ds).length = true := by rw [List.length_map]; exact decide_eq_true (by omega)
    rw [← app_len] at g1
    rw [List.map_cons, for_cons]
    simp! only [l__law_draws_2, q1, q2, m2e, o3]
    exact g1
theorem c__law_draws {ns : List Int} (h : ns.length ≤ 63) {mm : Nat} (hm : mm ≤ 2000) : ∃ ds : List Int, callO P (n + 1) 61 [.scr ns, .int mm] ws = some (.lst (ds.map .int), ws) := by
  obtain ⟨env2, e1, hI⟩ := out36 n ws (ns := ns) (s1 := .va (.int mm)) (List.range ns.length) 0 [.va (.scr ns), .va (.int mm), .ow (.lst []), .va (.int 7), .un, .un, .un, .un] (fun x hx => List.mem_range.mp hx) (by simp; omega) ⟨[], 7, _, _, _, _, rfl, by decide, by decide, Nat.le_refl _⟩
  obtain ⟨env3, e2, ds, m, t4, t5, t6, t7, rfl, _, _, _⟩ := last36 n ws (List.range mm) _ env2 (by simp; omega) hI
  have mm1 : (-100000 : Int) ≤ (mm : Int) := by omega
  have mm2 : (mm : Int) ≤ 100000 := by omega
  obtain ⟨ds0, m0, u4, u5, u6, u7, rfl, _, _, _⟩ := hI
  have o1 : (-100000 : Int) ≤ (ns.length : Int) := by omega
  have o2 : (ns.length : Int) ≤ 100000 := by omega
  have sl : ∃ ds' : List Int, slD (.lst (ds.map .int)) none (some (mm : Int)) = some (.lst (ds'.map .int)) := by
    refine ⟨(ds.drop (HT.sIx ds.length 0 none)).take (HT.sIx ds.length ds.length (some (mm : Int)) - HT.sIx ds.length 0 none), ?_⟩
    show some (D.lst (cutD (ds.map .int) none (some (mm : Int)))) = _
    unfold cutD
    rw [List.length_map, ← List.map_drop, ← List.map_take]
  obtain ⟨ds', sl⟩ := sl
  refine ⟨ds', ?_⟩
  rw [call_at (d := d__law_draws) rfl rfl]
  simp! only [d__law_draws, b__law_draws, decide_eq_true o1, decide_eq_true o2, decide_eq_true mm1, decide_eq_true mm2, Int.toNat_natCast, e1, e2, sl]
/-! next -/
theorem ix_li {ms : List Int} {k : Nat} {i : Int} (hi : i = (k : Int)) (h : k < ms.length) : ixW ws (.lst (ms.map .int)) (.int i) = some (.int (ms.getD k 0)) := by
  show L2.atI (ms.map D.int) i = _
  refine atI_of (j := k) hi ?_
  rw [List.getElem?_map, List.getElem?_eq_getElem h, List.getD_eq_getElem?_getD, List.getElem?_eq_getElem h]
  rfl
abbrev W (ds : List Int) (k : Int) : WS := some [(25, .lst (ds.map .int)), (24, .int k)]
theorem c__law_next (ds : List Int) {m k : Int} (hm : 0 < m) (hk : 0 ≤ k) : ∃ r : Int, 0 ≤ r ∧ r < m ∧ callO P (n + 1) 62 [.wd, .int m] (W ds k) = some (.int r, W ds (k + 1)) := by
  have o1 : okLen (0 + 1 + 1) = true := okLen_of (by decide)
  have o2 : (some (D.int k)).isSome = true := rfl
  by_cases g : (ds.length : Int) < k + 1
  · refine ⟨0, by omega, hm, ?_⟩
    rw [call_at (d := d__law_next) rfl rfl]
    simp! only [d__law_next, b__law_next, W, o1, o2, List.length_map, decide_eq_true g]
  · have ix := ix_li (some [(25, .lst (ds.map .int)), (24, .int (k + 1))]) (ms := ds) (k := k.toNat) (i := k + 1 - 1) (by omega) (by omega)
    refine ⟨ds.getD k.toNat 0 % m, Int.emod_nonneg _ (by omega), Int.emod_lt_of_pos _ hm, ?_⟩
    rw [call_at (d := d__law_next) rfl rfl]
    simp! only [d__law_next, b__law_next, W, o1, o2, List.length_map, decide_eq_false g, ix, decide_eq_true hm]
theorem c__law_pick (ds : List Int) {xs : List D} {k : Int} (hx : 0 < xs.length) (hk : 0 ≤ k) : ∃ x ∈ xs, callO P (n + 2) 63 [.wd, .lst xs] (W ds k) = some (x, W ds (k + 1)) := by
  obtain ⟨r, r1, r2, e⟩ := c__law_next n ds (m := xs.length) (by omega) hk
  have hr : r.toNat < xs.length := by omega
  have ix : ixW (W ds (k + 1)) (.lst xs) (.int r) = some xs[r.toNat] := by
    show L2.atI xs r = _
    exact atI_of (j := r.toNat) (by omega) (List.getElem?_eq_getElem hr)
  refine ⟨xs[r.toNat], List.getElem_mem hr, ?_⟩
  rw [call_at (d := d__law_pick) rfl rfl]
  simp! only [d__law_pick, b__law_pick, e, ix]
end Pv.K33


set_option Elab.async false
set_option linter.all false
set_option maxRecDepth 100000
set_option exponentiation.threshold 20
/-! Lr: rows by a law's own hand. -/
namespace Pv.K33
open Pv
local macro_rules
  | `(tactic| simp! only [$xs,*]) => `(tactic| simp only [ev.eq_1, ev.eq_2, ev.eq_3, ev.eq_4, ev.eq_5, ev.eq_6, ev.eq_7, ev.eq_8, ev.eq_9, ev.eq_10, ev.eq_11, ev.eq_12, ev.eq_13, ev.eq_14, ev.eq_15, ev.eq_16, ev.eq_17, ev.eq_18, ev.eq_19, ev.eq_20, ev.eq_21, ev.eq_22, ev.eq_23, ev.eq_24, ev.eq_25, ev.eq_26, ev.eq_27, ev.eq_28, ev.eq_29, ev.eq_30, ev.eq_35, evs, evT, exec.eq_1, exec.eq_2, exec.eq_3, exec.eq_4, exec.eq_5, exec.eq_6, exec.eq_7, exec.eq_8, exec.eq_9, exec.eq_10, exec.eq_11, exec.eq_12, exec.eq_13, exec.eq_14, exec.eq_15, exec.eq_16, exec.eq_19, exec.eq_20, exec.eq_21, exec.eq_22, exec.eq_23, execs, x_whl, x_for, x_comp, x_compIf, x_comp2, x_comp2If, bor, vi, mkEnv, eg, es, frzA, frzS, bn, bt, bq, bind_F, setAll, setAllT, bind1, setPar, wipeE, tgs, b_add, b_sub, b_mul, b_fdiv, b_mod, b_shl, b_shr, b_pow, b_tup, b_lst, o_lt, o_le, o_gt, o_ge, o_eqi, o_nei, o_neb, sl_a, sl_b, sl_bl, sl_c, cmp_nil, cmp_cons, cmpY_nil, cmpY_cons, ixW_3, ixL_0, ixL_1, ixL_2, ixL_3, btl, o_isb, o_eqs, o_nes, o_int, o_nit, isF_s, isF_i, deq_ss, deq_ii, List.all_cons, List.all_nil, List.any_cons, List.any_nil, Nat.reduceEqDiff, Int.reduceEq, u_len1, u_len2, u_len3, u_abs, u_int, u_intb, u_lst1, u_lst2, u_lst3, u_tup, u_max, u_min, s_int, s_bl, s_tup, s_lst, s_non, s_str, a_add, a_sub, i_tup, i_lst, r_bl, r_int, fin, chk_own, chk_some, isN, bnd, iN_non, iN_int, iN_bl, iN_str, iN_tup, iN_lst, iN_F, ixW_0, ixW_1, ixW_2, F_0, F_1, ixW_w, wg_1, wg_0, wp_0, List.map, List.length, List.replicate, List.cons_append, List.nil_append, List.append_nil, Nat.reduceSub, Nat.reduceAdd, Nat.sub_self, Nat.sub_zero, if_true, Bool.false_eq_true, if_false, reduceIte, ite_true, ite_false, Bool.and_self, Bool.and_true, Bool.true_and, Bool.not_true, Bool.not_false, Nat.reduceLT, Nat.reduceLeDiff, decide_true, decide_false, Int.reduceLT, Int.reduceLE, Int.reduceAdd, Int.reduceSub, Int.reduceNeg, Bool.or_true, Bool.or_false, Bool.true_or, Bool.false_or, Bool.and_false, Bool.false_and, $xs,*])
  | `(tactic| simp! only) => `(tactic| simp only [ev.eq_1, ev.eq_2, ev.eq_3, ev.eq_4, ev.eq_5, ev.eq_6, ev.eq_7, ev.eq_8, ev.eq_9, ev.eq_10, ev.eq_11, ev.eq_12, ev.eq_13, ev.eq_14, ev.eq_15, ev.eq_16, ev.eq_17, ev.eq_18, ev.eq_19, ev.eq_20, ev.eq_21, ev.eq_22, ev.eq_23, ev.eq_24, ev.eq_25, ev.eq_26, ev.eq_27, ev.eq_28, ev.eq_29, ev.eq_30, ev.eq_35, evs, evT, exec.eq_1, exec.eq_2, exec.eq_3, exec.eq_4, exec.eq_5, exec.eq_6, exec.eq_7, exec.eq_8, exec.eq_9, exec.eq_10, exec.eq_11, exec.eq_12, exec.eq_13, exec.eq_14, exec.eq_15, exec.eq_16, exec.eq_19, exec.eq_20, exec.eq_21, exec.eq_22, exec.eq_23, execs, x_whl, x_for, x_comp, x_compIf, x_comp2, x_comp2If, bor, vi, mkEnv, eg, es, frzA, frzS, bn, bt, bq, bind_F, setAll, setAllT, bind1, setPar, wipeE, tgs, b_add, b_sub, b_mul, b_fdiv, b_mod, b_shl, b_shr, b_pow, b_tup, b_lst, o_lt, o_le, o_gt, o_ge, o_eqi, o_nei, o_neb, sl_a, sl_b, sl_bl, sl_c, cmp_nil, cmp_cons, cmpY_nil, cmpY_cons, ixW_3, ixL_0, ixL_1, ixL_2, ixL_3, btl, o_isb, o_eqs, o_nes, o_int, o_nit, isF_s, isF_i, deq_ss, deq_ii, List.all_cons, List.all_nil, List.any_cons, List.any_nil, Nat.reduceEqDiff, Int.reduceEq, u_len1, u_len2, u_len3, u_abs, u_int, u_intb, u_lst1, u_lst2, u_lst3, u_tup, u_max, u_min, s_int, s_bl, s_tup, s_lst, s_non, s_str, a_add, a_sub, i_tup, i_lst, r_bl, r_int, fin, chk_own, chk_some, isN, bnd, iN_non, iN_int, iN_bl, iN_str, iN_tup, iN_lst, iN_F, ixW_0, ixW_1, ixW_2, F_0, F_1, ixW_w, wg_1, wg_0, wp_0, List.map, List.length, List.replicate, List.cons_append, List.nil_append, List.append_nil, Nat.reduceSub, Nat.reduceAdd, Nat.sub_self, Nat.sub_zero, if_true, Bool.false_eq_true, if_false, reduceIte, ite_true, ite_false, Bool.and_self, Bool.and_true, Bool.true_and, Bool.not_true, Bool.not_false, Nat.reduceLT, Nat.reduceLeDiff, decide_true, decide_false, Int.reduceLT, Int.reduceLE, Int.reduceAdd, Int.reduceSub, Int.reduceNeg, Bool.or_true, Bool.or_false, Bool.true_or, Bool.false_or, Bool.and_false, Bool.false_and])
variable (n : Nat) (ws : WS)
def sumF (s : Rat) (xs : List Rat) : Rat := xs.foldl (· + ·) s
theorem Z_sum {j : Nat} : ∀ {xs : List Rat} {s : Rat} {k : Nat}, Z k s → (∀ x ∈ xs, Z j x) → Z (k + xs.length * (j + 1)) (sumF s xs)
  | [], s, k, h, _ => by simpa [sumF] using h
  | x :: xs, s, k, h, hx => by
    have := Z_sum (xs := xs) (Z_add h (hx x List.mem_cons_self)) fun y hy => hx y (List.mem_cons_of_mem _ hy)
    rw [List.length_cons, Nat.add_mul]
    exact this.mono (by omega)
theorem loop_law_sum {L : D} {j : Nat} (hj : j ≤ 4000) : ∀ {xs : List Rat} {s : Rat} {k : Nat} {t u : Slot}, Z k s → (∀ x ∈ xs, Z j x) → k + xs.length * (j + 1) ≤ 4000 →
    ∃ t' u', forX (callO P (n + 1)) (.tp [3, 4]) l__law_sum_0 (xs.map F) [.va L, .va (.int s.num), .va (.int s.den), t, u] ws =
      some (.nx, [.va L, .va (.int (sumF s xs).num), .va (.int (sumF s xs).den), t', u'], ws)
  | [], s, k, t, u, h, _, _ => ⟨t, u, rfl⟩
  | x :: xs, s, k, t, u, h, hx, hl => by
    rw [List.length_cons, Nat.add_mul] at hl
    have hx0 := hx x List.mem_cons_self
    obtain ⟨t', u', e⟩ := loop_law_sum (L := L) hj (t := .va (.int x.num)) (u := .va (.int x.den)) (Z_add h hx0) (fun y hy => hx y (List.mem_cons_of_mem _ hy)) (by omega)
    refine ⟨t', u', ?_⟩
    have h1 := h.mono (by omega : k ≤ 4000)
    have h2 := hx0.mono hj
    rw [List.map_cons, for_cons]
    simp! only [l__law_sum_0, okZ1 h1, okZ2 h1, okZ1 h2, okZ2 h2]
    rw [c__law_least n _ _ ws (den_mul s x) (p3 (k := 0) (mul_lt (den_lt h1) (den_lt h2))), ← add_eq]
    simp! only
    exact e
theorem c__law_sum {xs : List Rat} {j : Nat} (hx : ∀ x ∈ xs, Z j x) (hj : j ≤ 4000) (hl : xs.length * (j + 1) ≤ 3999) : callO P (n + 2) 66 [.lst (xs.map F)] ws = some (F (sumF 0 xs), ws) := by
  obtain ⟨t, u, e⟩ := loop_law_sum n ws (L := .lst (xs.map F)) hj (t := .un) (u := .un) (k := 1) (s := 0) ⟨by decide, by decide⟩ hx (by omega)
  have e0 : (0 : Rat).num = 0 := rfl
  have e1 : (((0 : Rat).den : Nat) : Int) = 1 := rfl
  rw [e0, e1] at e
  rw [call_at (d := d__law_sum) rfl rfl]
  simp! only [d__law_sum, b__law_sum, e]
  rfl
theorem sum_cons (s x : Rat) (xs : List Rat) : sumF s (x :: xs) = sumF (s + x) xs := rfl
theorem sum_nil (s : Rat) : sumF s [] = s := rfl
theorem sum_app (s : Rat) (xs ys : List Rat) : sumF s (xs ++ ys) = sumF (sumF s xs) ys := by unfold sumF; rw [List.foldl_append]
theorem c_sum2 {p q : Rat} (hp : Z 1900 p) (hq : Z 1900 q) : callO P (n + 2) 66 [.lst [F p, F q]] ws = some (F (p + q), ws) := by
  have := c__law_sum n ws (xs := [p, q]) (j := 1900) (by simp; exact ⟨hp, hq⟩) (by decide) (by simp)
  rw [sum_cons, sum_cons, sum_nil, Rat.zero_add] at this
  exact this
theorem c_sum3 {p q r : Rat} (hp : Z 1200 p) (hq : Z 1200 q) (hr : Z 1200 r) : callO P (n + 2) 66 [.lst [F p, F q, F r]] ws = some (F (p + q + r), ws) := by
  have := c__law_sum n ws (xs := [p, q, r]) (j := 1200) (by simp; exact ⟨hp, hq, hr⟩) (by decide) (by simp)
  rw [sum_cons, sum_cons, sum_cons, sum_nil, Rat.zero_add] at this
  exact this
theorem c_sum4 {p q r t : Rat} (hp : Z 900 p) (hq : Z 900 q) (hr : Z 900 r) (ht : Z 900 t) : callO P (n + 2) 66 [.lst [F p, F q, F r, F t]] ws = some (F (p + q + r + t), ws) := by
  have := c__law_sum n ws (xs := [p, q, r, t]) (j := 900) (by simp; exact ⟨hp, hq, hr, ht⟩) (by decide) (by simp)
  rw [sum_cons, sum_cons, sum_cons, sum_cons, sum_nil, Rat.zero_add] at this
  exact this
theorem not_lt_le (p q : Rat) : (!decide (p < q)) = decide (q ≤ p) := by
  by_cases c : p < q
  · rw [decide_eq_true c, decide_eq_false (by grind)]; rfl
  · rw [decide_eq_false c, decide_eq_true (by grind)]; rfl
theorem c__law_big {a : Sn} (ha : ZS 4000 a) : callO P (n + 3) 77 [SD a] ws = some (F (bigS a), ws) := by
  rw [call_at (d := d__law_big) rfl rfl]
  simp! only [d__law_big, b__law_big, c__law_size (n + 1), c__law_more n ws (Z_ab ha.l) (Z_ab ha.h), bigS]
theorem c__law_small {a : Sn} (ha : ZS 4000 a) : callO P (n + 3) 78 [SD a] ws = some (F (smlS a), ws) := by
  rw [call_at (d := d__law_small) rfl rfl]
  by_cases h1 : a.l.num ≤ 0
  · by_cases h2 : 0 ≤ a.h.num
    · simp! only [d__law_small, b__law_small, decide_eq_true h1, decide_eq_true h2, F_0', smlS, has0]
    · simp! only [d__law_small, b__law_small, decide_eq_true h1, decide_eq_false h2, c__law_size (n + 1), c__law_fewer n ws (Z_ab ha.l) (Z_ab ha.h), smlS, has0]
  · simp! only [d__law_small, b__law_small, decide_eq_false h1, c__law_size (n + 1), c__law_fewer n ws (Z_ab ha.l) (Z_ab ha.h), smlS, has0]
theorem loop_unit {x : Fo} (hx : OkFo x) {q : Rat} {b : Nat} (hq : Z b q) (hb : b ≤ 1500) (h0 : 0 ≤ q) : ∀ (j : Nat) (p : Int) (m : Nat), x.f ≤ p → p ≤ un x q → un x q - p ≤ j → j + 1 ≤ m →
    whlX (callO P (n + 1)) t__law_unit_0 l__law_unit_1 m [.va (FO x), .va (F q), .va (.int p)] ws = some (.nx, [.va (FO x), .va (F q), .va (.int (un x q))], ws)
  | j, p, m, h1, h2, h3, hm => by
    obtain ⟨m, rfl⟩ : ∃ i, m = i + 1 := ⟨m - 1, by omega⟩
    have ub := un_bd hx hq
    have d1 := hx.d1
    have d2 := hx.d2
    have f1 := hx.f1
    have e1 := c__law_two n ws (e := x.d + p) (by omega) (by omega)
    have e2 := c__law_less n ws (hq.mono (show b ≤ 4000 by omega)) ((Z_pw (e := x.d + p) (m := 2900) (by omega) (by omega)).mono (show _ ≤ 4000 by decide))
    by_cases c : p = un x q
    · subst c
      have hlt : q < pw (x.d + un x q) := by
        by_cases z : q.num = 0
        · rw [(num_z q).mp z]; exact pw_pos _
        · have := (un_hi (x := x) z).1
          rw [ab_of h0] at this
          exact this
      refine whl_stop ?_
      simp! only [t__law_unit_0, e1, e2, decide_eq_true hlt]
    · have hge : ¬ q < pw (x.d + p) := by
        have z : q.num ≠ 0 := fun z => c (by unfold un at h2 ⊢; rw [if_pos z] at h2 ⊢; omega)
        rcases (un_hi (x := x) z).2.1 with u | u
        · omega
        · rw [ab_of h0] at u
          have := pw_mono (show x.d + p ≤ x.d + un x q - 1 by omega)
          grind
      obtain ⟨j, rfl⟩ : ∃ i, j = i + 1 := ⟨j - 1, by omega⟩
      have ih := loop_unit hx hq hb h0 j (p + 1) m (by omega) (by omega) (by omega) (by omega)
      rw [whl_go (ws1 := ws) (ws2 := ws) (env2 := [.va (FO x), .va (F q), .va (.int (p + 1))])]
      · exact ih
      · simp! only [t__law_unit_0, e1, e2, decide_eq_false hge]
      · simp! only [l__law_unit_1]
theorem c__law_unit {x : Fo} (hx : OkFo x) {q : Rat} {b : Nat} (hq : Z b q) (hb : b ≤ 1500) (h0 : 0 ≤ q) : callO P (n + 2) 79 [FO x, F q] ws = some (.int (un x q), ws) := by
  have ub := un_bd hx hq
  have := hx.f1
  have e := loop_unit n ws hx hq hb h0 5000 x.f fuel (by omega) (by omega) (by omega) (by unfold fuel; omega)
  rw [call_at (d := d__law_unit) rfl rfl]
  simp! only [d__law_unit, b__law_unit, e]
theorem half_pw : Rat.divInt 1 2 = pw (-1) := rfl
theorem ebd_pw (x : Fo) (y : Nat) (q : Rat) : ebd x y q = pw (un x q - (if near y = true then 1 else 0)) := by
  unfold ebd
  split
  · rw [half_pw, ← pw_add]
    congr 1
    omega
  · rw [Rat.one_mul, Int.sub_zero]
theorem c__law_bound {x : Fo} (hx : OkFo x) {y : Nat} (hy : isWay y) {q : Rat} {b : Nat} (hq : Z b q) (hb : b ≤ 1500) (h0 : 0 ≤ q) : callO P (n + 3) 80 [FO x, .str y, F q] ws = some (F (ebd x y q), ws) := by
  have ub := un_bd hx hq
  have e1 := c__law_unit n ws hx hq hb h0
  have e2 := c__law_two (n + 1) ws (e := un x q - 1) (by omega) (by omega)
  have e3 := c__law_two (n + 1) ws (e := un x q - 0) (by omega) (by omega)
  rw [ebd_pw, call_at (d := d__law_bound) rfl rfl]
  rcases hy with rfl | rfl | rfl | rfl | rfl
  · simp! only [d__law_bound, b__law_bound, e1, e2, near, true_or]
  · simp! only [d__law_bound, b__law_bound, e1, e2, near, or_true]
  · simp! only [d__law_bound, b__law_bound, e1, e3, near, or_self]
  · simp! only [d__law_bound, b__law_bound, e1, e3, near, or_self]
  · simp! only [d__law_bound, b__law_bound, e1, e3, near, or_self]
theorem top_mul (x : Fo) : top x = rI (fullW x) * pw x.g := by unfold top vN; rw [if_neg (by decide)]
theorem c__law_reached {x : Fo} (h : OkFo x) {q : Rat} (hq : Z 4000 q) : callO P (n + 3) 81 [FO x, F q] ws = some (.bl (decide (q ≤ top x)), ws) := by
  have d0 : 0 ≤ x.d := by have := h.d1; omega
  have d2 : x.d ≤ 100000 := by have := h.d2; omega
  have g1 : -1000 ≤ x.g := by have := h.f1; have := h.fg; omega
  have g2 := h.g2
  have e1 := c__law_two (n + 1) ws (e := x.g) (by omega) (by omega)
  have e2 := c__law_mul n ws ((Z_rI (fullW_lt h) (by decide)).mono (show 201 ≤ 4000 by decide)) ((Z_pw (e := x.g) (m := 1000) (by omega) (by omega)).mono (show _ ≤ 4000 by decide))
  rw [← top_mul] at e2
  have e3 := c__law_less (n + 1) ws ((Z_full h).mono (show 1300 ≤ 4000 by decide)) hq
  have e3' : callO P (n + 2) 69 [F (top x), F q] ws = some (.bl (decide (top x < q)), ws) := e3
  have eF : D.tup [.int (2 ^ x.d.toNat - 1), .int 1] = F (rI (fullW x)) := F_rI _
  rw [call_at (d := d__law_reached) rfl rfl]
  simp! only [d__law_reached, b__law_reached, decide_eq_true d0, decide_eq_true d2, Int.natAbs_one, Int.one_mul, eF, e1, e2, e3', not_lt_le]
theorem loop_corn {L : D} : ∀ {qs : List Rat} {s : Sn} {t : Slot}, ZS 4000 s → (∀ q ∈ qs, Z 4000 q) →
    ∃ t', forX (callO P (n + 2)) (.nm 1) l__law_corners_0 (qs.map F) [.va L, t, .va (F s.l), .va (F s.h)] ws = some (.nx, [.va L, t', .va (F (qs.foldl (fun s q => ⟨mn s.l q, mx s.h q⟩) s).l), .va (F (qs.foldl (fun s q => ⟨mn s.l q, mx s.h q⟩) s).h)], ws)
  | [], s, t, _, _ => ⟨t, rfl⟩
  | q :: qs, s, t, h, hq => by
    have h0 := hq q List.mem_cons_self
    obtain ⟨t', e⟩ := loop_corn (L := L) (qs := qs) (s := ⟨mn s.l q, mx s.h q⟩) (t := .va (F q)) ⟨Z_mn h.l h0, Z_mx h.h h0⟩ fun p hp => hq p (List.mem_cons_of_mem _ hp)
    refine ⟨t', ?_⟩
    rw [List.map_cons, for_cons]
    simp! only [l__law_corners_0, c__law_fewer n ws h.l h0, c__law_more n ws h.h h0]
    exact e
theorem c__law_corners {q : Rat} {qs : List Rat} (h : Z 4000 q) (hq : ∀ q ∈ qs, Z 4000 q) : callO P (n + 3) 82 [.lst (F q :: qs.map F)] ws = some (SD (hullL q qs), ws) := by
  obtain ⟨t, e⟩ := loop_corn n ws (L := .lst (F q :: qs.map F)) (t := .un) (s := ⟨q, q⟩) ⟨h, h⟩ hq
  rw [call_at (d := d__law_corners) rfl rfl]
  simp! only [d__law_corners, b__law_corners, e, hullL]
theorem r4 : (List.range (Int.toNat 4)).map (fun k : Nat => D.int (0 + (k : Int))) = [.int 0, .int 1, .int 2, .int 3] := rfl
theorem c__law_spanned (k : Kd) {a b c : Sn} {i : Nat} (ha : ZS i a) (hb : ZS i b) (hc : ZS i c) (hi : i + i ≤ 1800) (o : b.l ≤ b.h) : callO P (n + 5) 84 [.str k.s, .lst ((pts k a b c).map SD)] ws = some (OD (spanK k a b c), ws) := by
  have a4 := ha.mono (show i ≤ 4000 by omega)
  have b4 := hb.mono (show i ≤ 4000 by omega)
  have a9 := ha.mono (show i ≤ 1900 by omega)
  have b9 := hb.mono (show i ≤ 1900 by omega)
  have c9 := hc.mono (show i ≤ 1900 by omega)
  have n1 := c__law_off (n + 3) ws
  have e2 := c__law_big (n + 1) ws a4
  have e3 := c__law_small (n + 1) ws a4
  have s1 := c_sum2 (n + 2) ws a9.l b9.l
  have s2 := c_sum2 (n + 2) ws a9.h b9.h
  have s3 := c_sum2 (n + 2) ws a9.l (Z_neg b9.h)
  have s4 := c_sum2 (n + 2) ws a9.h (Z_neg b9.l)
  have f1 := c__law_fewer (n + 2) ws a4.l b4.l
  have f2 := c__law_fewer (n + 2) ws a4.h b4.h
  have m1 := c__law_more (n + 2) ws a4.l b4.l
  have m2 := c__law_more (n + 2) ws a4.h b4.h
  have p1 := c__law_mul (n + 2) ws a4.l b4.l
  have p2 := c__law_mul (n + 2) ws a4.l b4.h
  have p3 := c__law_mul (n + 2) ws a4.h b4.l
  have p4 := c__law_mul (n + 2) ws a4.h b4.h
  have zm := ZS_mul ha hb
  have cm : callO P (n + 4) 82 [.lst [F (a.l * b.l), F (a.l * b.h), F (a.h * b.l), F (a.h * b.h)]] ws = some (SD (mulS a b), ws) :=
    c__law_corners (n + 1) ws (q := a.l * b.l) (qs := mulL a b) ((Z_mul ha.l hb.l).mono (by omega)) fun q hq => by
      simp only [mulL, List.mem_cons, List.not_mem_nil, or_false] at hq
      rcases hq with rfl | rfl | rfl
      · exact (Z_mul ha.l hb.h).mono (by omega)
      · exact (Z_mul ha.h hb.l).mono (by omega)
      · exact (Z_mul ha.h hb.h).mono (by omega)
  have s5 := c_sum2 (n + 2) ws (zm.l.mono (show _ ≤ 1900 by omega)) c9.l
  have s6 := c_sum2 (n + 2) ws (zm.h.mono (show _ ≤ 1900 by omega)) c9.h
  have o4 : okLen 4 = true := okLen_of (by decide)
  have r4' : List.length [D.int 0, D.int 1, D.int 2, D.int 3] = 4 := rfl
  have k2 : okI 2 = true := okI_s (by decide)
  rw [call_at (d := d__law_spanned) rfl rfl]
  cases k
  case over =>
    by_cases h1 : b.l.num ≤ 0
    · by_cases h2 : 0 ≤ b.h.num
      · simp! only [d__law_spanned, b__law_spanned, ixL_n1, ixL_n2, pts, Kd.s, decide_eq_true h1, decide_eq_true h2, spanK, ovrS, has0, OD]
      · have hn : has0 b = false := by unfold has0; rw [decide_eq_true h1, decide_eq_false h2]; rfl
        have nz := num_ne hn o
        have u1 := c__law_under (n + 2) ws a4.l b4.l nz.1
        have u2 := c__law_under (n + 2) ws a4.l b4.h nz.2
        have u3 := c__law_under (n + 2) ws a4.h b4.l nz.1
        have u4 := c__law_under (n + 2) ws a4.h b4.h nz.2
        have cq : callO P (n + 4) 82 [.lst [F (a.l / b.l), F (a.l / b.h), F (a.h / b.l), F (a.h / b.h)]] ws = some (SD (quoS a b), ws) :=
          c__law_corners (n + 1) ws (q := a.l / b.l) (qs := quoL a b) ((Z_quo ha.l hb.l nz.1).mono (by omega)) fun q hq => by
            simp only [quoL, List.mem_cons, List.not_mem_nil, or_false] at hq
            rcases hq with rfl | rfl | rfl
            · exact (Z_quo ha.l hb.h nz.2).mono (by omega)
            · exact (Z_quo ha.h hb.l nz.1).mono (by omega)
            · exact (Z_quo ha.h hb.h nz.2).mono (by omega)
        simp! only [d__law_spanned, b__law_spanned, x__law_spanned_0, ixL_n1, ixL_n2, pts, Kd.s, decide_eq_true h1, decide_eq_false h2, r4, o4, k2, Int.reduceDiv, Int.reduceMod, u1, u2, u3, u4, cq, spanK, ovrS, hn, OD]
    · have hn : has0 b = false := by unfold has0; rw [decide_eq_false h1]; rfl
      have nz := num_ne hn o
      have u1 := c__law_under (n + 2) ws a4.l b4.l nz.1
      have u2 := c__law_under (n + 2) ws a4.l b4.h nz.2
      have u3 := c__law_under (n + 2) ws a4.h b4.l nz.1
      have u4 := c__law_under (n + 2) ws a4.h b4.h nz.2
      have cq : callO P (n + 4) 82 [.lst [F (a.l / b.l), F (a.l / b.h), F (a.h / b.l), F (a.h / b.h)]] ws = some (SD (quoS a b), ws) :=
        c__law_corners (n + 1) ws (q := a.l / b.l) (qs := quoL a b) ((Z_quo ha.l hb.l nz.1).mono (by omega)) fun q hq => by
          simp only [quoL, List.mem_cons, List.not_mem_nil, or_false] at hq
          rcases hq with rfl | rfl | rfl
          · exact (Z_quo ha.l hb.h nz.2).mono (by omega)
          · exact (Z_quo ha.h hb.l nz.1).mono (by omega)
          · exact (Z_quo ha.h hb.h nz.2).mono (by omega)
      simp! only [d__law_spanned, b__law_spanned, x__law_spanned_0, ixL_n1, ixL_n2, pts, Kd.s, decide_eq_false h1, r4, o4, k2, Int.reduceDiv, Int.reduceMod, u1, u2, u3, u4, cq, spanK, ovrS, hn, OD]
  all_goals simp! only [d__law_spanned, b__law_spanned, x__law_spanned_1, ixL_n1, ixL_n2, pts, Kd.s, n1, e2, e3, s1, s2, s3, s4, f1, f2, m1, m2, r4, o4, k2, Int.reduceDiv, Int.reduceMod, p1, p2, p3, p4, cm, s5, s6, spanK, negS, sizS, addS, leaS, mosS, OD]
end Pv.K33


set_option Elab.async false
set_option linter.all false
set_option maxRecDepth 100000
set_option exponentiation.threshold 20
/-! Lr2: rows by a law's own hand, further. -/
namespace Pv.K33
open Pv
local macro_rules
  | `(tactic| simp! only [$xs,*]) => `(tactic| simp only [ev.eq_1, ev.eq_2, ev.eq_3, ev.eq_4, ev.eq_5, ev.eq_6, ev.eq_7, ev.eq_8, ev.eq_9, ev.eq_10, ev.eq_11, ev.eq_12, ev.eq_13, ev.eq_14, ev.eq_15, ev.eq_16, ev.eq_17, ev.eq_18, ev.eq_19, ev.eq_20, ev.eq_21, ev.eq_22, ev.eq_23, ev.eq_24, ev.eq_25, ev.eq_26, ev.eq_27, ev.eq_28, ev.eq_29, ev.eq_30, ev.eq_35, evs, evT, exec.eq_1, exec.eq_2, exec.eq_3, exec.eq_4, exec.eq_5, exec.eq_6, exec.eq_7, exec.eq_8, exec.eq_9, exec.eq_10, exec.eq_11, exec.eq_12, exec.eq_13, exec.eq_14, exec.eq_15, exec.eq_16, exec.eq_19, exec.eq_20, exec.eq_21, exec.eq_22, exec.eq_23, execs, x_whl, x_for, x_comp, x_compIf, x_comp2, x_comp2If, bor, vi, mkEnv, eg, es, frzA, frzS, bn, bt, bq, bind_F, setAll, setAllT, bind1, setPar, wipeE, tgs, b_add, b_sub, b_mul, b_fdiv, b_mod, b_shl, b_shr, b_pow, b_tup, b_lst, o_lt, o_le, o_gt, o_ge, o_eqi, o_nei, o_neb, sl_a, sl_b, sl_bl, sl_c, cmp_nil, cmp_cons, cmpY_nil, cmpY_cons, ixW_3, ixL_0, ixL_1, ixL_2, ixL_3, btl, o_isb, o_eqs, o_nes, o_int, o_nit, isF_s, isF_i, deq_ss, deq_ii, List.all_cons, List.all_nil, List.any_cons, List.any_nil, Nat.reduceEqDiff, Int.reduceEq, u_len1, u_len2, u_len3, u_abs, u_int, u_intb, u_lst1, u_lst2, u_lst3, u_tup, u_max, u_min, s_int, s_bl, s_tup, s_lst, s_non, s_str, a_add, a_sub, i_tup, i_lst, r_bl, r_int, fin, chk_own, chk_some, isN, bnd, iN_non, iN_int, iN_bl, iN_str, iN_tup, iN_lst, iN_F, ixW_0, ixW_1, ixW_2, F_0, F_1, ixW_w, wg_1, wg_0, wp_0, List.map, List.length, List.replicate, List.cons_append, List.nil_append, List.append_nil, Nat.reduceSub, Nat.reduceAdd, Nat.sub_self, Nat.sub_zero, if_true, Bool.false_eq_true, if_false, reduceIte, ite_true, ite_false, Bool.and_self, Bool.and_true, Bool.true_and, Bool.not_true, Bool.not_false, Nat.reduceLT, Nat.reduceLeDiff, decide_true, decide_false, Int.reduceLT, Int.reduceLE, Int.reduceAdd, Int.reduceSub, Int.reduceNeg, Bool.or_true, Bool.or_false, Bool.true_or, Bool.false_or, Bool.and_false, Bool.false_and, $xs,*])
  | `(tactic| simp! only) => `(tactic| simp only [ev.eq_1, ev.eq_2, ev.eq_3, ev.eq_4, ev.eq_5, ev.eq_6, ev.eq_7, ev.eq_8, ev.eq_9, ev.eq_10, ev.eq_11, ev.eq_12, ev.eq_13, ev.eq_14, ev.eq_15, ev.eq_16, ev.eq_17, ev.eq_18, ev.eq_19, ev.eq_20, ev.eq_21, ev.eq_22, ev.eq_23, ev.eq_24, ev.eq_25, ev.eq_26, ev.eq_27, ev.eq_28, ev.eq_29, ev.eq_30, ev.eq_35, evs, evT, exec.eq_1, exec.eq_2, exec.eq_3, exec.eq_4, exec.eq_5, exec.eq_6, exec.eq_7, exec.eq_8, exec.eq_9, exec.eq_10, exec.eq_11, exec.eq_12, exec.eq_13, exec.eq_14, exec.eq_15, exec.eq_16, exec.eq_19, exec.eq_20, exec.eq_21, exec.eq_22, exec.eq_23, execs, x_whl, x_for, x_comp, x_compIf, x_comp2, x_comp2If, bor, vi, mkEnv, eg, es, frzA, frzS, bn, bt, bq, bind_F, setAll, setAllT, bind1, setPar, wipeE, tgs, b_add, b_sub, b_mul, b_fdiv, b_mod, b_shl, b_shr, b_pow, b_tup, b_lst, o_lt, o_le, o_gt, o_ge, o_eqi, o_nei, o_neb, sl_a, sl_b, sl_bl, sl_c, cmp_nil, cmp_cons, cmpY_nil, cmpY_cons, ixW_3, ixL_0, ixL_1, ixL_2, ixL_3, btl, o_isb, o_eqs, o_nes, o_int, o_nit, isF_s, isF_i, deq_ss, deq_ii, List.all_cons, List.all_nil, List.any_cons, List.any_nil, Nat.reduceEqDiff, Int.reduceEq, u_len1, u_len2, u_len3, u_abs, u_int, u_intb, u_lst1, u_lst2, u_lst3, u_tup, u_max, u_min, s_int, s_bl, s_tup, s_lst, s_non, s_str, a_add, a_sub, i_tup, i_lst, r_bl, r_int, fin, chk_own, chk_some, isN, bnd, iN_non, iN_int, iN_bl, iN_str, iN_tup, iN_lst, iN_F, ixW_0, ixW_1, ixW_2, F_0, F_1, ixW_w, wg_1, wg_0, wp_0, List.map, List.length, List.replicate, List.cons_append, List.nil_append, List.append_nil, Nat.reduceSub, Nat.reduceAdd, Nat.sub_self, Nat.sub_zero, if_true, Bool.false_eq_true, if_false, reduceIte, ite_true, ite_false, Bool.and_self, Bool.and_true, Bool.true_and, Bool.not_true, Bool.not_false, Nat.reduceLT, Nat.reduceLeDiff, decide_true, decide_false, Int.reduceLT, Int.reduceLE, Int.reduceAdd, Int.reduceSub, Int.reduceNeg, Bool.or_true, Bool.or_false, Bool.true_or, Bool.false_or, Bool.and_false, Bool.false_and])
variable (n : Nat) (ws : WS)
theorem pass_alt (a b : Rw) : bigS a.s * b.e + (bigS b.s + b.e) * a.e = bigS a.s * b.e + bigS b.s * a.e + a.e * b.e := by grind
theorem c__law_passed {k : Kd} (hk : isRd k) {a b c : Rw} {s : Sn} {i j : Nat} (ha : ZR i a) (hb : ZR i b) (hc : ZR i c) (hs : ZS j s) (hi : 1 ≤ i) (hi2 : i ≤ 300) (hj : j ≤ 1000) :
    callO P (n + 4) 85 [.str k.s, .lst ((pts k a b c).map RD), SD s] ws = some (OQ (passK k a b c s), ws) := by
  have a4 := ha.mono (show i ≤ 4000 by omega)
  have b4 := hb.mono (show i ≤ 4000 by omega)
  have a8 := ha.mono (show i ≤ 800 by omega)
  have b8 := hb.mono (show i ≤ 800 by omega)
  have c8 := hc.mono (show i ≤ 800 by omega)
  have s4 := hs.mono (show j ≤ 4000 by omega)
  have s1 := c_sum2 (n + 1) ws (a8.e.mono (by decide)) (b8.e.mono (by decide))
  have m1 := c__law_big n ws a4.s
  have m2 := c__law_big n ws b4.s
  have m3 := c__law_big n ws s4
  have l1 := c__law_small n ws b4.s
  have n1 := c__law_off (n + 2) ws b.e
  have s2 := c_sum2 (n + 1) ws ((Z_sml b8.s (by decide)).mono (by decide)) ((Z_neg b8.e).mono (by decide))
  rw [← Rat.sub_eq_add_neg] at s2
  have p1 := c__law_mul (n + 1) ws (Z_big a4.s) b4.e
  have p2 := c__law_mul (n + 1) ws (Z_big b4.s) a4.e
  have p3 := c__law_mul (n + 1) ws a4.e b4.e
  have p4 := c__law_mul (n + 1) ws (Z_big s4) b4.e
  have z1 := (Z_mul (Z_big ha.s) hb.e).mono (show i + i ≤ 900 by omega)
  have z2 := (Z_mul (Z_big hb.s) ha.e).mono (show i + i ≤ 900 by omega)
  have z3 := (Z_mul ha.e hb.e).mono (show i + i ≤ 900 by omega)
  have z4 := (Z_mul (Z_big hs) hb.e).mono (show j + i ≤ 1900 by omega)
  have s3 := c_sum3 (n + 1) ws (z1.mono (by decide)) (z2.mono (by decide)) (z3.mono (by decide))
  have s5 := c_sum4 (n + 1) ws z1 z2 z3 (c8.e.mono (by decide))
  have s6 := c_sum2 (n + 1) ws (a8.e.mono (by decide)) z4
  have o3 : okLen (0 + 1 + 1 + 1 + 0) = true := okLen_of (by decide)
  have o3' : okLen 3 = true := okLen_of (by decide)
  have o4 : okLen 4 = true := okLen_of (by decide)
  rw [call_at (d := d__law_passed) rfl rfl]
  cases hk
  · simp! only [d__law_passed, b__law_passed, pts, Kd.s, s1, passK, OQ]
  · simp! only [d__law_passed, b__law_passed, pts, Kd.s, s1, passK, OQ]
  · simp! only [d__law_passed, b__law_passed, pts, Kd.s, m1, m2, p1, p2, p3, o3', Nat.add_zero, s3, passK, pass_alt, OQ]
  · by_cases h : (smlS b.s - b.e).num ≤ 0
    · have h' : ¬ 0 < (smlS b.s - b.e).num := by omega
      simp! only [d__law_passed, b__law_passed, pts, Kd.s, l1, n1, s2, decide_eq_false h', passK, if_pos h, OQ]
    · have h' : 0 < (smlS b.s - b.e).num := by omega
      have u1 := c__law_under (n + 1) ws (p := a.e + bigS s * b.e) (q := smlS b.s - b.e) ((Z_add a8.e z4).mono (by decide)) ((Z_sub (Z_sml b8.s (by decide)) b8.e).mono (by decide)) (by omega)
      simp! only [d__law_passed, b__law_passed, pts, Kd.s, l1, n1, s2, decide_eq_true h', m3, p4, s6, u1, passK, if_neg h, OQ]
  · simp! only [d__law_passed, b__law_passed, pts, Kd.s, m1, m2, p1, p2, p3, o4, s5, passK, pass_alt, OQ]
theorem c__law_raw {k : Kd} (hk : isRd k) (a b c : Rw) : callO P (n + 1) 86 [.str k.s, .lst ((pts k a b c).map RD)] ws = some (OI (rawK k a b c), ws) := by
  have o2 : okLen 2 = true := okLen_of (by decide)
  have o3 : okLen 3 = true := okLen_of (by decide)
  rw [call_at (d := d__law_raw) rfl rfl]
  cases hk <;> simp! only [d__law_raw, b__law_raw, x__law_raw_0, u_minL2, pts, o2, o3, Kd.s, rawK, OI, mnI]
theorem c__law_wide {a : Rw} (ha : ZR 1900 a) : callO P (n + 3) 87 [RD a] ws = some (SD (wideR a), ws) := by
  have s1 := c_sum2 n ws ha.s.l (Z_neg ha.e)
  have s2 := c_sum2 n ws ha.s.h ha.e
  rw [← Rat.sub_eq_add_neg] at s1
  rw [call_at (d := d__law_wide) rfl rfl]
  simp! only [d__law_wide, b__law_wide, c__law_off (n + 1) ws, s1, s2, wideR, widS]
theorem c__law_near {a b : Sn} {i j : Nat} (ha : ZS i a) (hb : ZS j b) (hi : i ≤ 3900) (hj : j ≤ 3900) : callO P (n + 4) 88 [SD a, SD b] ws = some (.bl (nearS a b), ws) := by
  have a4 := ha.mono (show i ≤ 4000 by omega)
  have b4 := hb.mono (show j ≤ 4000 by omega)
  have e1 := c__law_big n ws a4
  have e2 := c__law_big n ws b4
  have e3 := c__law_small n ws a4
  have e4 := c__law_small n ws b4
  have e5 := c__law_mul (n + 1) ws (Z_two.mono (by decide)) (Z_sml a4 (by decide))
  have e6 := c__law_mul (n + 1) ws (Z_two.mono (by decide)) (Z_sml b4 (by decide))
  have z5 := Z_mul Z_two (Z_sml (ha.mono hi) (by decide))
  have z6 := Z_mul Z_two (Z_sml (hb.mono hj) (by decide))
  have e7 := c__law_less (n + 2) ws (z6.mono (show _ ≤ 4000 by decide)) (Z_big a4)
  have e8 := c__law_less (n + 2) ws (z5.mono (show _ ≤ 4000 by decide)) (Z_big b4)
  have h0 : ∀ s : Sn, has0 s = (decide (s.l.num ≤ 0) && decide (0 ≤ s.h.num)) := fun _ => rfl
  rw [call_at (d := d__law_near) rfl rfl]
  have c1 : ∀ s : Sn, (has0 s = true ∧ s.l.num ≤ 0 ∧ 0 ≤ s.h.num) ∨ (has0 s = false ∧ s.l.num ≤ 0 ∧ ¬ 0 ≤ s.h.num) ∨ (has0 s = false ∧ ¬ s.l.num ≤ 0) := fun s => by
    rw [h0]
    by_cases p : s.l.num ≤ 0 <;> by_cases q : 0 ≤ s.h.num <;> simp [p, q]
  rcases c1 a with ⟨p1, p2, p3⟩ | ⟨p1, p2, p3⟩ | ⟨p1, p2⟩
  · simp! only [d__law_near, b__law_near, decide_eq_true p2, decide_eq_true p3, nearS, p1, true_or]
  all_goals rcases c1 b with ⟨q1, q2, q3⟩ | ⟨q1, q2, q3⟩ | ⟨q1, q2⟩
  · simp! only [d__law_near, b__law_near, decide_eq_true p2, decide_eq_false p3, decide_eq_true q2, decide_eq_true q3, nearS, q1, true_or, or_true]
  · have r1 : ¬ 0 < a.l.num := by omega
    have r2 : ¬ 0 < b.l.num := by omega
    by_cases s1 : bigS a ≤ 2 * smlS b <;> simp! only [d__law_near, b__law_near, decide_eq_true p2, decide_eq_false p3, decide_eq_true q2, decide_eq_false q3, decide_eq_false r1, decide_eq_false r2, beq_self_eq_true, e1, e2, e3, e4, F_two, e5, e6, e7, e8, not_lt_le, nearS, p1, q1, ne_eq, not_true, or_false, s1]
  · have r1 : ¬ 0 < a.l.num := by omega
    have r2 : 0 < b.l.num := by omega
    simp! only [d__law_near, b__law_near, decide_eq_true p2, decide_eq_false p3, decide_eq_false q2, decide_eq_false r1, decide_eq_true r2, show (false == true) = false from rfl, nearS, ne_eq, not_false_iff, or_true, Bool.not_eq_true, reduceCtorEq]
  · simp! only [d__law_near, b__law_near, decide_eq_false p2, decide_eq_true q2, decide_eq_true q3, nearS, q1, true_or, or_true]
  · have r1 : 0 < a.l.num := by omega
    have r2 : ¬ 0 < b.l.num := by omega
    simp! only [d__law_near, b__law_near, decide_eq_false p2, decide_eq_true q2, decide_eq_false q3, decide_eq_true r1, decide_eq_false r2, show (true == false) = false from rfl, nearS, ne_eq, not_false_iff, or_true, Bool.not_eq_true, reduceCtorEq]
  · have r1 : 0 < a.l.num := by omega
    have r2 : 0 < b.l.num := by omega
    by_cases s1 : bigS a ≤ 2 * smlS b <;> simp! only [d__law_near, b__law_near, decide_eq_false p2, decide_eq_false q2, decide_eq_true r1, decide_eq_true r2, beq_self_eq_true, e1, e2, e3, e4, F_two, e5, e6, e7, e8, not_lt_le, nearS, p1, q1, ne_eq, not_true, or_false, s1]
theorem c__law_kept {k : Kd} (hk : isRd k) {x : Fo} (hx : OkFo x) {a b c : Rw} {i : Nat} (ha : ZR i a) (hb : ZR i b) (hc : ZR i c) (hi : i ≤ 1900) {q : Rat} (hq : Z 4000 q) :
    callO P (n + 5) 89 [FO x, .str k.s, .lst ((pts k a b c).map RD), F q] ws = some (.bl (keepK x k a b c q), ws) := by
  have w1 := c__law_wide (n + 1) ws (ha.mono hi)
  have w2 := c__law_wide (n + 1) ws (hb.mono hi)
  have z1 := (ZS_wide ha).mono (show i + i + 1 ≤ 3900 by omega)
  have z2 := (ZS_wide hb).mono (show i + i + 1 ≤ 3900 by omega)
  have n1 := c__law_near n ws z1 z2 (by decide) (by decide)
  have n2 := c__law_near n ws z1 (ZS_neg z2) (by decide) (by decide)
  have n2' : callO P (n + 4) 88 [SD (wideR a), .tup [F (-(wideR b).h), F (-(wideR b).l)]] ws = some (.bl (nearS (wideR a) (negS (wideR b))), ws) := n2
  have n3 := c__law_off (n + 3) ws
  have g1 := c__law_raw (n + 3) ws hk a b c
  have d1 := hx.d1
  have d2 := hx.d2
  rw [call_at (d := d__law_kept) rfl rfl]
  cases hr : rawK k a b c with
  | none =>
    rw [hr] at g1
    have ho : onGrid x k a b c q = false := by unfold onGrid; rw [hr]
    cases hk
    all_goals simp only [rawK, reduceCtorEq] at hr
    simp! only [d__law_kept, b__law_kept, g1, OI, Kd.s, keepK, ho]
  | some r =>
    rw [hr] at g1
    have rb := raw_bd ha hb hc hr
    have p1 := c__law_two (n + 3) ws (e := x.d + r) (by omega) (by omega)
    have zp := (Z_pw (e := x.d + r) (m := 2960) (by omega) (by omega)).mono (show _ ≤ 4000 by decide)
    have p2 := c__law_less (n + 3) ws zp hq
    have ho : onGrid x k a b c q = (decide (x.f ≤ r) && decide (q ≤ pw (x.d + r))) := by unfold onGrid; rw [hr]
    by_cases h1 : x.f ≤ r
    · by_cases h2 : q ≤ pw (x.d + r)
      · have ho : onGrid x k a b c q = true := by rw [ho, decide_eq_true h1, decide_eq_true h2]; rfl
        cases hk <;> simp! only [d__law_kept, b__law_kept, g1, OI, decide_eq_true h1, p1, p2, not_lt_le, decide_eq_true h2, keepK, ho]
      · have ho : onGrid x k a b c q = false := by rw [ho, decide_eq_true h1, decide_eq_false h2]; rfl
        cases hk <;> (simp only [pts, List.map, Kd.s] at g1; simp! only [d__law_kept, b__law_kept, g1, OI, decide_eq_true h1, p1, p2, not_lt_le, decide_eq_false h2, keepK, ho, Kd.s, pts, w1, w2, n1, n3, n2'])
    · have ho : onGrid x k a b c q = false := by rw [ho, decide_eq_false h1]; rfl
      cases hk <;> (simp only [pts, List.map, Kd.s] at g1; simp! only [d__law_kept, b__law_kept, g1, OI, decide_eq_false h1, keepK, ho, Kd.s, pts, w1, w2, n1, n3, n2'])
/-! nothing is below 0 -/
theorem mx_nn {p q : Rat} (h : 0 ≤ p) (h2 : 0 ≤ q) : 0 ≤ mx p q := by unfold mx; split <;> assumption
theorem big_nn (s : Sn) : 0 ≤ bigS s := mx_nn (ab_nn _) (ab_nn _)
theorem div_nn {p q : Rat} (h : 0 ≤ p) (h2 : 0 < q) : 0 ≤ p / q := by
  rw [Rat.div_def]
  exact Rat.mul_nonneg h (Rat.le_of_lt (Rat.inv_pos.mpr h2))
theorem pass_nn {k : Kd} {a b c : Rw} {s : Sn} {q : Rat} (ha : 0 ≤ a.e) (hb : 0 ≤ b.e) (hc : 0 ≤ c.e) (h : passK k a b c s = some q) : 0 ≤ q := by
  have b1 := big_nn a.s
  have b2 := big_nn b.s
  have m1 := Rat.mul_nonneg b1 hb
  have m2 := Rat.mul_nonneg (show 0 ≤ bigS b.s + b.e by grind) ha
  cases k <;> simp only [passK, Option.some.injEq, reduceCtorEq] at h
  · subst h; grind
  · subst h; grind
  · subst h; grind
  · subst h; grind
  · split at h
    · cases h
    · rename_i hn
      simp only [Option.some.injEq] at h
      subst h
      refine div_nn ?_ ?_
      · have := Rat.mul_nonneg (big_nn s) hb
        grind
      · rw [Rat.lt_iff]
        simp
        omega
theorem c__law_operation (k : Kd) {x : Fo} (hx : OkFo x) {y : Nat} (hy : isWay y) {a b c : Rw} {i : Nat} (ha : ZR i a) (hb : ZR i b) (hc : ZR i c) (hi : 1 ≤ i) (hi2 : i ≤ 100) :
    callO P (n + 6) 90 [FO x, .str y, .str k.s, .lst ((pts k a b c).map RD)] ws = some (OR (opRow x y k a b c), ws) := by
  have o1 : okLen 1 = true := okLen_of (by decide)
  have o2 : okLen 2 = true := okLen_of (by decide)
  have o3 : okLen 3 = true := okLen_of (by decide)
  have a4 := ha.mono (show i ≤ 4000 by omega)
  have b4 := hb.mono (show i ≤ 4000 by omega)
  have e1 := c__law_spanned n ws k ha.s hb.s hc.s (by omega) hb.o
  have e2 := c__law_more (n + 3) ws a4.e b4.e
  rw [call_at (d := d__law_operation) rfl rfl]
  cases hs : spanK k a.s b.s c.s with
  | none =>
    rw [hs] at e1
    cases k
    all_goals simp only [spanK, reduceCtorEq] at hs
    simp only [pts, List.map, Kd.s] at e1
    simp! only [d__law_operation, b__law_operation, x__law_operation_0, pts, o2, Kd.s, e1, OD, opRow, spanK, hs, OR]
  | some s =>
    rw [hs] at e1
    have zs := ZS_span ha.s hb.s hc.s hi hb.o hs
    have m1 := c__law_big (n + 2) ws (zs.mono (show _ ≤ 4000 by omega))
    by_cases hk : isRd k
    · have g1 := c__law_passed (n + 1) ws hk ha hb hc zs hi (by omega) (by omega)
      have g2 := c__law_raw (n + 4) ws hk a b c
      have fin_ : ∀ p, passK k a b c s = some p → callO P (n + 5) 81 [FO x, F (bigS s + p)] ws = some (.bl (decide (bigS s + p ≤ top x)), ws) ∧ callO P (n + 5) 89 [FO x, .str k.s, .lst ((pts k a b c).map RD), F (bigS s + p)] ws = some (.bl (keepK x k a b c (bigS s + p)), ws) ∧
          callO P (n + 5) 80 [FO x, .str y, F (bigS s + p)] ws = some (F (ebd x y (bigS s + p)), ws) ∧ callO P (n + 5) 66 [.lst [F (bigS s), F p]] ws = some (F (bigS s + p), ws) ∧ callO P (n + 5) 66 [.lst [F p, F 0]] ws = some (F (p + 0), ws) ∧
          (bigS s + p ≤ top x → callO P (n + 5) 66 [.lst [F p, F (ebd x y (bigS s + p))]] ws = some (F (p + ebd x y (bigS s + p)), ws)) := by
        intro p hp
        have zp := Z_pass ha hb hc zs hi hp
        have zr := Z_add (Z_big zs) zp
        have zr3 := zr.mono (show _ ≤ 1500 by omega)
        have nn := pass_nn ha.e0 hb.e0 hc.e0 hp
        have rn : 0 ≤ bigS s + p := by have := big_nn s; grind
        refine ⟨c__law_reached (n + 2) ws hx (zr3.mono (by decide)), c__law_kept n ws hk hx ha hb hc (by omega) (zr3.mono (by decide)), c__law_bound (n + 2) ws hx hy zr3 (by decide) rn, c_sum2 (n + 3) ws ((Z_big zs).mono (by omega)) (zp.mono (by omega)), c_sum2 (n + 3) ws (zp.mono (by omega)) (Z_0 (by decide)), fun hT => c_sum2 (n + 3) ws (zp.mono (by omega)) ?_⟩
        -- within reach the unit is small
        rw [ebd_pw]
        have ub := un_bd hx zr3
        have hu : un x (bigS s + p) ≤ x.g + 1 := by
          by_cases z : (bigS s + p).num = 0
          · unfold un; rw [if_pos z]; have := hx.fg; omega
          · rcases (un_hi (x := x) z).2.1 with u | u
            · rw [u]; have := hx.fg; omega
            · rw [ab_of rn] at u
              have ht : top x < pw (x.d + x.g) := by
                rw [top_mul, pw_add, mul_lt_iff, pw_d hx, rI_c]
                exact Rat.intCast_lt_intCast.mpr (by have := half_full hx; omega)
              have : pw (x.d + un x (bigS s + p) - 1) < pw (x.d + x.g) := by grind
              have := pw_lt_iff.mp this
              omega
        have f1 := hx.f1
        have g2 := hx.g2
        have fg := hx.fg
        refine (Z_pw (m := 1100) ?_ ?_).mono (by decide)
        · split <;> omega
        · split <;> omega
      cases hp : passK k a b c s with
      | none =>
        rw [hp] at g1
        cases hk
        all_goals simp only [passK, reduceCtorEq] at hp
        simp only [pts, List.map, Kd.s, OD] at e1
        simp only [pts, List.map, Kd.s] at g1
        simp! only [d__law_operation, b__law_operation, x__law_operation_0, pts, o2, Kd.s, e1, g1, OD, OQ, opRow, hs, passK, hp, OR]
      | some p =>
        rw [hp] at g1
        obtain ⟨f1, f2, f3, f4, f5, f6⟩ := fin_ p hp
        have ho : opRow x y k a b c = if bigS s + p ≤ top x then some ⟨s, p + (if keepK x k a b c (bigS s + p) = true then 0 else ebd x y (bigS s + p)), grdK x k a b c⟩ else none := by
          cases hk <;> simp only [opRow, hs, hp]
        rw [ho]
        by_cases h1 : bigS s + p ≤ top x
        · rw [decide_eq_true h1] at f1
          have f6 := f6 h1
          rw [if_pos h1]
          cases h2 : keepK x k a b c (bigS s + p) with
          | true =>
            rw [h2] at f2
            cases hk <;> (simp only [pts, List.map, Kd.s, OD] at e1; simp only [pts, List.map, Kd.s, rawK] at g1 g2 f2; simp! only [d__law_operation, b__law_operation, x__law_operation_0, pts, o2, o3, Kd.s, e1, g1, g2, OI, OD, OQ, m1, f4, f1, f2, F_0', f5, OR, grdK, rawK, mxI])
          | false =>
            rw [h2] at f2
            cases hk <;> (simp only [pts, List.map, Kd.s, OD] at e1; simp only [pts, List.map, Kd.s, rawK] at g1 g2 f2; simp! only [d__law_operation, b__law_operation, x__law_operation_0, pts, o2, o3, Kd.s, e1, g1, g2, OI, OD, OQ, m1, f4, f1, f2, f3, f6, OR, grdK, rawK, mxI])
        · rw [decide_eq_false h1] at f1
          rw [if_neg h1]
          cases hk <;> (simp only [pts, List.map, Kd.s, OD] at e1; simp only [pts, List.map, Kd.s, rawK] at g1 g2; simp! only [d__law_operation, b__law_operation, x__law_operation_0, pts, o2, o3, Kd.s, e1, g1, g2, OI, OD, OQ, m1, f4, f1, OR])
    · cases k
      case negate => simp only [pts, List.map, Kd.s, OD] at e1; simp! only [d__law_operation, b__law_operation, x__law_operation_0, pts, o1, Kd.s, e1, OD, opRow, hs, OR]
      case size => simp only [pts, List.map, Kd.s, OD] at e1; simp! only [d__law_operation, b__law_operation, x__law_operation_0, pts, o1, Kd.s, e1, OD, opRow, hs, OR]
      case least => simp only [pts, List.map, Kd.s, OD] at e1; simp! only [d__law_operation, b__law_operation, x__law_operation_0, pts, o2, Kd.s, e1, e2, OD, opRow, hs, OR, mnI]
      case most => simp only [pts, List.map, Kd.s, OD] at e1; simp! only [d__law_operation, b__law_operation, x__law_operation_0, pts, o2, Kd.s, e1, e2, OD, opRow, hs, OR, mnI]
      case joined => exact absurd .joined hk
      case add => exact absurd .add hk
      case less => exact absurd .less hk
      case times => exact absurd .times hk
      case over => exact absurd .over hk
end Pv.K33


set_option Elab.async false
set_option linter.all false
set_option maxRecDepth 100000
set_option exponentiation.threshold 20
/-! Lr3: choices, numbers by a law's own hand. -/
namespace Pv.K33
open Pv
local macro_rules
  | `(tactic| simp! only [$xs,*]) => `(tactic| simp only [ev.eq_1, ev.eq_2, ev.eq_3, ev.eq_4, ev.eq_5, ev.eq_6, ev.eq_7, ev.eq_8, ev.eq_9, ev.eq_10, ev.eq_11, ev.eq_12, ev.eq_13, ev.eq_14, ev.eq_15, ev.eq_16, ev.eq_17, ev.eq_18, ev.eq_19, ev.eq_20, ev.eq_21, ev.eq_22, ev.eq_23, ev.eq_24, ev.eq_25, ev.eq_26, ev.eq_27, ev.eq_28, ev.eq_29, ev.eq_30, ev.eq_35, evs, evT, exec.eq_1, exec.eq_2, exec.eq_3, exec.eq_4, exec.eq_5, exec.eq_6, exec.eq_7, exec.eq_8, exec.eq_9, exec.eq_10, exec.eq_11, exec.eq_12, exec.eq_13, exec.eq_14, exec.eq_15, exec.eq_16, exec.eq_19, exec.eq_20, exec.eq_21, exec.eq_22, exec.eq_23, execs, x_whl, x_for, x_comp, x_compIf, x_comp2, x_comp2If, bor, vi, mkEnv, eg, es, frzA, frzS, bn, bt, bq, bind_F, setAll, setAllT, bind1, setPar, wipeE, tgs, b_add, b_sub, b_mul, b_fdiv, b_mod, b_shl, b_shr, b_pow, b_tup, b_lst, o_lt, o_le, o_gt, o_ge, o_eqi, o_nei, o_neb, sl_a, sl_b, sl_bl, sl_c, cmp_nil, cmp_cons, cmpY_nil, cmpY_cons, ixW_3, ixL_0, ixL_1, ixL_2, ixL_3, btl, o_isb, o_eqs, o_nes, o_int, o_nit, isF_s, isF_i, deq_ss, deq_ii, List.all_cons, List.all_nil, List.any_cons, List.any_nil, Nat.reduceEqDiff, Int.reduceEq, u_len1, u_len2, u_len3, u_abs, u_int, u_intb, u_lst1, u_lst2, u_lst3, u_tup, u_max, u_min, s_int, s_bl, s_tup, s_lst, s_non, s_str, a_add, a_sub, i_tup, i_lst, r_bl, r_int, fin, chk_own, chk_some, isN, bnd, iN_non, iN_int, iN_bl, iN_str, iN_tup, iN_lst, iN_F, ixW_0, ixW_1, ixW_2, F_0, F_1, ixW_w, wg_1, wg_0, wp_0, List.map, List.length, List.replicate, List.cons_append, List.nil_append, List.append_nil, Nat.reduceSub, Nat.reduceAdd, Nat.sub_self, Nat.sub_zero, if_true, Bool.false_eq_true, if_false, reduceIte, ite_true, ite_false, Bool.and_self, Bool.and_true, Bool.true_and, Bool.not_true, Bool.not_false, Nat.reduceLT, Nat.reduceLeDiff, decide_true, decide_false, Int.reduceLT, Int.reduceLE, Int.reduceAdd, Int.reduceSub, Int.reduceNeg, Bool.or_true, Bool.or_false, Bool.true_or, Bool.false_or, Bool.and_false, Bool.false_and, $xs,*])
  | `(tactic| simp! only) => `(tactic| simp only [ev.eq_1, ev.eq_2, ev.eq_3, ev.eq_4, ev.eq_5, ev.eq_6, ev.eq_7, ev.eq_8, ev.eq_9, ev.eq_10, ev.eq_11, ev.eq_12, ev.eq_13, ev.eq_14, ev.eq_15, ev.eq_16, ev.eq_17, ev.eq_18, ev.eq_19, ev.eq_20, ev.eq_21, ev.eq_22, ev.eq_23, ev.eq_24, ev.eq_25, ev.eq_26, ev.eq_27, ev.eq_28, ev.eq_29, ev.eq_30, ev.eq_35, evs, evT, exec.eq_1, exec.eq_2, exec.eq_3, exec.eq_4, exec.eq_5, exec.eq_6, exec.eq_7, exec.eq_8, exec.eq_9, exec.eq_10, exec.eq_11, exec.eq_12, exec.eq_13, exec.eq_14, exec.eq_15, exec.eq_16, exec.eq_19, exec.eq_20, exec.eq_21, exec.eq_22, exec.eq_23, execs, x_whl, x_for, x_comp, x_compIf, x_comp2, x_comp2If, bor, vi, mkEnv, eg, es, frzA, frzS, bn, bt, bq, bind_F, setAll, setAllT, bind1, setPar, wipeE, tgs, b_add, b_sub, b_mul, b_fdiv, b_mod, b_shl, b_shr, b_pow, b_tup, b_lst, o_lt, o_le, o_gt, o_ge, o_eqi, o_nei, o_neb, sl_a, sl_b, sl_bl, sl_c, cmp_nil, cmp_cons, cmpY_nil, cmpY_cons, ixW_3, ixL_0, ixL_1, ixL_2, ixL_3, btl, o_isb, o_eqs, o_nes, o_int, o_nit, isF_s, isF_i, deq_ss, deq_ii, List.all_cons, List.all_nil, List.any_cons, List.any_nil, Nat.reduceEqDiff, Int.reduceEq, u_len1, u_len2, u_len3, u_abs, u_int, u_intb, u_lst1, u_lst2, u_lst3, u_tup, u_max, u_min, s_int, s_bl, s_tup, s_lst, s_non, s_str, a_add, a_sub, i_tup, i_lst, r_bl, r_int, fin, chk_own, chk_some, isN, bnd, iN_non, iN_int, iN_bl, iN_str, iN_tup, iN_lst, iN_F, ixW_0, ixW_1, ixW_2, F_0, F_1, ixW_w, wg_1, wg_0, wp_0, List.map, List.length, List.replicate, List.cons_append, List.nil_append, List.append_nil, Nat.reduceSub, Nat.reduceAdd, Nat.sub_self, Nat.sub_zero, if_true, Bool.false_eq_true, if_false, reduceIte, ite_true, ite_false, Bool.and_self, Bool.and_true, Bool.true_and, Bool.not_true, Bool.not_false, Nat.reduceLT, Nat.reduceLeDiff, decide_true, decide_false, Int.reduceLT, Int.reduceLE, Int.reduceAdd, Int.reduceSub, Int.reduceNeg, Bool.or_true, Bool.or_false, Bool.true_or, Bool.false_or, Bool.and_false, Bool.false_and])
variable (n : Nat) (ws : WS)
theorem c__law_sure (le : Bool) {a b : Sn} (ha : ZS 4000 a) (hb : ZS 4000 b) : callO P (n + 2) 91 [sgD le, SD a, SD b] ws = some (OB (sure le a b), ws) := by
  have e1 := c__law_less (n + 0) ws ha.h hb.l
  have e1 := c__law_less n ws ha.h hb.l
  have e3 := c__law_less n ws hb.h ha.l
  rw [call_at (d := d__law_sure) rfl rfl]
  by_cases h1 : a.h < b.l
  · cases le <;> simp! only [d__law_sure, b__law_sure, sgD, e1, decide_eq_true h1, sure, h1, true_or, OB]
  · cases le with
    | true =>
      by_cases h2 : a.h = b.l
      · have h2' : a.h ≤ b.l := by grind
        simp! only [d__law_sure, b__law_sure, sgD, e1, decide_eq_false h1, o_eqF, decide_eq_true h2, sure, h1, h2', and_self, or_true, OB]
      · have h2' : ¬ a.h ≤ b.l := by grind
        by_cases h3 : b.h < a.l
        · simp! only [d__law_sure, b__law_sure, sgD, e1, decide_eq_false h1, o_eqF, decide_eq_false h2, e3, decide_eq_true h3, sure, h1, h2', h3, and_false, or_false, true_or, OB]
        · simp! only [d__law_sure, b__law_sure, sgD, e1, decide_eq_false h1, o_eqF, decide_eq_false h2, e3, decide_eq_false h3, sure, h1, h2', h3, and_false, or_false, false_and, reduceCtorEq, OB]
    | false =>
      by_cases h3 : b.h < a.l
      · simp! only [d__law_sure, b__law_sure, sgD, e1, decide_eq_false h1, e3, decide_eq_true h3, sure, h1, h3, and_false, or_false, false_and, true_or, reduceCtorEq, OB]
      · by_cases h4 : b.h = a.l
        · have h4' : b.h ≤ a.l := by grind
          simp! only [d__law_sure, b__law_sure, sgD, e1, decide_eq_false h1, e3, decide_eq_false h3, o_eqF, decide_eq_true h4, sure, h1, h3, h4', and_self, or_true, or_false, false_and, true_or, reduceCtorEq, OB]
        · have h4' : ¬ b.h ≤ a.l := by grind
          simp! only [d__law_sure, b__law_sure, sgD, e1, decide_eq_false h1, e3, decide_eq_false h3, o_eqF, decide_eq_false h4, sure, h1, h3, h4', and_false, or_false, false_and, reduceCtorEq, OB]
theorem e_pos {q : Rat} (h : 0 ≤ q) : (0 < q.num) ↔ ¬ q = 0 := by
  have h1 := Rat.num_nonneg.mpr h
  have h2 := num_z q
  constructor
  · intro h z; have := h2.mpr z; omega
  · intro z
    have : q.num ≠ 0 := fun c => z (h2.mp c)
    omega
theorem c__law_turns (le : Bool) {a b : Rw} (ha : ZR 1900 a) (hb : ZR 1900 b) : callO P (n + 4) 92 [sgD le, RD a, RD b] ws = some (.bl (turnR le a b), ws) := by
  have e1 := c__law_wide n ws ha
  have e2 := c__law_wide n ws hb
  have e3 := c__law_sure (n + 1) ws le ((ZS_wide ha).mono (show _ ≤ 4000 by decide)) ((ZS_wide hb).mono (show _ ≤ 4000 by decide))
  have p1 := e_pos ha.e0
  have p2 := e_pos hb.e0
  rw [call_at (d := d__law_turns) rfl rfl]
  by_cases h1 : a.e = 0
  · have q1 : ¬ 0 < a.e.num := fun z => p1.mp z h1
    by_cases h2 : b.e = 0
    · have q2 : ¬ 0 < b.e.num := fun z => p2.mp z h2
      have t : turnR le a b = false := by unfold turnR; rw [if_pos ⟨h1, h2⟩]
      simp! only [d__law_turns, b__law_turns, decide_eq_false q1, decide_eq_false q2, t]
    · have q2 : 0 < b.e.num := p2.mpr h2
      have t : turnR le a b = (sure le (wideR a) (wideR b)).isNone := by unfold turnR; rw [if_neg fun z => h2 z.2]
      cases hs : sure le (wideR a) (wideR b) with
      | none =>
        rw [hs] at e3
        simp! only [d__law_turns, b__law_turns, decide_eq_false q1, decide_eq_true q2, e1, e2, e3, OB, t, hs, Option.isNone]
      | some r =>
        rw [hs] at e3
        simp! only [d__law_turns, b__law_turns, decide_eq_false q1, decide_eq_true q2, e1, e2, e3, OB, t, hs, Option.isNone]
  · have q1 : 0 < a.e.num := p1.mpr h1
    have t : turnR le a b = (sure le (wideR a) (wideR b)).isNone := by unfold turnR; rw [if_neg fun z => h1 z.1]
    cases hs : sure le (wideR a) (wideR b) with
    | none =>
      rw [hs] at e3
      simp! only [d__law_turns, b__law_turns, decide_eq_true q1, e1, e2, e3, OB, t, hs, Option.isNone]
    | some r =>
      rw [hs] at e3
      simp! only [d__law_turns, b__law_turns, decide_eq_true q1, e1, e2, e3, OB, t, hs, Option.isNone]
theorem c__law_choice (le : Bool) {a b y o : Rw} (ha : ZR 300 a) (hb : ZR 300 b) (hy : ZR 300 y) (ho : ZR 300 o) : callO P (n + 6) 93 [sgD le, RD a, RD b, RD y, RD o] ws = some (RD (chRow le a b y o), ws) := by
  have e1 := c__law_wide (n + 2) ws (ha.mono (show 300 ≤ 1900 by decide))
  have e2 := c__law_wide (n + 2) ws (hb.mono (show 300 ≤ 1900 by decide))
  have e3 := c__law_sure (n + 3) ws le ((ZS_wide ha).mono (show _ ≤ 4000 by decide)) ((ZS_wide hb).mono (show _ ≤ 4000 by decide))
  have e4 := c__law_turns (n + 1) ws le (ha.mono (show 300 ≤ 1900 by decide)) (hb.mono (by decide))
  have e5 := c__law_more (n + 3) ws (hy.e.mono (show 300 ≤ 4000 by decide)) (ho.e.mono (by decide))
  have e6 : callO P (n + 5) 84 [.str 17, .lst [SD y.s, SD o.s]] ws = some (SD (addS y.s (negS o.s)), ws) := c__law_spanned n ws .less hy.s ho.s hy.s (by decide) ho.o
  have z6 := ZS_add hy.s (ZS_neg ho.s)
  have e7 := c__law_big (n + 2) ws (z6.mono (show _ ≤ 4000 by decide))
  have e8 := c_sum2 (n + 3) ws ((Z_mx hy.e ho.e).mono (show 300 ≤ 1900 by decide)) ((Z_big z6).mono (by decide))
  have f1 := c__law_fewer (n + 3) ws (hy.s.l.mono (show 300 ≤ 4000 by decide)) (ho.s.l.mono (by decide))
  have f2 := c__law_more (n + 3) ws (hy.s.h.mono (show 300 ≤ 4000 by decide)) (ho.s.h.mono (by decide))
  rw [call_at (d := d__law_choice) rfl rfl]
  cases hs : sure le (wideR a) (wideR b) with
  | some r =>
    rw [hs] at e3
    cases r <;> simp! only [d__law_choice, b__law_choice, e1, e2, e3, OB, chRow, hs]
  | none =>
    rw [hs] at e3
    cases ht : turnR le a b with
    | true =>
      rw [ht] at e4
      simp! only [d__law_choice, b__law_choice, e1, e2, e3, OB, e5, e4, e6, e7, e8, f1, f2, chRow, hs, ht, mnI, hulS]
    | false =>
      rw [ht] at e4
      simp! only [d__law_choice, b__law_choice, e1, e2, e3, OB, e5, e4, f1, f2, chRow, hs, ht, mnI, hulS, Bool.false_eq_true]
theorem c__law_weaker {a b : Rw} (ha : ZR 4000 a) (hb : ZR 4000 b) : callO P (n + 2) 96 [RD a, RD b] ws = some (.bl ((decide (a.s.l ≤ b.s.l) && decide (b.s.h ≤ a.s.h)) && (decide (b.e ≤ a.e) && decide (a.g ≤ b.g))), ws) := by
  have e1 := c__law_less n ws hb.s.l ha.s.l
  have e2 := c__law_less n ws ha.s.h hb.s.h
  have e3 := c__law_less n ws ha.e hb.e
  rw [call_at (d := d__law_weaker) rfl rfl]
  by_cases h1 : a.s.l ≤ b.s.l <;> by_cases h2 : b.s.h ≤ a.s.h <;> by_cases h3 : b.e ≤ a.e <;>
    simp! only [d__law_weaker, b__law_weaker, e1, e2, e3, not_lt_le, h1, h2, h3]
theorem c__law_grid {x : Fo} (h : OkFo x) {s w p : Int} (h1 : 0 < w) (h2 : w ≤ fullW x) : callO P (n + 1) 94 [FO x, nN s w p] ws = some (.int (gr 201 w p), ws) := by
  have ok2 : okI 2 = true := okI_s (by decide)
  obtain ⟨w', e⟩ := grid_step ws (c := fun env ws => evT (callO P n) t__law_grid_0 env ws) (b := fun env ws => execs (callO P n) l__law_grid_1 env ws) (fun a b => [.va (FO x), .va (nN s w p), .va (.int a), .va (.int b)])
    (fun a b => by simp! only [t__law_grid_0]) (fun a b => by simp! only [l__law_grid_1, ok2]) 201 w p fuel h1 (w_lt2 h h1 h2) (by unfold fuel; omega)
  change whlX (callO P n) _ _ fuel _ _ = _ at e
  rw [call_at (d := d__law_grid) rfl rfl]
  simp! only [d__law_grid, b__law_grid, e]
theorem c__law_grid_o {x : Fo} {s : Int} : callO P (n + 1) 94 [FO x, nO s] ws = some (.int x.g, ws) := by
  rw [call_at (d := d__law_grid) rfl rfl]
  simp! only [d__law_grid, b__law_grid]
/-! the value of a number -/
theorem okF_1 : okI 1 = true := okI_s (by decide)
theorem pw_ge {p : Int} (h : 0 ≤ p) (u : Int) : Rat.divInt (u * 2 ^ p.toNat) 1 = rI u * pw p := by
  unfold rI pw
  rw [if_pos h, Rat.divInt_mul_divInt, Int.mul_one]
theorem pw_lt0 {p : Int} (h : ¬ 0 ≤ p) (u : Int) : Rat.divInt u (2 ^ (0 - p).toNat) = rI u * pw p := by
  unfold rI pw
  rw [if_neg h, Rat.divInt_mul_divInt, Int.one_mul, Int.mul_one, Int.zero_sub]
theorem rI_neg (w : Int) : rI (-w) = -rI w := by rw [rI_c, rI_c, Rat.intCast_neg]
theorem c__law_val_o (s : Int) : callO P (n + 1) 68 [nO s] ws = some (F 0, ws) := by
  rw [call_at (d := d__law_val) rfl rfl]
  simp! only [d__law_val, b__law_val, F_0']
theorem c__law_val {s w p : Int} (hs : s = 0 ∨ s = 1) (h1 : 0 ≤ w) (h2 : w < 18446744073709551616) (p1 : -2000 ≤ p) (p2 : p ≤ 2000) : callO P (n + 2) 68 [nN s w p] ws = some (F (vN s w p), ws) := by
  have ok2 : okI 2 = true := okI_s (by decide)
  have hsg : okI (1 - 2 * s) = true := okI_s (by omega)
  have oks : okI s = true := okI_s (by omega)
  have okw : okI w = true := okI_of (Nat.lt_of_lt_of_le (show w.natAbs < 2 ^ 64 by omega) (Nat.pow_le_pow_right (by decide) (by decide)))
  have hv : vN s w p = rI ((1 - 2 * s) * w) * pw p := by
    rcases hs with rfl | rfl
    · unfold vN; rw [if_neg (by decide)]; simp
    · unfold vN; rw [if_pos rfl, show (1 - 2 * (1 : Int)) * w = -w by omega, rI_neg, Rat.neg_mul]
  have hn : ((1 - 2 * s) * w).natAbs < 18446744073709551616 := by
    rcases hs with rfl | rfl
    · rw [show (1 - 2 * (0 : Int)) * w = w by omega]; omega
    · rw [show (1 - 2 * (1 : Int)) * w = -w by omega]; omega
  have o1 : (1 : Int).natAbs < 2 ^ 8000 := Nat.one_lt_two_pow (by decide)
  rw [hv, call_at (d := d__law_val) rfl rfl]
  by_cases h : 0 ≤ p
  · have h' : p ≤ 100000 := by omega
    have e := c__law_least n ((1 - 2 * s) * w * 2 ^ p.toNat) 1 ws (by decide) o1
    rw [pw_ge h] at e
    simp! only [d__law_val, b__law_val, ok2, oks, hsg, okw, decide_eq_true h, decide_eq_true h', decide_eq_true hn, e]
  · have h3 : 0 ≤ 0 - p := by omega
    have h4 : 0 - p ≤ 100000 := by omega
    have e := c__law_least n ((1 - 2 * s) * w) (2 ^ (0 - p).toNat) ws (pos2 _) (by rw [Int.natAbs_pow]; exact Nat.pow_lt_pow_right (by decide) (by omega))
    rw [pw_lt0 h] at e
    simp! only [d__law_val, b__law_val, ok2, oks, hsg, okw, decide_eq_false h, decide_eq_true h3, decide_eq_true h4, Int.natAbs_one, Int.one_mul, e]
end Pv.K33


set_option Elab.async false
set_option linter.all false
set_option maxRecDepth 100000
set_option exponentiation.threshold 20
/-! Lf: all numbers of a small format, rounding by definition over them. -/
namespace Pv.K33
open Pv
local macro_rules
  | `(tactic| simp! only [$xs,*]) => `(tactic| simp only [ev.eq_1, ev.eq_2, ev.eq_3, ev.eq_4, ev.eq_5, ev.eq_6, ev.eq_7, ev.eq_8, ev.eq_9, ev.eq_10, ev.eq_11, ev.eq_12, ev.eq_13, ev.eq_14, ev.eq_15, ev.eq_16, ev.eq_17, ev.eq_18, ev.eq_19, ev.eq_20, ev.eq_21, ev.eq_22, ev.eq_23, ev.eq_24, ev.eq_25, ev.eq_26, ev.eq_27, ev.eq_28, ev.eq_29, ev.eq_30, ev.eq_35, evs, evT, exec.eq_1, exec.eq_2, exec.eq_3, exec.eq_4, exec.eq_5, exec.eq_6, exec.eq_7, exec.eq_8, exec.eq_9, exec.eq_10, exec.eq_11, exec.eq_12, exec.eq_13, exec.eq_14, exec.eq_15, exec.eq_16, exec.eq_19, exec.eq_20, exec.eq_21, exec.eq_22, exec.eq_23, execs, x_whl, x_for, x_comp, x_compIf, x_comp2, x_comp2If, bor, vi, mkEnv, eg, es, frzA, frzS, bn, bt, bq, bind_F, setAll, setAllT, bind1, setPar, wipeE, tgs, b_add, b_sub, b_mul, b_fdiv, b_mod, b_shl, b_shr, b_pow, b_tup, b_lst, o_lt, o_le, o_gt, o_ge, o_eqi, o_nei, o_neb, sl_a, sl_b, sl_bl, sl_c, cmp_nil, cmp_cons, cmpY_nil, cmpY_cons, ixW_3, ixL_0, ixL_1, ixL_2, ixL_3, btl, o_isb, o_eqs, o_nes, o_int, o_nit, isF_s, isF_i, deq_ss, deq_ii, List.all_cons, List.all_nil, List.any_cons, List.any_nil, Nat.reduceEqDiff, Int.reduceEq, u_len1, u_len2, u_len3, u_abs, u_int, u_intb, u_lst1, u_lst2, u_lst3, u_tup, u_max, u_min, s_int, s_bl, s_tup, s_lst, s_non, s_str, a_add, a_sub, i_tup, i_lst, r_bl, r_int, fin, chk_own, chk_some, isN, bnd, iN_non, iN_int, iN_bl, iN_str, iN_tup, iN_lst, iN_F, ixW_0, ixW_1, ixW_2, F_0, F_1, ixW_w, wg_1, wg_0, wp_0, List.map, List.length, List.replicate, List.cons_append, List.nil_append, List.append_nil, Nat.reduceSub, Nat.reduceAdd, Nat.sub_self, Nat.sub_zero, if_true, Bool.false_eq_true, if_false, reduceIte, ite_true, ite_false, Bool.and_self, Bool.and_true, Bool.true_and, Bool.not_true, Bool.not_false, Nat.reduceLT, Nat.reduceLeDiff, decide_true, decide_false, Int.reduceLT, Int.reduceLE, Int.reduceAdd, Int.reduceSub, Int.reduceNeg, Bool.or_true, Bool.or_false, Bool.true_or, Bool.false_or, Bool.and_false, Bool.false_and, $xs,*])
  | `(tactic| simp! only) => `(tactic| simp only [ev.eq_1, ev.eq_2, ev.eq_3, ev.eq_4, ev.eq_5, ev.eq_6, ev.eq_7, ev.eq_8, ev.eq_9, ev.eq_10, ev.eq_11, ev.eq_12, ev.eq_13, ev.eq_14, ev.eq_15, ev.eq_16, ev.eq_17, ev.eq_18, ev.eq_19, ev.eq_20, ev.eq_21, ev.eq_22, ev.eq_23, ev.eq_24, ev.eq_25, ev.eq_26, ev.eq_27, ev.eq_28, ev.eq_29, ev.eq_30, ev.eq_35, evs, evT, exec.eq_1, exec.eq_2, exec.eq_3, exec.eq_4, exec.eq_5, exec.eq_6, exec.eq_7, exec.eq_8, exec.eq_9, exec.eq_10, exec.eq_11, exec.eq_12, exec.eq_13, exec.eq_14, exec.eq_15, exec.eq_16, exec.eq_19, exec.eq_20, exec.eq_21, exec.eq_22, exec.eq_23, execs, x_whl, x_for, x_comp, x_compIf, x_comp2, x_comp2If, bor, vi, mkEnv, eg, es, frzA, frzS, bn, bt, bq, bind_F, setAll, setAllT, bind1, setPar, wipeE, tgs, b_add, b_sub, b_mul, b_fdiv, b_mod, b_shl, b_shr, b_pow, b_tup, b_lst, o_lt, o_le, o_gt, o_ge, o_eqi, o_nei, o_neb, sl_a, sl_b, sl_bl, sl_c, cmp_nil, cmp_cons, cmpY_nil, cmpY_cons, ixW_3, ixL_0, ixL_1, ixL_2, ixL_3, btl, o_isb, o_eqs, o_nes, o_int, o_nit, isF_s, isF_i, deq_ss, deq_ii, List.all_cons, List.all_nil, List.any_cons, List.any_nil, Nat.reduceEqDiff, Int.reduceEq, u_len1, u_len2, u_len3, u_abs, u_int, u_intb, u_lst1, u_lst2, u_lst3, u_tup, u_max, u_min, s_int, s_bl, s_tup, s_lst, s_non, s_str, a_add, a_sub, i_tup, i_lst, r_bl, r_int, fin, chk_own, chk_some, isN, bnd, iN_non, iN_int, iN_bl, iN_str, iN_tup, iN_lst, iN_F, ixW_0, ixW_1, ixW_2, F_0, F_1, ixW_w, wg_1, wg_0, wp_0, List.map, List.length, List.replicate, List.cons_append, List.nil_append, List.append_nil, Nat.reduceSub, Nat.reduceAdd, Nat.sub_self, Nat.sub_zero, if_true, Bool.false_eq_true, if_false, reduceIte, ite_true, ite_false, Bool.and_self, Bool.and_true, Bool.true_and, Bool.not_true, Bool.not_false, Nat.reduceLT, Nat.reduceLeDiff, decide_true, decide_false, Int.reduceLT, Int.reduceLE, Int.reduceAdd, Int.reduceSub, Int.reduceNeg, Bool.or_true, Bool.or_false, Bool.true_or, Bool.false_or, Bool.and_false, Bool.false_and])
variable (n : Nat) (ws : WS)
/-- a small format -/
structure SmFo (x : Fo) : Prop where
  ok : OkFo x
  d : x.d ≤ 10
  r : x.g - x.f ≤ 60
def hN (x : Fo) : Nat := 2 ^ (x.d - 1).toNat
theorem hN_i (x : Fo) : ((hN x : Nat) : Int) = halfW x := by unfold hN halfW; rw [Int.natCast_pow]; rfl
def rN (x : Fo) : Nat := (x.g - x.f).toNat
def nN_ (x : Fo) : Nat := (rN x + 2) * hN x
/-- the exponent and the whole number of the i-th number from 0 up -/
def pI (x : Fo) (i : Nat) : Int := if i < 2 * hN x then x.f else x.f + ((i / hN x : Nat) : Int) - 1
def wI (x : Fo) (i : Nat) : Int := if i < 2 * hN x then i else ((i % hN x : Nat) : Int) + hN x
def vI (x : Fo) (i : Nat) : Rat := rI (wI x i) * pw (pI x i)
def NF (x : Fo) (i : Nat) : Nm := if i = 0 then .o 0 else .n 0 (wI x i) (pI x i)
section
variable {x : Fo}
theorem hN_pos (h : OkFo x) : 2 ≤ hN x := by have := (pow_d h).2; have := hN_i x; omega
theorem dm (h : OkFo x) (i : Nat) : ∃ a k, i = a * hN x + k ∧ k < hN x ∧ i / hN x = a ∧ i % hN x = k := by
  have := hN_pos h
  refine ⟨i / hN x, i % hN x, ?_, Nat.mod_lt _ (by omega), rfl, rfl⟩
  have := Nat.div_add_mod i (hN x)
  rw [Nat.mul_comm]
  exact this.symm
theorem blk (h : OkFo x) (a k : Nat) (hk : k < hN x) : (a * hN x + k) / hN x = a ∧ (a * hN x + k) % hN x = k := by
  have := hN_pos h
  constructor
  · rw [Nat.mul_comm, Nat.mul_add_div (by omega), Nat.div_eq_of_lt hk]; rfl
  · rw [Nat.mul_comm, Nat.mul_add_mod, Nat.mod_eq_of_lt hk]
theorem wI_bd (h : OkFo x) (i : Nat) : 0 ≤ wI x i ∧ wI x i < 2 * halfW x ∧ (pI x i = x.f ∨ halfW x ≤ wI x i) ∧ x.f ≤ pI x i := by
  have h2 := hN_pos h
  have e := hN_i x
  unfold wI pI
  by_cases c : i < 2 * hN x
  · rw [if_pos c, if_pos c]
    exact ⟨by omega, by omega, .inl rfl, by omega⟩
  · rw [if_neg c, if_neg c]
    have := Nat.mod_lt i (show 0 < hN x by omega)
    have : 2 ≤ i / hN x := (Nat.le_div_iff_mul_le (by omega)).mpr (by omega)
    exact ⟨by omega, by omega, .inr (by omega), by omega⟩
theorem pI_le (h : OkFo x) {i : Nat} (hi : i < nN_ x) : pI x i ≤ x.g := by
  have h2 := hN_pos h
  have fg := h.fg
  unfold pI
  split
  · omega
  · have : i / hN x < rN x + 2 := (Nat.div_lt_iff_lt_mul (by omega)).mpr hi
    unfold rN at this
    omega
theorem nN_ge (h : OkFo x) : 3 * hN x ≤ nN_ x := by
  have fg := h.fg
  unfold nN_
  have : 3 ≤ rN x + 2 := by unfold rN; omega
  exact Nat.mul_le_mul_right _ this
theorem last_i (h : OkFo x) {i : Nat} (hi : i + 1 = nN_ x) : pI x i = x.g ∧ wI x i = 2 * halfW x - 1 := by
  have h2 := hN_pos h
  have h3 := nN_ge h
  have e := hN_i x
  have fg := h.fg
  have ei : i = (rN x + 1) * hN x + (hN x - 1) := by
    unfold nN_ at hi
    rw [show rN x + 2 = rN x + 1 + 1 by omega, Nat.add_mul, Nat.one_mul] at hi
    omega
  have hb := blk h (rN x + 1) (hN x - 1) (by omega)
  rw [← ei] at hb
  unfold pI wI
  rw [if_neg (by omega), if_neg (by omega), hb.1, hb.2]
  unfold rN
  omega
/-- the next number -/
theorem next_i (h : OkFo x) (i : Nat) : vI x (i + 1) = (rI (wI x i) + 1) * pw (pI x i) ∧ (wI x i + 1 < 2 * halfW x → wI x (i + 1) = wI x i + 1 ∧ pI x (i + 1) = pI x i) ∧ (wI x i + 1 = 2 * halfW x → wI x (i + 1) = halfW x ∧ pI x (i + 1) = pI x i + 1) := by
  have h2 := hN_pos h
  have e := hN_i x
  have key : (wI x (i + 1) = wI x i + 1 ∧ pI x (i + 1) = pI x i ∧ wI x i + 1 < 2 * halfW x) ∨ (wI x (i + 1) = halfW x ∧ pI x (i + 1) = pI x i + 1 ∧ wI x i + 1 = 2 * halfW x) := by
    unfold wI pI
    by_cases c : i + 1 < 2 * hN x
    · rw [if_pos (show i < 2 * hN x by omega), if_pos (show i < 2 * hN x by omega), if_pos c, if_pos c]
      left
      exact ⟨by omega, rfl, by omega⟩
    · by_cases c2 : i < 2 * hN x
      · have ei : i + 1 = 2 * hN x + 0 := by omega
        have hb := blk h 2 0 (by omega)
        rw [← ei] at hb
        rw [if_neg c, if_neg c, if_pos c2, if_pos c2, hb.1, hb.2]
        right
        exact ⟨by omega, by omega, by omega⟩
      · obtain ⟨a, k, e1, hk, e2, e3⟩ := dm h i
        rw [if_neg c, if_neg c, if_neg c2, if_neg c2, e2, e3]
        by_cases ck : k + 1 < hN x
        · have hb := blk h a (k + 1) ck
          rw [← Nat.add_assoc, ← e1] at hb
          rw [hb.1, hb.2]
          left
          exact ⟨by omega, rfl, by omega⟩
        · have hb := blk h (a + 1) 0 (by omega)
          have e4 : (a + 1) * hN x + 0 = i + 1 := by rw [Nat.add_mul, Nat.one_mul]; omega
          rw [e4] at hb
          rw [hb.1, hb.2]
          right
          exact ⟨by omega, by omega, by omega⟩
  refine ⟨?_, fun c => ?_, fun c => ?_⟩
  · unfold vI
    rcases key with ⟨k1, k2, _⟩ | ⟨k1, k2, k3⟩
    · rw [k1, k2, rI_c, rI_c, Rat.intCast_add]
      rfl
    · rw [k1, k2, pw_succ, rI_c, rI_c]
      have : ((wI x i : Int) : Rat) + 1 = 2 * ((halfW x : Int) : Rat) := by
        have := congrArg (fun z : Int => (z : Rat)) k3
        simp only [Rat.intCast_add, Rat.intCast_mul] at this
        exact this
      rw [this]
      grind
  · rcases key with ⟨k1, k2, _⟩ | ⟨k1, k2, k3⟩
    · exact ⟨k1, k2⟩
    · omega
  · rcases key with ⟨k1, k2, k3⟩ | ⟨k1, k2, k3⟩
    · omega
    · exact ⟨k1, k2⟩
theorem v_0 (h : OkFo x) : vI x 0 = 0 := by
  have := hN_pos h
  unfold vI wI
  rw [if_pos (by omega), rI_c]
  show ((0 : Int) : Rat) * _ = 0
  rw [show ((0 : Int) : Rat) = 0 from rfl, Rat.zero_mul]
/-! one place alone -/
theorem place_one {h : Int} {f p p' w w' : Int} {q : Rat} (h1 : 0 ≤ w) (h2 : w < 2 * h) (h3 : p = f ∨ h ≤ w) (h4 : f ≤ p) (g1 : 0 ≤ w') (g2 : w' < 2 * h) (g3 : p' = f ∨ h ≤ w') (g4 : f ≤ p')
    (a1 : rI w * pw p ≤ q) (a2 : q < (rI w + 1) * pw p) (b1 : rI w' * pw p' ≤ q) (b2 : q < (rI w' + 1) * pw p') : p = p' ∧ w = w' := by
  have key : ∀ {p p' w w' : Int}, w < 2 * h → (p' = f ∨ h ≤ w') → f ≤ p → q < (rI w + 1) * pw p → rI w' * pw p' ≤ q → ¬ p < p' := by
    intro p p' w w' k1 k2 k3 k4 k5 lt
    have hw : h ≤ w' := by
      rcases k2 with z | z
      · omega
      · exact z
    have m1 := pw_mono (show p + 1 ≤ p' by omega)
    rw [pw_succ] at m1
    have c1 : (rI w + 1) ≤ 2 * rI w' := by
      rw [rI_c, rI_c]
      have := Rat.intCast_le_intCast.mpr (show w + 1 ≤ 2 * w' by omega)
      simp only [Rat.intCast_add, Rat.intCast_mul] at this
      exact this
    have hp := pw_pos p
    have w0 : (0 : Rat) ≤ rI w' := by
      by_cases z : 0 ≤ w'
      · rw [rI_c]; exact Rat.intCast_le_intCast.mpr z
      · have h0 : w + 1 ≤ 0 := by omega
        have : rI w + 1 ≤ 0 := by
          rw [rI_c]
          have := Rat.intCast_le_intCast.mpr h0
          simp only [Rat.intCast_add] at this
          exact this
        have m3 := Rat.mul_le_mul_of_nonneg_right this (Rat.le_of_lt hp)
        have m4 := Rat.mul_le_mul_of_nonneg_right c1 (Rat.le_of_lt hp)
        exfalso
        have hp' := pw_pos p'
        have c2 : rI w' ≤ -1 := by
          rw [rI_c]
          have := Rat.intCast_le_intCast.mpr (show w' ≤ -1 by omega)
          exact this
        have : w < w' + w' + 1 := by omega
        omega
    have m2 := Rat.mul_le_mul_of_nonneg_left m1 w0
    have m3 := Rat.mul_le_mul_of_nonneg_right c1 (Rat.le_of_lt hp)
    grind
  have e : p = p' := by
    have := key h2 g3 h4 a2 b1
    have := key g2 h3 g4 b2 a1
    omega
  subst e
  refine ⟨rfl, ?_⟩
  have k1 : rI w < rI w' + 1 := (mul_lt_iff p).mp (by grind)
  have k2 : rI w' < rI w + 1 := (mul_lt_iff p).mp (by grind)
  rw [rI_c, rI_c] at k1 k2
  have k1 := Rat.intCast_lt_intCast.mp (show ((w : Int) : Rat) < ((w' + 1 : Int) : Rat) by rw [Rat.intCast_add]; exact k1)
  have k2 := Rat.intCast_lt_intCast.mp (show ((w' : Int) : Rat) < ((w + 1 : Int) : Rat) by rw [Rat.intCast_add]; exact k2)
  omega
end
end Pv.K33


set_option Elab.async false
set_option linter.all false
set_option maxRecDepth 100000
set_option exponentiation.threshold 20
/-! Lf2: the walk of all numbers, of rounding by definition. -/
namespace Pv.K33
open Pv
local macro_rules
  | `(tactic| simp! only [$xs,*]) => `(tactic| simp only [ev.eq_1, ev.eq_2, ev.eq_3, ev.eq_4, ev.eq_5, ev.eq_6, ev.eq_7, ev.eq_8, ev.eq_9, ev.eq_10, ev.eq_11, ev.eq_12, ev.eq_13, ev.eq_14, ev.eq_15, ev.eq_16, ev.eq_17, ev.eq_18, ev.eq_19, ev.eq_20, ev.eq_21, ev.eq_22, ev.eq_23, ev.eq_24, ev.eq_25, ev.eq_26, ev.eq_27, ev.eq_28, ev.eq_29, ev.eq_30, ev.eq_35, evs, evT, exec.eq_1, exec.eq_2, exec.eq_3, exec.eq_4, exec.eq_5, exec.eq_6, exec.eq_7, exec.eq_8, exec.eq_9, exec.eq_10, exec.eq_11, exec.eq_12, exec.eq_13, exec.eq_14, exec.eq_15, exec.eq_16, exec.eq_19, exec.eq_20, exec.eq_21, exec.eq_22, exec.eq_23, execs, x_whl, x_for, x_comp, x_compIf, x_comp2, x_comp2If, bor, vi, mkEnv, eg, es, frzA, frzS, bn, bt, bq, bind_F, setAll, setAllT, bind1, setPar, wipeE, tgs, b_add, b_sub, b_mul, b_fdiv, b_mod, b_shl, b_shr, b_pow, b_tup, b_lst, o_lt, o_le, o_gt, o_ge, o_eqi, o_nei, o_neb, sl_a, sl_b, sl_bl, sl_c, cmp_nil, cmp_cons, cmpY_nil, cmpY_cons, ixW_3, ixL_0, ixL_1, ixL_2, ixL_3, btl, o_isb, o_eqs, o_nes, o_int, o_nit, isF_s, isF_i, deq_ss, deq_ii, List.all_cons, List.all_nil, List.any_cons, List.any_nil, Nat.reduceEqDiff, Int.reduceEq, u_len1, u_len2, u_len3, u_abs, u_int, u_intb, u_lst1, u_lst2, u_lst3, u_tup, u_max, u_min, s_int, s_bl, s_tup, s_lst, s_non, s_str, a_add, a_sub, i_tup, i_lst, r_bl, r_int, fin, chk_own, chk_some, isN, bnd, iN_non, iN_int, iN_bl, iN_str, iN_tup, iN_lst, iN_F, ixW_0, ixW_1, ixW_2, F_0, F_1, ixW_w, wg_1, wg_0, wp_0, List.map, List.length, List.replicate, List.cons_append, List.nil_append, List.append_nil, Nat.reduceSub, Nat.reduceAdd, Nat.sub_self, Nat.sub_zero, if_true, Bool.false_eq_true, if_false, reduceIte, ite_true, ite_false, Bool.and_self, Bool.and_true, Bool.true_and, Bool.not_true, Bool.not_false, Nat.reduceLT, Nat.reduceLeDiff, decide_true, decide_false, Int.reduceLT, Int.reduceLE, Int.reduceAdd, Int.reduceSub, Int.reduceNeg, Bool.or_true, Bool.or_false, Bool.true_or, Bool.false_or, Bool.and_false, Bool.false_and, $xs,*])
  | `(tactic| simp! only) => `(tactic| simp only [ev.eq_1, ev.eq_2, ev.eq_3, ev.eq_4, ev.eq_5, ev.eq_6, ev.eq_7, ev.eq_8, ev.eq_9, ev.eq_10, ev.eq_11, ev.eq_12, ev.eq_13, ev.eq_14, ev.eq_15, ev.eq_16, ev.eq_17, ev.eq_18, ev.eq_19, ev.eq_20, ev.eq_21, ev.eq_22, ev.eq_23, ev.eq_24, ev.eq_25, ev.eq_26, ev.eq_27, ev.eq_28, ev.eq_29, ev.eq_30, ev.eq_35, evs, evT, exec.eq_1, exec.eq_2, exec.eq_3, exec.eq_4, exec.eq_5, exec.eq_6, exec.eq_7, exec.eq_8, exec.eq_9, exec.eq_10, exec.eq_11, exec.eq_12, exec.eq_13, exec.eq_14, exec.eq_15, exec.eq_16, exec.eq_19, exec.eq_20, exec.eq_21, exec.eq_22, exec.eq_23, execs, x_whl, x_for, x_comp, x_compIf, x_comp2, x_comp2If, bor, vi, mkEnv, eg, es, frzA, frzS, bn, bt, bq, bind_F, setAll, setAllT, bind1, setPar, wipeE, tgs, b_add, b_sub, b_mul, b_fdiv, b_mod, b_shl, b_shr, b_pow, b_tup, b_lst, o_lt, o_le, o_gt, o_ge, o_eqi, o_nei, o_neb, sl_a, sl_b, sl_bl, sl_c, cmp_nil, cmp_cons, cmpY_nil, cmpY_cons, ixW_3, ixL_0, ixL_1, ixL_2, ixL_3, btl, o_isb, o_eqs, o_nes, o_int, o_nit, isF_s, isF_i, deq_ss, deq_ii, List.all_cons, List.all_nil, List.any_cons, List.any_nil, Nat.reduceEqDiff, Int.reduceEq, u_len1, u_len2, u_len3, u_abs, u_int, u_intb, u_lst1, u_lst2, u_lst3, u_tup, u_max, u_min, s_int, s_bl, s_tup, s_lst, s_non, s_str, a_add, a_sub, i_tup, i_lst, r_bl, r_int, fin, chk_own, chk_some, isN, bnd, iN_non, iN_int, iN_bl, iN_str, iN_tup, iN_lst, iN_F, ixW_0, ixW_1, ixW_2, F_0, F_1, ixW_w, wg_1, wg_0, wp_0, List.map, List.length, List.replicate, List.cons_append, List.nil_append, List.append_nil, Nat.reduceSub, Nat.reduceAdd, Nat.sub_self, Nat.sub_zero, if_true, Bool.false_eq_true, if_false, reduceIte, ite_true, ite_false, Bool.and_self, Bool.and_true, Bool.true_and, Bool.not_true, Bool.not_false, Nat.reduceLT, Nat.reduceLeDiff, decide_true, decide_false, Int.reduceLT, Int.reduceLE, Int.reduceAdd, Int.reduceSub, Int.reduceNeg, Bool.or_true, Bool.or_false, Bool.true_or, Bool.false_or, Bool.and_false, Bool.false_and])
variable (n : Nat) (ws : WS)
theorem NF_blk {x : Fo} (h : OkFo x) (j k : Nat) (hk : k < hN x) : NF x (2 * hN x + j * hN x + k) = .n 0 (halfW x + (k : Int)) (x.f + 1 + (j : Int)) := by
  have h2 := hN_pos h
  have e := hN_i x
  have hb := blk h (2 + j) k hk
  rw [Nat.add_mul] at hb
  unfold NF
  rw [if_neg (by omega)]
  unfold wI pI
  have c : ¬ (2 * hN x + j * hN x + k < 2 * hN x) := by omega
  rw [if_neg c, if_neg c, hb.1, hb.2]
  congr 1
  · omega
  · omega
theorem NF_lo {x : Fo} (h : OkFo x) {k : Nat} (h1 : 1 ≤ k) (h2 : k < 2 * hN x) : NF x k = .n 0 (k : Int) x.f := by
  unfold NF wI pI
  rw [if_neg (by omega), if_pos h2, if_pos h2]
def NL (x : Fo) (m : Nat) : List D := (List.range m).map fun i => ND (NF x i)
theorem NL_len (x : Fo) (m : Nat) : (NL x m).length = m := by unfold NL; rw [List.length_map, List.length_range]
theorem NL_0 {x : Fo} (h : OkFo x) : NL x (2 * hN x) = nO 0 :: (List.range (2 * hN x - 1)).map fun k : Nat => nN 0 (1 + (k : Int)) x.f := by
  have h2 := hN_pos h
  have e : 2 * hN x = (2 * hN x - 1) + 1 := by omega
  unfold NL
  rw [e, List.range_succ_eq_map, List.map_cons, List.map_map]
  congr 1
  apply List.map_congr_left
  intro k hk
  have hk := List.mem_range.mp hk
  show ND (NF x (k + 1)) = _
  rw [NF_lo h (by omega) (by omega)]
  show nN 0 ((k + 1 : Nat) : Int) x.f = _
  rw [show ((k + 1 : Nat) : Int) = 1 + (k : Int) by omega]
theorem NL_add {x : Fo} (h : OkFo x) (j : Nat) : NL x (2 * hN x + j * hN x) ++ (List.range (hN x)).map (fun k : Nat => nN 0 (halfW x + (k : Int)) (x.f + 1 + (j : Int))) = NL x (2 * hN x + (j + 1) * hN x) := by
  unfold NL
  rw [Nat.add_mul, Nat.one_mul, ← Nat.add_assoc]
  conv => rhs; rw [List.range_add, List.map_append, List.map_map]
  congr 1
  apply List.map_congr_left
  intro k hk
  show _ = ND (NF x (2 * hN x + j * hN x + k))
  rw [NF_blk h j k (List.mem_range.mp hk)]
  rfl
theorem small_pow {x : Fo} (h : SmFo x) : hN x ≤ 512 := by
  have d1 := h.ok.d1
  have d := h.d
  unfold hN
  have := Nat.pow_le_pow_right (show 0 < 2 by decide) (show (x.d - 1).toNat ≤ 9 by omega)
  simpa using this
theorem nN_le {x : Fo} (h : SmFo x) : nN_ x ≤ 31744 := by
  have h1 := small_pow h
  have r := h.r
  unfold nN_
  have : rN x + 2 ≤ 62 := by unfold rN; omega
  exact Nat.mul_le_mul this h1
theorem loop_fin {x : Fo} (h : SmFo x) {s0 : D} : ∀ (js : List Nat) (j0 : Nat) (t2 t6 : Slot), (∀ i, (hi : i < js.length) → js[i] = j0 + i) → 2 * hN x + (j0 + js.length) * hN x ≤ 31744 →
    ∃ u2 u6, forX (callO P n) (.nm 2) l__law_fin_2 (js.map fun k : Nat => .int (x.f + 1 + (k : Int))) [.va s0, .va (.lst (NL x (2 * hN x + j0 * hN x))), t2, .va (.int x.d), .va (.int x.f), .va (.int x.g), t6] ws =
      some (.nx, [.va s0, .va (.lst (NL x (2 * hN x + (j0 + js.length) * hN x))), u2, .va (.int x.d), .va (.int x.f), .va (.int x.g), u6], ws)
  | [], j0, t2, t6, _, _ => ⟨t2, t6, rfl⟩
  | j :: js, j0, t2, t6, hj, hl => by
    have e0 : j = j0 := hj 0 (by simp)
    subst e0
    have h2 := hN_pos h.ok
    have e := hN_i x
    have d1 := h.ok.d1
    have d := h.d
    rw [List.length_cons, Nat.add_mul] at hl
    have hl0 : js.length * hN x + hN x = (js.length + 1) * hN x := by rw [Nat.add_mul, Nat.one_mul]
    obtain ⟨u2, u6, ih⟩ := loop_fin h (s0 := s0) js (j + 1) (.va (.int (x.f + 1 + (j : Int)))) t6 (fun i hi => by have := hj (i + 1) (by simp; omega); simp at this; omega) (by rw [Nat.add_mul, Nat.add_mul, Nat.one_mul]; omega)
    refine ⟨u2, u6, ?_⟩
    have hw : (2 : Int) ^ (x.d - 1).toNat = halfW x := rfl
    have ph := pow_d h.ok
    have c := cmp_map (Φ := callO P n) (tg := .nm 6) (elt := x__law_fin_1) (env := [.va s0, .va (.lst (NL x (2 * hN x + j * hN x))), .va (.int (x.f + 1 + (j : Int))), .va (.int x.d), .va (.int x.f), .va (.int x.g), .un]) (ws := ws) (xs := List.range (hN x)) (rep := fun k : Nat => D.int (halfW x + (k : Int)))
      (g := fun k : Nat => nN 0 (halfW x + (k : Int)) (x.f + 1 + (j : Int))) fun k hk => by
        refine ⟨[.va s0, .va (.lst (NL x (2 * hN x + j * hN x))), .va (.int (x.f + 1 + (j : Int))), .va (.int x.d), .va (.int x.f), .va (.int x.g), .va (.int (halfW x + (k : Int)))], rfl, ?_⟩
        simp! only [x__law_fin_1]
    have d0 : 0 ≤ x.d := by omega
    have d00 : 0 ≤ x.d - 1 := by omega
    have dl : x.d ≤ 100000 := by omega
    have dl2 : x.d - 1 ≤ 100000 := by omega
    have w1 := small_pow h
    have b1 : -100000 ≤ halfW x := by omega
    have b2 : halfW x ≤ 100000 := by omega
    have b3 : -100000 ≤ 2 * halfW x := by omega
    have b4 : 2 * halfW x ≤ 100000 := by omega
    have t : (2 * halfW x - halfW x).toNat = hN x := by omega
    have o1 : okLen (hN x) = true := decide_eq_true (by omega)
    have o2 : okLen (2 * hN x + j * hN x + hN x) = true := decide_eq_true (by omega)
    have ea := NL_add h.ok j
    have ej : 2 * hN x + (j + 1 + js.length) * hN x = 2 * hN x + (j + (js.length + 1)) * hN x := by rw [show j + 1 + js.length = j + (js.length + 1) by omega]
    rw [List.map_cons, for_cons]
    simp! only [l__law_fin_2, decide_eq_true d0, decide_eq_true d00, decide_eq_true dl, decide_eq_true dl2, Int.natAbs_one, Int.one_mul, hw, ph.1, decide_eq_true b1, decide_eq_true b2, decide_eq_true b3, decide_eq_true b4, t, List.length_map, List.length_range, o1, c, NL_len, o2, ea]
    rw [← ej]
    exact ih
theorem c__law_fin {x : Fo} (h : SmFo x) : callO P (n + 1) 67 [FO x] ws = some (.lst (NL x (nN_ x)), ws) := by
  have h2 := hN_pos h.ok
  have e := hN_i x
  have d1 := h.ok.d1
  have d := h.d
  have fg := h.ok.fg
  have f1 := h.ok.f1
  have g2 := h.ok.g2
  have ph := pow_d h.ok
  have w1 := small_pow h
  have c := cmp_map (Φ := callO P n) (tg := .nm 6) (elt := x__law_fin_0) (env := [.va (FO x), .un, .un, .va (.int x.d), .va (.int x.f), .va (.int x.g), .un]) (ws := ws) (xs := List.range (2 * hN x - 1)) (rep := fun k : Nat => D.int (1 + (k : Int)))
    (g := fun k : Nat => nN 0 (1 + (k : Int)) x.f) fun k hk => by
      refine ⟨[.va (FO x), .un, .un, .va (.int x.d), .va (.int x.f), .va (.int x.g), .va (.int (1 + (k : Int)))], rfl, ?_⟩
      simp! only [x__law_fin_0]
  obtain ⟨u2, u6, lp⟩ := loop_fin n ws h (s0 := FO x) (List.range (rN x)) 0 .un .un (fun i hi => by simp) (by rw [List.length_range, Nat.zero_add]; have := nN_le h; unfold nN_ at this; rw [Nat.add_mul] at this; omega)
  rw [List.length_range, Nat.zero_add, Nat.zero_mul, Nat.add_zero, ← Nat.add_mul, Nat.add_comm 2 (rN x), NL_0 h.ok] at lp
  have d0 : 0 ≤ x.d := by omega
  have dl : x.d ≤ 100000 := by omega
  have b3 : -100000 ≤ 2 * halfW x := by omega
  have b4 : 2 * halfW x ≤ 100000 := by omega
  have t : (2 * halfW x - 1).toNat = 2 * hN x - 1 := by omega
  have o1 : okLen (2 * hN x - 1) = true := decide_eq_true (by omega)
  have o2 : okLen (0 + 1 + (2 * hN x - 1)) = true := decide_eq_true (by omega)
  have c1 : -100000 ≤ x.f + 1 := by omega
  have c2 : x.f + 1 ≤ 100000 := by omega
  have c3 : -100000 ≤ x.g + 1 := by omega
  have c4 : x.g + 1 ≤ 100000 := by omega
  have c5 : (x.g + 1 - (x.f + 1)).toNat = rN x := by unfold rN; omega
  rw [call_at (d := d__law_fin) rfl rfl]
  simp! only [d__law_fin, b__law_fin, decide_eq_true d0, decide_eq_true dl, Int.natAbs_one, Int.one_mul, ph.1, decide_eq_true b3, decide_eq_true b4, t, List.length_map, List.length_range, o1, c, o2, decide_eq_true c1, decide_eq_true c2, decide_eq_true c3, decide_eq_true c4, c5, lp]
  rfl
/-! the greatest of a list -/
theorem maxI_spec : ∀ (ns : List Int) (m : Int), (maxI m ns ∈ m :: ns) ∧ ∀ k ∈ m :: ns, k ≤ maxI m ns
  | [], m => by simp [maxI]
  | x :: ns, m => by
    unfold maxI
    by_cases c : m < x
    · rw [if_pos c]
      obtain ⟨h1, h2⟩ := maxI_spec ns x
      refine ⟨List.mem_cons_of_mem _ h1, fun k hk => ?_⟩
      rcases List.mem_cons.mp hk with rfl | hk
      · have := h2 x (by simp); omega
      · exact h2 k hk
    · rw [if_neg c]
      obtain ⟨h1, h2⟩ := maxI_spec ns m
      refine ⟨?_, fun k hk => ?_⟩
      · rcases List.mem_cons.mp h1 with h | h
        · rw [h]; simp
        · simp [h]
      · have h3 := h2 m (by simp)
        simp only [List.mem_cons] at hk
        rcases hk with rfl | rfl | hk
        · exact h3
        · omega
        · exact h2 k (by simp [hk])
theorem intsOf_map : ∀ ns : List Int, intsOf (ns.map .int) = some ns
  | [] => rfl
  | x :: ns => by
    have := intsOf_map ns
    simp only [List.map_cons, intsOf, this]
theorem max_list {ns : List Int} (h : ns ≠ []) : ∃ m, bf1 .maxL (.lst (ns.map .int)) = some (.int m) ∧ m ∈ ns ∧ ∀ k ∈ ns, k ≤ m := by
  cases ns with
  | nil => exact absurd rfl h
  | cons x ns =>
    obtain ⟨h1, h2⟩ := maxI_spec ns x
    have e := intsOf_map (x :: ns)
    exact ⟨maxI x ns, by simp only [bf1, e], h1, h2⟩
/-- the last place that is not above q -/
theorem low_ex {x : Fo} (h : OkFo x) {q : Rat} (h0 : 0 ≤ q) : ∃ M : Nat, M < nN_ x ∧ vI x M ≤ q ∧ (∀ k, k < nN_ x → vI x k ≤ q → k ≤ M) ∧
    bf1 .maxL (.lst (((List.range (nN_ x)).filter fun k => decide (vI x k ≤ q)).map fun k : Nat => .int (0 + (k : Int)))) = some (.int M) := by
  have hn : 0 ∈ (List.range (nN_ x)).filter fun k => decide (vI x k ≤ q) := by
    rw [List.mem_filter, List.mem_range]
    have := hN_pos h
    have := nN_ge h
    exact ⟨by omega, by rw [v_0 h]; exact decide_eq_true h0⟩
  have hne : ((List.range (nN_ x)).filter fun k => decide (vI x k ≤ q)).map (fun k : Nat => (0 + (k : Int))) ≠ [] := by
    intro z
    rw [List.map_eq_nil_iff] at z
    rw [z] at hn
    cases hn
  obtain ⟨m, e, h1, h2⟩ := max_list hne
  obtain ⟨M, hM, rfl⟩ := List.mem_map.mp h1
  rw [List.mem_filter, List.mem_range, decide_eq_true_eq] at hM
  refine ⟨M, hM.1, hM.2, fun k hk hv => ?_, ?_⟩
  · have := h2 (0 + (k : Int)) (List.mem_map.mpr ⟨k, by rw [List.mem_filter, List.mem_range, decide_eq_true_eq]; exact ⟨hk, hv⟩, rfl⟩)
    omega
  · rw [List.map_map] at e
    have e2 : ((0 : Int) + (M : Int)) = (M : Int) := by omega
    rw [e2] at e
    exact e
end Pv.K33


set_option Elab.async false
set_option linter.all false
set_option maxRecDepth 100000
set_option exponentiation.threshold 20
/-! Lf3: rounding by definition is the program's. -/
namespace Pv.K33
open Pv
local macro_rules
  | `(tactic| simp! only [$xs,*]) => `(tactic| simp only [ev.eq_1, ev.eq_2, ev.eq_3, ev.eq_4, ev.eq_5, ev.eq_6, ev.eq_7, ev.eq_8, ev.eq_9, ev.eq_10, ev.eq_11, ev.eq_12, ev.eq_13, ev.eq_14, ev.eq_15, ev.eq_16, ev.eq_17, ev.eq_18, ev.eq_19, ev.eq_20, ev.eq_21, ev.eq_22, ev.eq_23, ev.eq_24, ev.eq_25, ev.eq_26, ev.eq_27, ev.eq_28, ev.eq_29, ev.eq_30, ev.eq_35, evs, evT, exec.eq_1, exec.eq_2, exec.eq_3, exec.eq_4, exec.eq_5, exec.eq_6, exec.eq_7, exec.eq_8, exec.eq_9, exec.eq_10, exec.eq_11, exec.eq_12, exec.eq_13, exec.eq_14, exec.eq_15, exec.eq_16, exec.eq_19, exec.eq_20, exec.eq_21, exec.eq_22, exec.eq_23, execs, x_whl, x_for, x_comp, x_compIf, x_comp2, x_comp2If, bor, vi, mkEnv, eg, es, frzA, frzS, bn, bt, bq, bind_F, setAll, setAllT, bind1, setPar, wipeE, tgs, b_add, b_sub, b_mul, b_fdiv, b_mod, b_shl, b_shr, b_pow, b_tup, b_lst, o_lt, o_le, o_gt, o_ge, o_eqi, o_nei, o_neb, sl_a, sl_b, sl_bl, sl_c, cmp_nil, cmp_cons, cmpY_nil, cmpY_cons, ixW_3, ixL_0, ixL_1, ixL_2, ixL_3, btl, o_isb, o_eqs, o_nes, o_int, o_nit, isF_s, isF_i, deq_ss, deq_ii, List.all_cons, List.all_nil, List.any_cons, List.any_nil, Nat.reduceEqDiff, Int.reduceEq, u_len1, u_len2, u_len3, u_abs, u_int, u_intb, u_lst1, u_lst2, u_lst3, u_tup, u_max, u_min, s_int, s_bl, s_tup, s_lst, s_non, s_str, a_add, a_sub, i_tup, i_lst, r_bl, r_int, fin, chk_own, chk_some, isN, bnd, iN_non, iN_int, iN_bl, iN_str, iN_tup, iN_lst, iN_F, ixW_0, ixW_1, ixW_2, F_0, F_1, ixW_w, wg_1, wg_0, wp_0, List.map, List.length, List.replicate, List.cons_append, List.nil_append, List.append_nil, Nat.reduceSub, Nat.reduceAdd, Nat.sub_self, Nat.sub_zero, if_true, Bool.false_eq_true, if_false, reduceIte, ite_true, ite_false, Bool.and_self, Bool.and_true, Bool.true_and, Bool.not_true, Bool.not_false, Nat.reduceLT, Nat.reduceLeDiff, decide_true, decide_false, Int.reduceLT, Int.reduceLE, Int.reduceAdd, Int.reduceSub, Int.reduceNeg, Bool.or_true, Bool.or_false, Bool.true_or, Bool.false_or, Bool.and_false, Bool.false_and, $xs,*])
  | `(tactic| simp! only) => `(tactic| simp only [ev.eq_1, ev.eq_2, ev.eq_3, ev.eq_4, ev.eq_5, ev.eq_6, ev.eq_7, ev.eq_8, ev.eq_9, ev.eq_10, ev.eq_11, ev.eq_12, ev.eq_13, ev.eq_14, ev.eq_15, ev.eq_16, ev.eq_17, ev.eq_18, ev.eq_19, ev.eq_20, ev.eq_21, ev.eq_22, ev.eq_23, ev.eq_24, ev.eq_25, ev.eq_26, ev.eq_27, ev.eq_28, ev.eq_29, ev.eq_30, ev.eq_35, evs, evT, exec.eq_1, exec.eq_2, exec.eq_3, exec.eq_4, exec.eq_5, exec.eq_6, exec.eq_7, exec.eq_8, exec.eq_9, exec.eq_10, exec.eq_11, exec.eq_12, exec.eq_13, exec.eq_14, exec.eq_15, exec.eq_16, exec.eq_19, exec.eq_20, exec.eq_21, exec.eq_22, exec.eq_23, execs, x_whl, x_for, x_comp, x_compIf, x_comp2, x_comp2If, bor, vi, mkEnv, eg, es, frzA, frzS, bn, bt, bq, bind_F, setAll, setAllT, bind1, setPar, wipeE, tgs, b_add, b_sub, b_mul, b_fdiv, b_mod, b_shl, b_shr, b_pow, b_tup, b_lst, o_lt, o_le, o_gt, o_ge, o_eqi, o_nei, o_neb, sl_a, sl_b, sl_bl, sl_c, cmp_nil, cmp_cons, cmpY_nil, cmpY_cons, ixW_3, ixL_0, ixL_1, ixL_2, ixL_3, btl, o_isb, o_eqs, o_nes, o_int, o_nit, isF_s, isF_i, deq_ss, deq_ii, List.all_cons, List.all_nil, List.any_cons, List.any_nil, Nat.reduceEqDiff, Int.reduceEq, u_len1, u_len2, u_len3, u_abs, u_int, u_intb, u_lst1, u_lst2, u_lst3, u_tup, u_max, u_min, s_int, s_bl, s_tup, s_lst, s_non, s_str, a_add, a_sub, i_tup, i_lst, r_bl, r_int, fin, chk_own, chk_some, isN, bnd, iN_non, iN_int, iN_bl, iN_str, iN_tup, iN_lst, iN_F, ixW_0, ixW_1, ixW_2, F_0, F_1, ixW_w, wg_1, wg_0, wp_0, List.map, List.length, List.replicate, List.cons_append, List.nil_append, List.append_nil, Nat.reduceSub, Nat.reduceAdd, Nat.sub_self, Nat.sub_zero, if_true, Bool.false_eq_true, if_false, reduceIte, ite_true, ite_false, Bool.and_self, Bool.and_true, Bool.true_and, Bool.not_true, Bool.not_false, Nat.reduceLT, Nat.reduceLeDiff, decide_true, decide_false, Int.reduceLT, Int.reduceLE, Int.reduceAdd, Int.reduceSub, Int.reduceNeg, Bool.or_true, Bool.or_false, Bool.true_or, Bool.false_or, Bool.and_false, Bool.false_and])
variable (n : Nat) (ws : WS)
def upL (x : Fo) (y : Nat) (q : Rat) (M : Nat) : Bool :=
  if near y = true then decide (vI x M + vI x (M + 1) < 2 * q) || (decide (vI x M + vI x (M + 1) = 2 * q) && (decide (y = 5) || !decide (wI x M % 2 = 0))) else decide (y = 3)
theorem Z_vI {x : Fo} (h : SmFo x) {i : Nat} (hi : i ≤ nN_ x) : Z 1400 (vI x i) := by
  have b := wI_bd h.ok i
  have w := w_lt2 h.ok (w := fullW x) (by have := fullW_pos h.ok; omega) (by omega)
  have hf := half_full h.ok
  have f1 := h.ok.f1
  have g2 := h.ok.g2
  have hw : (wI x i).natAbs < 2 ^ 202 := by
    have h1 := halfW_lt h.ok
    have : (2 : Nat) ^ 202 = 2 * 2 ^ 201 := by rw [show 202 = 201 + 1 from rfl, Nat.pow_succ]; omega
    omega
  have hp : pI x i ≤ x.g + 1 := by
    rcases Nat.lt_or_ge i (nN_ x) with c | c
    · have := pI_le h.ok c; omega
    · have e : i = (nN_ x - 1) + 1 := by have := nN_ge h.ok; have := hN_pos h.ok; omega
      have l := last_i h.ok (i := nN_ x - 1) (by omega)
      have nx := (next_i h.ok (nN_ x - 1)).2.2 (by omega)
      rw [e, nx.2, l.1]
      omega
  exact (Z_mul (Z_rI hw (by decide)) (Z_pw (m := 1001) (by omega) (by omega))).mono (by decide)
theorem eq_num (u v : Rat) : u.num * v.den = v.num * u.den ↔ u = v := by
  constructor
  · intro h
    have h1 := (Rat.le_iff (a := u) (b := v)).mpr (by omega)
    have h2 := (Rat.le_iff (a := v) (b := u)).mpr (by omega)
    grind
  · intro h; rw [h]
theorem le_num (u v : Rat) : u.num * v.den ≤ v.num * u.den ↔ u ≤ v := by rw [Rat.le_iff]
theorem mid_num (q u v : Rat) : (q.den * (v.num * u.den + u.num * v.den) < 2 * q.num * v.den * u.den ↔ u + v < 2 * q) ∧ (2 * q.num * v.den * u.den = q.den * (v.num * u.den + u.num * v.den) ↔ u + v = 2 * q) := by
  have e0 : ((2 * q.num * v.den * u.den : Int) : Rat) = 2 * q * (((q.den : Int) : Rat) * ((v.den : Int) : Rat) * ((u.den : Int) : Rat)) := by
    simp only [Rat.intCast_mul]
    rw [← mul_den q]
    show (2 : Rat) * _ * _ * _ = _
    grind
  have e1 : ((q.den * (v.num * u.den + u.num * v.den) : Int) : Rat) = (u + v) * (((q.den : Int) : Rat) * ((v.den : Int) : Rat) * ((u.den : Int) : Rat)) := by
    simp only [Rat.intCast_mul, Rat.intCast_add]
    rw [← mul_den v, ← mul_den u]
    grind
  have pd : (0 : Rat) < ((q.den : Int) : Rat) * ((v.den : Int) : Rat) * ((u.den : Int) : Rat) := Rat.mul_pos (Rat.mul_pos (den_p q) (den_p v)) (den_p u)
  constructor
  · rw [← Rat.intCast_lt_intCast, e0, e1]
    exact ⟨fun h => Rat.lt_of_mul_lt_mul_right h (Rat.le_of_lt pd), fun h => Rat.mul_lt_mul_of_pos_right h pd⟩
  · rw [← Rat.intCast_inj, e0, e1]
    constructor
    · intro h
      have h1 : ¬ u + v < 2 * q := fun z => by have := Rat.mul_lt_mul_of_pos_right z pd; grind
      have h2 : ¬ 2 * q < u + v := fun z => by have := Rat.mul_lt_mul_of_pos_right z pd; grind
      grind
    · intro h; rw [h]
theorem bey_num (T : Int) : Rat.divInt (2 ^ (if T > 0 then T else 0).toNat) (2 ^ (if 0 - T > 0 then 0 - T else 0).toNat) = pw T := by
  unfold pw
  by_cases h : 0 < T
  · rw [if_pos h, if_neg (by omega), if_pos (by omega)]
    rfl
  · rw [if_neg h]
    by_cases h2 : T = 0
    · subst h2; rfl
    · rw [if_pos (by omega), if_neg (by omega), Int.zero_sub]
      rfl
theorem ix_map {m i : Nat} {f : Nat → D} (h : i < m) {j : Int} (hj : j = (i : Int)) : ixW ws (.lst ((List.range m).map f)) (.int j) = some (f i) := by
  show L2.atI _ j = _
  refine atI_of (j := i) hj ?_
  rw [List.getElem?_map, List.getElem?_range h]
  rfl
/-- sign 0 put in -/
theorem sgn_0 {x : Fo} {i : Nat} : ∃ a b c, slD (ND (NF x i)) none (some 1) = some (.tup a) ∧ slD (ND (NF x i)) (some 2) none = some (.tup c) ∧ a.length = 1 ∧ c.length ≤ 2 ∧ .tup (a ++ [.int 0] ++ c) = ND (NF x i) ∧ b = a := by
  unfold NF
  split
  · exact ⟨_, _, _, sl_a, sl_c, rfl, by simp, rfl, rfl⟩
  · exact ⟨_, _, _, sl_a, sl_c, rfl, by simp, rfl, rfl⟩
theorem walk_round {x : Fo} (h : SmFo x) {y : Nat} (hy : isWay y) {q : Rat} {b : Nat} (hq : Z b q) (hb : b ≤ 900) (hp : 0 < q) : ∃ M : Nat, M < nN_ x ∧ vI x M ≤ q ∧ (∀ k, k < nN_ x → vI x k ≤ q → k ≤ M) ∧
    ∃ m, callO P (n + 3) 70 [FO x, .str y, F q, .int 0] ws = some (.tup [
      if vI x M = q then ND (NF x M) else if M + 1 = nN_ x ∧ (upL x y q M = true ∨ pw (x.d + x.g) ≤ q) then (if upL x y q M = true ∨ near y = true then nE 0 else ND (NF x M)) else ND (NF x (if upL x y q M = true then M + 1 else M)), m], ws) := by
  obtain ⟨M, m1, m2, m3, e_max⟩ := low_ex h.ok (q := q) (Rat.le_of_lt hp)
  refine ⟨M, m1, m2, m3, ?_⟩
  have hl := nN_le h
  have nz : ¬ q.num = 0 := fun z => by rw [(num_z q).mp z] at hp; grind
  have n0 : 0 < q.num := by have := Rat.num_nonneg.mpr (Rat.le_of_lt hp); omega
  have nl : ¬ q.num < 0 := by omega
  have q4 := hq.mono (show b ≤ 900 by omega)
  have Z0 := Z_vI h (i := M) (by omega)
  have Z1 := Z_vI h (i := M + 1) (by omega)
  have f1 := h.ok.f1
  have g2 := h.ok.g2
  have fg := h.ok.fg
  have d1 := h.ok.d1
  have d2 := h.d
  have okn : okI q.num = true := okI_of (p3 (k := 0) q4.1)
  have okd : okI (q.den : Int) = true := okI_of (p3 (k := 0) (den_lt q4))
  have ok2 : okI 2 = true := okI_s (by decide)
  have okv : ∀ {u : Rat}, Z 1400 u → okI u.num = true ∧ okI (u.den : Int) = true := fun hu => ⟨okI_of (p3 (k := 0) hu.1), okI_of (p3 (k := 0) (den_lt hu))⟩
  have l2q : (2 * q.num).natAbs < 2 ^ 902 := by
    have := mul_lt (i := 2) (show (2 : Int).natAbs < 2 ^ 2 by decide) q4.1
    exact this
  have ok2q : okI (2 * q.num) = true := okI_of (p3 (k := 0) l2q)
  have l3 := mul_lt l2q (den_lt Z1)
  have ok3 : okI (2 * q.num * ((vI x (M + 1)).den : Int)) = true := okI_of (p3 (k := 0) l3)
  have l4 : ((vI x (M + 1)).num * ((vI x M).den : Int) + (vI x M).num * ((vI x (M + 1)).den : Int)).natAbs < 2 ^ 2801 := by
    have a := mul_lt Z1.1 (den_lt Z0)
    have c := mul_lt Z0.1 (den_lt Z1)
    have e : (2 : Nat) ^ 2801 = 2 ^ 2800 * 2 := Nat.pow_succ ..
    have a' : ((vI x (M + 1)).num * ((vI x M).den : Int)).natAbs < 2 ^ 2800 := a
    have c' : ((vI x M).num * ((vI x (M + 1)).den : Int)).natAbs < 2 ^ 2800 := c
    omega
  have ok4 := okI_of (p3 (k := 0) l4)
  have e_fin := c__law_fin (n + 1) ws h
  have o1 : okLen (nN_ x) = true := decide_eq_true (by omega)
  have c1 : (-100000 : Int) ≤ (nN_ x : Int) := by omega
  have c2 : (nN_ x : Int) ≤ 100000 := by omega
  have hN0 := hN_pos h.ok
  have e_val : ∀ i, i < nN_ x → callO P (n + 2) 68 [ND (NF x i)] ws = some (F (vI x i), ws) := fun i hi => by
    unfold NF
    split
    · rename_i z
      subst z
      rw [v_0 h.ok]
      exact c__law_val_o (n + 1) ws 0
    · have wb := wI_bd h.ok i
      have pl := pI_le h.ok hi
      have sp := small_pow h
      have hi' := hN_i x
      have := c__law_val n ws (s := 0) (w := wI x i) (p := pI x i) (.inl rfl) wb.1 (by omega) (by omega) (by omega)
      have e : vN 0 (wI x i) (pI x i) = vI x i := by unfold vN vI; rw [if_neg (by decide)]
      rw [e] at this
      exact this
  have cv := cmp_map (Φ := callO P (n + 2)) (tg := .nm 19) (elt := x__law_round_0) (env := [.va (FO x), .va (.str y), .va (F q), .va (.int 0), .un, .un, .un, .un, .un, .un, .un, .un, .un, .un, .va (.int 0), .va (.lst (NL x (nN_ x))), .va (.int q.num), .va (.int q.den), .un, .un, .un]) (ws := ws) (xs := List.range (nN_ x)) (rep := fun i => ND (NF x i)) (g := fun i => F (vI x i)) fun i hi => by
    refine ⟨[.va (FO x), .va (.str y), .va (F q), .va (.int 0), .un, .un, .un, .un, .un, .un, .un, .un, .un, .un, .va (.int 0), .va (.lst (NL x (nN_ x))), .va (.int q.num), .va (.int q.den), .un, .va (ND (NF x i)), .un], rfl, ?_⟩
    simp! only [x__law_round_0, e_val i (List.mem_range.mp hi)]
  have cv' : cmpX (callO P (n + 2)) (.nm 19) x__law_round_0 [.va (FO x), .va (.str y), .va (F q), .va (.int 0), .un, .un, .un, .un, .un, .un, .un, .un, .un, .un, .va (.int 0), .va (.lst (NL x (nN_ x))), .va (.int q.num), .va (.int q.den), .un, .un, .un] (NL x (nN_ x)) ws = some ((List.range (nN_ x)).map fun i => F (vI x i), ws) := cv
  have cf := cmpY_map (Φ := callO P (n + 2)) (tg := .nm 20) (c := t__law_round_1) (elt := x__law_round_2) (env := [.va (FO x), .va (.str y), .va (F q), .va (.int 0), .va (.lst ((List.range (nN_ x)).map fun i => F (vI x i))), .un, .un, .un, .un, .un, .un, .un, .un, .un, .va (.int 0), .va (.lst (NL x (nN_ x))), .va (.int q.num), .va (.int q.den), .un, .un, .un]) (ws := ws) (xs := List.range (nN_ x)) (rep := fun k : Nat => D.int (0 + (k : Int))) (g := fun k : Nat => D.int (0 + (k : Int))) (p := fun k => decide (vI x k ≤ q)) fun k hk => by
    have hk := List.mem_range.mp hk
    have ix := ix_map ws (f := fun i => F (vI x i)) hk (j := 0 + (k : Int)) (by omega)
    have ov := okv (Z_vI h (i := k) (by omega))
    refine ⟨[.va (FO x), .va (.str y), .va (F q), .va (.int 0), .va (.lst ((List.range (nN_ x)).map fun i => F (vI x i))), .un, .un, .un, .un, .un, .un, .un, .un, .un, .va (.int 0), .va (.lst (NL x (nN_ x))), .va (.int q.num), .va (.int q.den), .un, .un, .va (.int (0 + (k : Int)))], rfl, ?_, fun _ => ?_⟩
    · simp! only [t__law_round_1, ix, ov.1, ov.2, okn, okd, le_num]
    · simp! only [x__law_round_2]
  have ixv0 := ix_map ws (f := fun i => F (vI x i)) m1 (j := (M : Int)) rfl
  have ixr0 := ix_map ws (f := fun i => ND (NF x i)) m1 (j := (M : Int)) rfl
  have ixr0' : ixW ws (.lst (NL x (nN_ x))) (.int (M : Int)) = some (ND (NF x M)) := ixr0
  obtain ⟨a0, b0, c0, s1, s2, s3, s4, s5, _⟩ := sgn_0 (x := x) (i := M)
  have os1 : okLen (a0.length + (0 + 1)) = true := okLen_of (by omega)
  have os2 : okLen ((a0 ++ [D.int 0]).length + c0.length) = true := okLen_of (by simp; omega)
  rw [call_at (d := d__law_round) rfl rfl]
  by_cases hex : vI x M = q
  · -- just a number
    refine ⟨.tup [], ?_⟩
    rw [if_pos hex]
    refine run_ex (chk_ok _ _) ?_
    show ∃ env', execs (callO P (n + 2)) b__law_round [.va (FO x), .va (.str y), .va (F q), .va (.int 0), .un, .un, .un, .un, .un, .un, .un, .un, .un, .un, .un, .un, .un, .un, .un, .un, .un] ws = _
    refine step_nx [.va (FO x), .va (.str y), .va (F q), .va (.int 0), .un, .un, .un, .un, .un, .un, .un, .un, .un, .un, .un, .un, .un, .un, .un, .un, .un] ws (by simp! only [decide_eq_false nz]) ?_
    refine step_nx [.va (FO x), .va (.str y), .va (F q), .va (.int 0), .un, .un, .un, .un, .un, .un, .un, .un, .un, .un, .va (.int 0), .va (.lst (NL x (nN_ x))), .un, .un, .un, .un, .un] ws (by simp! only [decide_eq_false nl, e_fin]) ?_
    have mxn : (if 0 - q.num > q.num then 0 - q.num else q.num) = q.num := if_neg (by omega)
    refine step_nx [.va (FO x), .va (.str y), .va (F q), .va (.int 0), .un, .un, .un, .un, .un, .un, .un, .un, .un, .un, .va (.int 0), .va (.lst (NL x (nN_ x))), .va (.int q.num), .va (.int q.den), .un, .un, .un] ws (by simp! only [mxn]) ?_
    refine step_nx [.va (FO x), .va (.str y), .va (F q), .va (.int 0), .ow (.lst ((List.range (nN_ x)).map fun i => F (vI x i))), .un, .un, .un, .un, .un, .un, .un, .un, .un, .va (.int 0), .va (.lst (NL x (nN_ x))), .va (.int q.num), .va (.int q.den), .un, .un, .un] ws (by simp! only [NL_len, o1, cv']) ?_
    refine step_nx [.va (FO x), .va (.str y), .va (F q), .va (.int 0), .va (.lst ((List.range (nN_ x)).map fun i => F (vI x i))), .un, .un, .un, .un, .un, .un, .un, .un, .un, .va (.int 0), .va (.lst (NL x (nN_ x))), .va (.int q.num), .va (.int q.den), .un, .un, .un] ws (by simp! only) ?_
    refine step_nx [.va (FO x), .va (.str y), .va (F q), .va (.int 0), .va (.lst ((List.range (nN_ x)).map fun i => F (vI x i))), .va (.int M), .un, .un, .un, .un, .un, .un, .un, .un, .va (.int 0), .va (.lst (NL x (nN_ x))), .va (.int q.num), .va (.int q.den), .un, .un, .un] ws (by simp! only [NL_len, decide_eq_true c1, decide_eq_true c2, Int.toNat_natCast, List.length_map, List.length_range, o1, cf, e_max]) ?_
    have hexn := (eq_num (vI x M) q).mpr hex
    refine step_rt (by simp! only [ixv0, okn, okd, (okv Z0).1, (okv Z0).2, decide_eq_true hexn, ixr0', s1, s2, os1, os2, s5]; rfl)
  · rw [if_neg hex]
    have hexn : ¬ (vI x M).num * (q.den : Int) = q.num * ((vI x M).den : Int) := fun z => hex ((eq_num (vI x M) q).mp z)
    have e_small := c__law_val n ws (s := 0) (w := halfW x) (p := x.f) (.inl rfl) (by have := (pow_d h.ok).2; omega) (by have := small_pow h; have := hN_i x; omega) (by omega) (by omega)
    have zs := Z_half h.ok
    have oks := okv (zs.mono (show 1300 ≤ 1400 by decide))
    have e_bey := c__law_least (n + 1) (2 ^ (if x.d + x.g > 0 then x.d + x.g else 0).toNat) (2 ^ (if 0 - (x.d + x.g) > 0 then 0 - (x.d + x.g) else 0).toNat) ws (pos2 _) (by rw [Int.natAbs_pow]; exact Nat.pow_lt_pow_right (by decide) (by split <;> omega))
    rw [bey_num] at e_bey
    have t1 : 0 ≤ (if x.d + x.g > 0 then x.d + x.g else 0) := by split <;> omega
    have t2 : (if x.d + x.g > 0 then x.d + x.g else 0) ≤ 100000 := by split <;> omega
    have t3 : 0 ≤ (if 0 - (x.d + x.g) > 0 then 0 - (x.d + x.g) else 0) := by split <;> omega
    have t4 : (if 0 - (x.d + x.g) > 0 then 0 - (x.d + x.g) else 0) ≤ 100000 := by split <;> omega
    have zb := (Z_pw (e := x.d + x.g) (m := 1100) (by omega) (by omega)).mono (show _ ≤ 1400 by decide)
    have okb := okv zb
    -- above
    have e_above : (M + 1 < nN_ x ∧ ixW ws (.lst ((List.range (nN_ x)).map fun i => F (vI x i))) (.int ((M : Int) + 1)) = some (F (vI x (M + 1)))) ∨ (M + 1 = nN_ x ∧ pw (x.d + x.g) = vI x (M + 1)) := by
      rcases Nat.lt_or_ge (M + 1) (nN_ x) with c | c
      · exact .inl ⟨c, ix_map ws (f := fun i => F (vI x i)) c (by omega)⟩
      · right
        have l := last_i h.ok (i := M) (by omega)
        refine ⟨by omega, ?_⟩
        rw [(next_i h.ok M).1, l.1, l.2, pw_add, pw_d h.ok, rI_c]
        congr 1
        have : ((2 * halfW x : Int) : Rat) = ((2 * halfW x - 1 + 1 : Int) : Rat) := by congr 1; omega
        rw [this, Rat.intCast_add]
        rfl
    have mid := mid_num q (vI x M) (vI x (M + 1))
    -- the mark, whatever it is
    have h15 : ∃ mk, exec (callO P (n + 2)) (.set (.nm 12) (.ite (.cmp .lt (.bin .mul (.var 16) (.ix (.var 11) (.num 1))) (.bin .mul (.ix (.var 11) (.num 0)) (.var 17))) (.tup (.cons (.txt 7) (.cons (.txt 8) .nil))) (.tup (.cons (.txt 7) .nil)))) [.va (FO x), .va (.str y), .va (F q), .va (.int 0), .va (.lst ((List.range (nN_ x)).map fun i => F (vI x i))), .va (.int M), .va (.int (x.d + x.g)), .va (F (pw (x.d + x.g))), .va (F (vI x (M + 1))), .va (.tup [.int (2 * q.num * (vI x (M + 1)).den * (vI x M).den), .int (q.den * ((vI x (M + 1)).num * (vI x M).den + (vI x M).num * (vI x (M + 1)).den))]), .va (.bl (decide (wI x M % 2 = 0))), .va (F (vN 0 (halfW x) x.f)), .un, .un, .va (.int 0), .va (.lst (NL x (nN_ x))), .va (.int q.num), .va (.int q.den), .va (.bl (upL x y q M)), .un, .un] ws = some (.nx, [.va (FO x), .va (.str y), .va (F q), .va (.int 0), .va (.lst ((List.range (nN_ x)).map fun i => F (vI x i))), .va (.int M), .va (.int (x.d + x.g)), .va (F (pw (x.d + x.g))), .va (F (vI x (M + 1))), .va (.tup [.int (2 * q.num * (vI x (M + 1)).den * (vI x M).den), .int (q.den * ((vI x (M + 1)).num * (vI x M).den + (vI x M).num * (vI x (M + 1)).den))]), .va (.bl (decide (wI x M % 2 = 0))), .va (F (vN 0 (halfW x) x.f)), .va mk, .un, .va (.int 0), .va (.lst (NL x (nN_ x))), .va (.int q.num), .va (.int q.den), .va (.bl (upL x y q M)), .un, .un], ws) := by
      by_cases c : q.num * ((vN 0 (halfW x) x.f).den : Int) < (vN 0 (halfW x) x.f).num * (q.den : Int)
      · exact ⟨.tup [.str 7, .str 8], by simp! only [okn, okd, oks.1, oks.2, decide_eq_true c]⟩
      · exact ⟨.tup [.str 7], by simp! only [okn, okd, oks.1, oks.2, decide_eq_false c]⟩
    obtain ⟨mk, h15⟩ := h15
    have mxn : (if 0 - q.num > q.num then 0 - q.num else q.num) = q.num := if_neg (by omega)
    have top : ∀ {d : D}, (∃ env', execs (callO P (n + 2)) (
        (.cons (.ite (.and2 (.cmp .eq (.bin .add (.var 5) (.num 1)) (.b1 .len (.var 15))) (.one (.or2 (.val (.var 18)) (.one (.cmp .ge (.bin .mul (.var 16) (.ix (.var 7) (.num 1))) (.bin .mul (.ix (.var 7) (.num 0)) (.var 17))))))) (.cons (.ret (.tup (.cons (.ite (.or2 (.val (.var 18)) (.one (.cmp .isin (.var 1) (.tup (.cons (.txt 9) (.cons (.txt 5) .nil)))))) (.tup (.cons (.txt 10) (.cons (.var 14) .nil))) (.bin .add (.bin .add (.sl (.ix (.var 15) (.var 5)) .non (.num 1)) (.tup (.cons (.var 14) .nil))) (.sl (.ix (.var 15) (.var 5)) (.num 2) .non))) (.cons (.tup (.cons (.txt 7) (.cons (.txt 6) .nil))) .nil)))) .nil) .nil)
        (.cons (.set (.nm 13) (.ite (.val (.var 18)) (.ix (.var 15) (.bin .add (.var 5) (.num 1))) (.ix (.var 15) (.var 5))))
        (.cons (.ret (.tup (.cons (.bin .add (.bin .add (.sl (.var 13) .non (.num 1)) (.tup (.cons (.var 14) .nil))) (.sl (.var 13) (.num 2) .non)) (.cons (.var 12) .nil))))
        .nil)))) [.va (FO x), .va (.str y), .va (F q), .va (.int 0), .va (.lst ((List.range (nN_ x)).map fun i => F (vI x i))), .va (.int M), .va (.int (x.d + x.g)), .va (F (pw (x.d + x.g))), .va (F (vI x (M + 1))), .va (.tup [.int (2 * q.num * (vI x (M + 1)).den * (vI x M).den), .int (q.den * ((vI x (M + 1)).num * (vI x M).den + (vI x M).num * (vI x (M + 1)).den))]), .va (.bl (decide (wI x M % 2 = 0))), .va (F (vN 0 (halfW x) x.f)), .va mk, .un, .va (.int 0), .va (.lst (NL x (nN_ x))), .va (.int q.num), .va (.int q.den), .va (.bl (upL x y q M)), .un, .un] ws = some (.rt d, env', ws)) → ∃ env', execs (callO P (n + 2)) b__law_round [.va (FO x), .va (.str y), .va (F q), .va (.int 0), .un, .un, .un, .un, .un, .un, .un, .un, .un, .un, .un, .un, .un, .un, .un, .un, .un] ws = some (.rt d, env', ws) := by
      intro d hd
      refine step_nx [.va (FO x), .va (.str y), .va (F q), .va (.int 0), .un, .un, .un, .un, .un, .un, .un, .un, .un, .un, .un, .un, .un, .un, .un, .un, .un] ws (by simp! only [decide_eq_false nz]) ?_
      refine step_nx [.va (FO x), .va (.str y), .va (F q), .va (.int 0), .un, .un, .un, .un, .un, .un, .un, .un, .un, .un, .va (.int 0), .va (.lst (NL x (nN_ x))), .un, .un, .un, .un, .un] ws (by simp! only [decide_eq_false nl, e_fin]) ?_
      refine step_nx [.va (FO x), .va (.str y), .va (F q), .va (.int 0), .un, .un, .un, .un, .un, .un, .un, .un, .un, .un, .va (.int 0), .va (.lst (NL x (nN_ x))), .va (.int q.num), .va (.int q.den), .un, .un, .un] ws (by simp! only [mxn]) ?_
      refine step_nx [.va (FO x), .va (.str y), .va (F q), .va (.int 0), .ow (.lst ((List.range (nN_ x)).map fun i => F (vI x i))), .un, .un, .un, .un, .un, .un, .un, .un, .un, .va (.int 0), .va (.lst (NL x (nN_ x))), .va (.int q.num), .va (.int q.den), .un, .un, .un] ws (by simp! only [NL_len, o1, cv']) ?_
      refine step_nx [.va (FO x), .va (.str y), .va (F q), .va (.int 0), .va (.lst ((List.range (nN_ x)).map fun i => F (vI x i))), .un, .un, .un, .un, .un, .un, .un, .un, .un, .va (.int 0), .va (.lst (NL x (nN_ x))), .va (.int q.num), .va (.int q.den), .un, .un, .un] ws (by simp! only) ?_
      refine step_nx [.va (FO x), .va (.str y), .va (F q), .va (.int 0), .va (.lst ((List.range (nN_ x)).map fun i => F (vI x i))), .va (.int M), .un, .un, .un, .un, .un, .un, .un, .un, .va (.int 0), .va (.lst (NL x (nN_ x))), .va (.int q.num), .va (.int q.den), .un, .un, .un] ws (by simp! only [NL_len, decide_eq_true c1, decide_eq_true c2, Int.toNat_natCast, List.length_map, List.length_range, o1, cf, e_max]) ?_
      refine step_nx [.va (FO x), .va (.str y), .va (F q), .va (.int 0), .va (.lst ((List.range (nN_ x)).map fun i => F (vI x i))), .va (.int M), .un, .un, .un, .un, .un, .un, .un, .un, .va (.int 0), .va (.lst (NL x (nN_ x))), .va (.int q.num), .va (.int q.den), .un, .un, .un] ws (by simp! only [ixv0, okn, okd, (okv Z0).1, (okv Z0).2, decide_eq_false hexn]) ?_
      refine step_nx [.va (FO x), .va (.str y), .va (F q), .va (.int 0), .va (.lst ((List.range (nN_ x)).map fun i => F (vI x i))), .va (.int M), .va (.int (x.d + x.g)), .un, .un, .un, .un, .un, .un, .un, .va (.int 0), .va (.lst (NL x (nN_ x))), .va (.int q.num), .va (.int q.den), .un, .un, .un] ws (by simp! only) ?_
      refine step_nx [.va (FO x), .va (.str y), .va (F q), .va (.int 0), .va (.lst ((List.range (nN_ x)).map fun i => F (vI x i))), .va (.int M), .va (.int (x.d + x.g)), .va (F (pw (x.d + x.g))), .un, .un, .un, .un, .un, .un, .va (.int 0), .va (.lst (NL x (nN_ x))), .va (.int q.num), .va (.int q.den), .un, .un, .un] ws (by simp! only [decide_eq_true t1, decide_eq_true t2, decide_eq_true t3, decide_eq_true t4, Int.natAbs_one, Int.one_mul, e_bey]) ?_
      refine step_nx [.va (FO x), .va (.str y), .va (F q), .va (.int 0), .va (.lst ((List.range (nN_ x)).map fun i => F (vI x i))), .va (.int M), .va (.int (x.d + x.g)), .va (F (pw (x.d + x.g))), .va (F (vI x (M + 1))), .un, .un, .un, .un, .un, .va (.int 0), .va (.lst (NL x (nN_ x))), .va (.int q.num), .va (.int q.den), .un, .un, .un] ws ?_ ?_
      · rcases e_above with ⟨c, ix⟩ | ⟨c, e⟩
        · have c' : (M : Int) + 1 < (nN_ x : Int) := by omega
          simp! only [NL_len, decide_eq_true c', ix]
        · have c' : ¬ (M : Int) + 1 < (nN_ x : Int) := by omega
          simp! only [NL_len, decide_eq_false c', e]
      refine step_nx [.va (FO x), .va (.str y), .va (F q), .va (.int 0), .va (.lst ((List.range (nN_ x)).map fun i => F (vI x i))), .va (.int M), .va (.int (x.d + x.g)), .va (F (pw (x.d + x.g))), .va (F (vI x (M + 1))), .va (.tup [.int (2 * q.num * (vI x (M + 1)).den * (vI x M).den), .int (q.den * ((vI x (M + 1)).num * (vI x M).den + (vI x M).num * (vI x (M + 1)).den))]), .un, .un, .un, .un, .va (.int 0), .va (.lst (NL x (nN_ x))), .va (.int q.num), .va (.int q.den), .un, .un, .un] ws (by simp! only [okn, okd, ok2, ok2q, ok3, ok4, ixv0, (okv Z0).1, (okv Z0).2, (okv Z1).1, (okv Z1).2]) ?_
      refine step_nx [.va (FO x), .va (.str y), .va (F q), .va (.int 0), .va (.lst ((List.range (nN_ x)).map fun i => F (vI x i))), .va (.int M), .va (.int (x.d + x.g)), .va (F (pw (x.d + x.g))), .va (F (vI x (M + 1))), .va (.tup [.int (2 * q.num * (vI x (M + 1)).den * (vI x M).den), .int (q.den * ((vI x (M + 1)).num * (vI x M).den + (vI x M).num * (vI x (M + 1)).den))]), .va (.bl (decide (wI x M % 2 = 0))), .un, .un, .un, .va (.int 0), .va (.lst (NL x (nN_ x))), .va (.int q.num), .va (.int q.den), .un, .un, .un] ws ?_ ?_
      · by_cases c : M = 0
        · have e0 : NF x M = .o 0 := by unfold NF; rw [if_pos c]
          have e1 : decide (wI x M % 2 = 0) = true := by
            unfold wI
            rw [c, if_pos (by omega)]
            rfl
          rw [e1]
          rw [e0] at ixr0'
          simp! only [ixr0', ND]
        · have e0 : NF x M = .n 0 (wI x M) (pI x M) := by unfold NF; rw [if_neg c]
          rw [e0] at ixr0'
          simp! only [ixr0', ND]
      refine step_nx [.va (FO x), .va (.str y), .va (F q), .va (.int 0), .va (.lst ((List.range (nN_ x)).map fun i => F (vI x i))), .va (.int M), .va (.int (x.d + x.g)), .va (F (pw (x.d + x.g))), .va (F (vI x (M + 1))), .va (.tup [.int (2 * q.num * (vI x (M + 1)).den * (vI x M).den), .int (q.den * ((vI x (M + 1)).num * (vI x M).den + (vI x M).num * (vI x (M + 1)).den))]), .va (.bl (decide (wI x M % 2 = 0))), .un, .un, .un, .va (.int 0), .va (.lst (NL x (nN_ x))), .va (.int q.num), .va (.int q.den), .va (.bl (upL x y q M)), .un, .un] ws ?_ ?_
      · rcases hy with rfl | rfl | rfl | rfl | rfl
        · by_cases c3 : vI x M + vI x (M + 1) < 2 * q
          · have c3' := mid.1.mpr c3
            simp! only [decide_eq_true c3', upL, near, true_or, c3]
          · have c3' : ¬ _ := fun z => c3 (mid.1.mp z)
            by_cases c4 : vI x M + vI x (M + 1) = 2 * q
            · have c4' := mid.2.mpr c4
              have hu9 : upL x 9 q M = !decide (wI x M % 2 = 0) := by unfold upL; rw [if_pos (by decide), decide_eq_false c3, decide_eq_true c4]; simp
              simp! only [decide_eq_false c3', decide_eq_true c4', hu9]
            · have c4' : ¬ _ := fun z => c4 (mid.2.mp z)
              simp! only [decide_eq_false c3', decide_eq_false c4', upL, near, true_or, c3, c4]
        · by_cases c3 : vI x M + vI x (M + 1) < 2 * q
          · have c3' := mid.1.mpr c3
            simp! only [decide_eq_true c3', upL, near, or_true, c3]
          · have c3' : ¬ _ := fun z => c3 (mid.1.mp z)
            by_cases c4 : vI x M + vI x (M + 1) = 2 * q
            · have c4' := mid.2.mpr c4
              have hu9 : upL x 5 q M = true := by unfold upL; rw [if_pos (by decide), decide_eq_false c3, decide_eq_true c4]; simp
              simp! only [decide_eq_false c3', decide_eq_true c4', hu9]
            · have c4' : ¬ _ := fun z => c4 (mid.2.mp z)
              simp! only [decide_eq_false c3', decide_eq_false c4', upL, near, or_true, c3, c4]
        · simp! only [upL, near, or_self]
        · simp! only [upL, near, or_self]
        · simp! only [upL, near, or_self]
      have d0 : 0 ≤ x.d - 1 := by omega
      have dl : x.d - 1 ≤ 100000 := by omega
      have hw : (2 : Int) ^ (x.d - 1).toNat = halfW x := rfl
      refine step_nx [.va (FO x), .va (.str y), .va (F q), .va (.int 0), .va (.lst ((List.range (nN_ x)).map fun i => F (vI x i))), .va (.int M), .va (.int (x.d + x.g)), .va (F (pw (x.d + x.g))), .va (F (vI x (M + 1))), .va (.tup [.int (2 * q.num * (vI x (M + 1)).den * (vI x M).den), .int (q.den * ((vI x (M + 1)).num * (vI x M).den + (vI x M).num * (vI x (M + 1)).den))]), .va (.bl (decide (wI x M % 2 = 0))), .va (F (vN 0 (halfW x) x.f)), .un, .un, .va (.int 0), .va (.lst (NL x (nN_ x))), .va (.int q.num), .va (.int q.den), .va (.bl (upL x y q M)), .un, .un] ws (by simp! only [decide_eq_true d0, decide_eq_true dl, Int.natAbs_one, Int.one_mul, hw, e_small]) ?_
      exact step_nx [.va (FO x), .va (.str y), .va (F q), .va (.int 0), .va (.lst ((List.range (nN_ x)).map fun i => F (vI x i))), .va (.int M), .va (.int (x.d + x.g)), .va (F (pw (x.d + x.g))), .va (F (vI x (M + 1))), .va (.tup [.int (2 * q.num * (vI x (M + 1)).den * (vI x M).den), .int (q.den * ((vI x (M + 1)).num * (vI x M).den + (vI x M).num * (vI x (M + 1)).den))]), .va (.bl (decide (wI x M % 2 = 0))), .va (F (vN 0 (halfW x) x.f)), .va mk, .un, .va (.int 0), .va (.lst (NL x (nN_ x))), .va (.int q.num), .va (.int q.den), .va (.bl (upL x y q M)), .un, .un] ws h15 hd
    have gle := le_num (pw (x.d + x.g)) q
    by_cases hlast : M + 1 = nN_ x
    · have hl' : (M : Int) + 1 = (nN_ x : Int) := by omega
      by_cases hu : upL x y q M = true
      · refine ⟨.tup [.str 7, .str 6], run_ex (chk_ok _ _) (top (step_rt (env1 := [.va (FO x), .va (.str y), .va (F q), .va (.int 0), .va (.lst ((List.range (nN_ x)).map fun i => F (vI x i))), .va (.int M), .va (.int (x.d + x.g)), .va (F (pw (x.d + x.g))), .va (F (vI x (M + 1))), .va (.tup [.int (2 * q.num * (vI x (M + 1)).den * (vI x M).den), .int (q.den * ((vI x (M + 1)).num * (vI x M).den + (vI x M).num * (vI x (M + 1)).den))]), .va (.bl (decide (wI x M % 2 = 0))), .va (F (vN 0 (halfW x) x.f)), .va mk, .un, .va (.int 0), .va (.lst (NL x (nN_ x))), .va (.int q.num), .va (.int q.den), .va (.bl (upL x y q M)), .un, .un]) ?_))⟩
        rw [if_pos ⟨hlast, .inl hu⟩, if_pos (.inl hu)]
        simp! only [NL_len, decide_eq_true hl', hu]
      · have hu' : upL x y q M = false := by simpa using hu
        by_cases hg : pw (x.d + x.g) ≤ q
        · refine ⟨.tup [.str 7, .str 6], run_ex (chk_ok _ _) (top (step_rt (env1 := [.va (FO x), .va (.str y), .va (F q), .va (.int 0), .va (.lst ((List.range (nN_ x)).map fun i => F (vI x i))), .va (.int M), .va (.int (x.d + x.g)), .va (F (pw (x.d + x.g))), .va (F (vI x (M + 1))), .va (.tup [.int (2 * q.num * (vI x (M + 1)).den * (vI x M).den), .int (q.den * ((vI x (M + 1)).num * (vI x M).den + (vI x M).num * (vI x (M + 1)).den))]), .va (.bl (decide (wI x M % 2 = 0))), .va (F (vN 0 (halfW x) x.f)), .va mk, .un, .va (.int 0), .va (.lst (NL x (nN_ x))), .va (.int q.num), .va (.int q.den), .va (.bl (upL x y q M)), .un, .un]) ?_))⟩
          rw [if_pos ⟨hlast, .inr hg⟩]
          have hg' := gle.mpr hg
          rcases hy with rfl | rfl | rfl | rfl | rfl
          · rw [if_pos (.inr rfl)]
            simp! only [NL_len, decide_eq_true hl', hu', okn, okd, okb.1, okb.2, decide_eq_true hg']
          · rw [if_pos (.inr rfl)]
            simp! only [NL_len, decide_eq_true hl', hu', okn, okd, okb.1, okb.2, decide_eq_true hg']
          · rw [if_neg (by rw [hu']; decide)]
            simp! only [NL_len, decide_eq_true hl', hu', okn, okd, okb.1, okb.2, decide_eq_true hg', ixr0', s1, s2, os1, os2, s5]
          · rw [if_neg (by rw [hu']; decide)]
            simp! only [NL_len, decide_eq_true hl', hu', okn, okd, okb.1, okb.2, decide_eq_true hg', ixr0', s1, s2, os1, os2, s5]
          · rw [if_neg (by rw [hu']; decide)]
            simp! only [NL_len, decide_eq_true hl', hu', okn, okd, okb.1, okb.2, decide_eq_true hg', ixr0', s1, s2, os1, os2, s5]
        · have hg' : ¬ (pw (x.d + x.g)).num * (q.den : Int) ≤ q.num * ((pw (x.d + x.g)).den : Int) := fun z => hg (gle.mp z)
          refine ⟨mk, run_ex (chk_ok _ _) (top (step_nx [.va (FO x), .va (.str y), .va (F q), .va (.int 0), .va (.lst ((List.range (nN_ x)).map fun i => F (vI x i))), .va (.int M), .va (.int (x.d + x.g)), .va (F (pw (x.d + x.g))), .va (F (vI x (M + 1))), .va (.tup [.int (2 * q.num * (vI x (M + 1)).den * (vI x M).den), .int (q.den * ((vI x (M + 1)).num * (vI x M).den + (vI x M).num * (vI x (M + 1)).den))]), .va (.bl (decide (wI x M % 2 = 0))), .va (F (vN 0 (halfW x) x.f)), .va mk, .un, .va (.int 0), .va (.lst (NL x (nN_ x))), .va (.int q.num), .va (.int q.den), .va (.bl (upL x y q M)), .un, .un] ws ?_ (step_nx [.va (FO x), .va (.str y), .va (F q), .va (.int 0), .va (.lst ((List.range (nN_ x)).map fun i => F (vI x i))), .va (.int M), .va (.int (x.d + x.g)), .va (F (pw (x.d + x.g))), .va (F (vI x (M + 1))), .va (.tup [.int (2 * q.num * (vI x (M + 1)).den * (vI x M).den), .int (q.den * ((vI x (M + 1)).num * (vI x M).den + (vI x M).num * (vI x (M + 1)).den))]), .va (.bl (decide (wI x M % 2 = 0))), .va (F (vN 0 (halfW x) x.f)), .va mk, .va (ND (NF x M)), .va (.int 0), .va (.lst (NL x (nN_ x))), .va (.int q.num), .va (.int q.den), .va (.bl (upL x y q M)), .un, .un] ws ?_ (step_rt (env1 := [.va (FO x), .va (.str y), .va (F q), .va (.int 0), .va (.lst ((List.range (nN_ x)).map fun i => F (vI x i))), .va (.int M), .va (.int (x.d + x.g)), .va (F (pw (x.d + x.g))), .va (F (vI x (M + 1))), .va (.tup [.int (2 * q.num * (vI x (M + 1)).den * (vI x M).den), .int (q.den * ((vI x (M + 1)).num * (vI x M).den + (vI x M).num * (vI x (M + 1)).den))]), .va (.bl (decide (wI x M % 2 = 0))), .va (F (vN 0 (halfW x) x.f)), .va mk, .va (ND (NF x M)), .va (.int 0), .va (.lst (NL x (nN_ x))), .va (.int q.num), .va (.int q.den), .va (.bl (upL x y q M)), .un, .un]) ?_))))⟩
          · simp! only [NL_len, decide_eq_true hl', hu', okn, okd, okb.1, okb.2, decide_eq_false hg']
          · simp! only [hu', ixr0']
          · rw [if_neg (by rintro ⟨_, z | z⟩; exact hu z; exact hg z), if_neg hu]
            simp! only [s1, s2, os1, os2, s5]
    · have hl' : ¬ (M : Int) + 1 = (nN_ x : Int) := by omega
      have ixr1 : ixW ws (.lst (NL x (nN_ x))) (.int ((M : Int) + 1)) = some (ND (NF x (M + 1))) := ix_map ws (f := fun i => ND (NF x i)) (show M + 1 < nN_ x by omega) (by omega)
      cases hu : upL x y q M with
      | true =>
        obtain ⟨a1, b1, c1', r1, r2, r3, r4, r5, _⟩ := sgn_0 (x := x) (i := M + 1)
        have or1 : okLen (a1.length + (0 + 1)) = true := okLen_of (by omega)
        have or2 : okLen ((a1 ++ [D.int 0]).length + c1'.length) = true := okLen_of (by simp; omega)
        rw [hu] at top
        refine ⟨mk, run_ex (chk_ok _ _) (top (step_nx [.va (FO x), .va (.str y), .va (F q), .va (.int 0), .va (.lst ((List.range (nN_ x)).map fun i => F (vI x i))), .va (.int M), .va (.int (x.d + x.g)), .va (F (pw (x.d + x.g))), .va (F (vI x (M + 1))), .va (.tup [.int (2 * q.num * (vI x (M + 1)).den * (vI x M).den), .int (q.den * ((vI x (M + 1)).num * (vI x M).den + (vI x M).num * (vI x (M + 1)).den))]), .va (.bl (decide (wI x M % 2 = 0))), .va (F (vN 0 (halfW x) x.f)), .va mk, .un, .va (.int 0), .va (.lst (NL x (nN_ x))), .va (.int q.num), .va (.int q.den), .va (.bl (true)), .un, .un] ws ?_ (step_nx [.va (FO x), .va (.str y), .va (F q), .va (.int 0), .va (.lst ((List.range (nN_ x)).map fun i => F (vI x i))), .va (.int M), .va (.int (x.d + x.g)), .va (F (pw (x.d + x.g))), .va (F (vI x (M + 1))), .va (.tup [.int (2 * q.num * (vI x (M + 1)).den * (vI x M).den), .int (q.den * ((vI x (M + 1)).num * (vI x M).den + (vI x M).num * (vI x (M + 1)).den))]), .va (.bl (decide (wI x M % 2 = 0))), .va (F (vN 0 (halfW x) x.f)), .va mk, .va (ND (NF x (M + 1))), .va (.int 0), .va (.lst (NL x (nN_ x))), .va (.int q.num), .va (.int q.den), .va (.bl (true)), .un, .un] ws ?_ (step_rt (env1 := [.va (FO x), .va (.str y), .va (F q), .va (.int 0), .va (.lst ((List.range (nN_ x)).map fun i => F (vI x i))), .va (.int M), .va (.int (x.d + x.g)), .va (F (pw (x.d + x.g))), .va (F (vI x (M + 1))), .va (.tup [.int (2 * q.num * (vI x (M + 1)).den * (vI x M).den), .int (q.den * ((vI x (M + 1)).num * (vI x M).den + (vI x M).num * (vI x (M + 1)).den))]), .va (.bl (decide (wI x M % 2 = 0))), .va (F (vN 0 (halfW x) x.f)), .va mk, .va (ND (NF x (M + 1))), .va (.int 0), .va (.lst (NL x (nN_ x))), .va (.int q.num), .va (.int q.den), .va (.bl (true)), .un, .un]) ?_))))⟩
        · simp! only [NL_len, decide_eq_false hl']
        · simp! only [ixr1]
        · rw [if_neg (fun z => hlast z.1), if_pos rfl]
          simp! only [r1, r2, or1, or2, r5]
      | false =>
        rw [hu] at top
        refine ⟨mk, run_ex (chk_ok _ _) (top (step_nx [.va (FO x), .va (.str y), .va (F q), .va (.int 0), .va (.lst ((List.range (nN_ x)).map fun i => F (vI x i))), .va (.int M), .va (.int (x.d + x.g)), .va (F (pw (x.d + x.g))), .va (F (vI x (M + 1))), .va (.tup [.int (2 * q.num * (vI x (M + 1)).den * (vI x M).den), .int (q.den * ((vI x (M + 1)).num * (vI x M).den + (vI x M).num * (vI x (M + 1)).den))]), .va (.bl (decide (wI x M % 2 = 0))), .va (F (vN 0 (halfW x) x.f)), .va mk, .un, .va (.int 0), .va (.lst (NL x (nN_ x))), .va (.int q.num), .va (.int q.den), .va (.bl (false)), .un, .un] ws ?_ (step_nx [.va (FO x), .va (.str y), .va (F q), .va (.int 0), .va (.lst ((List.range (nN_ x)).map fun i => F (vI x i))), .va (.int M), .va (.int (x.d + x.g)), .va (F (pw (x.d + x.g))), .va (F (vI x (M + 1))), .va (.tup [.int (2 * q.num * (vI x (M + 1)).den * (vI x M).den), .int (q.den * ((vI x (M + 1)).num * (vI x M).den + (vI x M).num * (vI x (M + 1)).den))]), .va (.bl (decide (wI x M % 2 = 0))), .va (F (vN 0 (halfW x) x.f)), .va mk, .va (ND (NF x M)), .va (.int 0), .va (.lst (NL x (nN_ x))), .va (.int q.num), .va (.int q.den), .va (.bl (false)), .un, .un] ws ?_ (step_rt (env1 := [.va (FO x), .va (.str y), .va (F q), .va (.int 0), .va (.lst ((List.range (nN_ x)).map fun i => F (vI x i))), .va (.int M), .va (.int (x.d + x.g)), .va (F (pw (x.d + x.g))), .va (F (vI x (M + 1))), .va (.tup [.int (2 * q.num * (vI x (M + 1)).den * (vI x M).den), .int (q.den * ((vI x (M + 1)).num * (vI x M).den + (vI x M).num * (vI x (M + 1)).den))]), .va (.bl (decide (wI x M % 2 = 0))), .va (F (vN 0 (halfW x) x.f)), .va mk, .va (ND (NF x M)), .va (.int 0), .va (.lst (NL x (nN_ x))), .va (.int q.num), .va (.int q.den), .va (.bl (false)), .un, .un]) ?_))))⟩
        · simp! only [NL_len, decide_eq_false hl']
        · simp! only [ixr0']
        · rw [if_neg (fun z => hlast z.1), if_neg (by decide)]
          simp! only [s1, s2, os1, os2, s5]
end Pv.K33


set_option Elab.async false
set_option linter.all false
set_option maxRecDepth 100000
set_option exponentiation.threshold 20
/-! Lf4: both roundings give the same number. -/
namespace Pv.K33
open Pv
local macro_rules
  | `(tactic| simp! only [$xs,*]) => `(tactic| simp only [ev.eq_1, ev.eq_2, ev.eq_3, ev.eq_4, ev.eq_5, ev.eq_6, ev.eq_7, ev.eq_8, ev.eq_9, ev.eq_10, ev.eq_11, ev.eq_12, ev.eq_13, ev.eq_14, ev.eq_15, ev.eq_16, ev.eq_17, ev.eq_18, ev.eq_19, ev.eq_20, ev.eq_21, ev.eq_22, ev.eq_23, ev.eq_24, ev.eq_25, ev.eq_26, ev.eq_27, ev.eq_28, ev.eq_29, ev.eq_30, ev.eq_35, evs, evT, exec.eq_1, exec.eq_2, exec.eq_3, exec.eq_4, exec.eq_5, exec.eq_6, exec.eq_7, exec.eq_8, exec.eq_9, exec.eq_10, exec.eq_11, exec.eq_12, exec.eq_13, exec.eq_14, exec.eq_15, exec.eq_16, exec.eq_19, exec.eq_20, exec.eq_21, exec.eq_22, exec.eq_23, execs, x_whl, x_for, x_comp, x_compIf, x_comp2, x_comp2If, bor, vi, mkEnv, eg, es, frzA, frzS, bn, bt, bq, bind_F, setAll, setAllT, bind1, setPar, wipeE, tgs, b_add, b_sub, b_mul, b_fdiv, b_mod, b_shl, b_shr, b_pow, b_tup, b_lst, o_lt, o_le, o_gt, o_ge, o_eqi, o_nei, o_neb, sl_a, sl_b, sl_bl, sl_c, cmp_nil, cmp_cons, cmpY_nil, cmpY_cons, ixW_3, ixL_0, ixL_1, ixL_2, ixL_3, btl, o_isb, o_eqs, o_nes, o_int, o_nit, isF_s, isF_i, deq_ss, deq_ii, List.all_cons, List.all_nil, List.any_cons, List.any_nil, Nat.reduceEqDiff, Int.reduceEq, u_len1, u_len2, u_len3, u_abs, u_int, u_intb, u_lst1, u_lst2, u_lst3, u_tup, u_max, u_min, s_int, s_bl, s_tup, s_lst, s_non, s_str, a_add, a_sub, i_tup, i_lst, r_bl, r_int, fin, chk_own, chk_some, isN, bnd, iN_non, iN_int, iN_bl, iN_str, iN_tup, iN_lst, iN_F, ixW_0, ixW_1, ixW_2, F_0, F_1, ixW_w, wg_1, wg_0, wp_0, List.map, List.length, List.replicate, List.cons_append, List.nil_append, List.append_nil, Nat.reduceSub, Nat.reduceAdd, Nat.sub_self, Nat.sub_zero, if_true, Bool.false_eq_true, if_false, reduceIte, ite_true, ite_false, Bool.and_self, Bool.and_true, Bool.true_and, Bool.not_true, Bool.not_false, Nat.reduceLT, Nat.reduceLeDiff, decide_true, decide_false, Int.reduceLT, Int.reduceLE, Int.reduceAdd, Int.reduceSub, Int.reduceNeg, Bool.or_true, Bool.or_false, Bool.true_or, Bool.false_or, Bool.and_false, Bool.false_and, $xs,*])
  | `(tactic| simp! only) => `(tactic| simp only [ev.eq_1, ev.eq_2, ev.eq_3, ev.eq_4, ev.eq_5, ev.eq_6, ev.eq_7, ev.eq_8, ev.eq_9, ev.eq_10, ev.eq_11, ev.eq_12, ev.eq_13, ev.eq_14, ev.eq_15, ev.eq_16, ev.eq_17, ev.eq_18, ev.eq_19, ev.eq_20, ev.eq_21, ev.eq_22, ev.eq_23, ev.eq_24, ev.eq_25, ev.eq_26, ev.eq_27, ev.eq_28, ev.eq_29, ev.eq_30, ev.eq_35, evs, evT, exec.eq_1, exec.eq_2, exec.eq_3, exec.eq_4, exec.eq_5, exec.eq_6, exec.eq_7, exec.eq_8, exec.eq_9, exec.eq_10, exec.eq_11, exec.eq_12, exec.eq_13, exec.eq_14, exec.eq_15, exec.eq_16, exec.eq_19, exec.eq_20, exec.eq_21, exec.eq_22, exec.eq_23, execs, x_whl, x_for, x_comp, x_compIf, x_comp2, x_comp2If, bor, vi, mkEnv, eg, es, frzA, frzS, bn, bt, bq, bind_F, setAll, setAllT, bind1, setPar, wipeE, tgs, b_add, b_sub, b_mul, b_fdiv, b_mod, b_shl, b_shr, b_pow, b_tup, b_lst, o_lt, o_le, o_gt, o_ge, o_eqi, o_nei, o_neb, sl_a, sl_b, sl_bl, sl_c, cmp_nil, cmp_cons, cmpY_nil, cmpY_cons, ixW_3, ixL_0, ixL_1, ixL_2, ixL_3, btl, o_isb, o_eqs, o_nes, o_int, o_nit, isF_s, isF_i, deq_ss, deq_ii, List.all_cons, List.all_nil, List.any_cons, List.any_nil, Nat.reduceEqDiff, Int.reduceEq, u_len1, u_len2, u_len3, u_abs, u_int, u_intb, u_lst1, u_lst2, u_lst3, u_tup, u_max, u_min, s_int, s_bl, s_tup, s_lst, s_non, s_str, a_add, a_sub, i_tup, i_lst, r_bl, r_int, fin, chk_own, chk_some, isN, bnd, iN_non, iN_int, iN_bl, iN_str, iN_tup, iN_lst, iN_F, ixW_0, ixW_1, ixW_2, F_0, F_1, ixW_w, wg_1, wg_0, wp_0, List.map, List.length, List.replicate, List.cons_append, List.nil_append, List.append_nil, Nat.reduceSub, Nat.reduceAdd, Nat.sub_self, Nat.sub_zero, if_true, Bool.false_eq_true, if_false, reduceIte, ite_true, ite_false, Bool.and_self, Bool.and_true, Bool.true_and, Bool.not_true, Bool.not_false, Nat.reduceLT, Nat.reduceLeDiff, decide_true, decide_false, Int.reduceLT, Int.reduceLE, Int.reduceAdd, Int.reduceSub, Int.reduceNeg, Bool.or_true, Bool.or_false, Bool.true_or, Bool.false_or, Bool.and_false, Bool.false_and])
variable (n : Nat) (ws : WS)
section
variable {x : Fo} {q : Rat}
theorem half_cmp : ((((rdX x q).den : Int) < 2 * rdR x q) ↔ 1 < 2 * (rdX x q - ((rdW x q : Int) : Rat))) ∧ ((2 * rdR x q = ((rdX x q).den : Int)) ↔ 2 * (rdX x q - ((rdW x q : Int) : Rat)) = 1) := by
  have e := rdR_eq (x := x) (q := q)
  have pd := den_p (rdX x q)
  have e2 : ((2 * rdR x q : Int) : Rat) = 2 * (rdX x q - ((rdW x q : Int) : Rat)) * (((rdX x q).den : Int) : Rat) := by
    rw [Rat.intCast_mul, e]
    show (2 : Rat) * _ = _
    grind
  constructor
  · rw [← Rat.intCast_lt_intCast, e2]
    constructor
    · intro h
      refine Rat.lt_of_mul_lt_mul_right (c := (((rdX x q).den : Int) : Rat)) ?_ (Rat.le_of_lt pd)
      grind
    · intro h
      have := Rat.mul_lt_mul_of_pos_right h pd
      grind
  · rw [← Rat.intCast_inj, e2]
    constructor
    · intro h
      have h1 : ¬ 2 * (rdX x q - ((rdW x q : Int) : Rat)) < 1 := fun z => by have := Rat.mul_lt_mul_of_pos_right z pd; grind
      have h2 : ¬ 1 < 2 * (rdX x q - ((rdW x q : Int) : Rat)) := fun z => by have := Rat.mul_lt_mul_of_pos_right z pd; grind
      grind
    · intro h; rw [h, Rat.one_mul]
theorem NF_0 (h : OkFo x) (i : Nat) : (wI x i = 0 ∧ i = 0 ∧ NF x i = .o 0) ∨ (wI x i ≠ 0 ∧ i ≠ 0 ∧ NF x i = .n 0 (wI x i) (pI x i)) := by
  have h2 := hN_pos h
  by_cases c : i = 0
  · left
    refine ⟨?_, c, by unfold NF; rw [if_pos c]⟩
    unfold wI
    rw [c, if_pos (by omega)]
    rfl
  · right
    refine ⟨?_, c, by unfold NF; rw [if_neg c]⟩
    unfold wI
    split <;> omega
theorem same_round (h : SmFo x) {y : Nat} (hy : isWay y) (hp : 0 < q) {M : Nat} (m1 : M < nN_ x) (m2 : vI x M ≤ q) (m3 : ∀ k, k < nN_ x → vI x k ≤ q → k ≤ M) :
    (if vI x M = q then ND (NF x M) else if M + 1 = nN_ x ∧ (upL x y q M = true ∨ pw (x.d + x.g) ≤ q) then (if upL x y q M = true ∨ near y = true then nE 0 else ND (NF x M)) else ND (NF x (if upL x y q M = true then M + 1 else M))) = ND (rdNm x y q 0) := by
  have ok := h.ok
  have nz : ¬ q.num = 0 := fun z => by rw [(num_z q).mp z] at hp; grind
  have wb := wI_bd ok M
  have nx := next_i ok M
  have N0 := NF_0 ok M
  have pl := pI_le ok m1
  have ph := pow_d ok
  have hf := half_full ok
  have aq : ab q = q := ab_of (Rat.le_of_lt hp)
  have sq : sg q = 0 := by
    unfold sg
    rw [if_neg]
    rw [num_neg]
    grind
  have un1 := un_hi (x := x) nz
  rw [aq] at un1
  have bydm : ∀ s, bydM x y 0 = s → rdNm x y q 0 = rdNm x y q 0 := fun _ _ => rfl
  have upN : near y = false → (upL x y q M = decide (y = 3)) := fun hn => by unfold upL; rw [hn]; rfl
  have byd0 : bydM x y 0 = if near y = true ∨ y = 3 then .e 0 else .n 0 (fullW x) x.g := by
    unfold bydM near
    rcases hy with rfl | rfl | rfl | rfl | rfl <;> simp
  by_cases hA : q < (rI (wI x M) + 1) * pw (pI x M)
  · -- both find the same place
    have r1 : rI (rdW x q) * pw (un x q) ≤ q := by
      have := Rat.mul_le_mul_of_nonneg_right (rdW_le (x := x) (q := q)) (Rat.le_of_lt (pw_pos (un x q)))
      rw [rdX_mul, aq] at this
      rw [rI_c]
      exact this
    have r2 : q < (rI (rdW x q) + 1) * pw (un x q) := by
      have := Rat.mul_lt_mul_of_pos_right (lt_rdW (x := x) (q := q)) (pw_pos (un x q))
      rw [rdX_mul, aq] at this
      rw [rI_c]
      exact this
    obtain ⟨ep, ew⟩ := place_one wb.1 wb.2.1 wb.2.2.1 wb.2.2.2 (rdW_nn (x := x) (q := q)) (rdW_lt ok nz) (rdW_hi ok nz) un1.2.2 m2 hA r1 r2
    have eX : q = rdX x q * pw (un x q) := by rw [rdX_mul, aq]
    have eV : vI x M = ((rdW x q : Int) : Rat) * pw (un x q) := by unfold vI; rw [ep, ew, rI_c]
    have pu := pw_pos (un x q)
    have hex : vI x M = q ↔ rdR x q = 0 := by
      rw [rdR_z, eV]
      constructor
      · intro z
        rw [eX] at z
        have h1 : ¬ ((rdW x q : Int) : Rat) < rdX x q := fun c => by have := Rat.mul_lt_mul_of_pos_right c pu; grind
        have h2 := rdW_le (x := x) (q := q)
        grind
      · intro z; rw [← z]; exact eX.symm
    have hne : rdW x q ≠ 2 ^ x.d.toNat := by rw [ph.1]; have := wb.2.1; omega
    have hung : ¬ x.g < un x q := by omega
    by_cases c1 : vI x M = q
    · rw [if_pos c1]
      have r0 := hex.mp c1
      have eR : rdV x y q = rdW x q := by unfold rdV; rw [if_neg (by omega)]
      have w0 : wI x M ≠ 0 := fun z => by
        have : vI x M = 0 := by unfold vI; rw [z, rI_c]; show ((0 : Int) : Rat) * _ = 0; rw [show ((0 : Int) : Rat) = 0 from rfl, Rat.zero_mul]
        grind
      rcases N0 with ⟨z, _⟩ | ⟨_, _, e⟩
      · exact absurd z w0
      · unfold rdNm
        rw [if_neg nz, eR, if_neg hne, if_neg hung, if_neg (by omega), e, sq, ← ew, ← ep]
    · rw [if_neg c1]
      have rp : 0 < rdR x q := by
        have := rdR_nn x q
        have : rdR x q ≠ 0 := fun z => c1 (hex.mpr z)
        omega
      have hc := half_cmp (x := x) (q := q)
      have v1 : vI x (M + 1) = (((rdW x q : Int) : Rat) + 1) * pw (un x q) := by rw [nx.1, ep, ew, rI_c]
      have mid1 : vI x M + vI x (M + 1) < 2 * q ↔ 1 < 2 * (rdX x q - ((rdW x q : Int) : Rat)) := by
        rw [eV, v1]
        constructor
        · intro z
          refine Rat.lt_of_mul_lt_mul_right (c := pw (un x q)) ?_ (Rat.le_of_lt pu)
          grind
        · intro z
          have := Rat.mul_lt_mul_of_pos_right z pu
          grind
      have mid2 : vI x M + vI x (M + 1) = 2 * q ↔ 2 * (rdX x q - ((rdW x q : Int) : Rat)) = 1 := by
        rw [eV, v1]
        constructor
        · intro z
          have h1 : ¬ 2 * (rdX x q - ((rdW x q : Int) : Rat)) < 1 := fun c => by have := Rat.mul_lt_mul_of_pos_right c pu; grind
          have h2 : ¬ 1 < 2 * (rdX x q - ((rdW x q : Int) : Rat)) := fun c => by have := Rat.mul_lt_mul_of_pos_right c pu; grind
          grind
        · intro z
          have : rdX x q = ((rdW x q : Int) : Rat) + 1 / 2 := by grind
          grind
      have eup : upL x y q M = rz y (sg q) (rdW x q) (rdR x q) ((rdX x q).den : Int) := by
        rw [sq]
        by_cases hn : near y = true
        · unfold upL
          rw [if_pos hn]
          have hrz : rz y 0 (rdW x q) (rdR x q) ((rdX x q).den : Int) = if 2 * rdR x q = ((rdX x q).den : Int) then (decide (y = 5) || decide (rdW x q % 2 = 1)) else decide (((rdX x q).den : Int) < 2 * rdR x q) := by
            unfold near at hn
            rw [decide_eq_true_eq] at hn
            unfold rz
            rcases hn with rfl | rfl <;> simp
          rw [hrz]
          have hodd : (!decide (wI x M % 2 = 0)) = decide (rdW x q % 2 = 1) := by
            rw [ew]
            by_cases z : rdW x q % 2 = 0
            · rw [decide_eq_true z, decide_eq_false (by omega)]; rfl
            · rw [decide_eq_false z, decide_eq_true (by omega)]; rfl
          rw [hodd]
          by_cases z1 : 2 * rdR x q = ((rdX x q).den : Int)
          · rw [if_pos z1, decide_eq_true (mid2.mpr (hc.2.mp z1)), decide_eq_false (fun z => by have := hc.1.mpr (mid1.mp z); omega)]
            rfl
          · rw [if_neg z1, decide_eq_false (fun z => z1 (hc.2.mpr (mid2.mp z))), Bool.false_and, Bool.or_false]
            by_cases z2 : ((rdX x q).den : Int) < 2 * rdR x q
            · rw [decide_eq_true z2, decide_eq_true (mid1.mpr (hc.1.mp z2))]
            · rw [decide_eq_false z2, decide_eq_false (fun z => z2 (hc.1.mpr (mid1.mp z)))]
        · have hn : near y = false := by simpa using hn
          rw [upN hn]
          unfold near at hn
          rw [decide_eq_false_iff_not] at hn
          unfold rz
          rcases hy with rfl | rfl | rfl | rfl | rfl
          · exact absurd (.inl rfl) hn
          · exact absurd (.inr rfl) hn
          · simp
          · simp
          · simp
      cases hu : upL x y q M with
      | true =>
        rw [hu] at eup
        have eR : rdV x y q = rdW x q + 1 := by unfold rdV; rw [if_pos ⟨rp, eup.symm⟩]
        by_cases hl : M + 1 = nN_ x
        · rw [if_pos ⟨hl, .inl rfl⟩, if_pos (.inl rfl)]
          have li := last_i ok hl
          have e2 : rdV x y q = 2 ^ x.d.toNat := by rw [eR, ph.1, ← ew]; omega
          have e3 : x.g < un x q + 1 := by omega
          unfold rdNm
          rw [if_neg nz, if_pos e2, if_pos e3, sq, byd0, if_pos]
          · rfl
          · by_cases hn : near y = true
            · exact .inl hn
            · have hn : near y = false := by simpa using hn
              rw [upN hn, decide_eq_true_eq] at hu
              exact .inr hu
        · rw [if_neg (fun z => hl z.1), if_pos rfl]
          have N1 := NF_0 ok (M + 1)
          have pl1 := pI_le ok (show M + 1 < nN_ x by omega)
          have e1 : NF x (M + 1) = .n 0 (wI x (M + 1)) (pI x (M + 1)) := by
            rcases N1 with ⟨_, z, _⟩ | ⟨_, _, e⟩
            · omega
            · exact e
          unfold rdNm
          by_cases c2 : wI x M + 1 < 2 * halfW x
          · have q1 := nx.2.1 c2
            rw [if_neg nz, eR, if_neg (by rw [ph.1]; omega), if_neg hung, if_neg (by have := wb.1; omega), e1, q1.1, q1.2, sq, ep, ew]
          · have q1 := nx.2.2 (by have := wb.2.1; omega)
            have e2 : rdW x q + 1 = 2 * halfW x := by have := wb.2.1; omega
            have hh := ph.2
            rw [if_neg nz, eR, e2, if_pos ph.1.symm, if_neg (by omega), if_neg (by omega), e1, q1.1, q1.2, sq, ep, show 2 * halfW x / 2 = halfW x by omega]
      | false =>
        rw [hu] at eup
        have eR : rdV x y q = rdW x q := by unfold rdV; rw [if_neg (fun z => by rw [← eup] at z; cases z.2)]
        have hnl : ¬ (M + 1 = nN_ x ∧ ((false : Bool) = true ∨ pw (x.d + x.g) ≤ q)) := by
          rintro ⟨z1, z2 | z2⟩
          · cases z2
          · have li := last_i ok z1
            have : (rI (wI x M) + 1) * pw (pI x M) = pw (x.d + x.g) := by
              rw [li.1, li.2, pw_add, pw_d ok, rI_c]
              congr 1
              have : ((2 * halfW x : Int) : Rat) = ((2 * halfW x - 1 + 1 : Int) : Rat) := by congr 1; omega
              rw [this, Rat.intCast_add]
              rfl
            rw [this] at hA
            grind
        rw [if_neg hnl, if_neg (by decide)]
        unfold rdNm
        rw [if_neg nz, eR, if_neg hne, if_neg hung]
        rcases N0 with ⟨z, _, e⟩ | ⟨z, _, e⟩
        · rw [if_pos (by omega), e, sq]
        · rw [if_neg (by omega), e, sq, ep, ew]
  · -- beyond all
    have hl : M + 1 = nN_ x := by
      rcases Nat.lt_or_ge (M + 1) (nN_ x) with c | c
      · have : vI x (M + 1) ≤ q := by rw [nx.1]; grind
        have := m3 (M + 1) c this
        omega
      · omega
    have li := last_i ok hl
    have eB : (rI (wI x M) + 1) * pw (pI x M) = pw (x.d + x.g) := by
      rw [li.1, li.2, pw_add, pw_d ok, rI_c]
      congr 1
      have : ((2 * halfW x : Int) : Rat) = ((2 * halfW x - 1 + 1 : Int) : Rat) := by congr 1; omega
      rw [this, Rat.intCast_add]
      rfl
    rw [eB] at hA
    have hg : pw (x.d + x.g) ≤ q := by grind
    have hv : ¬ vI x M = q := fun z => by
      have h1 : vI x M < pw (x.d + x.g) := by
        rw [← eB]
        unfold vI
        rw [mul_lt_iff]
        grind
      grind
    rw [if_neg hv, if_pos ⟨hl, .inr hg⟩]
    have hung : x.g < un x q := by
      have : pw (x.d + x.g) < pw (x.d + un x q) := by have := un1.1; grind
      have := pw_lt_iff.mp this
      omega
    have er : rdNm x y q 0 = bydM x y 0 := by
      unfold rdNm
      rw [if_neg nz]
      by_cases c : rdV x y q = 2 ^ x.d.toNat
      · rw [if_pos c, if_pos (by omega), sq]
      · rw [if_neg c, if_pos hung, sq]
    rw [er, byd0]
    have hh := ph.2
    rcases N0 with ⟨z, _, e⟩ | ⟨z, _, e⟩
    · rw [li.2] at z; omega
    · rw [e, li.1, li.2]
      by_cases hn : near y = true
      · rw [if_pos (.inr hn), if_pos (.inl hn)]; rfl
      · have hn' : near y = false := by simpa using hn
        have hU := upN hn'
        by_cases hyu : y = 3
        · rw [if_pos (.inl (by rw [hU]; exact decide_eq_true hyu)), if_pos (.inr hyu)]; rfl
        · rw [if_neg, if_neg]
          · rw [hf]
          · rintro (z | z)
            · exact hn z
            · exact hyu z
          · rintro (z | z)
            · rw [hU, decide_eq_true_eq] at z; exact hyu z
            · exact hn z
end
theorem c__law_round {x : Fo} (h : SmFo x) {y : Nat} (hy : isWay y) {q : Rat} {b : Nat} (hq : Z b q) (hb : b ≤ 900) (h0 : 0 ≤ q) : ∃ m, callO P (n + 3) 70 [FO x, .str y, F q, .int 0] ws = some (.tup [ND (rdNm x y q 0), m], ws) := by
  by_cases hp : 0 < q
  · obtain ⟨M, m1, m2, m3, m, e⟩ := walk_round n ws h hy hq hb hp
    exact ⟨m, by rw [e, same_round h hy hp m1 m2 m3]⟩
  · have z : q = 0 := by grind
    have zn : q.num = 0 := (num_z q).mpr z
    refine ⟨.tup [], ?_⟩
    have e : rdNm x y q 0 = .o 0 := by unfold rdNm; rw [if_pos zn]
    rw [e, call_at (d := d__law_round) rfl rfl]
    simp! only [d__law_round, b__law_round, decide_eq_true zn, ND]
theorem c__law_constant {x : Fo} (h : SmFo x) {y : Nat} (hy : isWay y) {q : Rat} {b : Nat} (hq : Z b q) (hb : b ≤ 900) (h0 : 0 ≤ q) : callO P (n + 4) 95 [FO x, .str y, F q] ws = some (OR (numRow x y q), ws) := by
  obtain ⟨m, e1⟩ := c__law_round n ws h hy hq hb h0
  have ok := okNm_rd h.ok y 0 (q := q)
  have q9 := hq.mono (show b ≤ 1900 by omega)
  rw [call_at (d := d__law_constant) rfl rfl]
  unfold numRow
  cases hr : rdNm x y q 0 with
  | o s =>
    rw [hr] at e1
    have e3 := c__law_val_o (n + 2) ws s
    have e4 := c_sum2 (n + 1) ws (Z_0 (k := 1900) (by decide)) (Z_neg q9)
    rw [← Rat.sub_eq_add_neg] at e4
    simp! only [d__law_constant, b__law_constant, e1, ND, e3, c__law_off (n + 2) ws, e4, c__law_size (n + 2) ws, c__law_grid_o (n + 2) ws, OR]
  | n s w p =>
    rw [hr] at e1 ok
    obtain ⟨o1, o2, o3, o4⟩ := ok
    have f1 := h.ok.f1
    have g2 := h.ok.g2
    have sp := small_pow h
    have hi := hN_i x
    have hf := half_full h.ok
    have hs : s = 0 ∨ s = 1 := by
      have : s = 0 ∨ s = sg q := by
        unfold rdNm at hr
        unfold bydM at hr
        repeat' split at hr
        all_goals first | (cases hr; exact .inr rfl) | (cases hr)
      rcases this with z | z
      · exact .inl z
      · rw [z]; unfold sg; split <;> simp
    have e3 := c__law_val (n + 1) ws (s := s) (w := w) (p := p) hs (by omega) (by omega) (by omega) (by omega)
    have zv := (Z_vN (s := s) (p := p) (w_lt h.ok o1 o2) (by decide) (m := 1000) (by omega) (by omega)).mono (show _ ≤ 1900 by decide)
    have e4 := c_sum2 (n + 1) ws zv (Z_neg q9)
    rw [← Rat.sub_eq_add_neg] at e4
    simp! only [d__law_constant, b__law_constant, e1, ND, e3, c__law_off (n + 2) ws, e4, c__law_size (n + 2) ws, c__law_grid (n + 2) ws h.ok o1 o2, OR]
  | e s =>
    rw [hr] at e1
    simp! only [d__law_constant, b__law_constant, e1, ND, OR]
end Pv.K33


set_option Elab.async false
set_option linter.all false
set_option maxRecDepth 100000
set_option exponentiation.threshold 20
/-! M1: the law k33's own defs. -/
namespace Pv.K33
open Pv
local macro_rules
  | `(tactic| simp! only [$xs,*]) => `(tactic| simp only [ev.eq_1, ev.eq_2, ev.eq_3, ev.eq_4, ev.eq_5, ev.eq_6, ev.eq_7, ev.eq_8, ev.eq_9, ev.eq_10, ev.eq_11, ev.eq_12, ev.eq_13, ev.eq_14, ev.eq_15, ev.eq_16, ev.eq_17, ev.eq_18, ev.eq_19, ev.eq_20, ev.eq_21, ev.eq_22, ev.eq_23, ev.eq_24, ev.eq_25, ev.eq_26, ev.eq_27, ev.eq_28, ev.eq_29, ev.eq_30, ev.eq_35, evs, evT, exec.eq_1, exec.eq_2, exec.eq_3, exec.eq_4, exec.eq_5, exec.eq_6, exec.eq_7, exec.eq_8, exec.eq_9, exec.eq_10, exec.eq_11, exec.eq_12, exec.eq_13, exec.eq_14, exec.eq_15, exec.eq_16, exec.eq_19, exec.eq_20, exec.eq_21, exec.eq_22, exec.eq_23, execs, x_whl, x_for, x_comp, x_compIf, x_comp2, x_comp2If, bor, vi, mkEnv, eg, es, frzA, frzS, bn, bt, bq, bind_F, setAll, setAllT, bind1, setPar, wipeE, tgs, b_add, b_sub, b_mul, b_fdiv, b_mod, b_shl, b_shr, b_pow, b_tup, b_lst, o_lt, o_le, o_gt, o_ge, o_eqi, o_nei, o_neb, sl_a, sl_b, sl_bl, sl_c, cmp_nil, cmp_cons, cmpY_nil, cmpY_cons, ixW_3, ixL_0, ixL_1, ixL_2, ixL_3, btl, o_isb, o_eqs, o_nes, o_int, o_nit, isF_s, isF_i, deq_ss, deq_ii, List.all_cons, List.all_nil, List.any_cons, List.any_nil, Nat.reduceEqDiff, Int.reduceEq, u_len1, u_len2, u_len3, u_abs, u_int, u_intb, u_lst1, u_lst2, u_lst3, u_tup, u_max, u_min, s_int, s_bl, s_tup, s_lst, s_non, s_str, a_add, a_sub, i_tup, i_lst, r_bl, r_int, fin, chk_own, chk_some, isN, bnd, iN_non, iN_int, iN_bl, iN_str, iN_tup, iN_lst, iN_F, ixW_0, ixW_1, ixW_2, F_0, F_1, ixW_w, wg_1, wg_0, wp_0, List.map, List.length, List.replicate, List.cons_append, List.nil_append, List.append_nil, Nat.reduceSub, Nat.reduceAdd, Nat.sub_self, Nat.sub_zero, if_true, Bool.false_eq_true, if_false, reduceIte, ite_true, ite_false, Bool.and_self, Bool.and_true, Bool.true_and, Bool.not_true, Bool.not_false, Nat.reduceLT, Nat.reduceLeDiff, decide_true, decide_false, Int.reduceLT, Int.reduceLE, Int.reduceAdd, Int.reduceSub, Int.reduceNeg, Bool.or_true, Bool.or_false, Bool.true_or, Bool.false_or, Bool.and_false, Bool.false_and, $xs,*])
  | `(tactic| simp! only) => `(tactic| simp only [ev.eq_1, ev.eq_2, ev.eq_3, ev.eq_4, ev.eq_5, ev.eq_6, ev.eq_7, ev.eq_8, ev.eq_9, ev.eq_10, ev.eq_11, ev.eq_12, ev.eq_13, ev.eq_14, ev.eq_15, ev.eq_16, ev.eq_17, ev.eq_18, ev.eq_19, ev.eq_20, ev.eq_21, ev.eq_22, ev.eq_23, ev.eq_24, ev.eq_25, ev.eq_26, ev.eq_27, ev.eq_28, ev.eq_29, ev.eq_30, ev.eq_35, evs, evT, exec.eq_1, exec.eq_2, exec.eq_3, exec.eq_4, exec.eq_5, exec.eq_6, exec.eq_7, exec.eq_8, exec.eq_9, exec.eq_10, exec.eq_11, exec.eq_12, exec.eq_13, exec.eq_14, exec.eq_15, exec.eq_16, exec.eq_19, exec.eq_20, exec.eq_21, exec.eq_22, exec.eq_23, execs, x_whl, x_for, x_comp, x_compIf, x_comp2, x_comp2If, bor, vi, mkEnv, eg, es, frzA, frzS, bn, bt, bq, bind_F, setAll, setAllT, bind1, setPar, wipeE, tgs, b_add, b_sub, b_mul, b_fdiv, b_mod, b_shl, b_shr, b_pow, b_tup, b_lst, o_lt, o_le, o_gt, o_ge, o_eqi, o_nei, o_neb, sl_a, sl_b, sl_bl, sl_c, cmp_nil, cmp_cons, cmpY_nil, cmpY_cons, ixW_3, ixL_0, ixL_1, ixL_2, ixL_3, btl, o_isb, o_eqs, o_nes, o_int, o_nit, isF_s, isF_i, deq_ss, deq_ii, List.all_cons, List.all_nil, List.any_cons, List.any_nil, Nat.reduceEqDiff, Int.reduceEq, u_len1, u_len2, u_len3, u_abs, u_int, u_intb, u_lst1, u_lst2, u_lst3, u_tup, u_max, u_min, s_int, s_bl, s_tup, s_lst, s_non, s_str, a_add, a_sub, i_tup, i_lst, r_bl, r_int, fin, chk_own, chk_some, isN, bnd, iN_non, iN_int, iN_bl, iN_str, iN_tup, iN_lst, iN_F, ixW_0, ixW_1, ixW_2, F_0, F_1, ixW_w, wg_1, wg_0, wp_0, List.map, List.length, List.replicate, List.cons_append, List.nil_append, List.append_nil, Nat.reduceSub, Nat.reduceAdd, Nat.sub_self, Nat.sub_zero, if_true, Bool.false_eq_true, if_false, reduceIte, ite_true, ite_false, Bool.and_self, Bool.and_true, Bool.true_and, Bool.not_true, Bool.not_false, Nat.reduceLT, Nat.reduceLeDiff, decide_true, decide_false, Int.reduceLT, Int.reduceLE, Int.reduceAdd, Int.reduceSub, Int.reduceNeg, Bool.or_true, Bool.or_false, Bool.true_or, Bool.false_or, Bool.and_false, Bool.false_and])
variable (n : Nat) (ws : WS)
theorem Z_d {u l : Int} (h1 : u.natAbs < 64) (h2 : 0 < l) (h3 : l < 16) : Z 6 (Rat.divInt u l) := Z_div h2 h1 (by show l.natAbs < 64; omega)
theorem lt8 {l : Int} (h2 : 0 < l) (h3 : l < 16) : l.natAbs < 2 ^ 8000 := Nat.lt_of_lt_of_le (show l.natAbs < 2 ^ 4 by show l.natAbs < 16; omega) (Nat.pow_le_pow_right (by decide) (by decide))
theorem div_n0 {u l : Int} (h1 : 0 ≤ u) (h2 : 0 < l) : 0 ≤ Rat.divInt u l := by
  rw [← Rat.num_nonneg, Rat.num_divInt, Int.sign_eq_one_of_pos h2, Int.one_mul]
  exact Int.ediv_nonneg h1 (by omega)
theorem F_18 : D.tup [.int 1, .int 8] = F (Rat.divInt 1 8) := by rw [← mkF (by decide)]; rfl
theorem c_own_row {x : Fo} (hx : OkFo x) (hs1 : -100 ≤ x.f) (hs2 : x.f ≤ 100) (ds : List Int) {k : Int} (hk : 0 ≤ k) : ∃ (r : Rw) (k' : Int), 0 ≤ k' ∧ callO P (n + 3) 97 [.wd, FO x] (W ds k) = some (RD r, W ds k') ∧ ZR 20 r := by
  obtain ⟨u1, g1, g1', e1⟩ := c__law_next (n + 1) ds (m := 13) (k := k) (by decide) hk
  obtain ⟨d2, m2, e2⟩ := c__law_pick n ds (xs := [.int 1, .int 1, .int 2, .int 4]) (k := k + 1) (by decide) (by omega)
  obtain ⟨u3, g3, g3', e3⟩ := c__law_next (n + 1) ds (m := 7) (k := k + 1 + 1) (by decide) (by omega)
  obtain ⟨d4, m4, e4⟩ := c__law_pick n ds (xs := [.int 1, .int 2, .int 4]) (k := k + 1 + 1 + 1) (by decide) (by omega)
  obtain ⟨d5, m5, e5⟩ := c__law_pick n ds (xs := [.tup [.int 0, .int 1], .tup [.int 0, .int 1], .tup [.int 1, .int 8], .tup [.int 1, .int 2], .tup [.int 1, .int 1]]) (k := k + 1 + 1 + 1 + 1) (by decide) (by omega)
  obtain ⟨u6, g6, g6', e6⟩ := c__law_next (n + 1) ds (m := 5) (k := k + 1 + 1 + 1 + 1 + 1) (by decide) (by omega)
  have h2 : ∃ l : Int, d2 = .int l ∧ 0 < l ∧ l < 16 := by
    simp only [List.mem_cons, List.not_mem_nil, or_false] at m2
    rcases m2 with rfl | rfl | rfl | rfl <;> exact ⟨_, rfl, by decide, by decide⟩
  have h4 : ∃ l : Int, d4 = .int l ∧ 0 < l ∧ l < 16 := by
    simp only [List.mem_cons, List.not_mem_nil, or_false] at m4
    rcases m4 with rfl | rfl | rfl <;> exact ⟨_, rfl, by decide, by decide⟩
  have h5 : ∃ e : Rat, d5 = F e ∧ 0 ≤ e ∧ Z 6 e := by
    simp only [List.mem_cons, List.not_mem_nil, or_false] at m5
    rcases m5 with rfl | rfl | rfl | rfl | rfl
    · exact ⟨0, rfl, by decide, Z_0 (by decide)⟩
    · exact ⟨0, rfl, by decide, Z_0 (by decide)⟩
    · exact ⟨_, F_18, div_n0 (by decide) (by decide), Z_d (by decide) (by decide) (by decide)⟩
    · exact ⟨_, F_12, div_n0 (by decide) (by decide), Z_d (by decide) (by decide) (by decide)⟩
    · exact ⟨1, rfl, by decide, Z_one.mono (by decide)⟩
  obtain ⟨l2, rfl, p2, q2⟩ := h2
  obtain ⟨l4, rfl, p4, q4⟩ := h4
  obtain ⟨e, rfl, e0, ze⟩ := h5
  have z1 := Z_d (u := u1 - 6) (l := l2) (by omega) p2 q2
  have z3 := Z_d (u := u3) (l := l4) (by omega) p4 q4
  have f1 := c__law_least (n + 1) (u1 - 6) l2 (W ds (k + 1 + 1)) p2 (lt8 p2 q2)
  have f3 := c__law_least (n + 1) u3 l4 (W ds (k + 1 + 1 + 1 + 1)) p4 (lt8 p4 q4)
  have f4 := c_sum2 n (W ds (k + 1 + 1 + 1 + 1)) (z1.mono (show 6 ≤ 1900 by decide)) (z3.mono (show 6 ≤ 1900 by decide))
  refine ⟨⟨⟨Rat.divInt (u1 - 6) l2, Rat.divInt (u1 - 6) l2 + Rat.divInt u3 l4⟩, e, x.f + u6 - 1⟩, k + 1 + 1 + 1 + 1 + 1 + 1, by omega, ?_, ⟨⟨z1.mono (by decide), (Z_add z1 z3).mono (by decide)⟩, ze.mono (by decide), ?_, e0, by show -1400 ≤ x.f + u6 - 1; omega, by show x.f + u6 - 1 ≤ 1400; omega⟩⟩
  · rw [call_at (d := d__law_own_row) rfl rfl]
    simp! only [d__law_own_row, b__law_own_row, e1, e2, f1, e3, e4, f3, f4, e5, e6]
  · show Rat.divInt (u1 - 6) l2 ≤ Rat.divInt (u1 - 6) l2 + Rat.divInt u3 l4
    have := div_n0 g3 p4
    grind
def upto (k : Kd) : Int := match k with | .negate | .size => 1 | .joined => 3 | _ => 2
abbrev R4 (a b c d : Rw) : D := .lst [RD a, RD b, RD c, RD d]
theorem cut1 (a b c d : D) : slD (.lst [a, b, c, d]) none (some 1) = some (.lst [a]) := rfl
theorem cut2 (a b c d : D) : slD (.lst [a, b, c, d]) none (some 2) = some (.lst [a, b]) := rfl
theorem cut3 (a b c d : D) : slD (.lst [a, b, c, d]) none (some 3) = some (.lst [a, b, c]) := rfl
theorem rt1 : (List.range (Int.toNat 1)).map (fun k : Nat => D.int (k : Int)) = [.int 0] := rfl
theorem rt2 : (List.range (Int.toNat 2)).map (fun k : Nat => D.int (k : Int)) = [.int 0, .int 1] := rfl
theorem rt3 : (List.range (Int.toNat 3)).map (fun k : Nat => D.int (k : Int)) = [.int 0, .int 1, .int 2] := rfl
theorem okp2 : okLen (0 + 1 + (0 + 1)) = true := okLen_of (by decide)
theorem c_kind_right (k : Kd) {x : Fo} (hx : OkFo x) {y : Nat} (hy : isWay y) {a b c d : Rw} (ha : ZR 20 a) (hb : ZR 20 b) (hc : ZR 20 c) : callO P (n + 10) 98 [FO x, .str y, .str k.s, R4 a b c d] ws = some (.bl true, ws) := by
  have o1 : okLen 1 = true := okLen_of (by decide)
  have o2 : okLen 2 = true := okLen_of (by decide)
  have o3 : okLen 3 = true := okLen_of (by decide)
  have o4 : okLen 4 = true := okLen_of (by decide)
  have e1 := c__law_operation (n + 3) ws k hx hy ha hb hc (by decide) (by decide)
  have e2 := c_operation_row (n + 1) ws k hx hy ha hb hc (by decide) (by decide)
  have e3 := c_next_op n ws k hx hy ha hb hc (by decide) (by decide) (R := .tup [RD a, RD b, RD c, RD d]) (rg := .dic [] []) (p1 := 0) (p2 := 1) (p3 := 2) (ixW_0 _ _ _) (ixW_1 _ _ _ _) (ixW_2 _ _ _ _ _)
  have s1 := c__law_same (n + 8) ws (good_OR (opRow x y k a b c))
  have e4 := c__law_spanned (n + 4) ws k ha.s hb.s hc.s (by decide) hb.o
  by_cases hk : isRd k
  · cases hs : spanK k a.s b.s c.s with
    | none =>
      rw [hs] at e4
      rw [call_at (d := d__law_kind_right) rfl rfl]
      cases hk <;> first | (simp only [spanK, reduceCtorEq] at hs; done) | (simp only [pts, List.map, Kd.s] at e1 e2 e3 e4 s1; simp! only [d__law_kind_right, b__law_kind_right, x__law_kind_right_0, Kd.s, cut1, cut2, cut3, rt1, rt2, rt3, o1, o2, o3, o4, e1, e2, s1, e3, e4, OD])
    | some s =>
      rw [hs] at e4
      have zs := ZS_span ha.s hb.s hc.s (by decide) hb.o hs
      have zs' : ZS 100 s := zs.mono (by decide)
      have e5 := c__law_passed (n + 5) ws hk ha hb hc zs' (by decide) (by decide) (by decide)
      have e6 := c_passed_error (n + 3) ws hk ha hb hc zs' (by decide) (by decide) (by decide)
      have s2 := c__law_same (n + 8) ws (good_OQ (passK k a b c s))
      have b1 := c__law_big (n + 6) ws (zs.mono (show _ ≤ 4000 by decide))
      rw [call_at (d := d__law_kind_right) rfl rfl]
      cases hp : passK k a b c s with
      | none =>
        rw [hp] at e5 e6 s2
        simp only [OQ] at s2
        have e8 := c_is_without_loss (n + 2) ws hk hx ha hb hc (by decide) (q := 1) (Z_one.mono (by decide))
        have e9 := c__law_kept (n + 4) ws hk hx ha hb hc (by decide) (q := 1) (Z_one.mono (by decide))
        have s3 := c__law_same (n + 8) ws (good_bl (keepK x k a b c 1))
        cases hk
        all_goals simp only [passK, reduceCtorEq] at hp
        simp only [pts, List.map, Kd.s] at e1 e2 e3 e4 e5 e6 e8 e9 s1
        simp! only [d__law_kind_right, b__law_kind_right, x__law_kind_right_0, Kd.s, cut1, cut2, cut3, rt1, rt2, rt3, o1, o2, o3, o4, e1, e2, s1, e3, e4, OD, e5, e6, s2, OQ, F_one, e8, e9, s3]
      | some p =>
        rw [hp] at e5 e6 s2
        simp only [OQ] at s2
        have zp := Z_pass ha hb hc zs' (by decide) hp
        have zr := (Z_add (Z_big zs') zp).mono (show _ ≤ 4000 by decide)
        have e7 := c_sum2 (n + 7) ws ((Z_big zs').mono (show _ ≤ 1900 by decide)) (zp.mono (by decide))
        have e8 := c_is_without_loss (n + 2) ws hk hx ha hb hc (by decide) zr
        have e9 := c__law_kept (n + 4) ws hk hx ha hb hc (by decide) zr
        have s3 := c__law_same (n + 8) ws (good_bl (keepK x k a b c (bigS s + p)))
        cases hk <;> (simp only [pts, List.map, Kd.s] at e1 e2 e3 e4 e5 e6 e8 e9 s1; simp! only [d__law_kind_right, b__law_kind_right, x__law_kind_right_0, Kd.s, cut1, cut2, cut3, rt1, rt2, rt3, o1, o2, o3, o4, e1, e2, s1, e3, e4, OD, e5, e6, s2, OQ, b1, e7, e8, e9, s3])
  · rw [call_at (d := d__law_kind_right) rfl rfl]
    cases k
    case joined => exact absurd .joined hk
    case add => exact absurd .add hk
    case less => exact absurd .less hk
    case times => exact absurd .times hk
    case over => exact absurd .over hk
    all_goals (simp only [pts, List.map, Kd.s, spanK, OD] at e1 e2 e3 e4 s1; simp! only [d__law_kind_right, b__law_kind_right, x__law_kind_right_0, Kd.s, cut1, cut2, cut3, rt1, rt2, rt3, o1, o2, o3, o4, e1, e2, s1, e3, e4])
theorem nr4 (a b c : Rw) : cop .isin .non (.lst [RD a, RD b, RD c, .non]) = some true := rfl
theorem nr2 (a : Rw) : cop .isin .non (.lst [RD a, .non]) = some true := rfl
theorem c_choices_right {x : Fo} {y : D} {a b c d : Rw} (ha : ZR 20 a) (hb : ZR 20 b) (hc : ZR 20 c) (hd : ZR 20 d) : callO P (n + 10) 99 [FO x, y, R4 a b c d] ws = some (.bl true, ws) := by
  have o4 : okLen 4 = true := okLen_of (by decide)
  have hh : ∀ le, callO P (n + 9) 93 [sgD le, RD a, RD b, RD c, RD d] ws = some (RD (chRow le a b c d), ws) ∧ callO P (n + 9) 58 [sgD le, RD a, RD b, RD c, RD d] ws = some (RD (chRow le a b c d), ws) ∧
      callO P (n + 9) 57 [sgD le, RD a, RD b] ws = some (.bl (turnR le a b), ws) ∧ callO P (n + 9) 92 [sgD le, RD a, RD b] ws = some (.bl (turnR le a b), ws) ∧
      callO P (n + 9) 60 [FO x, y, .tup [.str 23, sgD le, .int 0, .int 1, .int 2, .int 3], .dic [] [], .tup [RD a, RD b, RD c, RD d]] ws = some (RD (chRow le a b c d), ws) ∧
      callO P (n + 9) 64 [RD (chRow le a b c d), RD (chRow le a b c d)] ws = some (.bl true, ws) ∧ callO P (n + 9) 64 [.bl (turnR le a b), .bl (turnR le a b)] ws = some (.bl true, ws) := fun le =>
    ⟨c__law_choice (n + 3) ws le (ha.mono (by decide)) (hb.mono (by decide)) (hc.mono (by decide)) (hd.mono (by decide)), c_choice_row (n + 1) ws le (ha.mono (by decide)) (hb.mono (by decide)) (hc.mono (by decide)) (hd.mono (by decide)),
      c_can_turn (n + 2) ws le (ha.mono (by decide)) (hb.mono (by decide)), c__law_turns (n + 5) ws le (ha.mono (by decide)) (hb.mono (by decide)),
      c_next_choice n ws le (ha.mono (by decide)) (hb.mono (by decide)) (hc.mono (by decide)) (hd.mono (by decide)) (R := .tup [RD a, RD b, RD c, RD d]) (rg := .dic [] []) (ixW_0 _ _ _) (ixW_1 _ _ _ _) (ixW_2 _ _ _ _ _) (ixW_3 _ _ _ _ _ _), c__law_same (n + 8) ws (good_RD _), c__law_same (n + 8) ws (good_bl _)⟩
  obtain ⟨f1, f2, f3, f4, f5, f6, f7⟩ := hh false
  obtain ⟨t1, t2, t3, t4, t5, t6, t7⟩ := hh true
  have hl : callO P (n + 9) 60 [FO x, y, .tup [.str 23, .str 12, .int 0, .int 1, .int 2, .int 3], .dic [] [], .tup [RD a, RD b, RD c, .non]] ws = some (.non, ws) := by
    have e2 := parts_c (n + 7) ws (.str 12) [.int 0, .int 1, .int 2, .int 3]
    rw [call_at (d := d_next_row) rfl rfl]
    simp! only [d_next_row, b_next_row, x_next_row_0, e2, o4, nr4]
  rw [call_at (d := d__law_choices_right) rfl rfl]
  simp only [sgD, Bool.false_eq_true, if_false] at f1 f2 f3 f4 f5
  simp only [sgD, if_true] at t1 t2 t3 t4 t5
  simp! only [d__law_choices_right, b__law_choices_right, for_nil, for_cons, l__law_choices_right_0, f1, f2, f3, f4, f5, f6, f7, t1, t2, t3, t4, t5, t6, t7, hl]
theorem c_first_right {x : Fo} (hx : SmFo x) {y : Nat} (hy : isWay y) {a : Rw} (ha : ZR 20 a) (ds : List Int) {k : Int} (hk : 0 ≤ k) : ∃ k' : Int, 0 ≤ k' ∧ callO P (n + 10) 100 [.wd, FO x, .str y, RD a] (W ds k) = some (.bl true, W ds k') := by
  obtain ⟨u1, g1, g1', e1⟩ := c__law_next (n + 8) ds (m := 40) (k := k) (by decide) hk
  obtain ⟨d2, m2, e2⟩ := c__law_pick (n + 7) ds (xs := [.int 1, .int 2, .int 4, .int 5, .int 10]) (k := k + 1) (by decide) (by omega)
  have h2 : ∃ l : Int, d2 = .int l ∧ 0 < l ∧ l < 16 := by
    simp only [List.mem_cons, List.not_mem_nil, or_false] at m2
    rcases m2 with rfl | rfl | rfl | rfl | rfl <;> exact ⟨_, rfl, by decide, by decide⟩
  obtain ⟨l2, rfl, p2, q2⟩ := h2
  have z1 := Z_d (u := u1) (l := l2) (by omega) p2 q2
  have f1 := c__law_least (n + 8) u1 l2 (W ds (k + 1 + 1)) p2 (lt8 p2 q2)
  have b1 := c__law_big (n + 6) (W ds k) (ha.s.mono (show 20 ≤ 4000 by decide))
  have b2 := c_sum2 (n + 7) (W ds k) ((Z_big ha.s).mono (show 20 ≤ 1900 by decide)) (ha.e.mono (by decide))
  have b3 := c__law_reached (n + 6) (W ds k) hx.ok (q := bigS a.s + a.e) ((Z_add (Z_big ha.s) ha.e).mono (by decide))
  have b4 := c_next_input (n + 2) (W ds k) hx.ok (y := .str y) (ha.mono (show 20 ≤ 1300 by decide)) (R := .tup []) (rg := .dic [.str 26] [.tup [F a.s.l, F a.s.h, F a.e]]) (nm := .str 26) (ixD_1 _ _ _ (by decide))
  have s1 := c__law_same (n + 8) (W ds k) (good_OR (inRow x a))
  have c1 := c_next_number n (W ds (k + 1 + 1)) hx.ok hy (q := Rat.divInt u1 l2) z1 (by decide) (R := .tup []) (rg := .dic [] [])
  have c2 := c__law_constant (n + 5) (W ds (k + 1 + 1)) hx hy (q := Rat.divInt u1 l2) z1 (by decide) (div_n0 g1 p2)
  have s2 := c__law_same (n + 8) (W ds (k + 1 + 1)) (good_OR (numRow x y (Rat.divInt u1 l2)))
  have o3 : okLen (0 + 1 + 1 + (0 + 1)) = true := okLen_of (by decide)
  have o3' : okLen 3 = true := okLen_of (by decide)
  refine ⟨k + 1 + 1, by omega, ?_⟩
  rw [call_at (d := d__law_first_right) rfl rfl]
  have ir : inRow x a = if bigS a.s + a.e ≤ top x then some ⟨a.s, a.e, x.f⟩ else none := rfl
  by_cases c : bigS a.s + a.e ≤ top x
  · rw [ir, if_pos c] at b4 s1
    simp only [OR] at b4 s1
    simp! only [d__law_first_right, b__law_first_right, isK, o3, o3', b1, b2, b3, decide_eq_true c, b4, s1, e1, e2, f1, c1, c2, s2]
  · rw [ir, if_neg c] at b4 s1
    simp only [OR] at b4 s1
    simp! only [d__law_first_right, b__law_first_right, isK, o3, o3', b1, b2, b3, decide_eq_false c, b4, s1, e1, e2, f1, c1, c2, s2]
end Pv.K33


set_option Elab.async false
set_option linter.all false
set_option maxRecDepth 100000
set_option exponentiation.threshold 20
/-! M2: the law k33. -/
namespace Pv.K33
open Pv
local macro_rules
  | `(tactic| simp! only [$xs,*]) => `(tactic| simp only [ev.eq_1, ev.eq_2, ev.eq_3, ev.eq_4, ev.eq_5, ev.eq_6, ev.eq_7, ev.eq_8, ev.eq_9, ev.eq_10, ev.eq_11, ev.eq_12, ev.eq_13, ev.eq_14, ev.eq_15, ev.eq_16, ev.eq_17, ev.eq_18, ev.eq_19, ev.eq_20, ev.eq_21, ev.eq_22, ev.eq_23, ev.eq_24, ev.eq_25, ev.eq_26, ev.eq_27, ev.eq_28, ev.eq_29, ev.eq_30, ev.eq_35, evs, evT, exec.eq_1, exec.eq_2, exec.eq_3, exec.eq_4, exec.eq_5, exec.eq_6, exec.eq_7, exec.eq_8, exec.eq_9, exec.eq_10, exec.eq_11, exec.eq_12, exec.eq_13, exec.eq_14, exec.eq_15, exec.eq_16, exec.eq_19, exec.eq_20, exec.eq_21, exec.eq_22, exec.eq_23, execs, x_whl, x_for, x_comp, x_compIf, x_comp2, x_comp2If, bor, vi, mkEnv, eg, es, frzA, frzS, bn, bt, bq, bind_F, setAll, setAllT, bind1, setPar, wipeE, tgs, b_add, b_sub, b_mul, b_fdiv, b_mod, b_shl, b_shr, b_pow, b_tup, b_lst, o_lt, o_le, o_gt, o_ge, o_eqi, o_nei, o_neb, sl_a, sl_b, sl_bl, sl_c, cmp_nil, cmp_cons, cmpY_nil, cmpY_cons, ixW_3, ixL_0, ixL_1, ixL_2, ixL_3, btl, o_isb, o_eqs, o_nes, o_int, o_nit, isF_s, isF_i, deq_ss, deq_ii, List.all_cons, List.all_nil, List.any_cons, List.any_nil, Nat.reduceEqDiff, Int.reduceEq, u_len1, u_len2, u_len3, u_abs, u_int, u_intb, u_lst1, u_lst2, u_lst3, u_tup, u_max, u_min, s_int, s_bl, s_tup, s_lst, s_non, s_str, a_add, a_sub, i_tup, i_lst, r_bl, r_int, fin, chk_own, chk_some, isN, bnd, iN_non, iN_int, iN_bl, iN_str, iN_tup, iN_lst, iN_F, ixW_0, ixW_1, ixW_2, F_0, F_1, ixW_w, wg_1, wg_0, wp_0, List.map, List.length, List.replicate, List.cons_append, List.nil_append, List.append_nil, Nat.reduceSub, Nat.reduceAdd, Nat.sub_self, Nat.sub_zero, if_true, Bool.false_eq_true, if_false, reduceIte, ite_true, ite_false, Bool.and_self, Bool.and_true, Bool.true_and, Bool.not_true, Bool.not_false, Nat.reduceLT, Nat.reduceLeDiff, decide_true, decide_false, Int.reduceLT, Int.reduceLE, Int.reduceAdd, Int.reduceSub, Int.reduceNeg, Bool.or_true, Bool.or_false, Bool.true_or, Bool.false_or, Bool.and_false, Bool.false_and, $xs,*])
  | `(tactic| simp! only) => `(tactic| simp only [ev.eq_1, ev.eq_2, ev.eq_3, ev.eq_4, ev.eq_5, ev.eq_6, ev.eq_7, ev.eq_8, ev.eq_9, ev.eq_10, ev.eq_11, ev.eq_12, ev.eq_13, ev.eq_14, ev.eq_15, ev.eq_16, ev.eq_17, ev.eq_18, ev.eq_19, ev.eq_20, ev.eq_21, ev.eq_22, ev.eq_23, ev.eq_24, ev.eq_25, ev.eq_26, ev.eq_27, ev.eq_28, ev.eq_29, ev.eq_30, ev.eq_35, evs, evT, exec.eq_1, exec.eq_2, exec.eq_3, exec.eq_4, exec.eq_5, exec.eq_6, exec.eq_7, exec.eq_8, exec.eq_9, exec.eq_10, exec.eq_11, exec.eq_12, exec.eq_13, exec.eq_14, exec.eq_15, exec.eq_16, exec.eq_19, exec.eq_20, exec.eq_21, exec.eq_22, exec.eq_23, execs, x_whl, x_for, x_comp, x_compIf, x_comp2, x_comp2If, bor, vi, mkEnv, eg, es, frzA, frzS, bn, bt, bq, bind_F, setAll, setAllT, bind1, setPar, wipeE, tgs, b_add, b_sub, b_mul, b_fdiv, b_mod, b_shl, b_shr, b_pow, b_tup, b_lst, o_lt, o_le, o_gt, o_ge, o_eqi, o_nei, o_neb, sl_a, sl_b, sl_bl, sl_c, cmp_nil, cmp_cons, cmpY_nil, cmpY_cons, ixW_3, ixL_0, ixL_1, ixL_2, ixL_3, btl, o_isb, o_eqs, o_nes, o_int, o_nit, isF_s, isF_i, deq_ss, deq_ii, List.all_cons, List.all_nil, List.any_cons, List.any_nil, Nat.reduceEqDiff, Int.reduceEq, u_len1, u_len2, u_len3, u_abs, u_int, u_intb, u_lst1, u_lst2, u_lst3, u_tup, u_max, u_min, s_int, s_bl, s_tup, s_lst, s_non, s_str, a_add, a_sub, i_tup, i_lst, r_bl, r_int, fin, chk_own, chk_some, isN, bnd, iN_non, iN_int, iN_bl, iN_str, iN_tup, iN_lst, iN_F, ixW_0, ixW_1, ixW_2, F_0, F_1, ixW_w, wg_1, wg_0, wp_0, List.map, List.length, List.replicate, List.cons_append, List.nil_append, List.append_nil, Nat.reduceSub, Nat.reduceAdd, Nat.sub_self, Nat.sub_zero, if_true, Bool.false_eq_true, if_false, reduceIte, ite_true, ite_false, Bool.and_self, Bool.and_true, Bool.true_and, Bool.not_true, Bool.not_false, Nat.reduceLT, Nat.reduceLeDiff, decide_true, decide_false, Int.reduceLT, Int.reduceLE, Int.reduceAdd, Int.reduceSub, Int.reduceNeg, Bool.or_true, Bool.or_false, Bool.true_or, Bool.false_or, Bool.and_false, Bool.false_and])
variable (n : Nat) (ws : WS)
/-- one turn -/
theorem turn {s0 s2 s3 s4 s5 s6 s7 s8 : Slot} (ds : List Int) {k : Int} (hk : 0 ≤ k) :
    ∃ (k' : Int) (t3 t4 t5 t6 t7 t8 : Slot), 0 ≤ k' ∧ execs (callO P (n + 12)) l_law_2 [s0, .va .wd, s2, s3, s4, s5, s6, s7, s8, .un] (W ds k) = some (.nx, [s0, .va .wd, s2, t3, t4, t5, t6, t7, t8, .un], W ds k') := by
  obtain ⟨u1, g1, g1', e1⟩ := c__law_next (n + 11) ds (m := 3) (k := k) (by decide) hk
  obtain ⟨u2, g2, g2', e2⟩ := c__law_next (n + 11) ds (m := 4) (k := k + 1) (by decide) (by omega)
  obtain ⟨u3, g3, g3', e3⟩ := c__law_next (n + 11) ds (m := 4) (k := k + 1 + 1) (by decide) (by omega)
  obtain ⟨d4, m4, e4⟩ := c__law_pick (n + 10) ds (xs := [.str 9, .str 5, .str 3, .str 4, .str 2]) (k := k + 1 + 1 + 1) (by decide) (by omega)
  have h4 : ∃ y : Nat, d4 = .str y ∧ isWay y := by
    simp only [List.mem_cons, List.not_mem_nil, or_false] at m4
    rcases m4 with rfl | rfl | rfl | rfl | rfl
    · exact ⟨_, rfl, .inl rfl⟩
    · exact ⟨_, rfl, .inr (.inl rfl)⟩
    · exact ⟨_, rfl, .inr (.inr (.inl rfl))⟩
    · exact ⟨_, rfl, .inr (.inr (.inr (.inl rfl)))⟩
    · exact ⟨_, rfl, .inr (.inr (.inr (.inr rfl)))⟩
  obtain ⟨y, rfl, hy⟩ := h4
  generalize hx0 : (⟨2 + u1, -2 - u2, 1 + u3⟩ : Fo) = x
  have xd : x.d = 2 + u1 := by rw [← hx0]
  have xf : x.f = -2 - u2 := by rw [← hx0]
  have xg : x.g = 1 + u3 := by rw [← hx0]
  have hok : OkFo x := ⟨by omega, by omega, by omega, by omega, by omega⟩
  have hsm : SmFo x := ⟨hok, by omega, by omega⟩
  have fx : D.tup [.int (2 + u1), .int (-2 - u2), .int (1 + u3)] = FO x := by rw [FO, xd, xf, xg]
  obtain ⟨a, k1, p1, r1, za⟩ := c_own_row (n + 9) hok (by omega) (by omega) ds (k := k + 1 + 1 + 1 + 1) (by omega)
  obtain ⟨b, k2, p2, r2, zb⟩ := c_own_row (n + 9) hok (by omega) (by omega) ds (k := k1) p1
  obtain ⟨c, k3, p3, r3, zc⟩ := c_own_row (n + 9) hok (by omega) (by omega) ds (k := k2) p2
  obtain ⟨d, k4, p4, r4', zd⟩ := c_own_row (n + 9) hok (by omega) (by omega) ds (k := k3) p3
  obtain ⟨k5, p5, f5⟩ := c_first_right (n + 2) hsm hy za ds (k := k4) p4
  have kr := fun kd : Kd => c_kind_right (n + 2) (W ds k4) kd hok hy (d := d) za zb zc
  have q1 := kr .add
  have q2 := kr .less
  have q3 := kr .times
  have q4 := kr .over
  have q5 := kr .joined
  have q6 := kr .least
  have q7 := kr .most
  have q8 := kr .negate
  have q9 := kr .size
  have cr := c_choices_right (n + 2) (W ds k4) (x := x) (y := .str y) za zb zc zd
  have hn : callO P (n + 12) 60 [FO x, .str y, .tup [.str 16, .int 0, .int 1], .dic [] [], .tup [RD a, .non]] (W ds k4) = some (.non, W ds k4) := by
    have e2 := parts_k (n + 10) (W ds k4) .add [.int 0, .int 1]
    have o2 : okLen 2 = true := okLen_of (by decide)
    simp only [Kd.s] at e2
    rw [call_at (d := d_next_row) rfl rfl]
    simp! only [d_next_row, b_next_row, x_next_row_0, e2, o2, nr2]
  have w1 := c_is_near (n + 6) (W ds k4) za.s zb.s (by decide) (by decide)
  have w2 := c__law_near (n + 8) (W ds k4) za.s zb.s (by decide) (by decide)
  have w3 := c__law_same (n + 11) (W ds k4) (good_bl (nearS a.s b.s))
  have w4 := c_is_weaker (n + 9) (W ds k4) (za.mono (show 20 ≤ 4000 by decide)) (zb.mono (by decide))
  have w5 := c__law_weaker (n + 10) (W ds k4) (za.mono (show 20 ≤ 4000 by decide)) (zb.mono (by decide))
  generalize hwk : ((decide (a.s.l ≤ b.s.l) && decide (b.s.h ≤ a.s.h)) && (decide (b.e ≤ a.e) && decide (a.g ≤ b.g))) = wk at w4 w5
  have w6 := c__law_same (n + 11) (W ds k4) (good_bl wk)
  have w7 := c_reach_of (n + 8) (W ds k4) (za.mono (show 20 ≤ 4000 by decide))
  have w8 := c__law_big (n + 9) (W ds k4) (za.s.mono (show 20 ≤ 4000 by decide))
  have w9 := c_sum2 (n + 10) (W ds k4) ((Z_big za.s).mono (show 20 ≤ 1900 by decide)) (za.e.mono (by decide))
  have w10 := c__law_same (n + 11) (W ds k4) (good_F (bigS a.s + a.e))
  have w7' : callO P (n + 12) 46 [RD a] (W ds k4) = some (F (bigS a.s + a.e), W ds k4) := w7
  have w11 := c_rounded_span (n + 6) (W ds k4) (za.mono (show 20 ≤ 4000 by decide))
  have w12 := c__law_wide (n + 9) (W ds k4) (za.mono (show 20 ≤ 1900 by decide))
  have w13 := c__law_same (n + 11) (W ds k4) (good_SD (wideR a))
  have o4 : okLen 4 = true := okLen_of (by decide)
  refine ⟨k5, .va (R4 a b c d), .va (.str 14), .va (FO x), .va (.str y), .va (RD a), .va (RD b), p5, ?_⟩
  unfold l_law_2
  refine step_eq [s0, .va .wd, s2, s3, s4, .va (FO x), .va (.str y), s7, s8, .un] (W ds (k + 1 + 1 + 1 + 1)) (by simp! only [e1, e2, e3, e4, fx]) ?_
  refine step_eq [s0, .va .wd, s2, .ow (R4 a b c d), s4, .va (FO x), .va (.str y), s7, s8, .un] (W ds k4) (by simp! only [r4, o4, x_law_0, r1, r2, r3, r4']) ?_
  refine step_eq [s0, .va .wd, s2, .va (R4 a b c d), s4, .va (FO x), .va (.str y), s7, s8, .un] (W ds k4) (by simp! only) ?_
  refine step_eq [s0, .va .wd, s2, .va (R4 a b c d), .va (.str 14), .va (FO x), .va (.str y), s7, s8, .un] (W ds k4) (by
    simp only [Kd.s] at q1 q2 q3 q4 q5 q6 q7 q8 q9
    simp! only [for_nil, for_cons, l_law_1, q1, q2, q3, q4, q5, q6, q7, q8, q9]) ?_
  refine step_eq [s0, .va .wd, s2, .va (R4 a b c d), .va (.str 14), .va (FO x), .va (.str y), s7, s8, .un] (W ds k4) (by simp! only [cr, hn]) ?_
  refine step_eq [s0, .va .wd, s2, .va (R4 a b c d), .va (.str 14), .va (FO x), .va (.str y), .va (RD a), .va (RD b), .un] (W ds k4) (by simp! only [cut2]) ?_
  refine step_eq [s0, .va .wd, s2, .va (R4 a b c d), .va (.str 14), .va (FO x), .va (.str y), .va (RD a), .va (RD b), .un] (W ds k4) (by simp! only [w1, w2, w3, w4, w5, w6]) ?_
  refine step_eq [s0, .va .wd, s2, .va (R4 a b c d), .va (.str 14), .va (FO x), .va (.str y), .va (RD a), .va (RD b), .un] (W ds k4) (by simp! only [w7', w8, w9, w10, w11, w12, w13]) ?_
  refine step_eq [s0, .va .wd, s2, .va (R4 a b c d), .va (.str 14), .va (FO x), .va (.str y), .va (RD a), .va (RD b), .un] (W ds k5) (by simp! only [f5]) ?_
  rfl
theorem loop_law {s0 : Slot} (ds : List Int) : ∀ (xs : List Nat) (k : Int) (s2 s3 s4 s5 s6 s7 s8 : Slot), 0 ≤ k →
    ∃ (k' : Int) (t2 t3 t4 t5 t6 t7 t8 : Slot), forX (callO P (n + 12)) (.nm 2) l_law_2 (xs.map fun k : Nat => .int (0 + (k : Int))) [s0, .va .wd, s2, s3, s4, s5, s6, s7, s8, .un] (W ds k) = some (.nx, [s0, .va .wd, t2, t3, t4, t5, t6, t7, t8, .un], W ds k')
  | [], k, s2, s3, s4, s5, s6, s7, s8, _ => ⟨k, s2, s3, s4, s5, s6, s7, s8, rfl⟩
  | x :: xs, k, s2, s3, s4, s5, s6, s7, s8, hk => by
    obtain ⟨k1, t3, t4, t5, t6, t7, t8, q1, e1⟩ := turn n (s0 := s0) (s2 := .va (.int (0 + (x : Int)))) (s3 := s3) (s4 := s4) (s5 := s5) (s6 := s6) (s7 := s7) (s8 := s8) ds hk
    obtain ⟨k', u2, u3, u4, u5, u6, u7, u8, e2⟩ := loop_law (s0 := s0) ds xs k1 (.va (.int (0 + (x : Int)))) t3 t4 t5 t6 t7 t8 q1
    refine ⟨k', u2, u3, u4, u5, u6, u7, u8, ?_⟩
    rw [List.map_cons, for_cons]
    simp! only [e1]
    exact e2
theorem law_true (ns : List Int) (h : ns.length ≤ 63) : lawO P 13 d_law ns = some (.bl true) := by
  obtain ⟨ds, e1⟩ := c__law_draws 12 none h (mm := 320) (by decide)
  obtain ⟨k', t2, t3, t4, t5, t6, t7, t8, e2⟩ := loop_law 1 (s0 := .va (.scr ns)) ds (List.range 6) 0 .un .un .un .un .un .un .un (Int.le_refl 0)
  have r : (List.range (Int.toNat 6)).map (fun k : Nat => D.int (0 + (k : Int))) = (List.range 6).map (fun k : Nat => D.int (0 + (k : Int))) := rfl
  have t6' : Int.toNat 6 = 6 := rfl
  have e1' : callO P 13 61 [.scr ns, .int 320] none = some (.lst (ds.map .int), none) := e1
  have e : fin (execs (callO P 13) b_law (mkEnv [.scr ns] 10) none) = some (.bl true, W ds k') := by
    have c10 : decide ((25 : Nat) = 24) = false := rfl
    simp! only [b_law, e1', t6', c10, e2]
  unfold lawO
  rw [show d_law.body = b_law from rfl, show d_law.ns = 10 from rfl, e]
end Pv.K33


namespace Pv.K33
open PySem PySem.Spec PyProof.Rows L2
theorem bi_bits_of : ∀ (kV doc pm : Value) (an : Option Addr) (cdv ct : Value) (us : List Value), us.length = ps_bits_of.length → bindArgs (PySem.W.fnOf "bits_of" "bits_of" (defArgs (at_ 1)) (defBody (at_ 1)) (defScope (at_ 1)) .none kV doc pm an cdv ct) ⟨us, []⟩ = pure (ps_bits_of.zip us) :=
  fun _ _ _ _ _ _ us hl => match us, hl with | [_], _ => rfl
theorem bi_common : ∀ (kV doc pm : Value) (an : Option Addr) (cdv ct : Value) (us : List Value), us.length = ps_common.length → bindArgs (PySem.W.fnOf "common" "common" (defArgs (at_ 4)) (defBody (at_ 4)) (defScope (at_ 4)) .none kV doc pm an cdv ct) ⟨us, []⟩ = pure (ps_common.zip us) :=
  fun _ _ _ _ _ _ us hl => match us, hl with | [_, _], _ => rfl
theorem bi_fraction : ∀ (kV doc pm : Value) (an : Option Addr) (cdv ct : Value) (us : List Value), us.length = ps_fraction.length → bindArgs (PySem.W.fnOf "fraction" "fraction" (defArgs (at_ 5)) (defBody (at_ 5)) (defScope (at_ 5)) .none kV doc pm an cdv ct) ⟨us, []⟩ = pure (ps_fraction.zip us) :=
  fun _ _ _ _ _ _ us hl => match us, hl with | [_, _], _ => rfl
theorem bi_added : ∀ (kV doc pm : Value) (an : Option Addr) (cdv ct : Value) (us : List Value), us.length = ps_added.length → bindArgs (PySem.W.fnOf "added" "added" (defArgs (at_ 6)) (defBody (at_ 6)) (defScope (at_ 6)) .none kV doc pm an cdv ct) ⟨us, []⟩ = pure (ps_added.zip us) :=
  fun _ _ _ _ _ _ us hl => match us, hl with | [_, _], _ => rfl
theorem bi_negated : ∀ (kV doc pm : Value) (an : Option Addr) (cdv ct : Value) (us : List Value), us.length = ps_negated.length → bindArgs (PySem.W.fnOf "negated" "negated" (defArgs (at_ 7)) (defBody (at_ 7)) (defScope (at_ 7)) .none kV doc pm an cdv ct) ⟨us, []⟩ = pure (ps_negated.zip us) :=
  fun _ _ _ _ _ _ us hl => match us, hl with | [_], _ => rfl
theorem bi_taken : ∀ (kV doc pm : Value) (an : Option Addr) (cdv ct : Value) (us : List Value), us.length = ps_taken.length → bindArgs (PySem.W.fnOf "taken" "taken" (defArgs (at_ 8)) (defBody (at_ 8)) (defScope (at_ 8)) .none kV doc pm an cdv ct) ⟨us, []⟩ = pure (ps_taken.zip us) :=
  fun _ _ _ _ _ _ us hl => match us, hl with | [_, _], _ => rfl
theorem bi_times : ∀ (kV doc pm : Value) (an : Option Addr) (cdv ct : Value) (us : List Value), us.length = ps_times.length → bindArgs (PySem.W.fnOf "times" "times" (defArgs (at_ 9)) (defBody (at_ 9)) (defScope (at_ 9)) .none kV doc pm an cdv ct) ⟨us, []⟩ = pure (ps_times.zip us) :=
  fun _ _ _ _ _ _ us hl => match us, hl with | [_, _], _ => rfl
theorem bi_quotient : ∀ (kV doc pm : Value) (an : Option Addr) (cdv ct : Value) (us : List Value), us.length = ps_quotient.length → bindArgs (PySem.W.fnOf "quotient" "quotient" (defArgs (at_ 10)) (defBody (at_ 10)) (defScope (at_ 10)) .none kV doc pm an cdv ct) ⟨us, []⟩ = pure (ps_quotient.zip us) :=
  fun _ _ _ _ _ _ us hl => match us, hl with | [_, _], _ => rfl
theorem bi_size : ∀ (kV doc pm : Value) (an : Option Addr) (cdv ct : Value) (us : List Value), us.length = ps_size.length → bindArgs (PySem.W.fnOf "size" "size" (defArgs (at_ 11)) (defBody (at_ 11)) (defScope (at_ 11)) .none kV doc pm an cdv ct) ⟨us, []⟩ = pure (ps_size.zip us) :=
  fun _ _ _ _ _ _ us hl => match us, hl with | [_], _ => rfl
theorem bi_is_less : ∀ (kV doc pm : Value) (an : Option Addr) (cdv ct : Value) (us : List Value), us.length = ps_is_less.length → bindArgs (PySem.W.fnOf "is_less" "is_less" (defArgs (at_ 12)) (defBody (at_ 12)) (defScope (at_ 12)) .none kV doc pm an cdv ct) ⟨us, []⟩ = pure (ps_is_less.zip us) :=
  fun _ _ _ _ _ _ us hl => match us, hl with | [_, _], _ => rfl
theorem bi_is_most : ∀ (kV doc pm : Value) (an : Option Addr) (cdv ct : Value) (us : List Value), us.length = ps_is_most.length → bindArgs (PySem.W.fnOf "is_most" "is_most" (defArgs (at_ 13)) (defBody (at_ 13)) (defScope (at_ 13)) .none kV doc pm an cdv ct) ⟨us, []⟩ = pure (ps_is_most.zip us) :=
  fun _ _ _ _ _ _ us hl => match us, hl with | [_, _], _ => rfl
theorem bi_lesser : ∀ (kV doc pm : Value) (an : Option Addr) (cdv ct : Value) (us : List Value), us.length = ps_lesser.length → bindArgs (PySem.W.fnOf "lesser" "lesser" (defArgs (at_ 14)) (defBody (at_ 14)) (defScope (at_ 14)) .none kV doc pm an cdv ct) ⟨us, []⟩ = pure (ps_lesser.zip us) :=
  fun _ _ _ _ _ _ us hl => match us, hl with | [_, _], _ => rfl
theorem bi_greater : ∀ (kV doc pm : Value) (an : Option Addr) (cdv ct : Value) (us : List Value), us.length = ps_greater.length → bindArgs (PySem.W.fnOf "greater" "greater" (defArgs (at_ 15)) (defBody (at_ 15)) (defScope (at_ 15)) .none kV doc pm an cdv ct) ⟨us, []⟩ = pure (ps_greater.zip us) :=
  fun _ _ _ _ _ _ us hl => match us, hl with | [_, _], _ => rfl
theorem bi_two_to : ∀ (kV doc pm : Value) (an : Option Addr) (cdv ct : Value) (us : List Value), us.length = ps_two_to.length → bindArgs (PySem.W.fnOf "two_to" "two_to" (defArgs (at_ 16)) (defBody (at_ 16)) (defScope (at_ 16)) .none kV doc pm an cdv ct) ⟨us, []⟩ = pure (ps_two_to.zip us) :=
  fun _ _ _ _ _ _ us hl => match us, hl with | [_], _ => rfl
theorem bi_shifted : ∀ (kV doc pm : Value) (an : Option Addr) (cdv ct : Value) (us : List Value), us.length = ps_shifted.length → bindArgs (PySem.W.fnOf "shifted" "shifted" (defArgs (at_ 17)) (defBody (at_ 17)) (defScope (at_ 17)) .none kV doc pm an cdv ct) ⟨us, []⟩ = pure (ps_shifted.zip us) :=
  fun _ _ _ _ _ _ us hl => match us, hl with | [_, _], _ => rfl
theorem bi_exponent_of : ∀ (kV doc pm : Value) (an : Option Addr) (cdv ct : Value) (us : List Value), us.length = ps_exponent_of.length → bindArgs (PySem.W.fnOf "exponent_of" "exponent_of" (defArgs (at_ 18)) (defBody (at_ 18)) (defScope (at_ 18)) .none kV doc pm an cdv ct) ⟨us, []⟩ = pure (ps_exponent_of.zip us) :=
  fun _ _ _ _ _ _ us hl => match us, hl with | [_], _ => rfl
theorem bi_value_of : ∀ (kV doc pm : Value) (an : Option Addr) (cdv ct : Value) (us : List Value), us.length = ps_value_of.length → bindArgs (PySem.W.fnOf "value_of" "value_of" (defArgs (at_ 20)) (defBody (at_ 20)) (defScope (at_ 20)) .none kV doc pm an cdv ct) ⟨us, []⟩ = pure (ps_value_of.zip us) :=
  fun _ _ _ _ _ _ us hl => match us, hl with | [_], _ => rfl
theorem bi_is_finite : ∀ (kV doc pm : Value) (an : Option Addr) (cdv ct : Value) (us : List Value), us.length = ps_is_finite.length → bindArgs (PySem.W.fnOf "is_finite" "is_finite" (defArgs (at_ 21)) (defBody (at_ 21)) (defScope (at_ 21)) .none kV doc pm an cdv ct) ⟨us, []⟩ = pure (ps_is_finite.zip us) :=
  fun _ _ _ _ _ _ us hl => match us, hl with | [_], _ => rfl
theorem bi_greatest_of : ∀ (kV doc pm : Value) (an : Option Addr) (cdv ct : Value) (us : List Value), us.length = ps_greatest_of.length → bindArgs (PySem.W.fnOf "greatest_of" "greatest_of" (defArgs (at_ 22)) (defBody (at_ 22)) (defScope (at_ 22)) .none kV doc pm an cdv ct) ⟨us, []⟩ = pure (ps_greatest_of.zip us) :=
  fun _ _ _ _ _ _ us hl => match us, hl with | [_], _ => rfl
theorem bi_least_full : ∀ (kV doc pm : Value) (an : Option Addr) (cdv ct : Value) (us : List Value), us.length = ps_least_full.length → bindArgs (PySem.W.fnOf "least_full" "least_full" (defArgs (at_ 23)) (defBody (at_ 23)) (defScope (at_ 23)) .none kV doc pm an cdv ct) ⟨us, []⟩ = pure (ps_least_full.zip us) :=
  fun _ _ _ _ _ _ us hl => match us, hl with | [_], _ => rfl
theorem bi_unit_at : ∀ (kV doc pm : Value) (an : Option Addr) (cdv ct : Value) (us : List Value), us.length = ps_unit_at.length → bindArgs (PySem.W.fnOf "unit_at" "unit_at" (defArgs (at_ 24)) (defBody (at_ 24)) (defScope (at_ 24)) .none kV doc pm an cdv ct) ⟨us, []⟩ = pure (ps_unit_at.zip us) :=
  fun _ _ _ _ _ _ us hl => match us, hl with | [_, _], _ => rfl
theorem bi_is_raised : ∀ (kV doc pm : Value) (an : Option Addr) (cdv ct : Value) (us : List Value), us.length = ps_is_raised.length → bindArgs (PySem.W.fnOf "is_raised" "is_raised" (defArgs (at_ 26)) (defBody (at_ 26)) (defScope (at_ 26)) .none kV doc pm an cdv ct) ⟨us, []⟩ = pure (ps_is_raised.zip us) :=
  fun _ _ _ _ _ _ us hl => match us, hl with | [_, _, _, _], _ => rfl
theorem bi_rounded : ∀ (kV doc pm : Value) (an : Option Addr) (cdv ct : Value) (us : List Value), us.length = ps_rounded.length → bindArgs (PySem.W.fnOf "rounded" "rounded" (defArgs (at_ 27)) (defBody (at_ 27)) (defScope (at_ 27)) .none kV doc pm an cdv ct) ⟨us, []⟩ = pure (ps_rounded.zip us) :=
  fun _ _ _ _ _ _ us hl => match us, hl with | [_, _, _, _], _ => rfl
theorem bi_marks_of : ∀ (kV doc pm : Value) (an : Option Addr) (cdv ct : Value) (us : List Value), us.length = ps_marks_of.length → bindArgs (PySem.W.fnOf "marks_of" "marks_of" (defArgs (at_ 28)) (defBody (at_ 28)) (defScope (at_ 28)) .none kV doc pm an cdv ct) ⟨us, []⟩ = pure (ps_marks_of.zip us) :=
  fun _ _ _ _ _ _ us hl => match us, hl with | [_, _, _], _ => rfl
theorem bi_beyond : ∀ (kV doc pm : Value) (an : Option Addr) (cdv ct : Value) (us : List Value), us.length = ps_beyond.length → bindArgs (PySem.W.fnOf "beyond" "beyond" (defArgs (at_ 29)) (defBody (at_ 29)) (defScope (at_ 29)) .none kV doc pm an cdv ct) ⟨us, []⟩ = pure (ps_beyond.zip us) :=
  fun _ _ _ _ _ _ us hl => match us, hl with | [_, _, _], _ => rfl
theorem bi_error_bound : ∀ (kV doc pm : Value) (an : Option Addr) (cdv ct : Value) (us : List Value), us.length = ps_error_bound.length → bindArgs (PySem.W.fnOf "error_bound" "error_bound" (defArgs (at_ 30)) (defBody (at_ 30)) (defScope (at_ 30)) .none kV doc pm an cdv ct) ⟨us, []⟩ = pure (ps_error_bound.zip us) :=
  fun _ _ _ _ _ _ us hl => match us, hl with | [_, _, _], _ => rfl
theorem bi_is_in_reach : ∀ (kV doc pm : Value) (an : Option Addr) (cdv ct : Value) (us : List Value), us.length = ps_is_in_reach.length → bindArgs (PySem.W.fnOf "is_in_reach" "is_in_reach" (defArgs (at_ 31)) (defBody (at_ 31)) (defScope (at_ 31)) .none kV doc pm an cdv ct) ⟨us, []⟩ = pure (ps_is_in_reach.zip us) :=
  fun _ _ _ _ _ _ us hl => match us, hl with | [_, _], _ => rfl
theorem bi_is_inside : ∀ (kV doc pm : Value) (an : Option Addr) (cdv ct : Value) (us : List Value), us.length = ps_is_inside.length → bindArgs (PySem.W.fnOf "is_inside" "is_inside" (defArgs (at_ 33)) (defBody (at_ 33)) (defScope (at_ 33)) .none kV doc pm an cdv ct) ⟨us, []⟩ = pure (ps_is_inside.zip us) :=
  fun _ _ _ _ _ _ us hl => match us, hl with | [_, _], _ => rfl
theorem bi_hull : ∀ (kV doc pm : Value) (an : Option Addr) (cdv ct : Value) (us : List Value), us.length = ps_hull.length → bindArgs (PySem.W.fnOf "hull" "hull" (defArgs (at_ 34)) (defBody (at_ 34)) (defScope (at_ 34)) .none kV doc pm an cdv ct) ⟨us, []⟩ = pure (ps_hull.zip us) :=
  fun _ _ _ _ _ _ us hl => match us, hl with | [_, _], _ => rfl
theorem bi_hull_of : ∀ (kV doc pm : Value) (an : Option Addr) (cdv ct : Value) (us : List Value), us.length = ps_hull_of.length → bindArgs (PySem.W.fnOf "hull_of" "hull_of" (defArgs (at_ 35)) (defBody (at_ 35)) (defScope (at_ 35)) .none kV doc pm an cdv ct) ⟨us, []⟩ = pure (ps_hull_of.zip us) :=
  fun _ _ _ _ _ _ us hl => match us, hl with | [_], _ => rfl
theorem bi_point : ∀ (kV doc pm : Value) (an : Option Addr) (cdv ct : Value) (us : List Value), us.length = ps_point.length → bindArgs (PySem.W.fnOf "point" "point" (defArgs (at_ 36)) (defBody (at_ 36)) (defScope (at_ 36)) .none kV doc pm an cdv ct) ⟨us, []⟩ = pure (ps_point.zip us) :=
  fun _ _ _ _ _ _ us hl => match us, hl with | [_], _ => rfl
theorem bi_added_spans : ∀ (kV doc pm : Value) (an : Option Addr) (cdv ct : Value) (us : List Value), us.length = ps_added_spans.length → bindArgs (PySem.W.fnOf "added_spans" "added_spans" (defArgs (at_ 37)) (defBody (at_ 37)) (defScope (at_ 37)) .none kV doc pm an cdv ct) ⟨us, []⟩ = pure (ps_added_spans.zip us) :=
  fun _ _ _ _ _ _ us hl => match us, hl with | [_, _], _ => rfl
theorem bi_negated_span : ∀ (kV doc pm : Value) (an : Option Addr) (cdv ct : Value) (us : List Value), us.length = ps_negated_span.length → bindArgs (PySem.W.fnOf "negated_span" "negated_span" (defArgs (at_ 38)) (defBody (at_ 38)) (defScope (at_ 38)) .none kV doc pm an cdv ct) ⟨us, []⟩ = pure (ps_negated_span.zip us) :=
  fun _ _ _ _ _ _ us hl => match us, hl with | [_], _ => rfl
theorem bi_taken_spans : ∀ (kV doc pm : Value) (an : Option Addr) (cdv ct : Value) (us : List Value), us.length = ps_taken_spans.length → bindArgs (PySem.W.fnOf "taken_spans" "taken_spans" (defArgs (at_ 39)) (defBody (at_ 39)) (defScope (at_ 39)) .none kV doc pm an cdv ct) ⟨us, []⟩ = pure (ps_taken_spans.zip us) :=
  fun _ _ _ _ _ _ us hl => match us, hl with | [_, _], _ => rfl
theorem bi_times_spans : ∀ (kV doc pm : Value) (an : Option Addr) (cdv ct : Value) (us : List Value), us.length = ps_times_spans.length → bindArgs (PySem.W.fnOf "times_spans" "times_spans" (defArgs (at_ 40)) (defBody (at_ 40)) (defScope (at_ 40)) .none kV doc pm an cdv ct) ⟨us, []⟩ = pure (ps_times_spans.zip us) :=
  fun _ _ _ _ _ _ us hl => match us, hl with | [_, _], _ => rfl
theorem bi_has_nothing : ∀ (kV doc pm : Value) (an : Option Addr) (cdv ct : Value) (us : List Value), us.length = ps_has_nothing.length → bindArgs (PySem.W.fnOf "has_nothing" "has_nothing" (defArgs (at_ 41)) (defBody (at_ 41)) (defScope (at_ 41)) .none kV doc pm an cdv ct) ⟨us, []⟩ = pure (ps_has_nothing.zip us) :=
  fun _ _ _ _ _ _ us hl => match us, hl with | [_], _ => rfl
theorem bi_over_spans : ∀ (kV doc pm : Value) (an : Option Addr) (cdv ct : Value) (us : List Value), us.length = ps_over_spans.length → bindArgs (PySem.W.fnOf "over_spans" "over_spans" (defArgs (at_ 42)) (defBody (at_ 42)) (defScope (at_ 42)) .none kV doc pm an cdv ct) ⟨us, []⟩ = pure (ps_over_spans.zip us) :=
  fun _ _ _ _ _ _ us hl => match us, hl with | [_, _], _ => rfl
theorem bi_size_span : ∀ (kV doc pm : Value) (an : Option Addr) (cdv ct : Value) (us : List Value), us.length = ps_size_span.length → bindArgs (PySem.W.fnOf "size_span" "size_span" (defArgs (at_ 43)) (defBody (at_ 43)) (defScope (at_ 43)) .none kV doc pm an cdv ct) ⟨us, []⟩ = pure (ps_size_span.zip us) :=
  fun _ _ _ _ _ _ us hl => match us, hl with | [_], _ => rfl
theorem bi_most_size : ∀ (kV doc pm : Value) (an : Option Addr) (cdv ct : Value) (us : List Value), us.length = ps_most_size.length → bindArgs (PySem.W.fnOf "most_size" "most_size" (defArgs (at_ 44)) (defBody (at_ 44)) (defScope (at_ 44)) .none kV doc pm an cdv ct) ⟨us, []⟩ = pure (ps_most_size.zip us) :=
  fun _ _ _ _ _ _ us hl => match us, hl with | [_], _ => rfl
theorem bi_least_size : ∀ (kV doc pm : Value) (an : Option Addr) (cdv ct : Value) (us : List Value), us.length = ps_least_size.length → bindArgs (PySem.W.fnOf "least_size" "least_size" (defArgs (at_ 45)) (defBody (at_ 45)) (defScope (at_ 45)) .none kV doc pm an cdv ct) ⟨us, []⟩ = pure (ps_least_size.zip us) :=
  fun _ _ _ _ _ _ us hl => match us, hl with | [_], _ => rfl
theorem bi_widened_by : ∀ (kV doc pm : Value) (an : Option Addr) (cdv ct : Value) (us : List Value), us.length = ps_widened_by.length → bindArgs (PySem.W.fnOf "widened_by" "widened_by" (defArgs (at_ 46)) (defBody (at_ 46)) (defScope (at_ 46)) .none kV doc pm an cdv ct) ⟨us, []⟩ = pure (ps_widened_by.zip us) :=
  fun _ _ _ _ _ _ us hl => match us, hl with | [_, _], _ => rfl
theorem bi_least_span : ∀ (kV doc pm : Value) (an : Option Addr) (cdv ct : Value) (us : List Value), us.length = ps_least_span.length → bindArgs (PySem.W.fnOf "least_span" "least_span" (defArgs (at_ 47)) (defBody (at_ 47)) (defScope (at_ 47)) .none kV doc pm an cdv ct) ⟨us, []⟩ = pure (ps_least_span.zip us) :=
  fun _ _ _ _ _ _ us hl => match us, hl with | [_, _], _ => rfl
theorem bi_most_span : ∀ (kV doc pm : Value) (an : Option Addr) (cdv ct : Value) (us : List Value), us.length = ps_most_span.length → bindArgs (PySem.W.fnOf "most_span" "most_span" (defArgs (at_ 48)) (defBody (at_ 48)) (defScope (at_ 48)) .none kV doc pm an cdv ct) ⟨us, []⟩ = pure (ps_most_span.zip us) :=
  fun _ _ _ _ _ _ us hl => match us, hl with | [_, _], _ => rfl
theorem bi_is_surely : ∀ (kV doc pm : Value) (an : Option Addr) (cdv ct : Value) (us : List Value), us.length = ps_is_surely.length → bindArgs (PySem.W.fnOf "is_surely" "is_surely" (defArgs (at_ 49)) (defBody (at_ 49)) (defScope (at_ 49)) .none kV doc pm an cdv ct) ⟨us, []⟩ = pure (ps_is_surely.zip us) :=
  fun _ _ _ _ _ _ us hl => match us, hl with | [_, _, _], _ => rfl
theorem bi_span_of_step : ∀ (kV doc pm : Value) (an : Option Addr) (cdv ct : Value) (us : List Value), us.length = ps_span_of_step.length → bindArgs (PySem.W.fnOf "span_of_step" "span_of_step" (defArgs (at_ 50)) (defBody (at_ 50)) (defScope (at_ 50)) .none kV doc pm an cdv ct) ⟨us, []⟩ = pure (ps_span_of_step.zip us) :=
  fun _ _ _ _ _ _ us hl => match us, hl with | [_, _], _ => rfl
theorem bi_is_weaker : ∀ (kV doc pm : Value) (an : Option Addr) (cdv ct : Value) (us : List Value), us.length = ps_is_weaker.length → bindArgs (PySem.W.fnOf "is_weaker" "is_weaker" (defArgs (at_ 52)) (defBody (at_ 52)) (defScope (at_ 52)) .none kV doc pm an cdv ct) ⟨us, []⟩ = pure (ps_is_weaker.zip us) :=
  fun _ _ _ _ _ _ us hl => match us, hl with | [_, _], _ => rfl
theorem bi_reach_of : ∀ (kV doc pm : Value) (an : Option Addr) (cdv ct : Value) (us : List Value), us.length = ps_reach_of.length → bindArgs (PySem.W.fnOf "reach_of" "reach_of" (defArgs (at_ 53)) (defBody (at_ 53)) (defScope (at_ 53)) .none kV doc pm an cdv ct) ⟨us, []⟩ = pure (ps_reach_of.zip us) :=
  fun _ _ _ _ _ _ us hl => match us, hl with | [_], _ => rfl
theorem bi_rounded_span : ∀ (kV doc pm : Value) (an : Option Addr) (cdv ct : Value) (us : List Value), us.length = ps_rounded_span.length → bindArgs (PySem.W.fnOf "rounded_span" "rounded_span" (defArgs (at_ 54)) (defBody (at_ 54)) (defScope (at_ 54)) .none kV doc pm an cdv ct) ⟨us, []⟩ = pure (ps_rounded_span.zip us) :=
  fun _ _ _ _ _ _ us hl => match us, hl with | [_], _ => rfl
theorem bi_input_row : ∀ (kV doc pm : Value) (an : Option Addr) (cdv ct : Value) (us : List Value), us.length = ps_input_row.length → bindArgs (PySem.W.fnOf "input_row" "input_row" (defArgs (at_ 55)) (defBody (at_ 55)) (defScope (at_ 55)) .none kV doc pm an cdv ct) ⟨us, []⟩ = pure (ps_input_row.zip us) :=
  fun _ _ _ _ _ _ us hl => match us, hl with | [_, _, _, _], _ => rfl
theorem bi_grid_of : ∀ (kV doc pm : Value) (an : Option Addr) (cdv ct : Value) (us : List Value), us.length = ps_grid_of.length → bindArgs (PySem.W.fnOf "grid_of" "grid_of" (defArgs (at_ 56)) (defBody (at_ 56)) (defScope (at_ 56)) .none kV doc pm an cdv ct) ⟨us, []⟩ = pure (ps_grid_of.zip us) :=
  fun _ _ _ _ _ _ us hl => match us, hl with | [_, _], _ => rfl
theorem bi_number_row : ∀ (kV doc pm : Value) (an : Option Addr) (cdv ct : Value) (us : List Value), us.length = ps_number_row.length → bindArgs (PySem.W.fnOf "number_row" "number_row" (defArgs (at_ 57)) (defBody (at_ 57)) (defScope (at_ 57)) .none kV doc pm an cdv ct) ⟨us, []⟩ = pure (ps_number_row.zip us) :=
  fun _ _ _ _ _ _ us hl => match us, hl with | [_, _, _], _ => rfl
theorem bi_passed_error : ∀ (kV doc pm : Value) (an : Option Addr) (cdv ct : Value) (us : List Value), us.length = ps_passed_error.length → bindArgs (PySem.W.fnOf "passed_error" "passed_error" (defArgs (at_ 58)) (defBody (at_ 58)) (defScope (at_ 58)) .none kV doc pm an cdv ct) ⟨us, []⟩ = pure (ps_passed_error.zip us) :=
  fun _ _ _ _ _ _ us hl => match us, hl with | [_, _, _], _ => rfl
theorem bi_grid_of_step : ∀ (kV doc pm : Value) (an : Option Addr) (cdv ct : Value) (us : List Value), us.length = ps_grid_of_step.length → bindArgs (PySem.W.fnOf "grid_of_step" "grid_of_step" (defArgs (at_ 59)) (defBody (at_ 59)) (defScope (at_ 59)) .none kV doc pm an cdv ct) ⟨us, []⟩ = pure (ps_grid_of_step.zip us) :=
  fun _ _ _ _ _ _ us hl => match us, hl with | [_, _, _], _ => rfl
theorem bi_exact_grid : ∀ (kV doc pm : Value) (an : Option Addr) (cdv ct : Value) (us : List Value), us.length = ps_exact_grid.length → bindArgs (PySem.W.fnOf "exact_grid" "exact_grid" (defArgs (at_ 60)) (defBody (at_ 60)) (defScope (at_ 60)) .none kV doc pm an cdv ct) ⟨us, []⟩ = pure (ps_exact_grid.zip us) :=
  fun _ _ _ _ _ _ us hl => match us, hl with | [_, _], _ => rfl
theorem bi_is_near : ∀ (kV doc pm : Value) (an : Option Addr) (cdv ct : Value) (us : List Value), us.length = ps_is_near.length → bindArgs (PySem.W.fnOf "is_near" "is_near" (defArgs (at_ 61)) (defBody (at_ 61)) (defScope (at_ 61)) .none kV doc pm an cdv ct) ⟨us, []⟩ = pure (ps_is_near.zip us) :=
  fun _ _ _ _ _ _ us hl => match us, hl with | [_, _], _ => rfl
theorem bi_is_without_loss : ∀ (kV doc pm : Value) (an : Option Addr) (cdv ct : Value) (us : List Value), us.length = ps_is_without_loss.length → bindArgs (PySem.W.fnOf "is_without_loss" "is_without_loss" (defArgs (at_ 62)) (defBody (at_ 62)) (defScope (at_ 62)) .none kV doc pm an cdv ct) ⟨us, []⟩ = pure (ps_is_without_loss.zip us) :=
  fun _ _ _ _ _ _ us hl => match us, hl with | [_, _, _, _], _ => rfl
theorem bi_operation_row : ∀ (kV doc pm : Value) (an : Option Addr) (cdv ct : Value) (us : List Value), us.length = ps_operation_row.length → bindArgs (PySem.W.fnOf "operation_row" "operation_row" (defArgs (at_ 63)) (defBody (at_ 63)) (defScope (at_ 63)) .none kV doc pm an cdv ct) ⟨us, []⟩ = pure (ps_operation_row.zip us) :=
  fun _ _ _ _ _ _ us hl => match us, hl with | [_, _, _, _], _ => rfl
theorem bi_can_turn : ∀ (kV doc pm : Value) (an : Option Addr) (cdv ct : Value) (us : List Value), us.length = ps_can_turn.length → bindArgs (PySem.W.fnOf "can_turn" "can_turn" (defArgs (at_ 64)) (defBody (at_ 64)) (defScope (at_ 64)) .none kV doc pm an cdv ct) ⟨us, []⟩ = pure (ps_can_turn.zip us) :=
  fun _ _ _ _ _ _ us hl => match us, hl with | [_, _, _], _ => rfl
theorem bi_choice_row : ∀ (kV doc pm : Value) (an : Option Addr) (cdv ct : Value) (us : List Value), us.length = ps_choice_row.length → bindArgs (PySem.W.fnOf "choice_row" "choice_row" (defArgs (at_ 65)) (defBody (at_ 65)) (defScope (at_ 65)) .none kV doc pm an cdv ct) ⟨us, []⟩ = pure (ps_choice_row.zip us) :=
  fun _ _ _ _ _ _ us hl => match us, hl with | [_, _, _, _, _], _ => rfl
theorem bi_parts_of : ∀ (kV doc pm : Value) (an : Option Addr) (cdv ct : Value) (us : List Value), us.length = ps_parts_of.length → bindArgs (PySem.W.fnOf "parts_of" "parts_of" (defArgs (at_ 67)) (defBody (at_ 67)) (defScope (at_ 67)) .none kV doc pm an cdv ct) ⟨us, []⟩ = pure (ps_parts_of.zip us) :=
  fun _ _ _ _ _ _ us hl => match us, hl with | [_], _ => rfl
theorem bi_next_row : ∀ (kV doc pm : Value) (an : Option Addr) (cdv ct : Value) (us : List Value), us.length = ps_next_row.length → bindArgs (PySem.W.fnOf "next_row" "next_row" (defArgs (at_ 69)) (defBody (at_ 69)) (defScope (at_ 69)) .none kV doc pm an cdv ct) ⟨us, []⟩ = pure (ps_next_row.zip us) :=
  fun _ _ _ _ _ _ us hl => match us, hl with | [_, _, _, _, _], _ => rfl
theorem bi__law_draws : ∀ (kV doc pm : Value) (an : Option Addr) (cdv ct : Value) (us : List Value), us.length = ps__law_draws.length → bindArgs (PySem.W.fnOf "_law_draws" "_law_draws" (defArgs (at_ 71)) (defBody (at_ 71)) (defScope (at_ 71)) .none kV doc pm an cdv ct) ⟨us, []⟩ = pure (ps__law_draws.zip us) :=
  fun _ _ _ _ _ _ us hl => match us, hl with | [_, _], _ => rfl
theorem bi__law_next : ∀ (kV doc pm : Value) (an : Option Addr) (cdv ct : Value) (us : List Value), us.length = ps__law_next.length → bindArgs (PySem.W.fnOf "_law_next" "_law_next" (defArgs (at_ 72)) (defBody (at_ 72)) (defScope (at_ 72)) .none kV doc pm an cdv ct) ⟨us, []⟩ = pure (ps__law_next.zip us) :=
  fun _ _ _ _ _ _ us hl => match us, hl with | [_, _], _ => rfl
theorem bi__law_pick : ∀ (kV doc pm : Value) (an : Option Addr) (cdv ct : Value) (us : List Value), us.length = ps__law_pick.length → bindArgs (PySem.W.fnOf "_law_pick" "_law_pick" (defArgs (at_ 73)) (defBody (at_ 73)) (defScope (at_ 73)) .none kV doc pm an cdv ct) ⟨us, []⟩ = pure (ps__law_pick.zip us) :=
  fun _ _ _ _ _ _ us hl => match us, hl with | [_, _], _ => rfl
theorem bi__law_same : ∀ (kV doc pm : Value) (an : Option Addr) (cdv ct : Value) (us : List Value), us.length = ps__law_same.length → bindArgs (PySem.W.fnOf "_law_same" "_law_same" (defArgs (at_ 74)) (defBody (at_ 74)) (defScope (at_ 74)) .none kV doc pm an cdv ct) ⟨us, []⟩ = pure (ps__law_same.zip us) :=
  fun _ _ _ _ _ _ us hl => match us, hl with | [_, _], _ => rfl
theorem bi__law_least : ∀ (kV doc pm : Value) (an : Option Addr) (cdv ct : Value) (us : List Value), us.length = ps__law_least.length → bindArgs (PySem.W.fnOf "_law_least" "_law_least" (defArgs (at_ 75)) (defBody (at_ 75)) (defScope (at_ 75)) .none kV doc pm an cdv ct) ⟨us, []⟩ = pure (ps__law_least.zip us) :=
  fun _ _ _ _ _ _ us hl => match us, hl with | [_, _], _ => rfl
theorem bi__law_sum : ∀ (kV doc pm : Value) (an : Option Addr) (cdv ct : Value) (us : List Value), us.length = ps__law_sum.length → bindArgs (PySem.W.fnOf "_law_sum" "_law_sum" (defArgs (at_ 76)) (defBody (at_ 76)) (defScope (at_ 76)) .none kV doc pm an cdv ct) ⟨us, []⟩ = pure (ps__law_sum.zip us) :=
  fun _ _ _ _ _ _ us hl => match us, hl with | [_], _ => rfl
theorem bi__law_fin : ∀ (kV doc pm : Value) (an : Option Addr) (cdv ct : Value) (us : List Value), us.length = ps__law_fin.length → bindArgs (PySem.W.fnOf "_law_fin" "_law_fin" (defArgs (at_ 77)) (defBody (at_ 77)) (defScope (at_ 77)) .none kV doc pm an cdv ct) ⟨us, []⟩ = pure (ps__law_fin.zip us) :=
  fun _ _ _ _ _ _ us hl => match us, hl with | [_], _ => rfl
theorem bi__law_val : ∀ (kV doc pm : Value) (an : Option Addr) (cdv ct : Value) (us : List Value), us.length = ps__law_val.length → bindArgs (PySem.W.fnOf "_law_val" "_law_val" (defArgs (at_ 78)) (defBody (at_ 78)) (defScope (at_ 78)) .none kV doc pm an cdv ct) ⟨us, []⟩ = pure (ps__law_val.zip us) :=
  fun _ _ _ _ _ _ us hl => match us, hl with | [_], _ => rfl
theorem bi__law_less : ∀ (kV doc pm : Value) (an : Option Addr) (cdv ct : Value) (us : List Value), us.length = ps__law_less.length → bindArgs (PySem.W.fnOf "_law_less" "_law_less" (defArgs (at_ 79)) (defBody (at_ 79)) (defScope (at_ 79)) .none kV doc pm an cdv ct) ⟨us, []⟩ = pure (ps__law_less.zip us) :=
  fun _ _ _ _ _ _ us hl => match us, hl with | [_, _], _ => rfl
theorem bi__law_round : ∀ (kV doc pm : Value) (an : Option Addr) (cdv ct : Value) (us : List Value), us.length = ps__law_round.length → bindArgs (PySem.W.fnOf "_law_round" "_law_round" (defArgs (at_ 80)) (defBody (at_ 80)) (defScope (at_ 80)) .none kV doc pm an cdv ct) ⟨us, []⟩ = pure (ps__law_round.zip us) :=
  fun _ _ _ _ _ _ us hl => match us, hl with | [_, _, _, _], _ => rfl
theorem bi__law_mul : ∀ (kV doc pm : Value) (an : Option Addr) (cdv ct : Value) (us : List Value), us.length = ps__law_mul.length → bindArgs (PySem.W.fnOf "_law_mul" "_law_mul" (defArgs (at_ 81)) (defBody (at_ 81)) (defScope (at_ 81)) .none kV doc pm an cdv ct) ⟨us, []⟩ = pure (ps__law_mul.zip us) :=
  fun _ _ _ _ _ _ us hl => match us, hl with | [_, _], _ => rfl
theorem bi__law_off : ∀ (kV doc pm : Value) (an : Option Addr) (cdv ct : Value) (us : List Value), us.length = ps__law_off.length → bindArgs (PySem.W.fnOf "_law_off" "_law_off" (defArgs (at_ 82)) (defBody (at_ 82)) (defScope (at_ 82)) .none kV doc pm an cdv ct) ⟨us, []⟩ = pure (ps__law_off.zip us) :=
  fun _ _ _ _ _ _ us hl => match us, hl with | [_], _ => rfl
theorem bi__law_size : ∀ (kV doc pm : Value) (an : Option Addr) (cdv ct : Value) (us : List Value), us.length = ps__law_size.length → bindArgs (PySem.W.fnOf "_law_size" "_law_size" (defArgs (at_ 83)) (defBody (at_ 83)) (defScope (at_ 83)) .none kV doc pm an cdv ct) ⟨us, []⟩ = pure (ps__law_size.zip us) :=
  fun _ _ _ _ _ _ us hl => match us, hl with | [_], _ => rfl
theorem bi__law_more : ∀ (kV doc pm : Value) (an : Option Addr) (cdv ct : Value) (us : List Value), us.length = ps__law_more.length → bindArgs (PySem.W.fnOf "_law_more" "_law_more" (defArgs (at_ 84)) (defBody (at_ 84)) (defScope (at_ 84)) .none kV doc pm an cdv ct) ⟨us, []⟩ = pure (ps__law_more.zip us) :=
  fun _ _ _ _ _ _ us hl => match us, hl with | [_, _], _ => rfl
theorem bi__law_fewer : ∀ (kV doc pm : Value) (an : Option Addr) (cdv ct : Value) (us : List Value), us.length = ps__law_fewer.length → bindArgs (PySem.W.fnOf "_law_fewer" "_law_fewer" (defArgs (at_ 85)) (defBody (at_ 85)) (defScope (at_ 85)) .none kV doc pm an cdv ct) ⟨us, []⟩ = pure (ps__law_fewer.zip us) :=
  fun _ _ _ _ _ _ us hl => match us, hl with | [_, _], _ => rfl
theorem bi__law_two : ∀ (kV doc pm : Value) (an : Option Addr) (cdv ct : Value) (us : List Value), us.length = ps__law_two.length → bindArgs (PySem.W.fnOf "_law_two" "_law_two" (defArgs (at_ 86)) (defBody (at_ 86)) (defScope (at_ 86)) .none kV doc pm an cdv ct) ⟨us, []⟩ = pure (ps__law_two.zip us) :=
  fun _ _ _ _ _ _ us hl => match us, hl with | [_], _ => rfl
theorem bi__law_big : ∀ (kV doc pm : Value) (an : Option Addr) (cdv ct : Value) (us : List Value), us.length = ps__law_big.length → bindArgs (PySem.W.fnOf "_law_big" "_law_big" (defArgs (at_ 87)) (defBody (at_ 87)) (defScope (at_ 87)) .none kV doc pm an cdv ct) ⟨us, []⟩ = pure (ps__law_big.zip us) :=
  fun _ _ _ _ _ _ us hl => match us, hl with | [_], _ => rfl
theorem bi__law_small : ∀ (kV doc pm : Value) (an : Option Addr) (cdv ct : Value) (us : List Value), us.length = ps__law_small.length → bindArgs (PySem.W.fnOf "_law_small" "_law_small" (defArgs (at_ 88)) (defBody (at_ 88)) (defScope (at_ 88)) .none kV doc pm an cdv ct) ⟨us, []⟩ = pure (ps__law_small.zip us) :=
  fun _ _ _ _ _ _ us hl => match us, hl with | [_], _ => rfl
theorem bi__law_unit : ∀ (kV doc pm : Value) (an : Option Addr) (cdv ct : Value) (us : List Value), us.length = ps__law_unit.length → bindArgs (PySem.W.fnOf "_law_unit" "_law_unit" (defArgs (at_ 89)) (defBody (at_ 89)) (defScope (at_ 89)) .none kV doc pm an cdv ct) ⟨us, []⟩ = pure (ps__law_unit.zip us) :=
  fun _ _ _ _ _ _ us hl => match us, hl with | [_, _], _ => rfl
theorem bi__law_bound : ∀ (kV doc pm : Value) (an : Option Addr) (cdv ct : Value) (us : List Value), us.length = ps__law_bound.length → bindArgs (PySem.W.fnOf "_law_bound" "_law_bound" (defArgs (at_ 90)) (defBody (at_ 90)) (defScope (at_ 90)) .none kV doc pm an cdv ct) ⟨us, []⟩ = pure (ps__law_bound.zip us) :=
  fun _ _ _ _ _ _ us hl => match us, hl with | [_, _, _], _ => rfl
theorem bi__law_reached : ∀ (kV doc pm : Value) (an : Option Addr) (cdv ct : Value) (us : List Value), us.length = ps__law_reached.length → bindArgs (PySem.W.fnOf "_law_reached" "_law_reached" (defArgs (at_ 91)) (defBody (at_ 91)) (defScope (at_ 91)) .none kV doc pm an cdv ct) ⟨us, []⟩ = pure (ps__law_reached.zip us) :=
  fun _ _ _ _ _ _ us hl => match us, hl with | [_, _], _ => rfl
theorem bi__law_corners : ∀ (kV doc pm : Value) (an : Option Addr) (cdv ct : Value) (us : List Value), us.length = ps__law_corners.length → bindArgs (PySem.W.fnOf "_law_corners" "_law_corners" (defArgs (at_ 92)) (defBody (at_ 92)) (defScope (at_ 92)) .none kV doc pm an cdv ct) ⟨us, []⟩ = pure (ps__law_corners.zip us) :=
  fun _ _ _ _ _ _ us hl => match us, hl with | [_], _ => rfl
theorem bi__law_under : ∀ (kV doc pm : Value) (an : Option Addr) (cdv ct : Value) (us : List Value), us.length = ps__law_under.length → bindArgs (PySem.W.fnOf "_law_under" "_law_under" (defArgs (at_ 93)) (defBody (at_ 93)) (defScope (at_ 93)) .none kV doc pm an cdv ct) ⟨us, []⟩ = pure (ps__law_under.zip us) :=
  fun _ _ _ _ _ _ us hl => match us, hl with | [_, _], _ => rfl
theorem bi__law_spanned : ∀ (kV doc pm : Value) (an : Option Addr) (cdv ct : Value) (us : List Value), us.length = ps__law_spanned.length → bindArgs (PySem.W.fnOf "_law_spanned" "_law_spanned" (defArgs (at_ 94)) (defBody (at_ 94)) (defScope (at_ 94)) .none kV doc pm an cdv ct) ⟨us, []⟩ = pure (ps__law_spanned.zip us) :=
  fun _ _ _ _ _ _ us hl => match us, hl with | [_, _], _ => rfl
theorem bi__law_passed : ∀ (kV doc pm : Value) (an : Option Addr) (cdv ct : Value) (us : List Value), us.length = ps__law_passed.length → bindArgs (PySem.W.fnOf "_law_passed" "_law_passed" (defArgs (at_ 95)) (defBody (at_ 95)) (defScope (at_ 95)) .none kV doc pm an cdv ct) ⟨us, []⟩ = pure (ps__law_passed.zip us) :=
  fun _ _ _ _ _ _ us hl => match us, hl with | [_, _, _], _ => rfl
theorem bi__law_raw : ∀ (kV doc pm : Value) (an : Option Addr) (cdv ct : Value) (us : List Value), us.length = ps__law_raw.length → bindArgs (PySem.W.fnOf "_law_raw" "_law_raw" (defArgs (at_ 96)) (defBody (at_ 96)) (defScope (at_ 96)) .none kV doc pm an cdv ct) ⟨us, []⟩ = pure (ps__law_raw.zip us) :=
  fun _ _ _ _ _ _ us hl => match us, hl with | [_, _], _ => rfl
theorem bi__law_wide : ∀ (kV doc pm : Value) (an : Option Addr) (cdv ct : Value) (us : List Value), us.length = ps__law_wide.length → bindArgs (PySem.W.fnOf "_law_wide" "_law_wide" (defArgs (at_ 97)) (defBody (at_ 97)) (defScope (at_ 97)) .none kV doc pm an cdv ct) ⟨us, []⟩ = pure (ps__law_wide.zip us) :=
  fun _ _ _ _ _ _ us hl => match us, hl with | [_], _ => rfl
theorem bi__law_near : ∀ (kV doc pm : Value) (an : Option Addr) (cdv ct : Value) (us : List Value), us.length = ps__law_near.length → bindArgs (PySem.W.fnOf "_law_near" "_law_near" (defArgs (at_ 98)) (defBody (at_ 98)) (defScope (at_ 98)) .none kV doc pm an cdv ct) ⟨us, []⟩ = pure (ps__law_near.zip us) :=
  fun _ _ _ _ _ _ us hl => match us, hl with | [_, _], _ => rfl
theorem bi__law_kept : ∀ (kV doc pm : Value) (an : Option Addr) (cdv ct : Value) (us : List Value), us.length = ps__law_kept.length → bindArgs (PySem.W.fnOf "_law_kept" "_law_kept" (defArgs (at_ 99)) (defBody (at_ 99)) (defScope (at_ 99)) .none kV doc pm an cdv ct) ⟨us, []⟩ = pure (ps__law_kept.zip us) :=
  fun _ _ _ _ _ _ us hl => match us, hl with | [_, _, _, _], _ => rfl
theorem bi__law_operation : ∀ (kV doc pm : Value) (an : Option Addr) (cdv ct : Value) (us : List Value), us.length = ps__law_operation.length → bindArgs (PySem.W.fnOf "_law_operation" "_law_operation" (defArgs (at_ 100)) (defBody (at_ 100)) (defScope (at_ 100)) .none kV doc pm an cdv ct) ⟨us, []⟩ = pure (ps__law_operation.zip us) :=
  fun _ _ _ _ _ _ us hl => match us, hl with | [_, _, _, _], _ => rfl
theorem bi__law_sure : ∀ (kV doc pm : Value) (an : Option Addr) (cdv ct : Value) (us : List Value), us.length = ps__law_sure.length → bindArgs (PySem.W.fnOf "_law_sure" "_law_sure" (defArgs (at_ 101)) (defBody (at_ 101)) (defScope (at_ 101)) .none kV doc pm an cdv ct) ⟨us, []⟩ = pure (ps__law_sure.zip us) :=
  fun _ _ _ _ _ _ us hl => match us, hl with | [_, _, _], _ => rfl
theorem bi__law_turns : ∀ (kV doc pm : Value) (an : Option Addr) (cdv ct : Value) (us : List Value), us.length = ps__law_turns.length → bindArgs (PySem.W.fnOf "_law_turns" "_law_turns" (defArgs (at_ 102)) (defBody (at_ 102)) (defScope (at_ 102)) .none kV doc pm an cdv ct) ⟨us, []⟩ = pure (ps__law_turns.zip us) :=
  fun _ _ _ _ _ _ us hl => match us, hl with | [_, _, _], _ => rfl
theorem bi__law_choice : ∀ (kV doc pm : Value) (an : Option Addr) (cdv ct : Value) (us : List Value), us.length = ps__law_choice.length → bindArgs (PySem.W.fnOf "_law_choice" "_law_choice" (defArgs (at_ 103)) (defBody (at_ 103)) (defScope (at_ 103)) .none kV doc pm an cdv ct) ⟨us, []⟩ = pure (ps__law_choice.zip us) :=
  fun _ _ _ _ _ _ us hl => match us, hl with | [_, _, _, _, _], _ => rfl
theorem bi__law_grid : ∀ (kV doc pm : Value) (an : Option Addr) (cdv ct : Value) (us : List Value), us.length = ps__law_grid.length → bindArgs (PySem.W.fnOf "_law_grid" "_law_grid" (defArgs (at_ 104)) (defBody (at_ 104)) (defScope (at_ 104)) .none kV doc pm an cdv ct) ⟨us, []⟩ = pure (ps__law_grid.zip us) :=
  fun _ _ _ _ _ _ us hl => match us, hl with | [_, _], _ => rfl
theorem bi__law_constant : ∀ (kV doc pm : Value) (an : Option Addr) (cdv ct : Value) (us : List Value), us.length = ps__law_constant.length → bindArgs (PySem.W.fnOf "_law_constant" "_law_constant" (defArgs (at_ 105)) (defBody (at_ 105)) (defScope (at_ 105)) .none kV doc pm an cdv ct) ⟨us, []⟩ = pure (ps__law_constant.zip us) :=
  fun _ _ _ _ _ _ us hl => match us, hl with | [_, _, _], _ => rfl
theorem bi__law_weaker : ∀ (kV doc pm : Value) (an : Option Addr) (cdv ct : Value) (us : List Value), us.length = ps__law_weaker.length → bindArgs (PySem.W.fnOf "_law_weaker" "_law_weaker" (defArgs (at_ 106)) (defBody (at_ 106)) (defScope (at_ 106)) .none kV doc pm an cdv ct) ⟨us, []⟩ = pure (ps__law_weaker.zip us) :=
  fun _ _ _ _ _ _ us hl => match us, hl with | [_, _], _ => rfl
theorem bi__law_own_row : ∀ (kV doc pm : Value) (an : Option Addr) (cdv ct : Value) (us : List Value), us.length = ps__law_own_row.length → bindArgs (PySem.W.fnOf "_law_own_row" "_law_own_row" (defArgs (at_ 107)) (defBody (at_ 107)) (defScope (at_ 107)) .none kV doc pm an cdv ct) ⟨us, []⟩ = pure (ps__law_own_row.zip us) :=
  fun _ _ _ _ _ _ us hl => match us, hl with | [_, _], _ => rfl
theorem bi__law_kind_right : ∀ (kV doc pm : Value) (an : Option Addr) (cdv ct : Value) (us : List Value), us.length = ps__law_kind_right.length → bindArgs (PySem.W.fnOf "_law_kind_right" "_law_kind_right" (defArgs (at_ 108)) (defBody (at_ 108)) (defScope (at_ 108)) .none kV doc pm an cdv ct) ⟨us, []⟩ = pure (ps__law_kind_right.zip us) :=
  fun _ _ _ _ _ _ us hl => match us, hl with | [_, _, _, _], _ => rfl
theorem bi__law_choices_right : ∀ (kV doc pm : Value) (an : Option Addr) (cdv ct : Value) (us : List Value), us.length = ps__law_choices_right.length → bindArgs (PySem.W.fnOf "_law_choices_right" "_law_choices_right" (defArgs (at_ 109)) (defBody (at_ 109)) (defScope (at_ 109)) .none kV doc pm an cdv ct) ⟨us, []⟩ = pure (ps__law_choices_right.zip us) :=
  fun _ _ _ _ _ _ us hl => match us, hl with | [_, _, _], _ => rfl
theorem bi__law_first_right : ∀ (kV doc pm : Value) (an : Option Addr) (cdv ct : Value) (us : List Value), us.length = ps__law_first_right.length → bindArgs (PySem.W.fnOf "_law_first_right" "_law_first_right" (defArgs (at_ 110)) (defBody (at_ 110)) (defScope (at_ 110)) .none kV doc pm an cdv ct) ⟨us, []⟩ = pure (ps__law_first_right.zip us) :=
  fun _ _ _ _ _ _ us hl => match us, hl with | [_, _, _, _], _ => rfl
theorem bi_law : ∀ (kV doc pm : Value) (an : Option Addr) (cdv ct : Value) (us : List Value), us.length = ps_law.length → bindArgs (PySem.W.fnOf "law" "law" (defArgs (at_ 111)) (defBody (at_ 111)) (defScope (at_ 111)) .none kV doc pm an cdv ct) ⟨us, []⟩ = pure (ps_law.zip us) :=
  fun _ _ _ _ _ _ us hl => match us, hl with | [_], _ => rfl
theorem hT : TOk T := tOk_of (by decide +kernel) (by decide +kernel)
set_option maxHeartbeats 0 in
theorem all_mk {l : PySem.W.OpenLaw} {w : World} {K : PySem.W.Frag} {h : Heap} {mg : Str → Option Value} {fa : Addr} (X : K.In h) (G : h.Ns mainGlobals mg) (hfa : mg "law" = some (.ref fa))
    (f0 : Fct K "bits_of" "bits_of" (at_ 1)) (f1 : Fct K "common" "common" (at_ 4)) (f2 : Fct K "fraction" "fraction" (at_ 5)) (f3 : Fct K "added" "added" (at_ 6)) (f4 : Fct K "negated" "negated" (at_ 7)) (f5 : Fct K "taken" "taken" (at_ 8)) (f6 : Fct K "times" "times" (at_ 9)) (f7 : Fct K "quotient" "quotient" (at_ 10)) (f8 : Fct K "size" "size" (at_ 11)) (f9 : Fct K "is_less" "is_less" (at_ 12)) (f10 : Fct K "is_most" "is_most" (at_ 13)) (f11 : Fct K "lesser" "lesser" (at_ 14)) (f12 : Fct K "greater" "greater" (at_ 15)) (f13 : Fct K "two_to" "two_to" (at_ 16)) (f14 : Fct K "shifted" "shifted" (at_ 17)) (f15 : Fct K "exponent_of" "exponent_of" (at_ 18)) (f16 : Fct K "value_of" "value_of" (at_ 20)) (f17 : Fct K "is_finite" "is_finite" (at_ 21)) (f18 : Fct K "greatest_of" "greatest_of" (at_ 22)) (f19 : Fct K "least_full" "least_full" (at_ 23)) (f20 : Fct K "unit_at" "unit_at" (at_ 24)) (f21 : Fct K "is_raised" "is_raised" (at_ 26)) (f22 : Fct K "rounded" "rounded" (at_ 27)) (f23 : Fct K "marks_of" "marks_of" (at_ 28)) (f24 : Fct K "beyond" "beyond" (at_ 29)) (f25 : Fct K "error_bound" "error_bound" (at_ 30)) (f26 : Fct K "is_in_reach" "is_in_reach" (at_ 31)) (f27 : Fct K "is_inside" "is_inside" (at_ 33)) (f28 : Fct K "hull" "hull" (at_ 34)) (f29 : Fct K "hull_of" "hull_of" (at_ 35)) (f30 : Fct K "point" "point" (at_ 36)) (f31 : Fct K "added_spans" "added_spans" (at_ 37)) (f32 : Fct K "negated_span" "negated_span" (at_ 38)) (f33 : Fct K "taken_spans" "taken_spans" (at_ 39)) (f34 : Fct K "times_spans" "times_spans" (at_ 40)) (f35 : Fct K "has_nothing" "has_nothing" (at_ 41)) (f36 : Fct K "over_spans" "over_spans" (at_ 42)) (f37 : Fct K "size_span" "size_span" (at_ 43)) (f38 : Fct K "most_size" "most_size" (at_ 44)) (f39 : Fct K "least_size" "least_size" (at_ 45)) (f40 : Fct K "widened_by" "widened_by" (at_ 46)) (f41 : Fct K "least_span" "least_span" (at_ 47)) (f42 : Fct K "most_span" "most_span" (at_ 48)) (f43 : Fct K "is_surely" "is_surely" (at_ 49)) (f44 : Fct K "span_of_step" "span_of_step" (at_ 50)) (f45 : Fct K "is_weaker" "is_weaker" (at_ 52)) (f46 : Fct K "reach_of" "reach_of" (at_ 53)) (f47 : Fct K "rounded_span" "rounded_span" (at_ 54)) (f48 : Fct K "input_row" "input_row" (at_ 55)) (f49 : Fct K "grid_of" "grid_of" (at_ 56)) (f50 : Fct K "number_row" "number_row" (at_ 57)) (f51 : Fct K "passed_error" "passed_error" (at_ 58)) (f52 : Fct K "grid_of_step" "grid_of_step" (at_ 59)) (f53 : Fct K "exact_grid" "exact_grid" (at_ 60)) (f54 : Fct K "is_near" "is_near" (at_ 61)) (f55 : Fct K "is_without_loss" "is_without_loss" (at_ 62)) (f56 : Fct K "operation_row" "operation_row" (at_ 63)) (f57 : Fct K "can_turn" "can_turn" (at_ 64)) (f58 : Fct K "choice_row" "choice_row" (at_ 65)) (f59 : Fct K "parts_of" "parts_of" (at_ 67)) (f60 : Fct K "next_row" "next_row" (at_ 69)) (f61 : Fct K "_law_draws" "_law_draws" (at_ 71)) (f62 : Fct K "_law_next" "_law_next" (at_ 72)) (f63 : Fct K "_law_pick" "_law_pick" (at_ 73)) (f64 : Fct K "_law_same" "_law_same" (at_ 74)) (f65 : Fct K "_law_least" "_law_least" (at_ 75)) (f66 : Fct K "_law_sum" "_law_sum" (at_ 76)) (f67 : Fct K "_law_fin" "_law_fin" (at_ 77)) (f68 : Fct K "_law_val" "_law_val" (at_ 78)) (f69 : Fct K "_law_less" "_law_less" (at_ 79)) (f70 : Fct K "_law_round" "_law_round" (at_ 80)) (f71 : Fct K "_law_mul" "_law_mul" (at_ 81)) (f72 : Fct K "_law_off" "_law_off" (at_ 82)) (f73 : Fct K "_law_size" "_law_size" (at_ 83)) (f74 : Fct K "_law_more" "_law_more" (at_ 84)) (f75 : Fct K "_law_fewer" "_law_fewer" (at_ 85)) (f76 : Fct K "_law_two" "_law_two" (at_ 86)) (f77 : Fct K "_law_big" "_law_big" (at_ 87)) (f78 : Fct K "_law_small" "_law_small" (at_ 88)) (f79 : Fct K "_law_unit" "_law_unit" (at_ 89)) (f80 : Fct K "_law_bound" "_law_bound" (at_ 90)) (f81 : Fct K "_law_reached" "_law_reached" (at_ 91)) (f82 : Fct K "_law_corners" "_law_corners" (at_ 92)) (f83 : Fct K "_law_under" "_law_under" (at_ 93)) (f84 : Fct K "_law_spanned" "_law_spanned" (at_ 94)) (f85 : Fct K "_law_passed" "_law_passed" (at_ 95)) (f86 : Fct K "_law_raw" "_law_raw" (at_ 96)) (f87 : Fct K "_law_wide" "_law_wide" (at_ 97)) (f88 : Fct K "_law_near" "_law_near" (at_ 98)) (f89 : Fct K "_law_kept" "_law_kept" (at_ 99)) (f90 : Fct K "_law_operation" "_law_operation" (at_ 100)) (f91 : Fct K "_law_sure" "_law_sure" (at_ 101)) (f92 : Fct K "_law_turns" "_law_turns" (at_ 102)) (f93 : Fct K "_law_choice" "_law_choice" (at_ 103)) (f94 : Fct K "_law_grid" "_law_grid" (at_ 104)) (f95 : Fct K "_law_constant" "_law_constant" (at_ 105)) (f96 : Fct K "_law_weaker" "_law_weaker" (at_ 106)) (f97 : Fct K "_law_own_row" "_law_own_row" (at_ 107)) (f98 : Fct K "_law_kind_right" "_law_kind_right" (at_ 108)) (f99 : Fct K "_law_choices_right" "_law_choices_right" (at_ 109)) (f100 : Fct K "_law_first_right" "_law_first_right" (at_ 110)) (f101 : Fct K "law" "law" (at_ 111))
    (hb : ∀ y ∈ bNames, PySem.W.nsIn K mainGlobals y = some none) (hc : ∀ k y d, co k = some (y, d) → ∃ v u, PySem.W.nsIn K mainGlobals y = some (some u) ∧ RelV v u ∧ ∀ wa H, Rep T K wa H d v) :
    ∃ fd : FuncData, (∀ (s : Shared) (v : Value), BindsTo s fd ⟨[v], []⟩ [("script", v)]) ∧ ∀ base : Heap, K.In base → base.Ns mainGlobals mg → FnOk l.prog w K mg base CX0 14 fa fd ["script"] (spL K P 13 d_law) := by
  obtain ⟨g, fd, e0, b0, F⟩ := f101
  have e := hfa.symm.trans (PySem.W.mg_of X G e0)
  cases e
  refine ⟨fd, b0 "script" fun _ _ _ _ _ _ _ => rfl, fun base _ _ => law_ok (T := T) (fn := fn) (co := co) hT (fun y hy => PySem.W.mg_none_of X G (hb y hy)) (fun k y d e => let ⟨v, u, q, r⟩ := hc k y d e; ⟨v, u, PySem.W.mg_of X G q, r⟩) ?_ (p := "script") (d := d_law) (N := N_law) (st := at_ 111) ⟨F, F.binds bi_law, scOk_ok sc_law, rfl, by decide, rfl, ok_law⟩ 13⟩
  intro f y e
  match f, e with
  | 0, e =>
    simp only [fn, List.mem_cons, List.not_mem_nil, or_false] at e
    subst e
    obtain ⟨g, fd, e1, _, F1⟩ := f0
    exact ⟨"bits_of", d_bits_of, N_bits_of, ps_bits_of, at_ 1, g, fd, rfl, PySem.W.mg_of X G e1, ⟨F1, F1.binds bi_bits_of, scOk_ok sc_bits_of, rfl, by decide, rfl, ok_bits_of⟩⟩
  | 1, e =>
    simp only [fn, List.mem_cons, List.not_mem_nil, or_false] at e
    subst e
    obtain ⟨g, fd, e1, _, F1⟩ := f1
    exact ⟨"common", d_common, N_common, ps_common, at_ 4, g, fd, rfl, PySem.W.mg_of X G e1, ⟨F1, F1.binds bi_common, scOk_ok sc_common, rfl, by decide, rfl, ok_common⟩⟩
  | 2, e =>
    simp only [fn, List.mem_cons, List.not_mem_nil, or_false] at e
    subst e
    obtain ⟨g, fd, e1, _, F1⟩ := f2
    exact ⟨"fraction", d_fraction, N_fraction, ps_fraction, at_ 5, g, fd, rfl, PySem.W.mg_of X G e1, ⟨F1, F1.binds bi_fraction, scOk_ok sc_fraction, rfl, by decide, rfl, ok_fraction⟩⟩
  | 3, e =>
    simp only [fn, List.mem_cons, List.not_mem_nil, or_false] at e
    subst e
    obtain ⟨g, fd, e1, _, F1⟩ := f3
    exact ⟨"added", d_added, N_added, ps_added, at_ 6, g, fd, rfl, PySem.W.mg_of X G e1, ⟨F1, F1.binds bi_added, scOk_ok sc_added, rfl, by decide, rfl, ok_added⟩⟩
  | 4, e =>
    simp only [fn, List.mem_cons, List.not_mem_nil, or_false] at e
    subst e
    obtain ⟨g, fd, e1, _, F1⟩ := f4
    exact ⟨"negated", d_negated, N_negated, ps_negated, at_ 7, g, fd, rfl, PySem.W.mg_of X G e1, ⟨F1, F1.binds bi_negated, scOk_ok sc_negated, rfl, by decide, rfl, ok_negated⟩⟩
  | 5, e =>
    simp only [fn, List.mem_cons, List.not_mem_nil, or_false] at e
    subst e
    obtain ⟨g, fd, e1, _, F1⟩ := f5
    exact ⟨"taken", d_taken, N_taken, ps_taken, at_ 8, g, fd, rfl, PySem.W.mg_of X G e1, ⟨F1, F1.binds bi_taken, scOk_ok sc_taken, rfl, by decide, rfl, ok_taken⟩⟩
  | 6, e =>
    simp only [fn, List.mem_cons, List.not_mem_nil, or_false] at e
    subst e
    obtain ⟨g, fd, e1, _, F1⟩ := f6
    exact ⟨"times", d_times, N_times, ps_times, at_ 9, g, fd, rfl, PySem.W.mg_of X G e1, ⟨F1, F1.binds bi_times, scOk_ok sc_times, rfl, by decide, rfl, ok_times⟩⟩
  | 7, e =>
    simp only [fn, List.mem_cons, List.not_mem_nil, or_false] at e
    subst e
    obtain ⟨g, fd, e1, _, F1⟩ := f7
    exact ⟨"quotient", d_quotient, N_quotient, ps_quotient, at_ 10, g, fd, rfl, PySem.W.mg_of X G e1, ⟨F1, F1.binds bi_quotient, scOk_ok sc_quotient, rfl, by decide, rfl, ok_quotient⟩⟩
  | 8, e =>
    simp only [fn, List.mem_cons, List.not_mem_nil, or_false] at e
    subst e
    obtain ⟨g, fd, e1, _, F1⟩ := f8
    exact ⟨"size", d_size, N_size, ps_size, at_ 11, g, fd, rfl, PySem.W.mg_of X G e1, ⟨F1, F1.binds bi_size, scOk_ok sc_size, rfl, by decide, rfl, ok_size⟩⟩
  | 9, e =>
    simp only [fn, List.mem_cons, List.not_mem_nil, or_false] at e
    subst e
    obtain ⟨g, fd, e1, _, F1⟩ := f9
    exact ⟨"is_less", d_is_less, N_is_less, ps_is_less, at_ 12, g, fd, rfl, PySem.W.mg_of X G e1, ⟨F1, F1.binds bi_is_less, scOk_ok sc_is_less, rfl, by decide, rfl, ok_is_less⟩⟩
  | 10, e =>
    simp only [fn, List.mem_cons, List.not_mem_nil, or_false] at e
    subst e
    obtain ⟨g, fd, e1, _, F1⟩ := f10
    exact ⟨"is_most", d_is_most, N_is_most, ps_is_most, at_ 13, g, fd, rfl, PySem.W.mg_of X G e1, ⟨F1, F1.binds bi_is_most, scOk_ok sc_is_most, rfl, by decide, rfl, ok_is_most⟩⟩
  | 11, e =>
    simp only [fn, List.mem_cons, List.not_mem_nil, or_false] at e
    subst e
    obtain ⟨g, fd, e1, _, F1⟩ := f11
    exact ⟨"lesser", d_lesser, N_lesser, ps_lesser, at_ 14, g, fd, rfl, PySem.W.mg_of X G e1, ⟨F1, F1.binds bi_lesser, scOk_ok sc_lesser, rfl, by decide, rfl, ok_lesser⟩⟩
  | 12, e =>
    simp only [fn, List.mem_cons, List.not_mem_nil, or_false] at e
    subst e
    obtain ⟨g, fd, e1, _, F1⟩ := f12
    exact ⟨"greater", d_greater, N_greater, ps_greater, at_ 15, g, fd, rfl, PySem.W.mg_of X G e1, ⟨F1, F1.binds bi_greater, scOk_ok sc_greater, rfl, by decide, rfl, ok_greater⟩⟩
  | 13, e =>
    simp only [fn, List.mem_cons, List.not_mem_nil, or_false] at e
    subst e
    obtain ⟨g, fd, e1, _, F1⟩ := f13
    exact ⟨"two_to", d_two_to, N_two_to, ps_two_to, at_ 16, g, fd, rfl, PySem.W.mg_of X G e1, ⟨F1, F1.binds bi_two_to, scOk_ok sc_two_to, rfl, by decide, rfl, ok_two_to⟩⟩
  | 14, e =>
    simp only [fn, List.mem_cons, List.not_mem_nil, or_false] at e
    subst e
    obtain ⟨g, fd, e1, _, F1⟩ := f14
    exact ⟨"shifted", d_shifted, N_shifted, ps_shifted, at_ 17, g, fd, rfl, PySem.W.mg_of X G e1, ⟨F1, F1.binds bi_shifted, scOk_ok sc_shifted, rfl, by decide, rfl, ok_shifted⟩⟩
  | 15, e =>
    simp only [fn, List.mem_cons, List.not_mem_nil, or_false] at e
    subst e
    obtain ⟨g, fd, e1, _, F1⟩ := f15
    exact ⟨"exponent_of", d_exponent_of, N_exponent_of, ps_exponent_of, at_ 18, g, fd, rfl, PySem.W.mg_of X G e1, ⟨F1, F1.binds bi_exponent_of, scOk_ok sc_exponent_of, rfl, by decide, rfl, ok_exponent_of⟩⟩
  | 16, e =>
    simp only [fn, List.mem_cons, List.not_mem_nil, or_false] at e
    subst e
    obtain ⟨g, fd, e1, _, F1⟩ := f16
    exact ⟨"value_of", d_value_of, N_value_of, ps_value_of, at_ 20, g, fd, rfl, PySem.W.mg_of X G e1, ⟨F1, F1.binds bi_value_of, scOk_ok sc_value_of, rfl, by decide, rfl, ok_value_of⟩⟩
  | 17, e =>
    simp only [fn, List.mem_cons, List.not_mem_nil, or_false] at e
    subst e
    obtain ⟨g, fd, e1, _, F1⟩ := f17
    exact ⟨"is_finite", d_is_finite, N_is_finite, ps_is_finite, at_ 21, g, fd, rfl, PySem.W.mg_of X G e1, ⟨F1, F1.binds bi_is_finite, scOk_ok sc_is_finite, rfl, by decide, rfl, ok_is_finite⟩⟩
  | 18, e =>
    simp only [fn, List.mem_cons, List.not_mem_nil, or_false] at e
    subst e
    obtain ⟨g, fd, e1, _, F1⟩ := f18
    exact ⟨"greatest_of", d_greatest_of, N_greatest_of, ps_greatest_of, at_ 22, g, fd, rfl, PySem.W.mg_of X G e1, ⟨F1, F1.binds bi_greatest_of, scOk_ok sc_greatest_of, rfl, by decide, rfl, ok_greatest_of⟩⟩
  | 19, e =>
    simp only [fn, List.mem_cons, List.not_mem_nil, or_false] at e
    subst e
    obtain ⟨g, fd, e1, _, F1⟩ := f19
    exact ⟨"least_full", d_least_full, N_least_full, ps_least_full, at_ 23, g, fd, rfl, PySem.W.mg_of X G e1, ⟨F1, F1.binds bi_least_full, scOk_ok sc_least_full, rfl, by decide, rfl, ok_least_full⟩⟩
  | 20, e =>
    simp only [fn, List.mem_cons, List.not_mem_nil, or_false] at e
    subst e
    obtain ⟨g, fd, e1, _, F1⟩ := f20
    exact ⟨"unit_at", d_unit_at, N_unit_at, ps_unit_at, at_ 24, g, fd, rfl, PySem.W.mg_of X G e1, ⟨F1, F1.binds bi_unit_at, scOk_ok sc_unit_at, rfl, by decide, rfl, ok_unit_at⟩⟩
  | 21, e =>
    simp only [fn, List.mem_cons, List.not_mem_nil, or_false] at e
    subst e
    obtain ⟨g, fd, e1, _, F1⟩ := f21
    exact ⟨"is_raised", d_is_raised, N_is_raised, ps_is_raised, at_ 26, g, fd, rfl, PySem.W.mg_of X G e1, ⟨F1, F1.binds bi_is_raised, scOk_ok sc_is_raised, rfl, by decide, rfl, ok_is_raised⟩⟩
  | 22, e =>
    simp only [fn, List.mem_cons, List.not_mem_nil, or_false] at e
    subst e
    obtain ⟨g, fd, e1, _, F1⟩ := f22
    exact ⟨"rounded", d_rounded, N_rounded, ps_rounded, at_ 27, g, fd, rfl, PySem.W.mg_of X G e1, ⟨F1, F1.binds bi_rounded, scOk_ok sc_rounded, rfl, by decide, rfl, ok_rounded⟩⟩
  | 23, e =>
    simp only [fn, List.mem_cons, List.not_mem_nil, or_false] at e
    subst e
    obtain ⟨g, fd, e1, _, F1⟩ := f23
    exact ⟨"marks_of", d_marks_of, N_marks_of, ps_marks_of, at_ 28, g, fd, rfl, PySem.W.mg_of X G e1, ⟨F1, F1.binds bi_marks_of, scOk_ok sc_marks_of, rfl, by decide, rfl, ok_marks_of⟩⟩
  | 24, e =>
    simp only [fn, List.mem_cons, List.not_mem_nil, or_false] at e
    subst e
    obtain ⟨g, fd, e1, _, F1⟩ := f24
    exact ⟨"beyond", d_beyond, N_beyond, ps_beyond, at_ 29, g, fd, rfl, PySem.W.mg_of X G e1, ⟨F1, F1.binds bi_beyond, scOk_ok sc_beyond, rfl, by decide, rfl, ok_beyond⟩⟩
  | 25, e =>
    simp only [fn, List.mem_cons, List.not_mem_nil, or_false] at e
    subst e
    obtain ⟨g, fd, e1, _, F1⟩ := f25
    exact ⟨"error_bound", d_error_bound, N_error_bound, ps_error_bound, at_ 30, g, fd, rfl, PySem.W.mg_of X G e1, ⟨F1, F1.binds bi_error_bound, scOk_ok sc_error_bound, rfl, by decide, rfl, ok_error_bound⟩⟩
  | 26, e =>
    simp only [fn, List.mem_cons, List.not_mem_nil, or_false] at e
    subst e
    obtain ⟨g, fd, e1, _, F1⟩ := f26
    exact ⟨"is_in_reach", d_is_in_reach, N_is_in_reach, ps_is_in_reach, at_ 31, g, fd, rfl, PySem.W.mg_of X G e1, ⟨F1, F1.binds bi_is_in_reach, scOk_ok sc_is_in_reach, rfl, by decide, rfl, ok_is_in_reach⟩⟩
  | 27, e =>
    simp only [fn, List.mem_cons, List.not_mem_nil, or_false] at e
    subst e
    obtain ⟨g, fd, e1, _, F1⟩ := f27
    exact ⟨"is_inside", d_is_inside, N_is_inside, ps_is_inside, at_ 33, g, fd, rfl, PySem.W.mg_of X G e1, ⟨F1, F1.binds bi_is_inside, scOk_ok sc_is_inside, rfl, by decide, rfl, ok_is_inside⟩⟩
  | 28, e =>
    simp only [fn, List.mem_cons, List.not_mem_nil, or_false] at e
    subst e
    obtain ⟨g, fd, e1, _, F1⟩ := f28
    exact ⟨"hull", d_hull, N_hull, ps_hull, at_ 34, g, fd, rfl, PySem.W.mg_of X G e1, ⟨F1, F1.binds bi_hull, scOk_ok sc_hull, rfl, by decide, rfl, ok_hull⟩⟩
  | 29, e =>
    simp only [fn, List.mem_cons, List.not_mem_nil, or_false] at e
    subst e
    obtain ⟨g, fd, e1, _, F1⟩ := f29
    exact ⟨"hull_of", d_hull_of, N_hull_of, ps_hull_of, at_ 35, g, fd, rfl, PySem.W.mg_of X G e1, ⟨F1, F1.binds bi_hull_of, scOk_ok sc_hull_of, rfl, by decide, rfl, ok_hull_of⟩⟩
  | 30, e =>
    simp only [fn, List.mem_cons, List.not_mem_nil, or_false] at e
    subst e
    obtain ⟨g, fd, e1, _, F1⟩ := f30
    exact ⟨"point", d_point, N_point, ps_point, at_ 36, g, fd, rfl, PySem.W.mg_of X G e1, ⟨F1, F1.binds bi_point, scOk_ok sc_point, rfl, by decide, rfl, ok_point⟩⟩
  | 31, e =>
    simp only [fn, List.mem_cons, List.not_mem_nil, or_false] at e
    subst e
    obtain ⟨g, fd, e1, _, F1⟩ := f31
    exact ⟨"added_spans", d_added_spans, N_added_spans, ps_added_spans, at_ 37, g, fd, rfl, PySem.W.mg_of X G e1, ⟨F1, F1.binds bi_added_spans, scOk_ok sc_added_spans, rfl, by decide, rfl, ok_added_spans⟩⟩
  | 32, e =>
    simp only [fn, List.mem_cons, List.not_mem_nil, or_false] at e
    subst e
    obtain ⟨g, fd, e1, _, F1⟩ := f32
    exact ⟨"negated_span", d_negated_span, N_negated_span, ps_negated_span, at_ 38, g, fd, rfl, PySem.W.mg_of X G e1, ⟨F1, F1.binds bi_negated_span, scOk_ok sc_negated_span, rfl, by decide, rfl, ok_negated_span⟩⟩
  | 33, e =>
    simp only [fn, List.mem_cons, List.not_mem_nil, or_false] at e
    subst e
    obtain ⟨g, fd, e1, _, F1⟩ := f33
    exact ⟨"taken_spans", d_taken_spans, N_taken_spans, ps_taken_spans, at_ 39, g, fd, rfl, PySem.W.mg_of X G e1, ⟨F1, F1.binds bi_taken_spans, scOk_ok sc_taken_spans, rfl, by decide, rfl, ok_taken_spans⟩⟩
  | 34, e =>
    simp only [fn, List.mem_cons, List.not_mem_nil, or_false] at e
    subst e
    obtain ⟨g, fd, e1, _, F1⟩ := f34
    exact ⟨"times_spans", d_times_spans, N_times_spans, ps_times_spans, at_ 40, g, fd, rfl, PySem.W.mg_of X G e1, ⟨F1, F1.binds bi_times_spans, scOk_ok sc_times_spans, rfl, by decide, rfl, ok_times_spans⟩⟩
  | 35, e =>
    simp only [fn, List.mem_cons, List.not_mem_nil, or_false] at e
    subst e
    obtain ⟨g, fd, e1, _, F1⟩ := f35
    exact ⟨"has_nothing", d_has_nothing, N_has_nothing, ps_has_nothing, at_ 41, g, fd, rfl, PySem.W.mg_of X G e1, ⟨F1, F1.binds bi_has_nothing, scOk_ok sc_has_nothing, rfl, by decide, rfl, ok_has_nothing⟩⟩
  | 36, e =>
    simp only [fn, List.mem_cons, List.not_mem_nil, or_false] at e
    subst e
    obtain ⟨g, fd, e1, _, F1⟩ := f36
    exact ⟨"over_spans", d_over_spans, N_over_spans, ps_over_spans, at_ 42, g, fd, rfl, PySem.W.mg_of X G e1, ⟨F1, F1.binds bi_over_spans, scOk_ok sc_over_spans, rfl, by decide, rfl, ok_over_spans⟩⟩
  | 37, e =>
    simp only [fn, List.mem_cons, List.not_mem_nil, or_false] at e
    subst e
    obtain ⟨g, fd, e1, _, F1⟩ := f37
    exact ⟨"size_span", d_size_span, N_size_span, ps_size_span, at_ 43, g, fd, rfl, PySem.W.mg_of X G e1, ⟨F1, F1.binds bi_size_span, scOk_ok sc_size_span, rfl, by decide, rfl, ok_size_span⟩⟩
  | 38, e =>
    simp only [fn, List.mem_cons, List.not_mem_nil, or_false] at e
    subst e
    obtain ⟨g, fd, e1, _, F1⟩ := f38
    exact ⟨"most_size", d_most_size, N_most_size, ps_most_size, at_ 44, g, fd, rfl, PySem.W.mg_of X G e1, ⟨F1, F1.binds bi_most_size, scOk_ok sc_most_size, rfl, by decide, rfl, ok_most_size⟩⟩
  | 39, e =>
    simp only [fn, List.mem_cons, List.not_mem_nil, or_false] at e
    subst e
    obtain ⟨g, fd, e1, _, F1⟩ := f39
    exact ⟨"least_size", d_least_size, N_least_size, ps_least_size, at_ 45, g, fd, rfl, PySem.W.mg_of X G e1, ⟨F1, F1.binds bi_least_size, scOk_ok sc_least_size, rfl, by decide, rfl, ok_least_size⟩⟩
  | 40, e =>
    simp only [fn, List.mem_cons, List.not_mem_nil, or_false] at e
    subst e
    obtain ⟨g, fd, e1, _, F1⟩ := f40
    exact ⟨"widened_by", d_widened_by, N_widened_by, ps_widened_by, at_ 46, g, fd, rfl, PySem.W.mg_of X G e1, ⟨F1, F1.binds bi_widened_by, scOk_ok sc_widened_by, rfl, by decide, rfl, ok_widened_by⟩⟩
  | 41, e =>
    simp only [fn, List.mem_cons, List.not_mem_nil, or_false] at e
    subst e
    obtain ⟨g, fd, e1, _, F1⟩ := f41
    exact ⟨"least_span", d_least_span, N_least_span, ps_least_span, at_ 47, g, fd, rfl, PySem.W.mg_of X G e1, ⟨F1, F1.binds bi_least_span, scOk_ok sc_least_span, rfl, by decide, rfl, ok_least_span⟩⟩
  | 42, e =>
    simp only [fn, List.mem_cons, List.not_mem_nil, or_false] at e
    subst e
    obtain ⟨g, fd, e1, _, F1⟩ := f42
    exact ⟨"most_span", d_most_span, N_most_span, ps_most_span, at_ 48, g, fd, rfl, PySem.W.mg_of X G e1, ⟨F1, F1.binds bi_most_span, scOk_ok sc_most_span, rfl, by decide, rfl, ok_most_span⟩⟩
  | 43, e =>
    simp only [fn, List.mem_cons, List.not_mem_nil, or_false] at e
    subst e
    obtain ⟨g, fd, e1, _, F1⟩ := f43
    exact ⟨"is_surely", d_is_surely, N_is_surely, ps_is_surely, at_ 49, g, fd, rfl, PySem.W.mg_of X G e1, ⟨F1, F1.binds bi_is_surely, scOk_ok sc_is_surely, rfl, by decide, rfl, ok_is_surely⟩⟩
  | 44, e =>
    simp only [fn, List.mem_cons, List.not_mem_nil, or_false] at e
    subst e
    obtain ⟨g, fd, e1, _, F1⟩ := f44
    exact ⟨"span_of_step", d_span_of_step, N_span_of_step, ps_span_of_step, at_ 50, g, fd, rfl, PySem.W.mg_of X G e1, ⟨F1, F1.binds bi_span_of_step, scOk_ok sc_span_of_step, rfl, by decide, rfl, ok_span_of_step⟩⟩
  | 45, e =>
    simp only [fn, List.mem_cons, List.not_mem_nil, or_false] at e
    subst e
    obtain ⟨g, fd, e1, _, F1⟩ := f45
    exact ⟨"is_weaker", d_is_weaker, N_is_weaker, ps_is_weaker, at_ 52, g, fd, rfl, PySem.W.mg_of X G e1, ⟨F1, F1.binds bi_is_weaker, scOk_ok sc_is_weaker, rfl, by decide, rfl, ok_is_weaker⟩⟩
  | 46, e =>
    simp only [fn, List.mem_cons, List.not_mem_nil, or_false] at e
    subst e
    obtain ⟨g, fd, e1, _, F1⟩ := f46
    exact ⟨"reach_of", d_reach_of, N_reach_of, ps_reach_of, at_ 53, g, fd, rfl, PySem.W.mg_of X G e1, ⟨F1, F1.binds bi_reach_of, scOk_ok sc_reach_of, rfl, by decide, rfl, ok_reach_of⟩⟩
  | 47, e =>
    simp only [fn, List.mem_cons, List.not_mem_nil, or_false] at e
    subst e
    obtain ⟨g, fd, e1, _, F1⟩ := f47
    exact ⟨"rounded_span", d_rounded_span, N_rounded_span, ps_rounded_span, at_ 54, g, fd, rfl, PySem.W.mg_of X G e1, ⟨F1, F1.binds bi_rounded_span, scOk_ok sc_rounded_span, rfl, by decide, rfl, ok_rounded_span⟩⟩
  | 48, e =>
    simp only [fn, List.mem_cons, List.not_mem_nil, or_false] at e
    subst e
    obtain ⟨g, fd, e1, _, F1⟩ := f48
    exact ⟨"input_row", d_input_row, N_input_row, ps_input_row, at_ 55, g, fd, rfl, PySem.W.mg_of X G e1, ⟨F1, F1.binds bi_input_row, scOk_ok sc_input_row, rfl, by decide, rfl, ok_input_row⟩⟩
  | 49, e =>
    simp only [fn, List.mem_cons, List.not_mem_nil, or_false] at e
    subst e
    obtain ⟨g, fd, e1, _, F1⟩ := f49
    exact ⟨"grid_of", d_grid_of, N_grid_of, ps_grid_of, at_ 56, g, fd, rfl, PySem.W.mg_of X G e1, ⟨F1, F1.binds bi_grid_of, scOk_ok sc_grid_of, rfl, by decide, rfl, ok_grid_of⟩⟩
  | 50, e =>
    simp only [fn, List.mem_cons, List.not_mem_nil, or_false] at e
    subst e
    obtain ⟨g, fd, e1, _, F1⟩ := f50
    exact ⟨"number_row", d_number_row, N_number_row, ps_number_row, at_ 57, g, fd, rfl, PySem.W.mg_of X G e1, ⟨F1, F1.binds bi_number_row, scOk_ok sc_number_row, rfl, by decide, rfl, ok_number_row⟩⟩
  | 51, e =>
    simp only [fn, List.mem_cons, List.not_mem_nil, or_false] at e
    subst e
    obtain ⟨g, fd, e1, _, F1⟩ := f51
    exact ⟨"passed_error", d_passed_error, N_passed_error, ps_passed_error, at_ 58, g, fd, rfl, PySem.W.mg_of X G e1, ⟨F1, F1.binds bi_passed_error, scOk_ok sc_passed_error, rfl, by decide, rfl, ok_passed_error⟩⟩
  | 52, e =>
    simp only [fn, List.mem_cons, List.not_mem_nil, or_false] at e
    subst e
    obtain ⟨g, fd, e1, _, F1⟩ := f52
    exact ⟨"grid_of_step", d_grid_of_step, N_grid_of_step, ps_grid_of_step, at_ 59, g, fd, rfl, PySem.W.mg_of X G e1, ⟨F1, F1.binds bi_grid_of_step, scOk_ok sc_grid_of_step, rfl, by decide, rfl, ok_grid_of_step⟩⟩
  | 53, e =>
    simp only [fn, List.mem_cons, List.not_mem_nil, or_false] at e
    subst e
    obtain ⟨g, fd, e1, _, F1⟩ := f53
    exact ⟨"exact_grid", d_exact_grid, N_exact_grid, ps_exact_grid, at_ 60, g, fd, rfl, PySem.W.mg_of X G e1, ⟨F1, F1.binds bi_exact_grid, scOk_ok sc_exact_grid, rfl, by decide, rfl, ok_exact_grid⟩⟩
  | 54, e =>
    simp only [fn, List.mem_cons, List.not_mem_nil, or_false] at e
    subst e
    obtain ⟨g, fd, e1, _, F1⟩ := f54
    exact ⟨"is_near", d_is_near, N_is_near, ps_is_near, at_ 61, g, fd, rfl, PySem.W.mg_of X G e1, ⟨F1, F1.binds bi_is_near, scOk_ok sc_is_near, rfl, by decide, rfl, ok_is_near⟩⟩
  | 55, e =>
    simp only [fn, List.mem_cons, List.not_mem_nil, or_false] at e
    subst e
    obtain ⟨g, fd, e1, _, F1⟩ := f55
    exact ⟨"is_without_loss", d_is_without_loss, N_is_without_loss, ps_is_without_loss, at_ 62, g, fd, rfl, PySem.W.mg_of X G e1, ⟨F1, F1.binds bi_is_without_loss, scOk_ok sc_is_without_loss, rfl, by decide, rfl, ok_is_without_loss⟩⟩
  | 56, e =>
    simp only [fn, List.mem_cons, List.not_mem_nil, or_false] at e
    subst e
    obtain ⟨g, fd, e1, _, F1⟩ := f56
    exact ⟨"operation_row", d_operation_row, N_operation_row, ps_operation_row, at_ 63, g, fd, rfl, PySem.W.mg_of X G e1, ⟨F1, F1.binds bi_operation_row, scOk_ok sc_operation_row, rfl, by decide, rfl, ok_operation_row⟩⟩
  | 57, e =>
    simp only [fn, List.mem_cons, List.not_mem_nil, or_false] at e
    subst e
    obtain ⟨g, fd, e1, _, F1⟩ := f57
    exact ⟨"can_turn", d_can_turn, N_can_turn, ps_can_turn, at_ 64, g, fd, rfl, PySem.W.mg_of X G e1, ⟨F1, F1.binds bi_can_turn, scOk_ok sc_can_turn, rfl, by decide, rfl, ok_can_turn⟩⟩
  | 58, e =>
    simp only [fn, List.mem_cons, List.not_mem_nil, or_false] at e
    subst e
    obtain ⟨g, fd, e1, _, F1⟩ := f58
    exact ⟨"choice_row", d_choice_row, N_choice_row, ps_choice_row, at_ 65, g, fd, rfl, PySem.W.mg_of X G e1, ⟨F1, F1.binds bi_choice_row, scOk_ok sc_choice_row, rfl, by decide, rfl, ok_choice_row⟩⟩
  | 59, e =>
    simp only [fn, List.mem_cons, List.not_mem_nil, or_false] at e
    subst e
    obtain ⟨g, fd, e1, _, F1⟩ := f59
    exact ⟨"parts_of", d_parts_of, N_parts_of, ps_parts_of, at_ 67, g, fd, rfl, PySem.W.mg_of X G e1, ⟨F1, F1.binds bi_parts_of, scOk_ok sc_parts_of, rfl, by decide, rfl, ok_parts_of⟩⟩
  | 60, e =>
    simp only [fn, List.mem_cons, List.not_mem_nil, or_false] at e
    subst e
    obtain ⟨g, fd, e1, _, F1⟩ := f60
    exact ⟨"next_row", d_next_row, N_next_row, ps_next_row, at_ 69, g, fd, rfl, PySem.W.mg_of X G e1, ⟨F1, F1.binds bi_next_row, scOk_ok sc_next_row, rfl, by decide, rfl, ok_next_row⟩⟩
  | 61, e =>
    simp only [fn, List.mem_cons, List.not_mem_nil, or_false] at e
    subst e
    obtain ⟨g, fd, e1, _, F1⟩ := f61
    exact ⟨"_law_draws", d__law_draws, N__law_draws, ps__law_draws, at_ 71, g, fd, rfl, PySem.W.mg_of X G e1, ⟨F1, F1.binds bi__law_draws, scOk_ok sc__law_draws, rfl, by decide, rfl, ok__law_draws⟩⟩
  | 62, e =>
    simp only [fn, List.mem_cons, List.not_mem_nil, or_false] at e
    subst e
    obtain ⟨g, fd, e1, _, F1⟩ := f62
    exact ⟨"_law_next", d__law_next, N__law_next, ps__law_next, at_ 72, g, fd, rfl, PySem.W.mg_of X G e1, ⟨F1, F1.binds bi__law_next, scOk_ok sc__law_next, rfl, by decide, rfl, ok__law_next⟩⟩
  | 63, e =>
    simp only [fn, List.mem_cons, List.not_mem_nil, or_false] at e
    subst e
    obtain ⟨g, fd, e1, _, F1⟩ := f63
    exact ⟨"_law_pick", d__law_pick, N__law_pick, ps__law_pick, at_ 73, g, fd, rfl, PySem.W.mg_of X G e1, ⟨F1, F1.binds bi__law_pick, scOk_ok sc__law_pick, rfl, by decide, rfl, ok__law_pick⟩⟩
  | 64, e =>
    simp only [fn, List.mem_cons, List.not_mem_nil, or_false] at e
    subst e
    obtain ⟨g, fd, e1, _, F1⟩ := f64
    exact ⟨"_law_same", d__law_same, N__law_same, ps__law_same, at_ 74, g, fd, rfl, PySem.W.mg_of X G e1, ⟨F1, F1.binds bi__law_same, scOk_ok sc__law_same, rfl, by decide, rfl, ok__law_same⟩⟩
  | 65, e =>
    simp only [fn, List.mem_cons, List.not_mem_nil, or_false] at e
    subst e
    obtain ⟨g, fd, e1, _, F1⟩ := f65
    exact ⟨"_law_least", d__law_least, N__law_least, ps__law_least, at_ 75, g, fd, rfl, PySem.W.mg_of X G e1, ⟨F1, F1.binds bi__law_least, scOk_ok sc__law_least, rfl, by decide, rfl, ok__law_least⟩⟩
  | 66, e =>
    simp only [fn, List.mem_cons, List.not_mem_nil, or_false] at e
    subst e
    obtain ⟨g, fd, e1, _, F1⟩ := f66
    exact ⟨"_law_sum", d__law_sum, N__law_sum, ps__law_sum, at_ 76, g, fd, rfl, PySem.W.mg_of X G e1, ⟨F1, F1.binds bi__law_sum, scOk_ok sc__law_sum, rfl, by decide, rfl, ok__law_sum⟩⟩
  | 67, e =>
    simp only [fn, List.mem_cons, List.not_mem_nil, or_false] at e
    subst e
    obtain ⟨g, fd, e1, _, F1⟩ := f67
    exact ⟨"_law_fin", d__law_fin, N__law_fin, ps__law_fin, at_ 77, g, fd, rfl, PySem.W.mg_of X G e1, ⟨F1, F1.binds bi__law_fin, scOk_ok sc__law_fin, rfl, by decide, rfl, ok__law_fin⟩⟩
  | 68, e =>
    simp only [fn, List.mem_cons, List.not_mem_nil, or_false] at e
    subst e
    obtain ⟨g, fd, e1, _, F1⟩ := f68
    exact ⟨"_law_val", d__law_val, N__law_val, ps__law_val, at_ 78, g, fd, rfl, PySem.W.mg_of X G e1, ⟨F1, F1.binds bi__law_val, scOk_ok sc__law_val, rfl, by decide, rfl, ok__law_val⟩⟩
  | 69, e =>
    simp only [fn, List.mem_cons, List.not_mem_nil, or_false] at e
    subst e
    obtain ⟨g, fd, e1, _, F1⟩ := f69
    exact ⟨"_law_less", d__law_less, N__law_less, ps__law_less, at_ 79, g, fd, rfl, PySem.W.mg_of X G e1, ⟨F1, F1.binds bi__law_less, scOk_ok sc__law_less, rfl, by decide, rfl, ok__law_less⟩⟩
  | 70, e =>
    simp only [fn, List.mem_cons, List.not_mem_nil, or_false] at e
    subst e
    obtain ⟨g, fd, e1, _, F1⟩ := f70
    exact ⟨"_law_round", d__law_round, N__law_round, ps__law_round, at_ 80, g, fd, rfl, PySem.W.mg_of X G e1, ⟨F1, F1.binds bi__law_round, scOk_ok sc__law_round, rfl, by decide, rfl, ok__law_round⟩⟩
  | 71, e =>
    simp only [fn, List.mem_cons, List.not_mem_nil, or_false] at e
    subst e
    obtain ⟨g, fd, e1, _, F1⟩ := f71
    exact ⟨"_law_mul", d__law_mul, N__law_mul, ps__law_mul, at_ 81, g, fd, rfl, PySem.W.mg_of X G e1, ⟨F1, F1.binds bi__law_mul, scOk_ok sc__law_mul, rfl, by decide, rfl, ok__law_mul⟩⟩
  | 72, e =>
    simp only [fn, List.mem_cons, List.not_mem_nil, or_false] at e
    subst e
    obtain ⟨g, fd, e1, _, F1⟩ := f72
    exact ⟨"_law_off", d__law_off, N__law_off, ps__law_off, at_ 82, g, fd, rfl, PySem.W.mg_of X G e1, ⟨F1, F1.binds bi__law_off, scOk_ok sc__law_off, rfl, by decide, rfl, ok__law_off⟩⟩
  | 73, e =>
    simp only [fn, List.mem_cons, List.not_mem_nil, or_false] at e
    subst e
    obtain ⟨g, fd, e1, _, F1⟩ := f73
    exact ⟨"_law_size", d__law_size, N__law_size, ps__law_size, at_ 83, g, fd, rfl, PySem.W.mg_of X G e1, ⟨F1, F1.binds bi__law_size, scOk_ok sc__law_size, rfl, by decide, rfl, ok__law_size⟩⟩
  | 74, e =>
    simp only [fn, List.mem_cons, List.not_mem_nil, or_false] at e
    subst e
    obtain ⟨g, fd, e1, _, F1⟩ := f74
    exact ⟨"_law_more", d__law_more, N__law_more, ps__law_more, at_ 84, g, fd, rfl, PySem.W.mg_of X G e1, ⟨F1, F1.binds bi__law_more, scOk_ok sc__law_more, rfl, by decide, rfl, ok__law_more⟩⟩
  | 75, e =>
    simp only [fn, List.mem_cons, List.not_mem_nil, or_false] at e
    subst e
    obtain ⟨g, fd, e1, _, F1⟩ := f75
    exact ⟨"_law_fewer", d__law_fewer, N__law_fewer, ps__law_fewer, at_ 85, g, fd, rfl, PySem.W.mg_of X G e1, ⟨F1, F1.binds bi__law_fewer, scOk_ok sc__law_fewer, rfl, by decide, rfl, ok__law_fewer⟩⟩
  | 76, e =>
    simp only [fn, List.mem_cons, List.not_mem_nil, or_false] at e
    subst e
    obtain ⟨g, fd, e1, _, F1⟩ := f76
    exact ⟨"_law_two", d__law_two, N__law_two, ps__law_two, at_ 86, g, fd, rfl, PySem.W.mg_of X G e1, ⟨F1, F1.binds bi__law_two, scOk_ok sc__law_two, rfl, by decide, rfl, ok__law_two⟩⟩
  | 77, e =>
    simp only [fn, List.mem_cons, List.not_mem_nil, or_false] at e
    subst e
    obtain ⟨g, fd, e1, _, F1⟩ := f77
    exact ⟨"_law_big", d__law_big, N__law_big, ps__law_big, at_ 87, g, fd, rfl, PySem.W.mg_of X G e1, ⟨F1, F1.binds bi__law_big, scOk_ok sc__law_big, rfl, by decide, rfl, ok__law_big⟩⟩
  | 78, e =>
    simp only [fn, List.mem_cons, List.not_mem_nil, or_false] at e
    subst e
    obtain ⟨g, fd, e1, _, F1⟩ := f78
    exact ⟨"_law_small", d__law_small, N__law_small, ps__law_small, at_ 88, g, fd, rfl, PySem.W.mg_of X G e1, ⟨F1, F1.binds bi__law_small, scOk_ok sc__law_small, rfl, by decide, rfl, ok__law_small⟩⟩
  | 79, e =>
    simp only [fn, List.mem_cons, List.not_mem_nil, or_false] at e
    subst e
    obtain ⟨g, fd, e1, _, F1⟩ := f79
    exact ⟨"_law_unit", d__law_unit, N__law_unit, ps__law_unit, at_ 89, g, fd, rfl, PySem.W.mg_of X G e1, ⟨F1, F1.binds bi__law_unit, scOk_ok sc__law_unit, rfl, by decide, rfl, ok__law_unit⟩⟩
  | 80, e =>
    simp only [fn, List.mem_cons, List.not_mem_nil, or_false] at e
    subst e
    obtain ⟨g, fd, e1, _, F1⟩ := f80
    exact ⟨"_law_bound", d__law_bound, N__law_bound, ps__law_bound, at_ 90, g, fd, rfl, PySem.W.mg_of X G e1, ⟨F1, F1.binds bi__law_bound, scOk_ok sc__law_bound, rfl, by decide, rfl, ok__law_bound⟩⟩
  | 81, e =>
    simp only [fn, List.mem_cons, List.not_mem_nil, or_false] at e
    subst e
    obtain ⟨g, fd, e1, _, F1⟩ := f81
    exact ⟨"_law_reached", d__law_reached, N__law_reached, ps__law_reached, at_ 91, g, fd, rfl, PySem.W.mg_of X G e1, ⟨F1, F1.binds bi__law_reached, scOk_ok sc__law_reached, rfl, by decide, rfl, ok__law_reached⟩⟩
  | 82, e =>
    simp only [fn, List.mem_cons, List.not_mem_nil, or_false] at e
    subst e
    obtain ⟨g, fd, e1, _, F1⟩ := f82
    exact ⟨"_law_corners", d__law_corners, N__law_corners, ps__law_corners, at_ 92, g, fd, rfl, PySem.W.mg_of X G e1, ⟨F1, F1.binds bi__law_corners, scOk_ok sc__law_corners, rfl, by decide, rfl, ok__law_corners⟩⟩
  | 83, e =>
    simp only [fn, List.mem_cons, List.not_mem_nil, or_false] at e
    subst e
    obtain ⟨g, fd, e1, _, F1⟩ := f83
    exact ⟨"_law_under", d__law_under, N__law_under, ps__law_under, at_ 93, g, fd, rfl, PySem.W.mg_of X G e1, ⟨F1, F1.binds bi__law_under, scOk_ok sc__law_under, rfl, by decide, rfl, ok__law_under⟩⟩
  | 84, e =>
    simp only [fn, List.mem_cons, List.not_mem_nil, or_false] at e
    subst e
    obtain ⟨g, fd, e1, _, F1⟩ := f84
    exact ⟨"_law_spanned", d__law_spanned, N__law_spanned, ps__law_spanned, at_ 94, g, fd, rfl, PySem.W.mg_of X G e1, ⟨F1, F1.binds bi__law_spanned, scOk_ok sc__law_spanned, rfl, by decide, rfl, ok__law_spanned⟩⟩
  | 85, e =>
    simp only [fn, List.mem_cons, List.not_mem_nil, or_false] at e
    subst e
    obtain ⟨g, fd, e1, _, F1⟩ := f85
    exact ⟨"_law_passed", d__law_passed, N__law_passed, ps__law_passed, at_ 95, g, fd, rfl, PySem.W.mg_of X G e1, ⟨F1, F1.binds bi__law_passed, scOk_ok sc__law_passed, rfl, by decide, rfl, ok__law_passed⟩⟩
  | 86, e =>
    simp only [fn, List.mem_cons, List.not_mem_nil, or_false] at e
    subst e
    obtain ⟨g, fd, e1, _, F1⟩ := f86
    exact ⟨"_law_raw", d__law_raw, N__law_raw, ps__law_raw, at_ 96, g, fd, rfl, PySem.W.mg_of X G e1, ⟨F1, F1.binds bi__law_raw, scOk_ok sc__law_raw, rfl, by decide, rfl, ok__law_raw⟩⟩
  | 87, e =>
    simp only [fn, List.mem_cons, List.not_mem_nil, or_false] at e
    subst e
    obtain ⟨g, fd, e1, _, F1⟩ := f87
    exact ⟨"_law_wide", d__law_wide, N__law_wide, ps__law_wide, at_ 97, g, fd, rfl, PySem.W.mg_of X G e1, ⟨F1, F1.binds bi__law_wide, scOk_ok sc__law_wide, rfl, by decide, rfl, ok__law_wide⟩⟩
  | 88, e =>
    simp only [fn, List.mem_cons, List.not_mem_nil, or_false] at e
    subst e
    obtain ⟨g, fd, e1, _, F1⟩ := f88
    exact ⟨"_law_near", d__law_near, N__law_near, ps__law_near, at_ 98, g, fd, rfl, PySem.W.mg_of X G e1, ⟨F1, F1.binds bi__law_near, scOk_ok sc__law_near, rfl, by decide, rfl, ok__law_near⟩⟩
  | 89, e =>
    simp only [fn, List.mem_cons, List.not_mem_nil, or_false] at e
    subst e
    obtain ⟨g, fd, e1, _, F1⟩ := f89
    exact ⟨"_law_kept", d__law_kept, N__law_kept, ps__law_kept, at_ 99, g, fd, rfl, PySem.W.mg_of X G e1, ⟨F1, F1.binds bi__law_kept, scOk_ok sc__law_kept, rfl, by decide, rfl, ok__law_kept⟩⟩
  | 90, e =>
    simp only [fn, List.mem_cons, List.not_mem_nil, or_false] at e
    subst e
    obtain ⟨g, fd, e1, _, F1⟩ := f90
    exact ⟨"_law_operation", d__law_operation, N__law_operation, ps__law_operation, at_ 100, g, fd, rfl, PySem.W.mg_of X G e1, ⟨F1, F1.binds bi__law_operation, scOk_ok sc__law_operation, rfl, by decide, rfl, ok__law_operation⟩⟩
  | 91, e =>
    simp only [fn, List.mem_cons, List.not_mem_nil, or_false] at e
    subst e
    obtain ⟨g, fd, e1, _, F1⟩ := f91
    exact ⟨"_law_sure", d__law_sure, N__law_sure, ps__law_sure, at_ 101, g, fd, rfl, PySem.W.mg_of X G e1, ⟨F1, F1.binds bi__law_sure, scOk_ok sc__law_sure, rfl, by decide, rfl, ok__law_sure⟩⟩
  | 92, e =>
    simp only [fn, List.mem_cons, List.not_mem_nil, or_false] at e
    subst e
    obtain ⟨g, fd, e1, _, F1⟩ := f92
    exact ⟨"_law_turns", d__law_turns, N__law_turns, ps__law_turns, at_ 102, g, fd, rfl, PySem.W.mg_of X G e1, ⟨F1, F1.binds bi__law_turns, scOk_ok sc__law_turns, rfl, by decide, rfl, ok__law_turns⟩⟩
  | 93, e =>
    simp only [fn, List.mem_cons, List.not_mem_nil, or_false] at e
    subst e
    obtain ⟨g, fd, e1, _, F1⟩ := f93
    exact ⟨"_law_choice", d__law_choice, N__law_choice, ps__law_choice, at_ 103, g, fd, rfl, PySem.W.mg_of X G e1, ⟨F1, F1.binds bi__law_choice, scOk_ok sc__law_choice, rfl, by decide, rfl, ok__law_choice⟩⟩
  | 94, e =>
    simp only [fn, List.mem_cons, List.not_mem_nil, or_false] at e
    subst e
    obtain ⟨g, fd, e1, _, F1⟩ := f94
    exact ⟨"_law_grid", d__law_grid, N__law_grid, ps__law_grid, at_ 104, g, fd, rfl, PySem.W.mg_of X G e1, ⟨F1, F1.binds bi__law_grid, scOk_ok sc__law_grid, rfl, by decide, rfl, ok__law_grid⟩⟩
  | 95, e =>
    simp only [fn, List.mem_cons, List.not_mem_nil, or_false] at e
    subst e
    obtain ⟨g, fd, e1, _, F1⟩ := f95
    exact ⟨"_law_constant", d__law_constant, N__law_constant, ps__law_constant, at_ 105, g, fd, rfl, PySem.W.mg_of X G e1, ⟨F1, F1.binds bi__law_constant, scOk_ok sc__law_constant, rfl, by decide, rfl, ok__law_constant⟩⟩
  | 96, e =>
    simp only [fn, List.mem_cons, List.not_mem_nil, or_false] at e
    subst e
    obtain ⟨g, fd, e1, _, F1⟩ := f96
    exact ⟨"_law_weaker", d__law_weaker, N__law_weaker, ps__law_weaker, at_ 106, g, fd, rfl, PySem.W.mg_of X G e1, ⟨F1, F1.binds bi__law_weaker, scOk_ok sc__law_weaker, rfl, by decide, rfl, ok__law_weaker⟩⟩
  | 97, e =>
    simp only [fn, List.mem_cons, List.not_mem_nil, or_false] at e
    subst e
    obtain ⟨g, fd, e1, _, F1⟩ := f97
    exact ⟨"_law_own_row", d__law_own_row, N__law_own_row, ps__law_own_row, at_ 107, g, fd, rfl, PySem.W.mg_of X G e1, ⟨F1, F1.binds bi__law_own_row, scOk_ok sc__law_own_row, rfl, by decide, rfl, ok__law_own_row⟩⟩
  | 98, e =>
    simp only [fn, List.mem_cons, List.not_mem_nil, or_false] at e
    subst e
    obtain ⟨g, fd, e1, _, F1⟩ := f98
    exact ⟨"_law_kind_right", d__law_kind_right, N__law_kind_right, ps__law_kind_right, at_ 108, g, fd, rfl, PySem.W.mg_of X G e1, ⟨F1, F1.binds bi__law_kind_right, scOk_ok sc__law_kind_right, rfl, by decide, rfl, ok__law_kind_right⟩⟩
  | 99, e =>
    simp only [fn, List.mem_cons, List.not_mem_nil, or_false] at e
    subst e
    obtain ⟨g, fd, e1, _, F1⟩ := f99
    exact ⟨"_law_choices_right", d__law_choices_right, N__law_choices_right, ps__law_choices_right, at_ 109, g, fd, rfl, PySem.W.mg_of X G e1, ⟨F1, F1.binds bi__law_choices_right, scOk_ok sc__law_choices_right, rfl, by decide, rfl, ok__law_choices_right⟩⟩
  | 100, e =>
    simp only [fn, List.mem_cons, List.not_mem_nil, or_false] at e
    subst e
    obtain ⟨g, fd, e1, _, F1⟩ := f100
    exact ⟨"_law_first_right", d__law_first_right, N__law_first_right, ps__law_first_right, at_ 110, g, fd, rfl, PySem.W.mg_of X G e1, ⟨F1, F1.binds bi__law_first_right, scOk_ok sc__law_first_right, rfl, by decide, rfl, ok__law_first_right⟩⟩
end Pv.K33
open PySem PySem.W PyProof.Rows
set_option maxHeartbeats 0 in
theorem PySem.Challenge.cw_roundedwithin_k33_whole_rows_by_own_hand_holds : PySem.Challenge.rw_roundedwithin_k33_whole_rows_by_own_hand.Holds := by
  w_on; o_law; k_head; (case hw => w_witness2)
  k_fill
  refine L2.walk_ofK (l := PySem.Challenge.rw_roundedwithin_k33_whole_rows_by_own_hand) (n := 63) (k := 14) (x := "script") (CX := L2.CX0) (sp := fun K => Pv.spL K Pv.K33.P 13 Pv.K33.d_law) rfl (by decide) rfl ⟨rfl, by decide, by decide⟩ (fun w h Y => PySem.W.kIn_of Y) ?F (fun _ _ a ns hl _ hS => ⟨a, ns, rfl, hS, Pv.K33.law_true ns hl, fun _ => rfl⟩) (fun _ _ _ _ h => h)
  case F =>
    intro w mg fa h KX G hmg
    refine' Pv.K33.all_mk KX G hmg ?f0 ?f1 ?f2 ?f3 ?f4 ?f5 ?f6 ?f7 ?f8 ?f9 ?f10 ?f11 ?f12 ?f13 ?f14 ?f15 ?f16 ?f17 ?f18 ?f19 ?f20 ?f21 ?f22 ?f23 ?f24 ?f25 ?f26 ?f27 ?f28 ?f29 ?f30 ?f31 ?f32 ?f33 ?f34 ?f35 ?f36 ?f37 ?f38 ?f39 ?f40 ?f41 ?f42 ?f43 ?f44 ?f45 ?f46 ?f47 ?f48 ?f49 ?f50 ?f51 ?f52 ?f53 ?f54 ?f55 ?f56 ?f57 ?f58 ?f59 ?f60 ?f61 ?f62 ?f63 ?f64 ?f65 ?f66 ?f67 ?f68 ?f69 ?f70 ?f71 ?f72 ?f73 ?f74 ?f75 ?f76 ?f77 ?f78 ?f79 ?f80 ?f81 ?f82 ?f83 ?f84 ?f85 ?f86 ?f87 ?f88 ?f89 ?f90 ?f91 ?f92 ?f93 ?f94 ?f95 ?f96 ?f97 ?f98 ?f99 ?f100 ?f101 ?hblt ?hcon
    (case f0 => refine' Pv.fct_mk ?a ?l ?c ?k; (case a => k_is); (case l => k_is); (case c => k_is); (case k => k_is))
    (case f1 => refine' Pv.fct_mk ?a ?l ?c ?k; (case a => k_is); (case l => k_is); (case c => k_is); (case k => k_is))
    (case f2 => refine' Pv.fct_mk ?a ?l ?c ?k; (case a => k_is); (case l => k_is); (case c => k_is); (case k => k_is))
    (case f3 => refine' Pv.fct_mk ?a ?l ?c ?k; (case a => k_is); (case l => k_is); (case c => k_is); (case k => k_is))
    (case f4 => refine' Pv.fct_mk ?a ?l ?c ?k; (case a => k_is); (case l => k_is); (case c => k_is); (case k => k_is))
    (case f5 => refine' Pv.fct_mk ?a ?l ?c ?k; (case a => k_is); (case l => k_is); (case c => k_is); (case k => k_is))
    (case f6 => refine' Pv.fct_mk ?a ?l ?c ?k; (case a => k_is); (case l => k_is); (case c => k_is); (case k => k_is))
    (case f7 => refine' Pv.fct_mk ?a ?l ?c ?k; (case a => k_is); (case l => k_is); (case c => k_is); (case k => k_is))
    (case f8 => refine' Pv.fct_mk ?a ?l ?c ?k; (case a => k_is); (case l => k_is); (case c => k_is); (case k => k_is))
    (case f9 => refine' Pv.fct_mk ?a ?l ?c ?k; (case a => k_is); (case l => k_is); (case c => k_is); (case k => k_is))
    (case f10 => refine' Pv.fct_mk ?a ?l ?c ?k; (case a => k_is); (case l => k_is); (case c => k_is); (case k => k_is))
    (case f11 => refine' Pv.fct_mk ?a ?l ?c ?k; (case a => k_is); (case l => k_is); (case c => k_is); (case k => k_is))
    (case f12 => refine' Pv.fct_mk ?a ?l ?c ?k; (case a => k_is); (case l => k_is); (case c => k_is); (case k => k_is))
    (case f13 => refine' Pv.fct_mk ?a ?l ?c ?k; (case a => k_is); (case l => k_is); (case c => k_is); (case k => k_is))
    (case f14 => refine' Pv.fct_mk ?a ?l ?c ?k; (case a => k_is); (case l => k_is); (case c => k_is); (case k => k_is))
    (case f15 => refine' Pv.fct_mk ?a ?l ?c ?k; (case a => k_is); (case l => k_is); (case c => k_is); (case k => k_is))
    (case f16 => refine' Pv.fct_mk ?a ?l ?c ?k; (case a => k_is); (case l => k_is); (case c => k_is); (case k => k_is))
    (case f17 => refine' Pv.fct_mk ?a ?l ?c ?k; (case a => k_is); (case l => k_is); (case c => k_is); (case k => k_is))
    (case f18 => refine' Pv.fct_mk ?a ?l ?c ?k; (case a => k_is); (case l => k_is); (case c => k_is); (case k => k_is))
    (case f19 => refine' Pv.fct_mk ?a ?l ?c ?k; (case a => k_is); (case l => k_is); (case c => k_is); (case k => k_is))
    (case f20 => refine' Pv.fct_mk ?a ?l ?c ?k; (case a => k_is); (case l => k_is); (case c => k_is); (case k => k_is))
    (case f21 => refine' Pv.fct_mk ?a ?l ?c ?k; (case a => k_is); (case l => k_is); (case c => k_is); (case k => k_is))
    (case f22 => refine' Pv.fct_mk ?a ?l ?c ?k; (case a => k_is); (case l => k_is); (case c => k_is); (case k => k_is))
    (case f23 => refine' Pv.fct_mk ?a ?l ?c ?k; (case a => k_is); (case l => k_is); (case c => k_is); (case k => k_is))
    (case f24 => refine' Pv.fct_mk ?a ?l ?c ?k; (case a => k_is); (case l => k_is); (case c => k_is); (case k => k_is))
    (case f25 => refine' Pv.fct_mk ?a ?l ?c ?k; (case a => k_is); (case l => k_is); (case c => k_is); (case k => k_is))
    (case f26 => refine' Pv.fct_mk ?a ?l ?c ?k; (case a => k_is); (case l => k_is); (case c => k_is); (case k => k_is))
    (case f27 => refine' Pv.fct_mk ?a ?l ?c ?k; (case a => k_is); (case l => k_is); (case c => k_is); (case k => k_is))
    (case f28 => refine' Pv.fct_mk ?a ?l ?c ?k; (case a => k_is); (case l => k_is); (case c => k_is); (case k => k_is))
    (case f29 => refine' Pv.fct_mk ?a ?l ?c ?k; (case a => k_is); (case l => k_is); (case c => k_is); (case k => k_is))
    (case f30 => refine' Pv.fct_mk ?a ?l ?c ?k; (case a => k_is); (case l => k_is); (case c => k_is); (case k => k_is))
    (case f31 => refine' Pv.fct_mk ?a ?l ?c ?k; (case a => k_is); (case l => k_is); (case c => k_is); (case k => k_is))
    (case f32 => refine' Pv.fct_mk ?a ?l ?c ?k; (case a => k_is); (case l => k_is); (case c => k_is); (case k => k_is))
    (case f33 => refine' Pv.fct_mk ?a ?l ?c ?k; (case a => k_is); (case l => k_is); (case c => k_is); (case k => k_is))
    (case f34 => refine' Pv.fct_mk ?a ?l ?c ?k; (case a => k_is); (case l => k_is); (case c => k_is); (case k => k_is))
    (case f35 => refine' Pv.fct_mk ?a ?l ?c ?k; (case a => k_is); (case l => k_is); (case c => k_is); (case k => k_is))
    (case f36 => refine' Pv.fct_mk ?a ?l ?c ?k; (case a => k_is); (case l => k_is); (case c => k_is); (case k => k_is))
    (case f37 => refine' Pv.fct_mk ?a ?l ?c ?k; (case a => k_is); (case l => k_is); (case c => k_is); (case k => k_is))
    (case f38 => refine' Pv.fct_mk ?a ?l ?c ?k; (case a => k_is); (case l => k_is); (case c => k_is); (case k => k_is))
    (case f39 => refine' Pv.fct_mk ?a ?l ?c ?k; (case a => k_is); (case l => k_is); (case c => k_is); (case k => k_is))
    (case f40 => refine' Pv.fct_mk ?a ?l ?c ?k; (case a => k_is); (case l => k_is); (case c => k_is); (case k => k_is))
    (case f41 => refine' Pv.fct_mk ?a ?l ?c ?k; (case a => k_is); (case l => k_is); (case c => k_is); (case k => k_is))
    (case f42 => refine' Pv.fct_mk ?a ?l ?c ?k; (case a => k_is); (case l => k_is); (case c => k_is); (case k => k_is))
    (case f43 => refine' Pv.fct_mk ?a ?l ?c ?k; (case a => k_is); (case l => k_is); (case c => k_is); (case k => k_is))
    (case f44 => refine' Pv.fct_mk ?a ?l ?c ?k; (case a => k_is); (case l => k_is); (case c => k_is); (case k => k_is))
    (case f45 => refine' Pv.fct_mk ?a ?l ?c ?k; (case a => k_is); (case l => k_is); (case c => k_is); (case k => k_is))
    (case f46 => refine' Pv.fct_mk ?a ?l ?c ?k; (case a => k_is); (case l => k_is); (case c => k_is); (case k => k_is))
    (case f47 => refine' Pv.fct_mk ?a ?l ?c ?k; (case a => k_is); (case l => k_is); (case c => k_is); (case k => k_is))
    (case f48 => refine' Pv.fct_mk ?a ?l ?c ?k; (case a => k_is); (case l => k_is); (case c => k_is); (case k => k_is))
    (case f49 => refine' Pv.fct_mk ?a ?l ?c ?k; (case a => k_is); (case l => k_is); (case c => k_is); (case k => k_is))
    (case f50 => refine' Pv.fct_mk ?a ?l ?c ?k; (case a => k_is); (case l => k_is); (case c => k_is); (case k => k_is))
    (case f51 => refine' Pv.fct_mk ?a ?l ?c ?k; (case a => k_is); (case l => k_is); (case c => k_is); (case k => k_is))
    (case f52 => refine' Pv.fct_mk ?a ?l ?c ?k; (case a => k_is); (case l => k_is); (case c => k_is); (case k => k_is))
    (case f53 => refine' Pv.fct_mk ?a ?l ?c ?k; (case a => k_is); (case l => k_is); (case c => k_is); (case k => k_is))
    (case f54 => refine' Pv.fct_mk ?a ?l ?c ?k; (case a => k_is); (case l => k_is); (case c => k_is); (case k => k_is))
    (case f55 => refine' Pv.fct_mk ?a ?l ?c ?k; (case a => k_is); (case l => k_is); (case c => k_is); (case k => k_is))
    (case f56 => refine' Pv.fct_mk ?a ?l ?c ?k; (case a => k_is); (case l => k_is); (case c => k_is); (case k => k_is))
    (case f57 => refine' Pv.fct_mk ?a ?l ?c ?k; (case a => k_is); (case l => k_is); (case c => k_is); (case k => k_is))
    (case f58 => refine' Pv.fct_mk ?a ?l ?c ?k; (case a => k_is); (case l => k_is); (case c => k_is); (case k => k_is))
    (case f59 => refine' Pv.fct_mk ?a ?l ?c ?k; (case a => k_is); (case l => k_is); (case c => k_is); (case k => k_is))
    (case f60 => refine' Pv.fct_mk ?a ?l ?c ?k; (case a => k_is); (case l => k_is); (case c => k_is); (case k => k_is))
    (case f61 => refine' Pv.fct_mk ?a ?l ?c ?k; (case a => k_is); (case l => k_is); (case c => k_is); (case k => k_is))
    (case f62 => refine' Pv.fct_mk ?a ?l ?c ?k; (case a => k_is); (case l => k_is); (case c => k_is); (case k => k_is))
    (case f63 => refine' Pv.fct_mk ?a ?l ?c ?k; (case a => k_is); (case l => k_is); (case c => k_is); (case k => k_is))
    (case f64 => refine' Pv.fct_mk ?a ?l ?c ?k; (case a => k_is); (case l => k_is); (case c => k_is); (case k => k_is))
    (case f65 => refine' Pv.fct_mk ?a ?l ?c ?k; (case a => k_is); (case l => k_is); (case c => k_is); (case k => k_is))
    (case f66 => refine' Pv.fct_mk ?a ?l ?c ?k; (case a => k_is); (case l => k_is); (case c => k_is); (case k => k_is))
    (case f67 => refine' Pv.fct_mk ?a ?l ?c ?k; (case a => k_is); (case l => k_is); (case c => k_is); (case k => k_is))
    (case f68 => refine' Pv.fct_mk ?a ?l ?c ?k; (case a => k_is); (case l => k_is); (case c => k_is); (case k => k_is))
    (case f69 => refine' Pv.fct_mk ?a ?l ?c ?k; (case a => k_is); (case l => k_is); (case c => k_is); (case k => k_is))
    (case f70 => refine' Pv.fct_mk ?a ?l ?c ?k; (case a => k_is); (case l => k_is); (case c => k_is); (case k => k_is))
    (case f71 => refine' Pv.fct_mk ?a ?l ?c ?k; (case a => k_is); (case l => k_is); (case c => k_is); (case k => k_is))
    (case f72 => refine' Pv.fct_mk ?a ?l ?c ?k; (case a => k_is); (case l => k_is); (case c => k_is); (case k => k_is))
    (case f73 => refine' Pv.fct_mk ?a ?l ?c ?k; (case a => k_is); (case l => k_is); (case c => k_is); (case k => k_is))
    (case f74 => refine' Pv.fct_mk ?a ?l ?c ?k; (case a => k_is); (case l => k_is); (case c => k_is); (case k => k_is))
    (case f75 => refine' Pv.fct_mk ?a ?l ?c ?k; (case a => k_is); (case l => k_is); (case c => k_is); (case k => k_is))
    (case f76 => refine' Pv.fct_mk ?a ?l ?c ?k; (case a => k_is); (case l => k_is); (case c => k_is); (case k => k_is))
    (case f77 => refine' Pv.fct_mk ?a ?l ?c ?k; (case a => k_is); (case l => k_is); (case c => k_is); (case k => k_is))
    (case f78 => refine' Pv.fct_mk ?a ?l ?c ?k; (case a => k_is); (case l => k_is); (case c => k_is); (case k => k_is))
    (case f79 => refine' Pv.fct_mk ?a ?l ?c ?k; (case a => k_is); (case l => k_is); (case c => k_is); (case k => k_is))
    (case f80 => refine' Pv.fct_mk ?a ?l ?c ?k; (case a => k_is); (case l => k_is); (case c => k_is); (case k => k_is))
    (case f81 => refine' Pv.fct_mk ?a ?l ?c ?k; (case a => k_is); (case l => k_is); (case c => k_is); (case k => k_is))
    (case f82 => refine' Pv.fct_mk ?a ?l ?c ?k; (case a => k_is); (case l => k_is); (case c => k_is); (case k => k_is))
    (case f83 => refine' Pv.fct_mk ?a ?l ?c ?k; (case a => k_is); (case l => k_is); (case c => k_is); (case k => k_is))
    (case f84 => refine' Pv.fct_mk ?a ?l ?c ?k; (case a => k_is); (case l => k_is); (case c => k_is); (case k => k_is))
    (case f85 => refine' Pv.fct_mk ?a ?l ?c ?k; (case a => k_is); (case l => k_is); (case c => k_is); (case k => k_is))
    (case f86 => refine' Pv.fct_mk ?a ?l ?c ?k; (case a => k_is); (case l => k_is); (case c => k_is); (case k => k_is))
    (case f87 => refine' Pv.fct_mk ?a ?l ?c ?k; (case a => k_is); (case l => k_is); (case c => k_is); (case k => k_is))
    (case f88 => refine' Pv.fct_mk ?a ?l ?c ?k; (case a => k_is); (case l => k_is); (case c => k_is); (case k => k_is))
    (case f89 => refine' Pv.fct_mk ?a ?l ?c ?k; (case a => k_is); (case l => k_is); (case c => k_is); (case k => k_is))
    (case f90 => refine' Pv.fct_mk ?a ?l ?c ?k; (case a => k_is); (case l => k_is); (case c => k_is); (case k => k_is))
    (case f91 => refine' Pv.fct_mk ?a ?l ?c ?k; (case a => k_is); (case l => k_is); (case c => k_is); (case k => k_is))
    (case f92 => refine' Pv.fct_mk ?a ?l ?c ?k; (case a => k_is); (case l => k_is); (case c => k_is); (case k => k_is))
    (case f93 => refine' Pv.fct_mk ?a ?l ?c ?k; (case a => k_is); (case l => k_is); (case c => k_is); (case k => k_is))
    (case f94 => refine' Pv.fct_mk ?a ?l ?c ?k; (case a => k_is); (case l => k_is); (case c => k_is); (case k => k_is))
    (case f95 => refine' Pv.fct_mk ?a ?l ?c ?k; (case a => k_is); (case l => k_is); (case c => k_is); (case k => k_is))
    (case f96 => refine' Pv.fct_mk ?a ?l ?c ?k; (case a => k_is); (case l => k_is); (case c => k_is); (case k => k_is))
    (case f97 => refine' Pv.fct_mk ?a ?l ?c ?k; (case a => k_is); (case l => k_is); (case c => k_is); (case k => k_is))
    (case f98 => refine' Pv.fct_mk ?a ?l ?c ?k; (case a => k_is); (case l => k_is); (case c => k_is); (case k => k_is))
    (case f99 => refine' Pv.fct_mk ?a ?l ?c ?k; (case a => k_is); (case l => k_is); (case c => k_is); (case k => k_is))
    (case f100 => refine' Pv.fct_mk ?a ?l ?c ?k; (case a => k_is); (case l => k_is); (case c => k_is); (case k => k_is))
    (case f101 => refine' Pv.fct_mk ?a ?l ?c ?k; (case a => k_is); (case l => k_is); (case c => k_is); (case k => k_is))
    case hblt => exact Pv.blt_mk (by k_is) (by k_is) (by k_is) (by k_is) (by k_is) (by k_is) (by k_is) (by k_is) (by k_is) (by k_is) (by k_is) (by k_is) (by k_is) (by k_is) (by k_is) (by k_is) (by k_is)
    case hcon =>
      intro k y d e
      match k, e with
      | 0, e =>
        cases e
        refine' ⟨_, _, ?a, Pv.con2_r ?l⟩
        (case a => k_is)
        (case l => k_is)
