import PyProof.Rows.All
import Wide.All
import OpenK.AllK
import Wide.FinOn
import HandS.ForMost
import HandS.More
import HandS.Wide
import HandS.Style
import HandS.IsInst
import HandS.TupAny
import HandS.WordsDict
import HandS.Deep
import HandS.Strs
import HandS.NoneIn
import KE.KDictPairs
import HandS.Conv
import HandS.SetFor
import KE.KStateDown
import HandS.Head0
import HandS.Head1
import HandS.Head2
import HandS.HeadEnd
import HandS.HeadHook1
import HandS.HeadHook2
import PySem.Challenge.RW_roundedwithin_k44_whole_parts_of_sums_in
set_option Elab.async false
set_option linter.all false
set_option maxRecDepth 100000
set_option Elab.async false
set_option linter.all false
/-! Pv0: values D, words Ex/Tx/St, and what they do (ev, exec, callO). -/
namespace Pv

inductive D where
  | non
  | bl (b : Bool)
  | int (i : Int)
  | str (n : Nat)
  | tup (xs : List D)
  | lst (xs : List D)
  | dic (ks vs : List D)
  | scr (ns : List Int)
  | wd
  deriving Inhabited

mutual
def deq : D → D → Bool
  | .non, .non => true
  | .bl a, .bl b => a == b
  | .bl a, .int j => (if a then 1 else 0) == j
  | .int i, .bl b => i == (if b then 1 else 0)
  | .int i, .int j => decide (i = j)
  | .str x, .str y => decide (x = y)
  | .lst xs, .lst ys => deqs xs ys
  | .tup xs, .tup ys => deqs xs ys
  | _, _ => false
def deqs : List D → List D → Bool
  | [], [] => true
  | x :: xs, y :: ys => deq x y && deqs xs ys
  | _, _ => false
end
mutual
/-- may be compared: no dict, of a depth of at most n -/
def okq : D → Nat → Bool
  | .non, _ => true
  | .bl _, _ => true
  | .int _, _ => true
  | .str k, _ => decide (k < 512)
  | .tup xs, n => match n with | 0 => false | n + 1 => okqs xs n
  | .lst xs, n => match n with | 0 => false | n + 1 => okqs xs n
  | _, _ => false
def okqs : List D → Nat → Bool
  | [], _ => true
  | x :: xs, n => okq x n && okqs xs n
end

inductive Slot where
  | un
  | va (d : D)
  | ow (d : D)
  deriving Inhabited
abbrev Env := List Slot
def eg : Env → Nat → Slot
  | [], _ => .un
  | s :: _, 0 => s
  | _ :: r, n + 1 => eg r n
def es : Env → Nat → Slot → Env
  | [], _, _ => []
  | _ :: r, 0, s => s :: r
  | x :: r, n + 1, s => x :: es r n s
/-- all that is one's own is one's own no longer -/
def frzS : Slot → Slot
  | .ow d => .va d
  | s => s
def frzA (env : Env) : Env := env.map frzS

abbrev WS := Option (List (Nat × D))
def wg : List (Nat × D) → Nat → Option D
  | [], _ => none
  | (k, d) :: r, n => if k = n then some d else wg r n
def wp : List (Nat × D) → Nat → D → List (Nat × D)
  | [], _, _ => []
  | (k, d) :: r, n, e => (k, if k = n then e else d) :: wp r n e

inductive Bop where | add | sub | mul | fdiv | mod | shl | shr | pow
  deriving DecidableEq
inductive Cop where | eq | ne | lt | le | gt | ge | isN | notN | isB | notB | isin | notin
  deriving DecidableEq
inductive Ty where | int | bool | tuple | list | dict | str
  deriving DecidableEq
inductive B1 where | len | abs | int | lstOf | tupOf | dictOf | sorted | sortedSet | all | any | maxL | minL | sumL
  deriving DecidableEq
inductive B2 where | max | min
  deriving DecidableEq
inductive Tg where
  | nm (i : Nat)
  | tp (is : List Nat)
  | tq (ts : List (List Nat))

mutual
inductive Ex where
  | bad
  | non
  | tt (b : Bool)
  | num (i : Int)
  | txt (n : Nat)
  | var (i : Nat)
  | con (k : Nat) (d : D)
  | bin (o : Bop) (a b : Ex)
  | neg (a : Ex)
  | cmp (o : Cop) (a b : Ex)
  | chain (o p : Cop) (a b c : Ex)
  | andv (a b : Ex)
  | orv (a b : Ex)
  | one (a : Ex)
  | notv (a : Ex)
  | ite (c : Tx) (a b : Ex)
  | tup (es : Exs)
  | lst (es : Exs)
  | dic (ks vs : Exs)
  | ix (a b : Ex)
  | sl (a lo hi : Ex)
  | call (f : Nat) (args : Exs)
  | b1 (f : B1) (a : Ex)
  | b2 (f : B2) (a b : Ex)
  | isi (t : Ty) (a : Ex)
  | get2 (d k e : Ex)
  | rng (a : Ex)
  | rng2 (a b : Ex)
  | comp (tg : Tg) (it elt : Ex)
  | compIf (tg : Tg) (it : Ex) (c : Tx) (elt : Ex)
  | comp2 (tg : Tg) (it : Ex) (tg2 : Tg) (it2 : Ex) (elt : Ex)
  | comp2If (tg : Tg) (it : Ex) (tg2 : Tg) (it2 : Ex) (c : Tx) (elt : Ex)
  | tupR (a : Ex)
inductive Exs where
  | nil
  | cons (e : Ex) (es : Exs)
inductive Tx where
  | val (e : Ex)
  | cmp (o : Cop) (a b : Ex)
  | chain (o p : Cop) (a b c : Ex)
  | not (a : Tx)
  | and2 (a b : Tx)
  | or2 (a b : Tx)
  | one (a : Tx)
  | ite (c a b : Tx)
end

mutual
inductive St where
  | bad
  | pass
  | set (tg : Tg) (e : Ex)
  | own (i : Nat) (e : Ex)
  | par (is : List (Nat × Bool)) (es : Exs)
  | aug (i : Nat) (o : Bop) (e : Ex)
  | dput (i : Nat) (k e : Ex)
  | waug (i : Nat) (k : Nat) (o : Bop) (e : Ex)
  | mkw (i k l : Nat) (a b : Ex)
  | app (i : Nat) (e : Ex)
  | ext (i : Nat) (e : Ex)
  | pop (tg : Tg) (i : Nat)
  | drop (e : Ex)
  | ite (c : Tx) (a b : Sts)
  | whl (c : Tx) (b : Sts)
  | for_ (tg : Tg) (it : Ex) (b : Sts)
  | ret (e : Ex)
  | retN
  | brk
  | cont
  | frz (i : Nat)
inductive Sts where
  | nil
  | cons (s : St) (r : Sts)
end

/-! ### operations by values -/
@[irreducible] def big : Nat := 2 ^ 8900

def okI (i : Int) : Bool := decide (i.natAbs < big)
def okLen (n : Nat) : Bool := decide (n ≤ 100000)

def bop : Bop → D → D → Option D
  | .add, .int i, .int j => some (.int (i + j))
  | .add, .tup xs, .tup ys => if okLen (xs.length + ys.length) then some (.tup (xs ++ ys)) else none
  | .add, .lst xs, .lst ys => if okLen (xs.length + ys.length) then some (.lst (xs ++ ys)) else none
  | .sub, .int i, .int j => some (.int (i - j))
  | .mul, .int i, .int j => if okI i && okI j then some (.int (i * j)) else none
  | .fdiv, .int i, .int j => if decide (0 < j) && okI j then some (.int (i / j)) else if decide (j < 0) && okI j then some (.int (i.fdiv j)) else none
  | .mod, .int i, .int j => if decide (0 < j) then some (.int (i % j)) else none
  | .shl, .int i, .int j => if decide (0 ≤ j) && decide (j ≤ 100000) && decide (i.natAbs < 18446744073709551616) then some (.int (i * 2 ^ j.toNat)) else none
  | .shr, .int i, .int j => if decide (0 ≤ j) then some (.int (i / 2 ^ j.toNat)) else none
  | .pow, .int i, .int j => if decide (0 ≤ j) && decide (j ≤ 1000) && decide (i.natAbs < 18446744073709551616) then some (.int (i ^ j.toNat)) else none
  | _, _, _ => none

def isFlat : D → Bool
  | .non => true
  | .bl _ => true
  | .int _ => true
  | .str k => decide (k < 512)
  | _ => false
def isK : D → Bool
  | .int _ => true
  | .str k => decide (k < 512)
  | _ => false
def keq : D → D → Bool
  | .int i, .int j => decide (i = j)
  | .str i, .str j => decide (i = j)
  | _, _ => false
def dget : List D → List D → D → Option D
  | k :: ks, v :: vs, x => if keq k x then some v else dget ks vs x
  | _, _, _ => none
def has (ks : List D) (x : D) : Bool := ks.any fun k => keq k x
def repl : List D → List D → D → D → List D
  | k :: ks, v :: vs, x, y => (if keq k x then y else v) :: repl ks vs x y
  | _, vs, _, _ => vs
def dputV (ks vs : List D) (x y : D) : List D := if has ks x then repl ks vs x y else vs ++ [y]
def dputK (ks : List D) (x : D) : List D := if has ks x then ks else ks ++ [x]

def cop : Cop → D → D → Option Bool
  | .eq, x, y => if okq x 64 && okq y 64 then some (deq x y) else none
  | .ne, x, y => if okq x 64 && okq y 64 then some (!deq x y) else none
  | .lt, .int i, .int j => some (decide (i < j))
  | .le, .int i, .int j => some (decide (i ≤ j))
  | .gt, .int i, .int j => some (decide (j < i))
  | .ge, .int i, .int j => some (decide (j ≤ i))
  | .isB, .bl a, .bl b => some (decide (a = b))
  | .notB, .bl a, .bl b => some (!decide (a = b))
  | .isin, x, .lst ys => if isFlat x && ys.all isFlat then some (ys.any fun y => deq y x) else if okq x 64 && okqs ys 63 then some (ys.any fun y => deq y x) else none
  | .isin, x, .tup ys => if isFlat x && ys.all isFlat then some (ys.any fun y => deq y x) else if okq x 64 && okqs ys 63 then some (ys.any fun y => deq y x) else none
  | .isin, x, .dic ks _ => if isK x then some (has ks x) else none
  | .notin, x, .lst ys => if isFlat x && ys.all isFlat then some (!ys.any fun y => deq y x) else if okq x 64 && okqs ys 63 then some (!ys.any fun y => deq y x) else none
  | .notin, x, .tup ys => if isFlat x && ys.all isFlat then some (!ys.any fun y => deq y x) else if okq x 64 && okqs ys 63 then some (!ys.any fun y => deq y x) else none
  | .notin, x, .dic ks _ => if isK x then some (!has ks x) else none
  | _, _, _ => none
def isNone : D → Bool
  | .non => true
  | _ => false

def truth : D → Option Bool
  | .non => some false
  | .bl b => some b
  | .int i => some (i != 0)
  | _ => none

def atD (xs : List D) (i : Int) : Option D := L2.atI xs i
def ixD : D → D → Option D
  | .tup xs, .int i => atD xs i
  | .lst xs, .int i => atD xs i
  | .scr ns, .int i => (L2.atI ns i).map .int
  | .dic ks vs, k => if isK k then dget ks vs k else none
  | _, _ => none
def cutD (xs : List D) (lo hi : Option Int) : List D :=
  (xs.drop (HT.sIx xs.length 0 lo)).take (HT.sIx xs.length xs.length hi - HT.sIx xs.length 0 lo)
def bnd : Bool → D → Option (Option Int)
  | true, _ => some none
  | false, .int i => some (some i)
  | false, _ => none
def slD : D → Option Int → Option Int → Option D
  | .tup xs, lo, hi => some (.tup (cutD xs lo hi))
  | .lst xs, lo, hi => some (.lst (cutD xs lo hi))
  | _, _, _ => none

def intsOf : List D → Option (List Int)
  | [] => some []
  | .int i :: r => match intsOf r with
    | some is => some (i :: is)
    | none => none
  | _ :: _ => none
def blsOf : List D → Option (List Bool)
  | [] => some []
  | .bl i :: r => match blsOf r with
    | some is => some (i :: is)
    | none => none
  | _ :: _ => none
def ins (x : Int) : List Int → List Int
  | [] => [x]
  | y :: ys => if x ≤ y then x :: y :: ys else y :: ins x ys
def isort : List Int → List Int
  | [] => []
  | x :: xs => ins x (isort xs)
def insU (x : Int) : List Int → List Int
  | [] => [x]
  | y :: ys => if x < y then x :: y :: ys else if x = y then y :: ys else y :: insU x ys
def usort : List Int → List Int
  | [] => []
  | x :: xs => insU x (usort xs)
def maxI : Int → List Int → Int
  | m, [] => m
  | m, x :: xs => maxI (if m < x then x else m) xs
def minI : Int → List Int → Int
  | m, [] => m
  | m, x :: xs => minI (if x < m then x else m) xs
/-- dict(rows of (key, value)) -/
def dfold : List D → List D → List D → Option (List D × List D)
  | [], ks, vs => some (ks, vs)
  | .tup [k, v] :: r, ks, vs => if isK k then dfold r (dputK ks k) (dputV ks vs k v) else none
  | _ :: _, _, _ => none

def bf1 : B1 → D → Option D
  | .len, .tup xs => some (.int xs.length)
  | .len, .lst xs => some (.int xs.length)
  | .len, .scr xs => some (.int xs.length)
  | .len, .dic ks _ => some (.int ks.length)
  | .abs, .int i => some (.int (if i < 0 then -i else i))
  | .int, .int i => some (.int i)
  | .int, .bl b => some (.int (if b then 1 else 0))
  | .lstOf, .tup xs => some (.lst xs)
  | .lstOf, .lst xs => some (.lst xs)
  | .lstOf, .dic ks _ => some (.lst ks)
  | .tupOf, .tup xs => some (.tup xs)
  | .tupOf, .lst xs => some (.tup xs)
  | .dictOf, .tup xs => match dfold xs [] [] with
    | some (ks, vs) => some (.dic ks vs)
    | none => none
  | .dictOf, .lst xs => match dfold xs [] [] with
    | some (ks, vs) => some (.dic ks vs)
    | none => none
  | .dictOf, .dic ks vs => some (.dic ks vs)
  | .sorted, .dic ks _ => match intsOf ks with
    | some ns => if decide (ns.length < 64) then some (.lst ((isort ns).map .int)) else none
    | none => none
  | .sorted, .lst xs => match intsOf xs with
    | some ns => if decide (ns.length < 64) then some (.lst ((isort ns).map .int)) else none
    | none => none
  | .sortedSet, .lst xs => match intsOf xs with
    | some ns => if decide (ns.length < 64) then some (.lst ((usort ns).map .int)) else none
    | none => none
  | .all, .lst xs => match blsOf xs with
    | some bs => some (.bl (bs.all id))
    | none => none
  | .any, .lst xs => match blsOf xs with
    | some bs => some (.bl (bs.any id))
    | none => none
  | .maxL, .lst xs => match intsOf xs with
    | some (n :: ns) => some (.int (maxI n ns))
    | _ => none
  | .minL, .lst xs => match intsOf xs with
    | some (n :: ns) => some (.int (minI n ns))
    | _ => none
  | .sumL, .lst xs => match intsOf xs with
    | some ns => some (.int ns.sum)
    | none => none
  | _, _ => none
def bf2 : B2 → D → D → Option D
  | .max, .int i, .int j => some (.int (if j > i then j else i))
  | .min, .int i, .int j => some (.int (if j < i then j else i))
  | _, _, _ => none
def isiD : Ty → D → Option Bool
  | .int, .int _ => some true
  | .int, .bl _ => some true
  | .bool, .bl _ => some true
  | .tuple, .tup _ => some true
  | .list, .lst _ => some true
  | .dict, .dic _ _ => some true
  | .str, .str _ => some true
  | _, .wd => none
  | _, .scr _ => none
  | _, _ => some false
def itemsOf : D → Option (List D)
  | .tup xs => some xs
  | .lst xs => some xs
  | .scr ns => some (ns.map .int)
  | _ => none

def setAll : Env → List Nat → List D → Option Env
  | env, [], [] => some env
  | env, i :: is, d :: ds => setAll (es env i (.va d)) is ds
  | _, _, _ => none
def bind1 (env : Env) : List Nat → D → Option Env
  | [i], d => some (es env i (.va d))
  | is, .tup xs => setAll env is xs
  | _, _ => none
def setAllT : Env → List (List Nat) → List D → Option Env
  | env, [], [] => some env
  | env, t :: ts, d :: ds => match bind1 env t d with
    | none => none
    | some env1 => setAllT env1 ts ds
  | _, _, _ => none
def bindT (env : Env) : Tg → D → Option Env
  | .nm i, d => some (es env i (.va d))
  | .tp is, .tup ds => setAll env is ds
  | .tp is, .lst ds => setAll env is ds
  | .tq ts, .tup ds => setAllT env ts ds
  | _, _ => none
def wipeE (env : Env) : List Nat → Env
  | [] => env
  | i :: is => es (wipeE env is) i .un
def tgs : Tg → List Nat
  | .nm i => [i]
  | .tp is => is
  | .tq ts => ts.flatten

def isN : Ex → Bool
  | .non => true
  | _ => false
def vi : Ex → Option Nat
  | .var i => some i
  | _ => none
def bor (v : Option Nat) (env : Env) (ws : WS) (r : Option (D × WS)) : Option (D × WS) :=
  match v with
  | none => r
  | some i => match eg env i with
    | .va d => some (d, ws)
    | .ow d => some (d, ws)
    | .un => none

def compL (ct : Env → WS → Option (Bool × WS)) (el : Env → WS → Option (D × WS)) (tg : Tg) (env : Env) : List D → WS → Option (List D × WS)
  | [], ws => some ([], ws)
  | d :: ds, ws => match bindT env tg d with
    | none => none
    | some env1 => match ct env1 ws with
      | none => none
      | some (false, ws1) => compL ct el tg env ds ws1
      | some (true, ws1) => match el env1 ws1 with
        | none => none
        | some (y, ws2) => match compL ct el tg env ds ws2 with
          | none => none
          | some (r, ws3) => some (y :: r, ws3)
/-- two clauses -/
def compL2 (src : Env → WS → Option (D × WS)) (ct : Env → WS → Option (Bool × WS)) (el : Env → WS → Option (D × WS)) (tg tg2 : Tg) (env : Env) : List D → WS → Option (List D × WS)
  | [], ws => some ([], ws)
  | d :: ds, ws => match bindT env tg d with
    | none => none
    | some env1 => match src env1 ws with
      | none => none
      | some (x, ws1) => match itemsOf x with
        | none => none
        | some es => match compL ct el tg2 (wipeE env1 (tgs tg2)) es ws1 with
          | none => none
          | some (r, ws2) => match compL2 src ct el tg tg2 env ds ws2 with
            | none => none
            | some (r', ws3) => some (r ++ r', ws3)
abbrev Fns := Nat → List D → WS → Option (D × WS)

/-- w["at"] -/
def ixW (ws : WS) : D → D → Option D
  | .wd, .str k => match ws with
    | some kvs => wg kvs k
    | none => none
  | a, b => ixD a b

mutual
def ev (Φ : Fns) : Ex → Env → WS → Option (D × WS)
  | .bad, _, _ => none
  | .non, _, ws => some (.non, ws)
  | .tt b, _, ws => some (.bl b, ws)
  | .num i, _, ws => some (.int i, ws)
  | .txt n, _, ws => some (.str n, ws)
  | .var i, env, ws => match eg env i with
    | .va d => some (d, ws)
    | _ => none
  | .con _ d, _, ws => some (d, ws)
  | .bin o a b, env, ws => match bor (vi a) env ws (ev Φ a env ws) with
    | none => none
    | some (x, ws1) => match bor (vi b) env ws1 (ev Φ b env ws1) with
      | none => none
      | some (y, ws2) => match bop o x y with
        | none => none
        | some z => some (z, ws2)
  | .neg a, env, ws => match ev Φ a env ws with
    | some (.int i, ws1) => some (.int (-i), ws1)
    | _ => none
  | .cmp o a b, env, ws => match bor (vi a) env ws (ev Φ a env ws) with
    | none => none
    | some (x, ws1) => match o with
      | .isN => some (.bl (isNone x), ws1)
      | .notN => some (.bl (!isNone x), ws1)
      | _ => match bor (vi b) env ws1 (ev Φ b env ws1) with
        | none => none
        | some (y, ws2) => match cop o x y with
          | none => none
          | some z => some (.bl z, ws2)
  | .chain o p a b c, env, ws => match bor (vi a) env ws (ev Φ a env ws) with
    | none => none
    | some (x, ws1) => match bor (vi b) env ws1 (ev Φ b env ws1) with
      | none => none
      | some (y, ws2) => match cop o x y with
        | none => none
        | some false => some (.bl false, ws2)
        | some true => match bor (vi c) env ws2 (ev Φ c env ws2) with
          | none => none
          | some (z, ws3) => match cop p y z with
            | none => none
            | some t => some (.bl t, ws3)
  | .andv a b, env, ws => match ev Φ a env ws with
    | some (.bl true, ws1) => ev Φ b env ws1
    | some (.bl false, ws1) => some (.bl false, ws1)
    | _ => none
  | .orv a b, env, ws => match ev Φ a env ws with
    | some (.bl true, ws1) => some (.bl true, ws1)
    | some (.bl false, ws1) => ev Φ b env ws1
    | _ => none
  | .one a, env, ws => ev Φ a env ws
  | .notv a, env, ws => match ev Φ a env ws with
    | some (.bl b, ws1) => some (.bl (!b), ws1)
    | _ => none
  | .ite c a b, env, ws => match evT Φ c env ws with
    | none => none
    | some (t, ws1) => if t then ev Φ a env ws1 else ev Φ b env ws1
  | .tup es, env, ws => match evs Φ es env ws with
    | none => none
    | some (ds, ws1) => some (.tup ds, ws1)
  | .lst es, env, ws => match evs Φ es env ws with
    | none => none
    | some (ds, ws1) => some (.lst ds, ws1)
  | .dic ks vs, env, ws => match ks, vs with
    | .nil, .nil => some (.dic [] [], ws)
    | .cons k .nil, .cons v .nil => match ev Φ k env ws with
      | none => none
      | some (kd, ws1) => match ev Φ v env ws1 with
        | none => none
        | some (vd, ws2) => if isK kd then some (.dic [kd] [vd], ws2) else none
    | _, _ => none
  | .ix a b, env, ws => match bor (vi a) env ws (ev Φ a env ws) with
    | none => none
    | some (x, ws1) => match ev Φ b env ws1 with
      | none => none
      | some (y, ws2) => match ixW ws2 x y with
        | none => none
        | some z => some (z, ws2)
  | .sl a lo hi, env, ws => match bor (vi a) env ws (ev Φ a env ws) with
    | none => none
    | some (x, ws1) => match ev Φ lo env ws1 with
      | none => none
      | some (l, ws2) => match ev Φ hi env ws2 with
        | none => none
        | some (h, ws3) => match bnd (isN lo) l with
          | none => none
          | some lo' => match bnd (isN hi) h with
            | none => none
            | some hi' => match slD x lo' hi' with
              | none => none
              | some z => some (z, ws3)
  | .call f args, env, ws => match evs Φ args env ws with
    | none => none
    | some (ds, ws1) => Φ f ds ws1
  | .b1 f a, env, ws => match bor (vi a) env ws (ev Φ a env ws) with
    | none => none
    | some (x, ws1) => match bf1 f x with
      | none => none
      | some z => some (z, ws1)
  | .b2 f a b, env, ws => match ev Φ a env ws with
    | none => none
    | some (x, ws1) => match ev Φ b env ws1 with
      | none => none
      | some (y, ws2) => match bf2 f x y with
        | none => none
        | some z => some (z, ws2)
  | .isi t a, env, ws => match bor (vi a) env ws (ev Φ a env ws) with
    | none => none
    | some (x, ws1) => match isiD t x with
      | none => none
      | some z => some (.bl z, ws1)
  | .get2 d k e, env, ws => match bor (vi d) env ws (ev Φ d env ws) with
    | some (.dic ks vs, ws1) => match ev Φ k env ws1 with
      | none => none
      | some (kd, ws2) => match ev Φ e env ws2 with
        | none => none
        | some (ed, ws3) => if isK kd then some ((dget ks vs kd).getD ed, ws3) else none
    | _ => none
  | .rng a, env, ws => match ev Φ a env ws with
    | some (.int j, ws1) => if decide (-100000 ≤ j) && decide (j ≤ 100000) then some (.lst ((List.range j.toNat).map fun k : Nat => .int (0 + (k : Int))), ws1) else none
    | _ => none
  | .rng2 a b, env, ws => match ev Φ a env ws with
    | some (.int i, ws1) => match ev Φ b env ws1 with
      | some (.int j, ws2) => if decide (-100000 ≤ i) && decide (i ≤ 100000) && decide (-100000 ≤ j) && decide (j ≤ 100000) then
          some (.lst ((List.range (j - i).toNat).map fun k : Nat => .int (i + (k : Int))), ws2) else none
      | _ => none
    | _ => none
  | .comp tg it elt, env, ws => match bor (vi it) env ws (ev Φ it env ws) with
    | none => none
    | some (x, ws1) => match itemsOf x with
      | none => none
      | some ds => if okLen ds.length then match compL (fun _ ws => some (true, ws)) (fun env ws => ev Φ elt env ws) tg (wipeE env (tgs tg)) ds ws1 with
        | none => none
        | some (r, ws2) => some (.lst r, ws2) else none
  | .compIf tg it c elt, env, ws => match bor (vi it) env ws (ev Φ it env ws) with
    | none => none
    | some (x, ws1) => match itemsOf x with
      | none => none
      | some ds => if okLen ds.length then match compL (fun env ws => evT Φ c env ws) (fun env ws => ev Φ elt env ws) tg (wipeE env (tgs tg)) ds ws1 with
        | none => none
        | some (r, ws2) => some (.lst r, ws2) else none
  | .comp2 tg it tg2 it2 elt, env, ws => match bor (vi it) env ws (ev Φ it env ws) with
    | none => none
    | some (x, ws1) => match itemsOf x with
      | none => none
      | some ds => match compL2 (fun env ws => ev Φ it2 env ws) (fun _ ws => some (true, ws)) (fun env ws => ev Φ elt env ws) tg tg2 (wipeE env (tgs tg ++ tgs tg2)) ds ws1 with
        | none => none
        | some (r, ws2) => if okLen r.length then some (.lst r, ws2) else none
  | .comp2If tg it tg2 it2 c elt, env, ws => match bor (vi it) env ws (ev Φ it env ws) with
    | none => none
    | some (x, ws1) => match itemsOf x with
      | none => none
      | some ds => match compL2 (fun env ws => ev Φ it2 env ws) (fun env ws => evT Φ c env ws) (fun env ws => ev Φ elt env ws) tg tg2 (wipeE env (tgs tg ++ tgs tg2)) ds ws1 with
        | none => none
        | some (r, ws2) => if okLen r.length then some (.lst r, ws2) else none
  | .tupR a, env, ws => match ev Φ a env ws with
    | some (.int j, ws1) => if decide (0 ≤ j) && decide (j ≤ 100000) then some (.tup ((List.range j.toNat).map fun k : Nat => .int (k : Int)), ws1) else none
    | _ => none
def evs (Φ : Fns) : Exs → Env → WS → Option (List D × WS)
  | .nil, _, ws => some ([], ws)
  | .cons e r, env, ws => match ev Φ e env ws with
    | none => none
    | some (d, ws1) => match evs Φ r env ws1 with
      | none => none
      | some (ds, ws2) => some (d :: ds, ws2)
def evT (Φ : Fns) : Tx → Env → WS → Option (Bool × WS)
  | .val e, env, ws => match ev Φ e env ws with
    | none => none
    | some (d, ws1) => match truth d with
      | none => none
      | some b => some (b, ws1)
  | .cmp o a b, env, ws => match bor (vi a) env ws (ev Φ a env ws) with
    | none => none
    | some (x, ws1) => match o with
      | .isN => some (isNone x, ws1)
      | .notN => some (!isNone x, ws1)
      | _ => match bor (vi b) env ws1 (ev Φ b env ws1) with
        | none => none
        | some (y, ws2) => match cop o x y with
          | none => none
          | some z => some (z, ws2)
  | .chain o p a b c, env, ws => match bor (vi a) env ws (ev Φ a env ws) with
    | none => none
    | some (x, ws1) => match bor (vi b) env ws1 (ev Φ b env ws1) with
      | none => none
      | some (y, ws2) => match cop o x y with
        | none => none
        | some false => some (false, ws2)
        | some true => match bor (vi c) env ws2 (ev Φ c env ws2) with
          | none => none
          | some (z, ws3) => match cop p y z with
            | none => none
            | some t => some (t, ws3)
  | .not a, env, ws => match evT Φ a env ws with
    | none => none
    | some (b, ws1) => some (!b, ws1)
  | .and2 a b, env, ws => match evT Φ a env ws with
    | none => none
    | some (t, ws1) => if t then evT Φ b env ws1 else some (false, ws1)
  | .or2 a b, env, ws => match evT Φ a env ws with
    | none => none
    | some (t, ws1) => if t then some (true, ws1) else evT Φ b env ws1
  | .one a, env, ws => evT Φ a env ws
  | .ite c a b, env, ws => match evT Φ c env ws with
    | none => none
    | some (t, ws1) => if t then evT Φ a env ws1 else evT Φ b env ws1
end

def aop : Bop → Int → Int → Option Int
  | .add, a, b => some (a + b)
  | .sub, a, b => some (a - b)
  | .mul, a, b => if decide (b.natAbs < 18446744073709551616) then some (a * b) else none
  | _, _, _ => none
inductive Fl where
  | nx | br | ct | rt (d : D)
abbrev Out := Option (Fl × Env × WS)
def forL (body : Env → WS → Out) (tg : Tg) : List D → Env → WS → Out
  | [], env, ws => some (.nx, env, ws)
  | d :: ds, env, ws => match bindT env tg d with
    | none => none
    | some env1 => match body env1 ws with
      | none => none
      | some (.nx, env2, ws2) => forL body tg ds env2 ws2
      | some (.ct, env2, ws2) => forL body tg ds env2 ws2
      | some (.br, env2, ws2) => some (.nx, env2, ws2)
      | some (.rt v, env2, ws2) => some (.rt v, env2, ws2)
def whlN (c : Env → WS → Option (Bool × WS)) (body : Env → WS → Out) : Nat → Env → WS → Out
  | 0, _, _ => none
  | n + 1, env, ws => match c env ws with
    | none => none
    | some (false, ws1) => some (.nx, env, ws1)
    | some (true, ws1) => match body env ws1 with
      | none => none
      | some (.nx, env2, ws2) => whlN c body n env2 ws2
      | some (.ct, env2, ws2) => whlN c body n env2 ws2
      | some (.br, env2, ws2) => some (.nx, env2, ws2)
      | some (.rt v, env2, ws2) => some (.rt v, env2, ws2)
def fuel : Nat := 1000000

def setPar : Env → List (Nat × Bool) → List D → Option Env
  | env, [], [] => some env
  | env, (i, o) :: is, d :: ds => setPar (es env i (if o then .ow d else .va d)) is ds
  | _, _, _ => none
mutual
def exec (Φ : Fns) : St → Env → WS → Out
  | .bad, _, _ => none
  | .pass, env, ws => some (.nx, env, ws)
  | .set tg e, env, ws => match ev Φ e env ws with
    | none => none
    | some (d, ws1) => match bindT env tg d with
      | none => none
      | some env1 => some (.nx, env1, ws1)
  | .own i e, env, ws => match ev Φ e env ws with
    | none => none
    | some (d, ws1) => some (.nx, es env i (.ow d), ws1)
  | .par is xs, env, ws => match evs Φ xs env ws with
    | none => none
    | some (ds, ws1) => match setPar env is ds with
      | none => none
      | some env1 => some (.nx, env1, ws1)
  | .aug i o e, env, ws => match eg env i with
    | .va x => match ev Φ e env ws with
      | none => none
      | some (y, ws1) => match x, y with
        | .int a, .int b => match aop o a b with
          | none => none
          | some z => some (.nx, es env i (.va (.int z)), ws1)
        | _, _ => none
    | _ => none
  | .dput i k e, env, ws => match ev Φ e env ws with
    | none => none
    | some (y, ws1) => match ev Φ k env ws1 with
      | none => none
      | some (kd, ws2) => match eg env i with
        | .ow (.dic ks vs) => if isK kd && okLen ks.length then some (.nx, es env i (.ow (.dic (dputK ks kd) (dputV ks vs kd y))), ws2) else none
        | _ => none
  | .waug i k o e, env, ws => match eg env i with
    | .va .wd => match ws with
      | none => none
      | some kvs => match wg kvs k with
        | none => none
        | some x => match ev Φ e env ws with
          | none => none
          | some (y, ws1) => match x, y, ws1 with
            | .int a, .int b, some kvs1 => if okLen kvs1.length && (wg kvs1 k).isSome then match o with
              | .add => some (.nx, env, some (wp kvs1 k (.int (a + b))))
              | .sub => some (.nx, env, some (wp kvs1 k (.int (a - b))))
              | _ => none
              else none
            | _, _, _ => none
    | _ => none
  | .mkw i k l a b, env, ws => match ws with
    | some _ => none
    | none => match ev Φ a env none with
      | some (x, none) => match ev Φ b env none with
        | some (y, none) => if decide (k < 512) && decide (l < 512) && !decide (k = l) then some (.nx, es env i (.va .wd), some [(k, x), (l, y)]) else none
        | _ => none
      | _ => none
  | .app i e, env, ws => match ev Φ e env ws with
    | none => none
    | some (y, ws1) => match eg env i with
      | .ow (.lst xs) => if okLen xs.length then some (.nx, es env i (.ow (.lst (xs ++ [y]))), ws1) else none
      | _ => none
  | .ext i e, env, ws => match ev Φ e env ws with
    | some (.lst ys, ws1) => match eg env i with
      | .ow (.lst xs) => if okLen (xs.length + ys.length) then some (.nx, es env i (.ow (.lst (xs ++ ys))), ws1) else none
      | _ => none
    | _ => none
  | .pop tg i, env, ws => match eg env i with
    | .ow (.lst xs) => match xs.getLast? with
      | none => none
      | some y => match bindT (es env i (.ow (.lst xs.dropLast))) tg y with
        | none => none
        | some env1 => some (.nx, env1, ws)
    | _ => none
  | .drop e, env, ws => match ev Φ e env ws with
    | none => none
    | some (_, ws1) => some (.nx, env, ws1)
  | .ite c a b, env, ws => match evT Φ c env ws with
    | none => none
    | some (t, ws1) => if t then execs Φ a env ws1 else execs Φ b env ws1
  | .whl c b, env, ws => whlN (fun env ws => evT Φ c env ws) (fun env ws => execs Φ b env ws) fuel env ws
  | .for_ tg it b, env, ws => match ev Φ it env ws with
    | none => none
    | some (x, ws1) => match itemsOf x with
      | none => none
      | some ds => forL (fun env ws => execs Φ b env ws) tg ds env ws1
  | .ret e, env, ws => match ev Φ e (frzA env) ws with
    | none => none
    | some (d, ws1) => some (.rt d, env, ws1)
  | .retN, env, ws => some (.rt .non, env, ws)
  | .brk, env, ws => some (.br, env, ws)
  | .cont, env, ws => some (.ct, env, ws)
  | .frz i, env, ws => some (.nx, es env i (frzS (eg env i)), ws)
def execs (Φ : Fns) : Sts → Env → WS → Out
  | .nil, env, ws => some (.nx, env, ws)
  | .cons s r, env, ws => match exec Φ s env ws with
    | none => none
    | some (.nx, env1, ws1) => execs Φ r env1 ws1
    | some (fl, env1, ws1) => some (fl, env1, ws1)
end

structure Def where
  np : Nat
  ns : Nat
  body : Sts
def mkEnv (ds : List D) (n : Nat) : Env := ds.map .va ++ List.replicate (n - ds.length) .un
def fin : Out → Option (D × WS)
  | some (.rt d, _, ws) => some (d, ws)
  | some (.nx, _, ws) => some (.non, ws)
  | _ => none
/-- a def that is called makes no record -/
def chk : WS → Option (D × WS) → Option (D × WS)
  | none, some (_, some _) => none
  | _, r => r
def callO (P : Nat → Option Def) : Nat → Fns
  | 0, _, _, _ => none
  | n + 1, f, ds, ws => match P f with
    | none => none
    | some d => if ds.length = d.np then chk ws (fin (execs (callO P n) d.body (mkEnv ds d.ns) ws)) else none
/-- the law itself -/
def lawO (P : Nat → Option Def) (n : Nat) (d : Def) (ns : List Int) : Option D :=
  match fin (execs (callO P n) d.body (mkEnv [.scr ns] d.ns) none) with
  | some (r, _) => some r
  | none => none
end Pv

set_option Elab.async false
set_option linter.all false
set_option maxRecDepth 100000
set_option maxHeartbeats 4000000
/-! Pv1: how values D stand in the abstract heap, the state of a frame, the readings tE, tB, tF, tT, tA. -/
namespace Pv
open PySem PySem.Spec PyProof.Rows L2

/-! ### values in the heap -/
def keyOf (T : Nat → Str) : D → Option Key
  | .int i => some (.inl i)
  | .str n => if n < 512 then some (.inr (T n)) else none
  | _ => none
/-- a tuple without a dict of its own -/
def PlT (K : PySem.W.Frag) (H : Hp) (a : Addr) (vs : List V) : Prop :=
  (∃ o, H a = some (.frz o (.tup vs)) ∧ o.dict = none) ∨ ∃ (o : Obj) (its : Array Value) (n : Nat), K.lookup a = some o ∧ o.cls = .type "tuple" ∧ o.data = .seq its n ∧ its.size ≤ sizeLine ∧ Vals vs its.toList ∧ o.dict = none
theorem PlT.sq {K : PySem.W.Frag} {H : Hp} {a : Addr} {vs : List V} (h : PlT K H a vs) : SqT K H a vs := by
  rcases h with ⟨o, h, _⟩ | ⟨o, its, n, h1, h2, h3, h4, h5, _⟩
  · exact .inl (.inr ⟨o, h⟩)
  · exact .inr ⟨o, its, n, h1, h2, h3, h4, h5⟩
theorem PlT.mono {K : PySem.W.Frag} {H H' : Hp} {a : Addr} {vs : List V} (e : Same H H') (h : PlT K H a vs) : PlT K H' a vs := by
  rcases h with ⟨o, h, d⟩ | h
  · exact .inl ⟨o, e _ _ h, d⟩
  · exact .inr h
mutual
inductive Rep (T : Nat → Str) (K : PySem.W.Frag) (wa : Option Addr) (H : Hp) : D → V → Prop
  | non : Rep T K wa H .non .non
  | bl (b : Bool) : Rep T K wa H (.bl b) (.bl b)
  | int (i : Int) : Rep T K wa H (.int i) (.int i)
  | str (n : Nat) : Rep T K wa H (.str n) (.str (T n))
  | tup {a : Addr} {vs : List V} {ds : List D} : PlT K H a vs → Reps T K wa H ds vs → Rep T K wa H (.tup ds) (.ref a)
  | lst {a : Addr} {vs : List V} {ds : List D} : H a = some (.lst vs) → Reps T K wa H ds vs → Rep T K wa H (.lst ds) (.ref a)
  | dic {a : Addr} {kvs : List (Key × V)} {ks ds : List D} : H a = some (.dK kvs) → ks.map (keyOf T) = kvs.map (fun p => some p.1) → Reps T K wa H ds (kvs.map (·.2)) → Rep T K wa H (.dic ks ds) (.ref a)
  | scr {a : Addr} {ns : List Int} : SqL K H a (ns.map V.int) → Rep T K wa H (.scr ns) (.ref a)
  | wd {a : Addr} : wa = some a → Rep T K wa H .wd (.ref a)
inductive Reps (T : Nat → Str) (K : PySem.W.Frag) (wa : Option Addr) (H : Hp) : List D → List V → Prop
  | nil : Reps T K wa H [] []
  | cons {d : D} {v : V} {ds : List D} {vs : List V} : Rep T K wa H d v → Reps T K wa H ds vs → Reps T K wa H (d :: ds) (v :: vs)
end
section
variable {T : Nat → Str} {K : PySem.W.Frag} {wa : Option Addr} {H H' : Hp}
theorem sqT_mono {a : Addr} {xs : List V} (e : Same H H') (h : SqT K H a xs) : SqT K H' a xs := by
  rcases h with (h | ⟨o, h⟩) | h
  · exact .inl (.inl (e _ _ h))
  · exact .inl (.inr ⟨o, e _ _ h⟩)
  · exact .inr h
mutual
theorem Rep.mono (e : Same H H') : ∀ {d : D} {v : V}, Rep T K wa H d v → Rep T K wa H' d v
  | _, _, .non => .non
  | _, _, .bl b => .bl b
  | _, _, .int i => .int i
  | _, _, .str n => .str n
  | _, _, .tup h r => .tup (h.mono e) (Reps.mono e r)
  | _, _, .lst h r => .lst (e _ _ h) (Reps.mono e r)
  | _, _, .dic h k r => .dic (e _ _ h) k (Reps.mono e r)
  | _, _, .scr h => .scr (e.seq h)
  | _, _, .wd h => .wd h
theorem Reps.mono (e : Same H H') : ∀ {d : List D} {v : List V}, Reps T K wa H d v → Reps T K wa H' d v
  | _, _, .nil => .nil
  | _, _, .cons r t => .cons (Rep.mono e r) (Reps.mono e t)
end
theorem Reps.len : ∀ {d : List D} {v : List V}, Reps T K wa H d v → d.length = v.length
  | _, _, .nil => rfl
  | _, _, .cons _ t => congrArg (· + 1) (Reps.len t)
theorem Reps.get : ∀ {ds : List D} {vs : List V} {i : Nat} {d : D}, Reps T K wa H ds vs → ds[i]? = some d → ∃ v, vs[i]? = some v ∧ Rep T K wa H d v
  | _, _, _, _, .nil, e => by simp at e
  | _, _, 0, _, .cons r _, e => by simp at e; subst e; exact ⟨_, rfl, r⟩
  | _, _, i + 1, d, .cons _ t, e => by
    obtain ⟨v, h1, h2⟩ := Reps.get (i := i) (d := d) t (by simpa using e)
    exact ⟨v, by simpa using h1, h2⟩
theorem Reps.app : ∀ {ds es : List D} {vs us : List V}, Reps T K wa H ds vs → Reps T K wa H es us → Reps T K wa H (ds ++ es) (vs ++ us)
  | _, _, _, _, .nil, s => s
  | _, _, _, _, .cons r t, s => .cons r (Reps.app t s)
theorem Reps.take : ∀ {ds : List D} {vs : List V} (n : Nat), Reps T K wa H ds vs → Reps T K wa H (ds.take n) (vs.take n)
  | _, _, 0, _ => by simp; exact .nil
  | _, _, _ + 1, .nil => .nil
  | _, _, n + 1, .cons r t => .cons r (Reps.take n t)
theorem Reps.drop : ∀ {ds : List D} {vs : List V} (n : Nat), Reps T K wa H ds vs → Reps T K wa H (ds.drop n) (vs.drop n)
  | _, _, 0, r => by simpa using r
  | _, _, _ + 1, .nil => .nil
  | _, _, n + 1, .cons _ t => Reps.drop n t
theorem Reps.dropLast {ds : List D} {vs : List V} (r : Reps T K wa H ds vs) : Reps T K wa H ds.dropLast vs.dropLast := by
  rw [List.dropLast_eq_take, List.dropLast_eq_take, ← r.len]
  exact r.take _
theorem Reps.cut {ds : List D} {vs : List V} (r : Reps T K wa H ds vs) (lo hi : Option Int) : Reps T K wa H (cutD ds lo hi) (cutV vs lo hi) := by
  unfold cutD cutV
  rw [r.len]
  exact (r.drop _).take _
theorem Reps.ints : ∀ {ds : List D} {vs : List V} {ns : List Int}, Reps T K wa H ds vs → intsOf ds = some ns → vs = ns.map V.int
  | _, _, ns, .nil, e => by simp [intsOf] at e; subst e; rfl
  | .int i :: ds, _, ns, .cons r t, e => by
    cases r
    simp only [intsOf] at e
    split at e
    · rename_i is h
      cases e
      rw [Reps.ints t h]
      rfl
    · cases e
  | .non :: _, _, _, _, e => by simp [intsOf] at e
  | .bl _ :: _, _, _, _, e => by simp [intsOf] at e
  | .str _ :: _, _, _, _, e => by simp [intsOf] at e
  | .tup _ :: _, _, _, _, e => by simp [intsOf] at e
  | .lst _ :: _, _, _, _, e => by simp [intsOf] at e
  | .dic _ _ :: _, _, _, _, e => by simp [intsOf] at e
  | .scr _ :: _, _, _, _, e => by simp [intsOf] at e
  | .wd :: _, _, _, _, e => by simp [intsOf] at e
theorem Reps.bls : ∀ {ds : List D} {vs : List V} {ns : List Bool}, Reps T K wa H ds vs → blsOf ds = some ns → vs = ns.map V.bl
  | _, _, ns, .nil, e => by simp [blsOf] at e; subst e; rfl
  | .bl i :: ds, _, ns, .cons r t, e => by
    cases r
    simp only [blsOf] at e
    split at e
    · rename_i is h
      cases e
      rw [Reps.bls t h]
      rfl
    · cases e
  | .non :: _, _, _, _, e => by simp [blsOf] at e
  | .int _ :: _, _, _, _, e => by simp [blsOf] at e
  | .str _ :: _, _, _, _, e => by simp [blsOf] at e
  | .tup _ :: _, _, _, _, e => by simp [blsOf] at e
  | .lst _ :: _, _, _, _, e => by simp [blsOf] at e
  | .dic _ _ :: _, _, _, _, e => by simp [blsOf] at e
  | .scr _ :: _, _, _, _, e => by simp [blsOf] at e
  | .wd :: _, _, _, _, e => by simp [blsOf] at e
theorem reps_ints : ∀ (ns : List Int), Reps T K wa H (ns.map D.int) (ns.map V.int)
  | [] => .nil
  | n :: r => .cons (.int n) (reps_ints r)
end

/-! ### what is hidden -/
open Classical in
noncomputable def hid (S : Addr → Prop) (H : Hp) : Hp := fun a => if S a then none else H a
theorem hid_in {S : Addr → Prop} {H : Hp} {a : Addr} {o : HO} (h : hid S H a = some o) : H a = some o ∧ ¬ S a := by
  unfold hid at h
  by_cases s : S a
  · rw [if_pos s] at h; cases h
  · rw [if_neg s] at h; exact ⟨h, s⟩
theorem hid_of {S : Addr → Prop} {H : Hp} {a : Addr} {o : HO} (h : H a = some o) (s : ¬ S a) : hid S H a = some o := by
  unfold hid; rw [if_neg s]; exact h
theorem hid_le {S : Addr → Prop} {H : Hp} : Same (hid S H) H := fun _ _ h => (hid_in h).1
theorem hid_mono {S S' : Addr → Prop} {H H' : Hp} (e : ∀ a o, ¬ S a → H a = some o → H' a = some o) (s : ∀ a, S' a → S a) : Same (hid S H) (hid S' H') := fun a o h =>
  let ⟨h1, h2⟩ := hid_in h
  hid_of (e a o h2 h1) fun q => h2 (s a q)
def SS (O : Addr → Prop) (ω : Nat → Option Addr) (wa : Option Addr) (a : Addr) : Prop := O a ∨ (∃ i, ω i = some a) ∨ wa = some a

/-! ### an own object -/
def OwnAt (T : Nat → Str) (K : PySem.W.Frag) (wa : Option Addr) (hH H : Hp) (d : D) (a : Addr) : Prop :=
  match d with
  | .lst ds => ∃ vs, H a = some (.lst vs) ∧ Reps T K wa hH ds vs
  | .dic ks ds => ∃ kvs, H a = some (.dK kvs) ∧ ks.map (keyOf T) = kvs.map (fun p => some p.1) ∧ Reps T K wa hH ds (kvs.map (·.2))
  | _ => False
theorem OwnAt.mono {T : Nat → Str} {K : PySem.W.Frag} {wa : Option Addr} {hH hH' H H' : Hp} {d : D} {a : Addr} (h : OwnAt T K wa hH H d a) (e : Same hH hH') (e2 : ∀ o, H a = some o → H' a = some o) : OwnAt T K wa hH' H' d a := by
  cases d with
  | lst ds =>
    obtain ⟨vs, h1, h2⟩ := h
    exact ⟨vs, e2 _ h1, h2.mono e⟩
  | dic ks ds =>
    obtain ⟨vs, h1, h2, h3⟩ := h
    exact ⟨vs, e2 _ h1, h2, h3.mono e⟩
  | _ => exact h.elim
theorem OwnAt.dom {T : Nat → Str} {K : PySem.W.Frag} {wa : Option Addr} {hH H : Hp} {d : D} {a : Addr} (h : OwnAt T K wa hH H d a) : H a ≠ none := by
  cases d with
  | lst ds =>
    obtain ⟨vs, h1, h2⟩ := h
    rw [h1]; simp
  | dic ks ds =>
    obtain ⟨vs, h1, h2, h3⟩ := h
    rw [h1]; simp
  | _ => exact h.elim
theorem OwnAt.rep {T : Nat → Str} {K : PySem.W.Frag} {wa : Option Addr} {hH hH' H : Hp} {d : D} {a : Addr} (h : OwnAt T K wa hH H d a) (e : Same hH hH') (e2 : ∀ o, H a = some o → hH' a = some o) : Rep T K wa hH' d (.ref a) := by
  cases d with
  | lst ds =>
    obtain ⟨vs, h1, h2⟩ := h
    exact .lst (e2 _ h1) (h2.mono e)
  | dic ks ds =>
    obtain ⟨vs, h1, h2, h3⟩ := h
    exact .dic (e2 _ h1) h2 (h3.mono e)
  | _ => exact h.elim

/-! ### the record -/
def WsR (T : Nat → Str) (K : PySem.W.Frag) (hH H : Hp) : Option Addr → WS → Prop
  | none, none => True
  | some a, some kvs => ∃ kv', H a = some (.dK kv') ∧ kvs.map (fun p => (Sum.inr (T p.1) : Key)) = kv'.map (·.1) ∧ (∀ p ∈ kvs, p.1 < 512) ∧ Reps T K (some a) hH (kvs.map (·.2)) (kv'.map (·.2))
  | _, _ => False
theorem WsR.mono {T : Nat → Str} {K : PySem.W.Frag} {hH hH' H H' : Hp} {wa : Option Addr} {ws : WS} (h : WsR T K hH H wa ws) (e : Same hH hH') (e2 : ∀ a o, wa = some a → H a = some o → H' a = some o) : WsR T K hH' H' wa ws := by
  cases wa with
  | none =>
    cases ws with
    | none => trivial
    | some _ => exact h.elim
  | some a =>
    cases ws with
    | none => exact h.elim
    | some kvs =>
      obtain ⟨kv', h1, h2, h3, h4⟩ := h
      exact ⟨kv', e2 _ _ rfl h1, h2, h3, h4.mono e⟩

/-! ### a frame's state -/
def SlotR (T : Nat → Str) (K : PySem.W.Frag) (wa : Option Addr) (hH H : Hp) (ω : Nat → Option Addr) (σ : L2.St) (i : Nat) : Slot → Prop
  | .un => True
  | .va d => ∃ v, σ[i]? = some (some v) ∧ Rep T K wa hH d v
  | .ow d => ∃ a, ω i = some a ∧ σ[i]? = some (some (.ref a)) ∧ OwnAt T K wa hH H d a
structure StR (T : Nat → Str) (K : PySem.W.Frag) (O : Addr → Prop) (wa : Option Addr) (env : Env) (ω : Nat → Option Addr) (ws : WS) (σ : L2.St) (H : Hp) : Prop where
  len : σ.length = env.length
  slot : ∀ i, SlotR T K wa (hid (SS O ω wa) H) H ω σ i (eg env i)
  own : ∀ i a, ω i = some a → (∃ d, eg env i = .ow d) ∧ ¬ O a ∧ wa ≠ some a
  inj : ∀ i j a, ω i = some a → ω j = some a → i = j
  dom : ∀ a, O a → H a ≠ none
  wsr : WsR T K (hid (SS O ω wa) H) H wa ws
section
variable {T : Nat → Str} {K : PySem.W.Frag} {O O' : Addr → Prop} {wa : Option Addr} {env : Env} {ω : Nat → Option Addr} {ws ws' : WS} {σ : L2.St} {H H' H1 H2 : Hp}
theorem StR.sdom (h : StR T K O wa env ω ws σ H) {a : Addr} (s : SS O ω wa a) : H a ≠ none := by
  rcases s with s | ⟨i, s⟩ | s
  · exact h.dom a s
  · obtain ⟨⟨d, hd⟩, _⟩ := h.own i a s
    have q := h.slot i
    rw [hd] at q
    obtain ⟨b, e1, _, e2⟩ := q
    rw [s] at e1
    cases e1
    exact e2.dom
  · have q := h.wsr
    rw [s] at q
    cases ws with
    | none => exact q.elim
    | some kvs =>
      obtain ⟨kv', e, _⟩ := q
      rw [e]; simp
theorem StR.fresh (h : StR T K O wa env ω ws σ H) {a : Addr} (n : H a = none) : ¬ SS O ω wa a := fun s => h.sdom s n
/-- the heap grows -/
theorem StR.grow (h : StR T K O wa env ω ws σ H) (e : Same H H') : StR T K O wa env ω ws σ H' := by
  have m : Same (hid (SS O ω wa) H) (hid (SS O ω wa) H') := hid_mono (fun a o _ q => e a o q) fun _ q => q
  refine ⟨h.len, fun i => ?_, h.own, h.inj, fun a q z => h.dom a q (e.free z), h.wsr.mono m fun a o _ q => e a o q⟩
  have q := h.slot i
  cases hs : eg env i with
  | un => trivial
  | va d =>
    rw [hs] at q
    obtain ⟨v, h1, h2⟩ := q
    exact ⟨v, h1, h2.mono m⟩
  | ow d =>
    rw [hs] at q
    obtain ⟨a, h1, h2, h3⟩ := q
    exact ⟨a, h1, h2, h3.mono m fun o q => e a o q⟩
/-- less is hidden -/
theorem StR.less (h : StR T K O wa env ω ws σ H) (s : ∀ a, O' a → O a) : StR T K O' wa env ω ws σ H := by
  have m : Same (hid (SS O ω wa) H) (hid (SS O' ω wa) H) := hid_mono (fun a o _ q => q) fun a q => q.elim (fun z => .inl (s a z)) .inr
  refine ⟨h.len, fun i => ?_, fun i a q => ⟨(h.own i a q).1, fun z => (h.own i a q).2.1 (s a z), (h.own i a q).2.2⟩, h.inj, fun a q z => h.dom a (s a q) z, h.wsr.mono m fun a o _ q => q⟩
  have q := h.slot i
  cases hs : eg env i with
  | un => trivial
  | va d =>
    rw [hs] at q
    obtain ⟨v, h1, h2⟩ := q
    exact ⟨v, h1, h2.mono m⟩
  | ow d =>
    rw [hs] at q
    obtain ⟨a, h1, h2, h3⟩ := q
    exact ⟨a, h1, h2, h3.mono m fun o q => q⟩
/-- a new object is hidden -/
theorem StR.more (h : StR T K O wa env ω ws σ H) {p : Addr} (n : H p = none) (o : HO) : StR T K (fun x => O x ∨ x = p) wa env ω ws σ (upd H p o) := by
  have hf := h.fresh n
  have m : Same (hid (SS O ω wa) H) (hid (SS (fun x => O x ∨ x = p) ω wa) (upd H p o)) := fun a u q => by
    obtain ⟨q1, q2⟩ := hid_in q
    have ne : a ≠ p := ne_of_none q1 n
    refine hid_of (by rw [upd_ne ne]; exact q1) fun z => ?_
    rcases z with (z | z) | z
    · exact q2 (.inl z)
    · exact ne z
    · exact q2 (.inr z)
  have e : Same H (upd H p o) := fun a u q => by rw [upd_ne (ne_of_none q n)]; exact q
  refine ⟨h.len, fun i => ?_, fun i a q => ⟨(h.own i a q).1, fun z => ?_, (h.own i a q).2.2⟩, h.inj, fun a q z => ?_, h.wsr.mono m fun a o _ q => e _ _ q⟩
  · have q := h.slot i
    cases hs : eg env i with
    | un => trivial
    | va d =>
      rw [hs] at q
      obtain ⟨v, h1, h2⟩ := q
      exact ⟨v, h1, h2.mono m⟩
    | ow d =>
      rw [hs] at q
      obtain ⟨a, h1, h2, h3⟩ := q
      exact ⟨a, h1, h2, h3.mono m fun o q => e _ _ q⟩
  · rcases z with z | z
    · exact (h.own i a q).2.1 z
    · subst z
      exact hf (.inr (.inl ⟨i, q⟩))
  · rcases q with q | q
    · exact h.dom a q (e.free z)
    · subst q
      rw [upd_same] at z; cases z
end
end Pv

set_option Elab.async false
set_option linter.all false
set_option maxRecDepth 100000
set_option maxHeartbeats 4000000
/-! Pv2: the readings and the rules for expressions. -/
namespace Pv
open PySem PySem.Spec PyProof.Rows L2

def Stp (wa : Option Addr) (H H' : Hp) : Prop := ∀ a o, wa ≠ some a → H a = some o → H' a = some o
theorem Stp.refl (wa : Option Addr) (H : Hp) : Stp wa H H := fun _ _ _ h => h
theorem Stp.trans {wa : Option Addr} {H H1 H2 : Hp} (a : Stp wa H H1) (b : Stp wa H1 H2) : Stp wa H H2 := fun x o n h => b x o n (a x o n h)
theorem Stp.of {wa : Option Addr} {H H' : Hp} (e : Same H H') : Stp wa H H' := fun a o _ h => e a o h
theorem Stp.hid {O : Addr → Prop} {ω : Nat → Option Addr} {wa : Option Addr} {H H' : Hp} (e : Stp wa H H') : Same (hid (SS O ω wa) H) (hid (SS O ω wa) H') :=
  hid_mono (fun a o s h => e a o (fun z => s (.inr (.inr z))) h) fun _ q => q

/-- a value that is looked at: frozen, or an own object -/
def RepB (T : Nat → Str) (K : PySem.W.Frag) (wa : Option Addr) (hH H : Hp) (d : D) (v : V) : Prop :=
  Rep T K wa hH d v ∨ ∃ a, v = .ref a ∧ wa ≠ some a ∧ OwnAt T K wa hH H d a
theorem RepB.mono {T : Nat → Str} {K : PySem.W.Frag} {O : Addr → Prop} {ω : Nat → Option Addr} {wa : Option Addr} {H H' : Hp} {d : D} {v : V} (e : Stp wa H H')
    (h : RepB T K wa (hid (SS O ω wa) H) H d v) : RepB T K wa (hid (SS O ω wa) H') H' d v := by
  rcases h with h | ⟨a, h1, h2, h3⟩
  · exact .inl (h.mono e.hid)
  · exact .inr ⟨a, h1, h2, h3.mono e.hid fun o q => e a o h2 q⟩
/-- .. as it stands in the whole heap -/
theorem RepB.rep {T : Nat → Str} {K : PySem.W.Frag} {S : Addr → Prop} {wa : Option Addr} {H : Hp} {d : D} {v : V} (h : RepB T K wa (hid S H) H d v) : Rep T K wa H d v := by
  rcases h with h | ⟨a, h1, h2, h3⟩
  · exact h.mono hid_le
  · subst h1
    exact h3.rep hid_le fun _ q => q
theorem RepB.lst {T : Nat → Str} {K : PySem.W.Frag} {S : Addr → Prop} {wa : Option Addr} {H : Hp} {ds : List D} {v : V} (h : RepB T K wa (hid S H) H (.lst ds) v) :
    ∃ a vs, v = .ref a ∧ H a = some (.lst vs) ∧ Reps T K wa (hid S H) ds vs := by
  rcases h with h | ⟨a, h1, h2, vs, h3, h4⟩
  · cases h with
    | lst h r => exact ⟨_, _, rfl, (hid_in h).1, r⟩
  · exact ⟨a, vs, h1, h3, h4⟩
theorem RepB.dic {T : Nat → Str} {K : PySem.W.Frag} {S : Addr → Prop} {wa : Option Addr} {H : Hp} {ks ds : List D} {v : V} (h : RepB T K wa (hid S H) H (.dic ks ds) v) :
    ∃ a kvs, v = .ref a ∧ H a = some (.dK kvs) ∧ ks.map (keyOf T) = kvs.map (fun p => some p.1) ∧ Reps T K wa (hid S H) ds (kvs.map (·.2)) := by
  rcases h with h | ⟨a, h1, h2, vs, h3, h4, h5⟩
  · cases h with
    | dic h k r => exact ⟨_, _, rfl, (hid_in h).1, k, r⟩
  · exact ⟨a, vs, h1, h3, h4, h5⟩
theorem RepB.tup {T : Nat → Str} {K : PySem.W.Frag} {S : Addr → Prop} {wa : Option Addr} {H : Hp} {ds : List D} {v : V} (h : RepB T K wa (hid S H) H (.tup ds) v) :
    ∃ a vs, v = .ref a ∧ SqT K H a vs ∧ PlT K (hid S H) a vs ∧ Reps T K wa (hid S H) ds vs := by
  rcases h with h | ⟨a, h1, h2, h3⟩
  · cases h with
    | tup h r => exact ⟨_, _, rfl, (h.mono hid_le).sq, h, r⟩
  · exact h3.elim
theorem RepB.scr {T : Nat → Str} {K : PySem.W.Frag} {S : Addr → Prop} {wa : Option Addr} {H : Hp} {ns : List Int} {v : V} (h : RepB T K wa (hid S H) H (.scr ns) v) :
    ∃ a, v = .ref a ∧ SqL K H a (ns.map V.int) := by
  rcases h with h | ⟨a, h1, h2, h3⟩
  · cases h with
    | scr h => exact ⟨_, rfl, Same.seq hid_le h⟩
  · exact h3.elim
section
variable {T : Nat → Str} {K : PySem.W.Frag} {hH H : Hp} {wa : Option Addr} {v : V}
theorem RepB.int {i : Int} (h : RepB T K wa hH H (.int i) v) : v = .int i := by
  rcases h with h | ⟨a, h1, h2, h3⟩
  · cases h; rfl
  · exact h3.elim
theorem RepB.bl {i : Bool} (h : RepB T K wa hH H (.bl i) v) : v = .bl i := by
  rcases h with h | ⟨a, h1, h2, h3⟩
  · cases h; rfl
  · exact h3.elim
theorem RepB.non (h : RepB T K wa hH H .non v) : v = .non := by
  rcases h with h | ⟨a, h1, h2, h3⟩
  · cases h; rfl
  · exact h3.elim
theorem RepB.str {n : Nat} (h : RepB T K wa hH H (.str n) v) : v = .str (T n) := by
  rcases h with h | ⟨a, h1, h2, h3⟩
  · cases h; rfl
  · exact h3.elim
theorem RepB.wd (h : RepB T K wa hH H .wd v) : ∃ a, v = .ref a ∧ wa = some a := by
  rcases h with h | ⟨a, h1, h2, h3⟩
  · cases h; exact ⟨_, rfl, by assumption⟩
  · exact h3.elim
end

/-! ### readings -/
abbrev EvF := Env → WS → Option (D × WS)
abbrev EvTF := Env → WS → Option (Bool × WS)
abbrev EvAF := Env → WS → Option (List D × WS)
def tE (T : Nat → Str) (K : PySem.W.Frag) (f : EvF) : TE := fun σ H Q => ∃ O wa env ω ws d ws', StR T K O wa env ω ws σ H ∧ f env ws = some (d, ws') ∧
  ∀ v H', StR T K O wa env ω ws' σ H' → Stp wa H H' → Rep T K wa (hid (SS O ω wa) H') d v → Q v H'
def tB (T : Nat → Str) (K : PySem.W.Frag) (f : EvF) : TE := fun σ H Q => ∃ O wa env ω ws d ws', StR T K O wa env ω ws σ H ∧ f env ws = some (d, ws') ∧
  ∀ v H', StR T K O wa env ω ws' σ H' → Stp wa H H' → RepB T K wa (hid (SS O ω wa) H') H' d v → Q v H'
def tF (T : Nat → Str) (K : PySem.W.Frag) (f : EvF) : TE := fun σ H Q => ∃ O wa env ω ws d ws', StR T K O wa env ω ws σ H ∧ f env ws = some (d, ws') ∧
  ∀ a H', StR T K (fun x => O x ∨ x = a) wa env ω ws' σ H' → Stp wa H H' → ¬ SS O ω wa a → H a = none → OwnAt T K wa (hid (SS (fun x => O x ∨ x = a) ω wa) H') H' d a → Q (.ref a) H'
def tT (T : Nat → Str) (K : PySem.W.Frag) (f : EvTF) : TT := fun σ H Q => ∃ O wa env ω ws d ws', StR T K O wa env ω ws σ H ∧ f env ws = some (d, ws') ∧
  ∀ H', StR T K O wa env ω ws' σ H' → Stp wa H H' → Q d H'
def tA (T : Nat → Str) (K : PySem.W.Frag) (f : EvAF) : TA := fun σ H Q => ∃ O wa env ω ws d ws', StR T K O wa env ω ws σ H ∧ f env ws = some (d, ws') ∧
  ∀ v H', StR T K O wa env ω ws' σ H' → Stp wa H H' → Reps T K wa (hid (SS O ω wa) H') d v → Q v H'

theorem PE.mono {X : Cx} {e : Expr} {t t' : TE} (h : PE X e t) (m : ∀ σ H Q, t' σ H Q → t σ H Q) : PE X e t' := ⟨fun pins s σ H Q I q => h.run pins s σ H Q I (m σ H Q q)⟩
theorem PT.mono {X : Cx} {e : Expr} {t t' : TT} (h : PT X e t) (m : ∀ σ H Q, t' σ H Q → t σ H Q) : PT X e t' := ⟨fun pins s σ H Q I q => h.run pins s σ H Q I (m σ H Q q)⟩
theorem PA.mono {X : Cx} {e : List Expr} {t t' : TA} (h : PA X e t) (m : ∀ σ H Q, t' σ H Q → t σ H Q) : PA X e t' := ⟨fun pos pins s σ H Q I q => h.run pos pins s σ H Q I (m σ H Q q)⟩
theorem PW.mono {X : Cx} {e : Expr} {t t' : TT} (h : PW X e t) (m : ∀ σ H Q, t' σ H Q → t σ H Q) : PW X e t' := ⟨fun wh pins s σ H Q I q => h.run wh pins s σ H Q I (m σ H Q q)⟩
theorem PI.mono {X : Cx} {tg e : Expr} {t t' : TI} (h : PI X tg e t) (m : ∀ σ H Q, t' σ H Q → t σ H Q) : PI X tg e t' := ⟨fun pins s σ H Q I q => h.run pins s σ H Q I (m σ H Q q)⟩
theorem PS.mono {X : Cx} {e : Stmt} {t t' : TS} (h : PS X e t) (m : ∀ D σ H, t' D σ H → t D σ H) : PS X e t' := ⟨fun pins s σ H D I q => h.run pins s σ H D I (m D σ H q)⟩
theorem PSs.mono {X : Cx} {e : List Stmt} {t t' : TS} (h : PSs X e t) (m : ∀ D σ H, t' D σ H → t D σ H) : PSs X e t' := ⟨fun pins s σ H D I q => h.run pins s σ H D I (m D σ H q)⟩

section
variable {T : Nat → Str} {X : Cx} {e a b c : Expr} {fa fb fc : EvF} {pos : Pos}
theorem StR.back {T : Nat → Str} {K : PySem.W.Frag} {O : Addr → Prop} {wa : Option Addr} {env : Env} {ω : Nat → Option Addr} {ws : WS} {σ : L2.St} {H H' : Hp} (st : StR T K O wa env ω ws σ H') (sp : Stp wa H H') {p : Addr} (n : H' p = none) : H p = none := by
  cases c : H p with
  | none => rfl
  | some o =>
    by_cases nw : wa = some p
    · exact absurd (.inr (.inr nw)) (st.fresh n)
    · rw [sp p o nw c] at n; cases n
theorem tE_tB (h : PE X e (tE T X.K fa)) : PE X e (tB T X.K fa) :=
  PE.mono h fun σ H Q ⟨O, wa, env, ω, ws, d, ws', st, hf, k⟩ => ⟨O, wa, env, ω, ws, d, ws', st, hf, fun v H' st' sp r => k v H' st' sp (.inl r)⟩
theorem SS.weak {O : Addr → Prop} {ω : Nat → Option Addr} {wa : Option Addr} {a x : Addr} (h : SS O ω wa x) : SS (fun x => O x ∨ x = a) ω wa x :=
  h.elim (fun z => .inl (.inl z)) .inr
theorem tF_tE (h : PE X e (tF T X.K fa)) : PE X e (tE T X.K fa) :=
  PE.mono h fun σ H Q ⟨O, wa, env, ω, ws, d, ws', st, hf, k⟩ => ⟨O, wa, env, ω, ws, d, ws', st, hf, fun a H' st' sp ns _ ow =>
    k _ H' (st'.less fun _ z => .inl z) sp (ow.rep (hid_mono (fun _ _ _ q => q) fun _ => SS.weak) fun o q => hid_of q ns)⟩
theorem bor_none {env : Env} {ws : WS} {r : Option (D × WS)} : bor none env ws r = r := rfl

/-! ### constants, names -/
theorem pe_k {d : D} {v : V} (h : PE X e (tC v)) (r : ∀ wa H, Rep T X.K wa H d v) : PE X e (tE T X.K fun _ ws => some (d, ws)) :=
  PE.mono h fun σ H Q ⟨O, wa, env, ω, ws, d', ws', st, hf, k⟩ => by
    cases hf
    exact k v H st (Stp.refl _ _) (r _ _)
theorem pe_va {i : Nat} (h : PE X e (tVar i)) : PE X e (tE T X.K fun env ws => match eg env i with
    | .va d => some (d, ws)
    | _ => none) :=
  PE.mono h fun σ H Q ⟨O, wa, env, ω, ws, d', ws', st, hf, k⟩ => by
    have q := st.slot i
    dsimp only at hf
    split at hf
    · rename_i d hd
      cases hf
      rw [hd] at q
      obtain ⟨v, q1, q2⟩ := q
      exact ⟨v, q1, k v H st (Stp.refl _ _) q2⟩
    · cases hf
theorem pe_vb {i : Nat} {r : EvF} (h : PE X e (tVar i)) : PE X e (tB T X.K fun env ws => bor (some i) env ws (r env ws)) :=
  PE.mono h fun σ H Q ⟨O, wa, env, ω, ws, d', ws', st, hf, k⟩ => by
    have q := st.slot i
    simp only [bor] at hf
    split at hf
    · rename_i d hd
      cases hf
      rw [hd] at q
      obtain ⟨v, q1, q2⟩ := q
      exact ⟨v, q1, k v H st (Stp.refl _ _) (.inl q2)⟩
    · rename_i d hd
      cases hf
      rw [hd] at q
      obtain ⟨a, q0, q1, q2⟩ := q
      exact ⟨_, q1, k _ H st (Stp.refl _ _) (.inr ⟨a, rfl, (st.own i a q0).2.2, q2⟩)⟩
    · cases hf

/-! ### two parts, one part -/
def two (fa fb : EvF) (g : WS → D → D → Option D) : EvF := fun env ws => match fa env ws with
  | none => none
  | some (x, ws1) => match fb env ws1 with
    | none => none
    | some (y, ws2) => match g ws2 x y with
      | none => none
      | some z => some (z, ws2)
def un1 (fa : EvF) (g : D → Option D) : EvF := fun env ws => match fa env ws with
  | none => none
  | some (x, ws1) => match g x with
    | none => none
    | some z => some (z, ws1)
def ROk (T : Nat → Str) (K : PySem.W.Frag) (r : R2) (g : WS → D → D → Option D) : Prop :=
  ∀ (O : Addr → Prop) (wa : Option Addr) (env : Env) (ω : Nat → Option Addr) (ws : WS) (σ : L2.St) (H : Hp) (x y : V) (d1 d2 z : D) (Q : VK), StR T K O wa env ω ws σ H →
    RepB T K wa (hid (SS O ω wa) H) H d1 x → RepB T K wa (hid (SS O ω wa) H) H d2 y → g ws d1 d2 = some z →
    (∀ v H', Same H H' → Rep T K wa (hid (SS O ω wa) H') z v → Q v H') → r x y H Q
def UOk (T : Nat → Str) (K : PySem.W.Frag) (r : V → Hp → VK → Prop) (g : D → Option D) : Prop :=
  ∀ (O : Addr → Prop) (wa : Option Addr) (env : Env) (ω : Nat → Option Addr) (ws : WS) (σ : L2.St) (H : Hp) (x : V) (d1 z : D) (Q : VK), StR T K O wa env ω ws σ H →
    RepB T K wa (hid (SS O ω wa) H) H d1 x → g d1 = some z →
    (∀ v H', Same H H' → Rep T K wa (hid (SS O ω wa) H') z v → Q v H') → r x H Q
/-- .. making an object -/
def UFOk (T : Nat → Str) (K : PySem.W.Frag) (r : V → Hp → VK → Prop) (g : D → Option D) : Prop :=
  ∀ (O : Addr → Prop) (wa : Option Addr) (env : Env) (ω : Nat → Option Addr) (ws : WS) (σ : L2.St) (H : Hp) (x : V) (d1 z : D) (Q : VK), StR T K O wa env ω ws σ H →
    RepB T K wa (hid (SS O ω wa) H) H d1 x → g d1 = some z →
    (∀ p o, H p = none → OwnAt T K wa (hid (SS O ω wa) H) (upd H p o) z p → Q (.ref p) (upd H p o)) → r x H Q
theorem new_at {K : PySem.W.Frag} {O : Addr → Prop} {wa : Option Addr} {env : Env} {ω : Nat → Option Addr} {ws : WS} {σ : L2.St} {H : Hp} {p : Addr} {o : HO} (st : StR T K O wa env ω ws σ H) (n : H p = none) :
    Same (hid (SS O ω wa) H) (hid (SS (fun x => O x ∨ x = p) ω wa) (upd H p o)) := fun a u q => by
  obtain ⟨q1, q2⟩ := hid_in q
  have ne : a ≠ p := ne_of_none q1 n
  refine hid_of (by rw [upd_ne ne]; exact q1) fun z => ?_
  rcases z with (z | z) | z
  · exact q2 (.inl z)
  · exact ne z
  · exact q2 (.inr z)
theorem new_same {H : Hp} {p : Addr} {o : HO} (n : H p = none) : Same H (upd H p o) := fun a u q => by rw [upd_ne (ne_of_none q n)]; exact q
theorem pe_two {g : WS → D → D → Option D} {r : R2} (ht : ∀ ta tb, PE X a ta → PE X b tb → PE X e (tOp r ta tb)) (hr : ROk T X.K r g) (ha : PE X a (tB T X.K fa)) (hb : PE X b (tB T X.K fb)) :
    PE X e (tE T X.K (two fa fb g)) :=
  PE.mono (ht _ _ ha hb) fun σ H Q ⟨O, wa, env, ω, ws, d, ws', st, hf, k⟩ => by
    unfold two at hf
    split at hf
    · cases hf
    · rename_i x ws1 e1
      split at hf
      · cases hf
      · rename_i y ws2 e2
        split at hf
        · cases hf
        · rename_i z e3
          cases hf
          refine ⟨O, wa, env, ω, ws, x, ws1, st, e1, fun v1 H1 st1 sp1 r1 => ?_⟩
          refine ⟨O, wa, env, ω, ws1, y, _, st1, e2, fun v2 H2 st2 sp2 r2 => ?_⟩
          refine hr O wa env ω _ σ H2 v1 v2 x y _ Q st2 (r1.mono sp2) r2 e3 fun v H' sm rz => ?_
          exact k v H' (st2.grow sm) ((sp1.trans sp2).trans (Stp.of sm)) rz
theorem pe_un1 {g : D → Option D} {r : V → Hp → VK → Prop} (ht : ∀ ta, PE X a ta → PE X e (tUn r ta)) (hr : UOk T X.K r g) (ha : PE X a (tB T X.K fa)) : PE X e (tE T X.K (un1 fa g)) :=
  PE.mono (ht _ ha) fun σ H Q ⟨O, wa, env, ω, ws, d, ws', st, hf, k⟩ => by
    unfold un1 at hf
    split at hf
    · cases hf
    · rename_i x ws1 e1
      split at hf
      · cases hf
      · rename_i z e3
        cases hf
        refine ⟨O, wa, env, ω, ws, x, _, st, e1, fun v1 H1 st1 sp1 r1 => ?_⟩
        refine hr O wa env ω _ σ H1 v1 x _ Q st1 r1 e3 fun v H' sm rz => ?_
        exact k v H' (st1.grow sm) (sp1.trans (Stp.of sm)) rz
theorem pe_unF {g : D → Option D} {r : V → Hp → VK → Prop} (ht : ∀ ta, PE X a ta → PE X e (tUn r ta)) (hr : UFOk T X.K r g) (ha : PE X a (tB T X.K fa)) : PE X e (tF T X.K (un1 fa g)) :=
  PE.mono (ht _ ha) fun σ H Q ⟨O, wa, env, ω, ws, d, ws', st, hf, k⟩ => by
    unfold un1 at hf
    split at hf
    · cases hf
    · rename_i x ws1 e1
      split at hf
      · cases hf
      · rename_i z e3
        cases hf
        refine ⟨O, wa, env, ω, ws, x, _, st, e1, fun v1 H1 st1 sp1 r1 => ?_⟩
        refine hr O wa env ω _ σ H1 v1 x _ Q st1 r1 e3 fun p o n ow => ?_
        exact k p _ (st1.more n o) (sp1.trans (Stp.of (new_same n))) (st1.fresh n) (st1.back sp1 n) (ow.mono (new_at st1 n) fun _ q => q)
end
end Pv

set_option Elab.async false
set_option linter.all false
set_option maxRecDepth 100000
set_option maxHeartbeats 4000000
/-! Pv3: the operations by values. -/
namespace Pv
open PySem PySem.Spec PyProof.Rows L2

/-! ### the texts -/
structure TOk (T : Nat → Str) : Prop where
  inj : ∀ n m, n < 512 → m < 512 → T n = T m → n = m
  ok : ∀ n, n < 512 → PyData.strOk (T n) = true

mutual
def toPy (T : Nat → Str) : D → PyData
  | .non => .none
  | .bl b => .bool b
  | .int i => .int i
  | .str n => .str (T n)
  | .tup xs => .tuple (toPys T xs)
  | .lst xs => .list (toPys T xs)
  | .dic _ _ => .dict []
  | .scr _ => .dict []
  | .wd => .dict []
def toPys (T : Nat → Str) : List D → List PyData
  | [] => []
  | x :: xs => toPy T x :: toPys T xs
end
section
variable {T : Nat → Str} {K : PySem.W.Frag} {wa : Option Addr} {H : Hp}
mutual
theorem dp_of : ∀ {d : D} {v : V} {n : Nat}, Rep T K wa H d v → okq d n = true → Dp K H v (toPy T d)
  | _, _, _, .non, _ => by simp only [toPy]; exact .non
  | _, _, _, .bl b, _ => by simp only [toPy]; exact .bl b
  | _, _, _, .int i, _ => by simp only [toPy]; exact .int i
  | _, _, _, .str k, _ => by simp only [toPy]; exact .str _
  | _, _, 0, .tup h r, e => by simp [okq] at e
  | _, _, n + 1, .tup h r, e => by simp only [toPy]; exact .tup h.sq (dps_of r (by simpa [okq] using e))
  | _, _, 0, .lst h r, e => by simp [okq] at e
  | _, _, n + 1, .lst h r, e => by simp only [toPy]; exact .lst (.inl (.inl h)) (dps_of r (by simpa [okq] using e))
  | _, _, _, .dic _ _ _, e => by simp [okq] at e
  | _, _, _, .scr _, e => by simp [okq] at e
  | _, _, _, .wd _, e => by simp [okq] at e
theorem dps_of : ∀ {ds : List D} {vs : List V} {n : Nat}, Reps T K wa H ds vs → okqs ds n = true → DpAll K H vs (toPys T ds)
  | _, _, _, .nil, _ => by simp only [toPys]; exact .nil
  | _, _, n, .cons r t, e => by
    simp only [okqs, Bool.and_eq_true] at e
    simp only [toPys]
    exact .cons (dp_of r e.1) (dps_of t e.2)
end
mutual
theorem lay_of (hT : TOk T) : ∀ (d : D) (n : Nat), okq d n = true → (toPy T d).canLay0 = true ∧ (toPy T d).depth ≤ n
  | .non, _, _ => by simp [toPy, PyData.canLay0, PyData.depth]
  | .bl b, _, _ => by simp [toPy, PyData.canLay0, PyData.depth]
  | .int i, _, _ => by simp [toPy, PyData.canLay0, PyData.depth]
  | .str k, _, e => by
    simp only [okq, decide_eq_true_eq] at e
    simp [toPy, PyData.canLay0, PyData.depth, hT.ok k e]
  | .tup xs, 0, e => by simp [okq] at e
  | .tup xs, n + 1, e => by
    have := lays_of hT xs n (by simpa [okq] using e)
    simp only [toPy, PyData.canLay0, PyData.depth]
    exact ⟨this.1, Nat.succ_le_succ this.2⟩
  | .lst xs, 0, e => by simp [okq] at e
  | .lst xs, n + 1, e => by
    have := lays_of hT xs n (by simpa [okq] using e)
    simp only [toPy, PyData.canLay0, PyData.depth]
    exact ⟨this.1, Nat.succ_le_succ this.2⟩
  | .dic _ _, _, e => by simp [okq] at e
  | .scr _, _, e => by simp [okq] at e
  | .wd, _, e => by simp [okq] at e
theorem lays_of (hT : TOk T) : ∀ (ds : List D) (n : Nat), okqs ds n = true → PyData.canLayAll0 (toPys T ds) = true ∧ PyData.depthAll (toPys T ds) ≤ n
  | [], _, _ => by simp [toPys, PyData.canLayAll0, PyData.depthAll]
  | x :: xs, n, e => by
    simp only [okqs, Bool.and_eq_true] at e
    have h1 := lay_of hT x n e.1
    have h2 := lays_of hT xs n e.2
    simp only [toPys, PyData.canLayAll0, PyData.depthAll, Bool.and_eq_true]
    exact ⟨⟨h1.1, h2.1⟩, Nat.max_le.mpr ⟨h1.2, h2.2⟩⟩
end
mutual
theorem deq_py (hT : TOk T) : ∀ (d e : D) (n m : Nat), okq d n = true → okq e m = true → PyData.eqv (toPy T d) (toPy T e) = deq d e
  | .str x, .str y, _, _, hd, he => by
    simp only [okq, decide_eq_true_eq] at hd he
    simp only [toPy, PyData.eqv, deq]
    by_cases h : x = y
    · subst h; simp
    · have h' : T x ≠ T y := fun z => h (hT.inj x y hd he z)
      simp [h, h']
  | .tup xs, .tup ys, 0, _, hd, he => by simp [okq] at hd
  | .tup xs, .tup ys, _ + 1, 0, hd, he => by simp [okq] at he
  | .tup xs, .tup ys, n + 1, m + 1, hd, he => by
    simp only [toPy, PyData.eqv, deq]
    exact deqs_py hT xs ys n m (by simpa [okq] using hd) (by simpa [okq] using he)
  | .lst xs, .lst ys, 0, _, hd, he => by simp [okq] at hd
  | .lst xs, .lst ys, _ + 1, 0, hd, he => by simp [okq] at he
  | .lst xs, .lst ys, n + 1, m + 1, hd, he => by
    simp only [toPy, PyData.eqv, deq]
    exact deqs_py hT xs ys n m (by simpa [okq] using hd) (by simpa [okq] using he)
  | .int i, .int j, _, _, _, _ => by simp only [toPy, PyData.eqv, deq]; exact Bool.beq_eq_decide_eq i j
  | .non, .non, _, _, _, _ | .non, .bl _, _, _, _, _ | .non, .int _, _, _, _, _ | .non, .str _, _, _, _, _ | .non, .tup _, _, _, _, _ | .non, .lst _, _, _, _, _ => by simp [toPy, PyData.eqv, deq]
  | .bl _, .non, _, _, _, _ | .bl _, .bl _, _, _, _, _ | .bl _, .int _, _, _, _, _ | .bl _, .str _, _, _, _, _ | .bl _, .tup _, _, _, _, _ | .bl _, .lst _, _, _, _, _ => by simp [toPy, PyData.eqv, deq]
  | .int _, .non, _, _, _, _ | .int _, .bl _, _, _, _, _ | .int _, .str _, _, _, _, _ | .int _, .tup _, _, _, _, _ | .int _, .lst _, _, _, _, _ => by simp [toPy, PyData.eqv, deq]
  | .str _, .non, _, _, _, _ | .str _, .bl _, _, _, _, _ | .str _, .int _, _, _, _, _ | .str _, .tup _, _, _, _, _ | .str _, .lst _, _, _, _, _ => by simp [toPy, PyData.eqv, deq]
  | .tup _, .non, _, _, _, _ | .tup _, .bl _, _, _, _, _ | .tup _, .int _, _, _, _, _ | .tup _, .str _, _, _, _, _ | .tup _, .lst _, _, _, _, _ => by simp [toPy, PyData.eqv, deq]
  | .lst _, .non, _, _, _, _ | .lst _, .bl _, _, _, _, _ | .lst _, .int _, _, _, _, _ | .lst _, .str _, _, _, _, _ | .lst _, .tup _, _, _, _, _ => by simp [toPy, PyData.eqv, deq]
  | .dic _ _, _, _, _, h, _ => by simp [okq] at h
  | .scr _, _, _, _, h, _ => by simp [okq] at h
  | .wd, _, _, _, h, _ => by simp [okq] at h
  | .non, .dic _ _, _, _, _, h | .bl _, .dic _ _, _, _, _, h | .int _, .dic _ _, _, _, _, h | .str _, .dic _ _, _, _, _, h | .tup _, .dic _ _, _, _, _, h | .lst _, .dic _ _, _, _, _, h => by simp [okq] at h
  | .non, .scr _, _, _, _, h | .bl _, .scr _, _, _, _, h | .int _, .scr _, _, _, _, h | .str _, .scr _, _, _, _, h | .tup _, .scr _, _, _, _, h | .lst _, .scr _, _, _, _, h => by simp [okq] at h
  | .non, .wd, _, _, _, h | .bl _, .wd, _, _, _, h | .int _, .wd, _, _, _, h | .str _, .wd, _, _, _, h | .tup _, .wd, _, _, _, h | .lst _, .wd, _, _, _, h => by simp [okq] at h
theorem deqs_py (hT : TOk T) : ∀ (ds es : List D) (n m : Nat), okqs ds n = true → okqs es m = true → PyData.eqvAll (toPys T ds) (toPys T es) = deqs ds es
  | [], [], _, _, _, _ => by simp [toPys, PyData.eqvAll, deqs]
  | [], _ :: _, _, _, _, _ => by simp [toPys, PyData.eqvAll, deqs]
  | _ :: _, [], _, _, _, _ => by simp [toPys, PyData.eqvAll, deqs]
  | x :: xs, y :: ys, n, m, hd, he => by
    simp only [okqs, Bool.and_eq_true] at hd he
    simp only [toPys, PyData.eqvAll, deqs]
    rw [deq_py hT x y n m hd.1 he.1, deqs_py hT xs ys n m hd.2 he.2]
end
theorem shaped_of (hT : TOk T) {d : D} (h : okq d 64 = true) : SeqAt.shaped (toPy T d) = true := by
  have := lay_of hT d 64 h
  unfold SeqAt.shaped
  rw [this.1, Bool.true_and]
  exact decide_eq_true this.2
end

/-! ### tuples made here bear no dict -/
section
variable {X : Cx}
/-- the object of a new tuple -/
def tupO (us : List Value) : Obj := { cls := .type "tuple", data := .seq us.toArray }
theorem tup_new {pins : List (Addr × Obj)} {σ : L2.St} {H : Hp} {s : Shared} {Q : VK} {zs : List V} {us : List Value} (I : Inv X pins σ H s) (rz : Vals zs us) (hz : zs.length ≤ sizeLine)
    (q : ∀ p o, H p = none → o.dict = none → Q (.ref p) (upd H p (.frz o (.tup zs)))) : EP X pins σ Q (.ref s.heap.objs.size) { s with heap := s.heap.push (tupO us) } := by
  have at_ : (s.heap.push (tupO us)).get? s.heap.objs.size = some (tupO us) := Heap.get?_push_size _ rfl
  refine ⟨.ref s.heap.objs.size, upd H s.heap.objs.size (.frz (tupO us) (.tup zs)), I.laid (t' := s.toks) (fun c oc hc => Heap.get?_push_of_some _ hc) (Nat.le_refl _) ⟨at_, hz, us, rz, ⟨_, at_, rfl, _, rfl⟩⟩, rfl, ?_⟩
  exact q _ _ (I.hok.fresh (Nat.le_refl _)) rfl
def tTupP (t : TA) : TE := fun σ H Q => t σ H fun xs H1 => xs.length ≤ sizeLine ∧ ∀ p o, H1 p = none → o.dict = none → Q (.ref p) (upd H1 p (.frz o (.tup xs)))
theorem pe_tupP {es : List Expr} {t : TA} {pos : Pos} {x1} (h : PA X es t) : PE X (.Tuple es x1 pos) (tTupP t) :=
  ⟨fun pins s σ H Q I hq => wpAny_Tuple_spliced (thn (h.run pos pins s σ H _ I hq) fun us s1 ⟨zs, H1, I1, rz, hz, q⟩ => ⟨by rw [← rz.length]; exact hz, tup_new I1 rz hz q⟩)⟩
def rTupP (K : PySem.W.Frag) : List V → Hp → VK → Prop := fun xs H Q => ∃ p zs, xs = [.ref p] ∧ ((SqL K H p zs ∧ ∀ l o, H l = none → o.dict = none → Q (.ref l) (upd H l (.frz o (.tup zs)))) ∨ (SqT K H p zs ∧ Q (.ref p) H))
theorem call_tupP : CallR X (.type "tuple") (rTupP X.K) := by
  intro pins s σ H xs us Q I rs h
  obtain ⟨p, zs, ex, h⟩ := h
  subst ex
  obtain ⟨u, eu, ru⟩ := vals1 rs
  subst eu
  cases ru
  rcases h with ⟨hl, q⟩ | ⟨ht, q⟩
  · obtain ⟨its, rz, pl, hz⟩ := I.list hl
    have el := rz.length
    refine call_tuple_list pl.isList (fun hp kp => ?_) (by simp only [List.size_toArray]; omega)
    exact tup_new (I.kept (t' := s.toks) kp) rz hz q
  · exact call_tupleT pins s σ H [.ref p] _ Q I (.cons rfl .nil) ⟨p, zs, rfl, ht, q⟩
def rSlP (K : PySem.W.Frag) : V → Option Int → Option Int → Hp → VK → Prop := fun x lo hi H Q => ∃ a zs, x = .ref a ∧ SqT K H a zs ∧
  (HT.sIx zs.length 0 lo = 0 ∧ HT.sIx zs.length zs.length hi = zs.length → Q (.ref a) H) ∧ (¬ (HT.sIx zs.length 0 lo = 0 ∧ HT.sIx zs.length zs.length hi = zs.length) → ∀ p o, H p = none → o.dict = none → Q (.ref p) (upd H p (.frz o (.tup (cutV zs lo hi)))))
theorem sl_tupP : SlR X (rSlP X.K) := by
  intro pins s σ H x v vl vu lo hi sl Q I rx hs pl pu h
  obtain ⟨a, zs, ex, ht, q1, q2⟩ := h
  by_cases hw : HT.sIx zs.length 0 lo = 0 ∧ HT.sIx zs.length zs.length hi = zs.length
  · exact sl_tupA pins s σ H x v vl vu lo hi sl Q I rx hs pl pu ⟨a, zs, ex, ht, q1, fun nw => absurd hw nw⟩
  · subst ex
    cases rx
    obtain ⟨its, rz, tt, hz⟩ := I.tuple ht
    have el : its.toArray.size = zs.length := by rw [List.size_toArray, rz.length]
    refine ⟨_, _, PyProof.Rows.slot_tuple_getitem.lookup, tt.typeIs, HT.getItem_tuple_cut tt hs pl pu (by rw [el]; exact hw) ?_ (by rw [el]; exact hz)⟩
    rw [el]
    exact tup_new I ((rz.drop _).take _) (Nat.le_trans (cutV_length zs lo hi) hz) (q2 hw)
def rCatP (K : PySem.W.Frag) : R2 := fun x y H Q => ∃ a b xs ys, x = .ref a ∧ y = .ref b ∧ SqT K H a xs ∧ SqT K H b ys ∧ xs.length + ys.length ≤ sizeLine ∧
  (xs = [] → Q (.ref b) H) ∧ (xs ≠ [] → ys = [] → Q (.ref a) H) ∧ (xs ≠ [] → ys ≠ [] → ∀ p o, H p = none → o.dict = none → Q (.ref p) (upd H p (.frz o (.tup (xs ++ ys)))))
theorem op_catP : OpR X (binaryOp .Add) (rCatP X.K) := by
  intro pins s σ H x y v u Q I rx ry h
  obtain ⟨a, b, xs, ys, ex, ey, ta, tb, hz, q0, q1, q2⟩ := h
  by_cases hx : xs = []
  · exact op_catA pins s σ H x y v u Q I rx ry ⟨a, b, xs, ys, ex, ey, ta, tb, hz, q0, q1, fun n => absurd hx n⟩
  · by_cases hy : ys = []
    · exact op_catA pins s σ H x y v u Q I rx ry ⟨a, b, xs, ys, ex, ey, ta, tb, hz, q0, q1, fun _ n => absurd hy n⟩
    · subst ex ey
      cases rx
      cases ry
      obtain ⟨i1, r1, p1, _⟩ := I.tuple ta
      obtain ⟨i2, r2, p2, _⟩ := I.tuple tb
      exact HT.cat_tup p1 p2 (fun z => hx (r1.nil_iff.mp z)) (fun z => absurd (r2.nil_iff.mp z) hy) (fun _ => tup_new I (r1.append r2) (by rw [List.length_append]; exact hz) (q2 hx hy)) (by rw [← r1.length, ← r2.length]; exact hz)
end
/-! ### binary operations -/
theorem lt_big {i : Int} (h : okI i = true) : i.natAbs < 2 ^ 8900 := by
  have := of_decide_eq_true h
  unfold big at this
  exact this
theorem len_ok {n : Nat} (h : okLen n = true) : n ≤ sizeLine := Nat.le_trans (of_decide_eq_true h) (by decide)
theorem len_lt {n : Nat} (h : okLen n = true) : n < sizeLine := Nat.lt_of_le_of_lt (of_decide_eq_true h) (by decide)
def bopO : Bop → Operator
  | .add => .Add | .sub => .Sub | .mul => .Mult | .fdiv => .FloorDiv | .mod => .Mod | .shl => .LShift | .shr => .RShift | .pow => .Pow
/-- // by any divisor below 2 ^ 9000 in size -/
def CDivN (_ j : Int) : Prop := j ≠ 0 ∧ j.natAbs.log2 < 9000
theorem op_fdivN {X : Cx} : OpR X (binaryOp .FloorDiv) (rI CDivN fun i j => .int (i.fdiv j)) := opI fun i j _ _ _ _ _ hc q => floordiv_int hc.1 q (.inl (PyProof.noPylong_of_log2 hc.2))
def bopR (K : PySem.W.Frag) : Bop → R2
  | .add => fun x y H Q => (rI0 (fun i j => .int (i + j)) x y H Q ∨ rCatP K x y H Q) ∨ rCat x y H Q
  | .sub => rI0 fun i j => .int (i - j)
  | .mul => rI CMulW fun i j => .int (i * j)
  | .fdiv => rI CDivN fun i j => .int (i.fdiv j)
  | .mod => rI (fun _ j => 0 < j) fun i j => .int (i % j)
  | .shl => rI CPow fun i j => .int (i * 2 ^ j.toNat)
  | .shr => rI (fun _ j => 0 ≤ j) fun i j => .int (i / 2 ^ j.toNat)
  | .pow => rI CPow fun i j => .int (i ^ j.toNat)
theorem bop_opr {X : Cx} : ∀ o : Bop, OpR X (binaryOp (bopO o)) (bopR X.K o)
  | .add => OpR.or (OpR.or op_add op_catP) op_cat
  | .sub => op_sub
  | .mul => op_mulW
  | .fdiv => op_fdivN
  | .mod => op_mod
  | .shl => op_shl
  | .shr => op_shr
  | .pow => op_pow
section
variable {T : Nat → Str} {K : PySem.W.Frag} {S : Addr → Prop} {wa : Option Addr} {H : Hp}
theorem hid_new {p : Addr} {o : HO} {O : Addr → Prop} {env : Env} {ω : Nat → Option Addr} {ws : WS} {σ : L2.St} (st : StR T K O wa env ω ws σ H) (n : H p = none) :
    hid (SS O ω wa) (upd H p o) p = some o := hid_of upd_same (st.fresh n)
theorem hid_newS {p : Addr} {o : HO} {O : Addr → Prop} {env : Env} {ω : Nat → Option Addr} {ws : WS} {σ : L2.St} (st : StR T K O wa env ω ws σ H) (n : H p = none) :
    Same (hid (SS O ω wa) H) (hid (SS O ω wa) (upd H p o)) := hid_mono (fun a u _ q => new_same n a u q) fun _ q => q
end
theorem bop_ok {T : Nat → Str} {K : PySem.W.Frag} (o : Bop) : ROk T K (bopR K o) (fun _ => bop o) := by
  intro O wa env ω ws σ H x y d1 d2 z Q st r1 r2 e k
  dsimp only at e
  cases o with
  | add =>
    unfold bop at e
    split at e
    all_goals first | (rename_i h; cases h; done) | skip
    · cases e
      rename_i i j _
      exact .inl (.inl ⟨i, j, r1.int, r2.int, k _ H (fun _ _ h => h) (.int _)⟩)
    · rename_i xs ys _
      split at e
      · rename_i hl
        cases e
        obtain ⟨a, vs, rfl, h1, h1', q1⟩ := r1.tup
        obtain ⟨b, us, rfl, h2, h2', q2⟩ := r2.tup
        refine .inl (.inr ⟨a, b, vs, us, rfl, rfl, h1, h2, ?_, fun e => ?_, fun e e' => ?_, fun e e' p o n nd => ?_⟩)
        · rw [← q1.len, ← q2.len]; exact len_ok hl
        · subst e
          cases q1
          exact k _ H (fun _ _ h => h) (.tup h2' (by simpa using q2))
        · subst e'
          cases q2
          exact k _ H (fun _ _ h => h) (.tup h1' (by simpa using q1))
        · exact k _ _ (new_same n) (.tup (.inl ⟨o, hid_new st n, nd⟩) ((q1.app q2).mono (hid_newS st n)))
      · cases e
    · rename_i xs ys _
      split at e
      · rename_i hl
        cases e
        obtain ⟨a, vs, rfl, h1, q1⟩ := r1.lst
        obtain ⟨b, us, rfl, h2, q2⟩ := r2.lst
        refine .inr ⟨a, b, vs, us, rfl, rfl, h1, h2, ?_, fun p n => ?_⟩
        · rw [← q1.len, ← q2.len]; exact len_ok hl
        · exact k _ _ (new_same n) (.lst (hid_new st n) ((q1.app q2).mono (hid_newS st n)))
      · cases e
    all_goals cases e
  | sub =>
    cases d1 <;> cases d2 <;> simp only [bop] at e <;> try cases e
    exact ⟨_, _, r1.int, r2.int, k _ H (fun _ _ h => h) (.int _)⟩
  | mul =>
    cases d1 <;> cases d2 <;> simp only [bop] at e <;> try cases e
    split at e
    · rename_i hl
      rw [Bool.and_eq_true] at hl
      cases e
      exact ⟨_, _, r1.int, r2.int, wide_mul (lt_big hl.1) (lt_big hl.2) (by decide) (by decide) (by decide), k _ H (fun _ _ h => h) (.int _)⟩
    · cases e
  | fdiv =>
    cases d1 <;> cases d2 <;> simp only [bop] at e <;> try cases e
    split at e
    · rename_i hl
      rw [Bool.and_eq_true] at hl
      cases e
      have h1 := of_decide_eq_true hl.1
      exact ⟨_, _, r1.int, r2.int, ⟨by omega, Nat.lt_of_lt_of_le (PySem.Flt.log2_lt_of (by decide) (lt_big hl.2)) (by decide)⟩, k _ H (fun _ _ h => h) (by dsimp only; rw [Int.fdiv_eq_ediv_of_nonneg _ (by omega)]; exact .int _)⟩
    · split at e
      · rename_i hl
        rw [Bool.and_eq_true] at hl
        cases e
        have h1 := of_decide_eq_true hl.1
        exact ⟨_, _, r1.int, r2.int, ⟨by omega, Nat.lt_of_lt_of_le (PySem.Flt.log2_lt_of (by decide) (lt_big hl.2)) (by decide)⟩, k _ H (fun _ _ h => h) (.int _)⟩
      · cases e
  | mod =>
    cases d1 <;> cases d2 <;> simp only [bop] at e <;> try cases e
    split at e
    · rename_i hl
      cases e
      exact ⟨_, _, r1.int, r2.int, of_decide_eq_true hl, k _ H (fun _ _ h => h) (.int _)⟩
    · cases e
  | shl =>
    cases d1 <;> cases d2 <;> simp only [bop] at e <;> try cases e
    split at e
    · rename_i hl
      rw [Bool.and_eq_true, Bool.and_eq_true, decide_eq_true_eq, decide_eq_true_eq, decide_eq_true_eq] at hl
      cases e
      exact ⟨_, _, r1.int, r2.int, ⟨hl.1.1, by omega, hl.2⟩, k _ H (fun _ _ h => h) (.int _)⟩
    · cases e
  | shr =>
    cases d1 <;> cases d2 <;> simp only [bop] at e <;> try cases e
    split at e
    · rename_i hl
      cases e
      exact ⟨_, _, r1.int, r2.int, of_decide_eq_true hl, k _ H (fun _ _ h => h) (.int _)⟩
    · cases e
  | pow =>
    cases d1 <;> cases d2 <;> simp only [bop] at e <;> try cases e
    split at e
    · rename_i hl
      rw [Bool.and_eq_true, Bool.and_eq_true, decide_eq_true_eq, decide_eq_true_eq, decide_eq_true_eq] at hl
      cases e
      exact ⟨_, _, r1.int, r2.int, ⟨hl.1.1, by omega, hl.2⟩, k _ H (fun _ _ h => h) (.int _)⟩
    · cases e
end Pv

set_option Elab.async false
set_option linter.all false
set_option maxRecDepth 100000
set_option maxHeartbeats 4000000
/-! Pv4: keys and dicts, comparisons, subscripts, slices. -/
namespace Pv
open PySem PySem.Spec PyProof.Rows L2

section
variable {T : Nat → Str} {K : PySem.W.Frag} {wa : Option Addr} {H hH : Hp}
/-! ### keys -/
theorem isK_key : ∀ {k : D}, isK k = true → ∃ q, keyOf T k = some q
  | .int i, _ => ⟨_, rfl⟩
  | .str n, h => ⟨.inr (T n), by simp only [keyOf]; exact if_pos (of_decide_eq_true h)⟩
  | .non, h | .bl _, h | .tup _, h | .lst _, h | .dic _ _, h | .scr _, h | .wd, h => by simp [isK] at h
theorem key_rep {k : D} {q : Key} {v : V} (h : keyOf T k = some q) (r : RepB T K wa hH H k v) : v = kV q := by
  cases k <;> simp only [keyOf] at h <;> try cases h
  · exact r.int
  · split at h
    · cases h; exact r.str
    · cases h
theorem keq_key (hT : TOk T) {k x : D} {p q : Key} (hk : keyOf T k = some p) (hx : keyOf T x = some q) : keq k x = decide (p = q) := by
  cases k <;> simp only [keyOf] at hk <;> try cases hk
  · cases x <;> simp only [keyOf] at hx <;> try cases hx
    · rename_i i j
      simp only [keq]
      by_cases e : i = j
      · subst e; simp
      · simp [e]
    · split at hx
      · cases hx; simp [keq]
      · cases hx
  · split at hk
    · rename_i i hi
      cases hk
      cases x <;> simp only [keyOf] at hx <;> try cases hx
      · simp [keq]
      · split at hx
        · rename_i j hj
          cases hx
          simp only [keq]
          by_cases e : i = j
          · subst e; simp
          · have : T i ≠ T j := fun z => e (hT.inj _ _ hi hj z)
            simp [e, this]
        · cases hx
    · cases hk
theorem dget_ok (hT : TOk T) {x : D} {q : Key} (hx : keyOf T x = some q) : ∀ {ks ds : List D} {kvs : List (Key × V)}, ks.map (keyOf T) = kvs.map (fun p => some p.1) → Reps T K wa H ds (kvs.map (·.2)) →
    (∀ d, dget ks ds x = some d → ∃ v, valV kvs q = some v ∧ Rep T K wa H d v) ∧ (dget ks ds x = none → valV kvs q = none)
  | [], _, [], _, _ => ⟨fun d h => by simp [dget] at h, fun _ => rfl⟩
  | [], _, _ :: _, h, _ => by simp at h
  | _ :: _, _, [], h, _ => by simp at h
  | k :: ks, ds, p :: kvs, h, r => by
    simp only [List.map_cons, List.cons.injEq] at h
    cases r with
    | cons r t =>
      have ih := dget_ok hT hx h.2 t
      have e := keq_key hT h.1 hx
      by_cases c : p.1 = q
      · rw [decide_eq_true c] at e
        simp only [dget, e, if_true]
        refine ⟨fun d h => ?_, fun h => by cases h⟩
        cases h
        exact ⟨p.2, valV_pos c, r⟩
      · rw [decide_eq_false c] at e
        simp only [dget, e]
        rw [valV_neg c]
        exact ih
theorem has_any (hT : TOk T) {x : D} {q : Key} (hx : keyOf T x = some q) : ∀ {ks : List D} {kvs : List (Key × V)}, ks.map (keyOf T) = kvs.map (fun p => some p.1) →
    has ks x = kvs.any fun kv => decide (kv.1 = q)
  | [], [], _ => rfl
  | [], _ :: _, h => by simp at h
  | _ :: _, [], h => by simp at h
  | k :: ks, p :: kvs, h => by
    simp only [List.map_cons, List.cons.injEq] at h
    have ih := has_any hT hx h.2
    have e := keq_key hT h.1 hx
    unfold has at ih ⊢
    rw [List.any_cons, List.any_cons, e, ih]
theorem repl_ok (hT : TOk T) {x y : D} {v : V} {q : Key} (hx : keyOf T x = some q) (ry : Rep T K wa H y v) : ∀ {ks ds : List D} {kvs : List (Key × V)}, ks.map (keyOf T) = kvs.map (fun p => some p.1) → Reps T K wa H ds (kvs.map (·.2)) →
    Reps T K wa H (repl ks ds x y) ((kvs.map (fun kv => if kv.1 = q then (kv.1, v) else kv)).map (·.2))
  | [], _, [], _, r => by simpa [repl] using r
  | [], _, _ :: _, h, _ => by simp at h
  | _ :: _, _, [], h, _ => by simp at h
  | k :: ks, ds, p :: kvs, h, r => by
    simp only [List.map_cons, List.cons.injEq] at h
    cases r with
    | cons r t =>
      have ih := repl_ok hT hx ry h.2 t
      have e := keq_key hT h.1 hx
      simp only [repl, List.map_cons]
      refine .cons ?_ ih
      by_cases c : p.1 = q
      · rw [e, decide_eq_true c, if_pos rfl, if_pos c]; exact ry
      · rw [e, decide_eq_false c, if_neg (by decide), if_neg c]; exact r
theorem put_ok (hT : TOk T) {x y : D} {v : V} {q : Key} (hx : keyOf T x = some q) (ry : Rep T K wa H y v) {ks ds : List D} {kvs : List (Key × V)} (h : ks.map (keyOf T) = kvs.map (fun p => some p.1)) (r : Reps T K wa H ds (kvs.map (·.2))) :
    (dputK ks x).map (keyOf T) = (putK kvs q v).map (fun p => some p.1) ∧ Reps T K wa H (dputV ks ds x y) ((putK kvs q v).map (·.2)) := by
  have e := has_any hT hx h
  unfold dputK dputV putK
  by_cases c : (kvs.any fun kv => decide (kv.1 = q)) = true
  · rw [e, if_pos c, if_pos c, if_pos c]
    refine ⟨?_, repl_ok hT hx ry h r⟩
    rw [h, List.map_map]
    refine List.map_congr_left fun p _ => ?_
    show some p.1 = some (if p.1 = q then (p.1, v) else p).1
    split <;> rfl
  · rw [e, if_neg c, if_neg c, if_neg c]
    refine ⟨?_, ?_⟩
    · rw [List.map_append, List.map_append, h, List.map_singleton, List.map_singleton, hx]
    · rw [List.map_append]
      exact r.app (.cons ry .nil)
theorem dput_len (ks : List D) (x : D) : (dputK ks x).length ≤ ks.length + 1 := by
  unfold dputK
  split
  · exact Nat.le_succ _
  · simp
/-! ### flat values -/
theorem flat_rep {d : D} {v : V} (r : RepB T K wa hH H d v) (f : isFlat d = true) : flatV v = true := by
  cases d <;> simp only [isFlat] at f <;> try cases f
  · rw [r.non]; rfl
  · rw [r.bl]; rfl
  · rw [r.int]; rfl
  · rw [r.str]; rfl
theorem flat_eq (hT : TOk T) {wa' : Option Addr} {hH' H' : Hp} {d e : D} {v u : V} (r : RepB T K wa hH H d v) (r' : RepB T K wa' hH' H' e u) (f : isFlat d = true) (f' : isFlat e = true) : eqV v u = deq d e := by
  cases d <;> simp only [isFlat] at f <;> try cases f
  all_goals (cases e <;> simp only [isFlat] at f' <;> try cases f')
  all_goals first
    | rw [r.non, r'.non] | rw [r.non, r'.bl] | rw [r.non, r'.int] | rw [r.non, r'.str]
    | rw [r.bl, r'.non] | rw [r.bl, r'.bl] | rw [r.bl, r'.int] | rw [r.bl, r'.str]
    | rw [r.int, r'.non] | rw [r.int, r'.bl] | rw [r.int, r'.int] | rw [r.int, r'.str]
    | rw [r.str, r'.non] | rw [r.str, r'.bl] | rw [r.str, r'.int] | rw [r.str, r'.str]
  all_goals simp only [eqV, deq]
  · exact Bool.beq_eq_decide_eq _ _
  · rename_i i j
    simp only [decide_eq_true_eq] at f f'
    by_cases c : i = j
    · subst c; simp
    · have : T i ≠ T j := fun z => c (hT.inj _ _ f f' z)
      simp [c, this]
theorem flat_in (hT : TOk T) {x : D} {v : V} (rx : RepB T K wa hH H x v) (fx : isFlat x = true) : ∀ {ys : List D} {us : List V}, Reps T K wa H ys us → ys.all isFlat = true →
    us.all flatV = true ∧ inV v us = ys.any fun y => deq y x
  | _, _, .nil, _ => ⟨rfl, rfl⟩
  | y :: ys, u :: us, .cons r t, f => by
    rw [List.all_cons, Bool.and_eq_true] at f
    have ih := flat_in hT rx fx t f.2
    have r' : RepB T K wa H H y u := .inl r
    refine ⟨?_, ?_⟩
    · rw [List.all_cons, flat_rep r' f.1, ih.1]; rfl
    · have h2 := ih.2
      unfold inV at h2 ⊢
      rw [List.any_cons, List.any_cons, flat_eq hT r' rx f.1 fx, h2]
end

/-! ### comparisons -/
def copO : Cop → CmpOp
  | .eq => .Eq | .ne => .NotEq | .lt => .Lt | .le => .LtE | .gt => .Gt | .ge => .GtE | .isN => .Is | .notN => .IsNot | .isB => .Is | .notB => .IsNot | .isin => .In | .notin => .NotIn
def rDI (neg : Bool) : R2 := fun x y H Q => ∃ a o, y = .ref a ∧ DGet H a x o ∧ Q (.bl (if neg then !o.isSome else o.isSome)) H
theorem op_dI {X : Cx} (hu : X.A.units + 1 < cLine) : OpR X (compareOp .In) (rDI false) := by
  intro pins s σ H x y v u Q I rx ry h
  obtain ⟨a, o, rfl, g, q⟩ := h
  cases ry
  exact d_in hu I g rx fun s' I' => ⟨.bl o.isSome, H, I', rfl, q⟩
theorem op_dNI {X : Cx} (hu : X.A.units + 1 < cLine) : OpR X (compareOp .NotIn) (rDI true) := by
  intro pins s σ H x y v u Q I rx ry h
  obtain ⟨a, o, rfl, g, q⟩ := h
  cases ry
  exact d_notIn hu I g rx fun s' I' => ⟨.bl (!o.isSome), H, I', rfl, q⟩
/-! x in t where the tuple's items are data of any depth -/
def rInT (K : PySem.W.Frag) : R2 := fun x y H Q => ∃ d ds, Dp K H x d ∧ Dp K H y (.tuple ds) ∧ SeqAt.shaped d = true ∧ SeqAt.shaped (.tuple ds) = true ∧ Q (.bl (ds.any fun z => PyData.eqv z d)) H
def rNotInT (K : PySem.W.Frag) : R2 := fun x y H Q => ∃ d ds, Dp K H x d ∧ Dp K H y (.tuple ds) ∧ SeqAt.shaped d = true ∧ SeqAt.shaped (.tuple ds) = true ∧ Q (.bl (!ds.any fun z => PyData.eqv z d)) H
theorem room_T {A : Around} {d : PyData} {ds : List PyData} (sd : SeqAt.shaped d = true) (hu : A.units + 65 < cLine) : A.units + 1 + min (PyData.depthAll ds) d.depth < cLine := by
  have h : d.depth ≤ 64 := by
    unfold SeqAt.shaped at sd
    exact of_decide_eq_true (Bool.and_eq_true_iff.mp sd).2
  have := Nat.min_le_right (PyData.depthAll ds) d.depth
  omega
theorem op_inT {X : Cx} (hu : X.A.units + 65 < cLine) : OpR X (compareOp .In) (rInT X.K) := by
  intro pins s σ H x y v u Q I rx ry h
  obtain ⟨d, ds, hd, he, sd, se, q⟩ := h
  obtain ⟨as, r1⟩ := Dp.reads I d x v hd rx
  obtain ⟨bs, r2⟩ := Dp.reads I (.tuple ds) y u he ry
  exact SeqAt.in_tuple_reads r2 r1 (by have := SeqAt.canLay_of_shaped se; simpa [PyData.canLay0] using this) (SeqAt.canLay_of_shaped sd) (room_T sd hu) ⟨.bl _, H, I, rfl, q⟩
theorem op_notInT {X : Cx} (hu : X.A.units + 65 < cLine) : OpR X (compareOp .NotIn) (rNotInT X.K) := by
  intro pins s σ H x y v u Q I rx ry h
  obtain ⟨d, ds, hd, he, sd, se, q⟩ := h
  obtain ⟨as, r1⟩ := Dp.reads I d x v hd rx
  obtain ⟨bs, r2⟩ := Dp.reads I (.tuple ds) y u he ry
  exact SeqAt.notIn_tuple_reads r2 r1 (by have := SeqAt.canLay_of_shaped se; simpa [PyData.canLay0] using this) (SeqAt.canLay_of_shaped sd) (room_T sd hu) ⟨.bl _, H, I, rfl, q⟩
def copR (K : PySem.W.Frag) : Cop → R2
  | .eq => rEqD K
  | .ne => rNeD K
  | .lt => rI0 fun i j => .bl (decide (i < j))
  | .le => rI0 fun i j => .bl (decide (i ≤ j))
  | .gt => rI0 fun i j => .bl (decide (j < i))
  | .ge => rI0 fun i j => .bl (decide (j ≤ i))
  | .isN => rIsB
  | .notN => rNotB
  | .isB => rIsB
  | .notB => rNotB
  | .isin => fun x y H Q => (rIn K false x y H Q ∨ rDI false x y H Q) ∨ rInD K x y H Q ∨ rInT K x y H Q
  | .notin => fun x y H Q => (rIn K true x y H Q ∨ rDI true x y H Q) ∨ rNotInD K x y H Q ∨ rNotInT K x y H Q
theorem cop_opr {X : Cx} (hu : X.A.units + 65 < cLine) : ∀ o : Cop, OpR X (compareOp (copO o)) (copR X.K o)
  | .eq => op_eqD (by omega)
  | .ne => op_neD (by omega)
  | .lt => op_lt
  | .le => op_le
  | .gt => op_gt
  | .ge => op_ge
  | .isN => op_isBl
  | .notN => op_notBl
  | .isB => op_isBl
  | .notB => op_notBl
  | .isin => OpR.or (OpR.or op_in_seq (op_dI (by omega))) (OpR.or (op_inD hu) (op_inT hu))
  | .notin => OpR.or (OpR.or op_notIn_seq (op_dNI (by omega))) (OpR.or (op_notInD hu) (op_notInT hu))
def copD (o : Cop) (x y : D) : Option D := match cop o x y with
  | none => none
  | some z => some (.bl z)
theorem dget_of {T : Nat → Str} (hT : TOk T) {K : PySem.W.Frag} {wa : Option Addr} {H hH : Hp} {x : D} {v : V} {a : Addr} {ks ds : List D} {kvs : List (Key × V)} (rx : RepB T K wa hH H x v) (k : isK x = true) (h : H a = some (.dK kvs))
    (hk : ks.map (keyOf T) = kvs.map (fun p => some p.1)) (r : Reps T K wa hH ds (kvs.map (·.2))) :
    ∃ o, DGet H a v o ∧ (∀ d, dget ks ds x = some d → ∃ u, o = some u ∧ Rep T K wa hH d u) ∧ (dget ks ds x = none → o = none) ∧ o.isSome = has ks x := by
  obtain ⟨q, hq⟩ := isK_key (T := T) k
  have ev := key_rep hq rx
  subst ev
  have h1 := dget_ok hT hq hk r
  refine ⟨_, DGet.k h, h1.1, h1.2, ?_⟩
  rw [← valV_any, has_any hT hq hk]
theorem any_py {T : Nat → Str} (hT : TOk T) {x : D} (hx : okq x 64 = true) : ∀ {ys : List D}, okqs ys 63 = true → ((toPys T ys).any fun z => PyData.eqv z (toPy T x)) = ys.any fun y => deq y x
  | [], _ => by simp [toPys]
  | y :: ys, h => by
    simp only [okqs, Bool.and_eq_true] at h
    simp only [toPys, List.any_cons, deq_py hT y x _ _ h.1 hx, any_py hT hx h.2]
theorem cop_ok {T : Nat → Str} (hT : TOk T) {K : PySem.W.Frag} (o : Cop) : ROk T K (copR K o) (fun _ => copD o) := by
  intro O wa env ω ws σ H x y d1 d2 z Q st r1 r2 e k
  dsimp only [copD] at e
  split at e
  · cases e
  rename_i b eb
  cases e
  cases o with
  | eq =>
    simp only [cop] at eb
    split at eb
    · rename_i hl
      rw [Bool.and_eq_true] at hl
      cases eb
      refine ⟨_, _, dp_of r1.rep hl.1, dp_of r2.rep hl.2, shaped_of hT hl.1, shaped_of hT hl.2, ?_⟩
      rw [deq_py hT _ _ _ _ hl.1 hl.2]
      exact k _ H (fun _ _ h => h) (.bl _)
    · cases eb
  | ne =>
    simp only [cop] at eb
    split at eb
    · rename_i hl
      rw [Bool.and_eq_true] at hl
      cases eb
      refine ⟨_, _, dp_of r1.rep hl.1, dp_of r2.rep hl.2, shaped_of hT hl.1, shaped_of hT hl.2, ?_⟩
      rw [deq_py hT _ _ _ _ hl.1 hl.2]
      exact k _ H (fun _ _ h => h) (.bl _)
    · cases eb
  | lt =>
    cases d1 <;> cases d2 <;> simp only [cop] at eb <;> cases eb
    exact ⟨_, _, r1.int, r2.int, k _ H (fun _ _ h => h) (.bl _)⟩
  | le =>
    cases d1 <;> cases d2 <;> simp only [cop] at eb <;> cases eb
    exact ⟨_, _, r1.int, r2.int, k _ H (fun _ _ h => h) (.bl _)⟩
  | gt =>
    cases d1 <;> cases d2 <;> simp only [cop] at eb <;> cases eb
    exact ⟨_, _, r1.int, r2.int, k _ H (fun _ _ h => h) (.bl _)⟩
  | ge =>
    cases d1 <;> cases d2 <;> simp only [cop] at eb <;> cases eb
    exact ⟨_, _, r1.int, r2.int, k _ H (fun _ _ h => h) (.bl _)⟩
  | isN => simp [cop] at eb
  | notN => simp [cop] at eb
  | isB =>
    cases d1 <;> cases d2 <;> simp only [cop] at eb <;> cases eb
    exact ⟨_, _, r1.bl, r2.bl, k _ H (fun _ _ h => h) (.bl _)⟩
  | notB =>
    cases d1 <;> cases d2 <;> simp only [cop] at eb <;> cases eb
    exact ⟨_, _, r1.bl, r2.bl, k _ H (fun _ _ h => h) (.bl _)⟩
  | isin =>
    cases d2 <;> simp only [cop] at eb <;> try cases eb
    · split at eb
      · rename_i hl
        rw [Bool.and_eq_true] at hl
        cases eb
        obtain ⟨a, us, rfl, h1, h1', q1⟩ := r2.tup
        have h3 := flat_in hT (.inl r1.rep) hl.1 (q1.mono hid_le) hl.2
        refine .inl (.inl ⟨a, us, rfl, .inr h1, flat_rep r1 hl.1, h3.1, ?_⟩)
        rw [if_neg (by decide), h3.2]
        exact k _ H (fun _ _ h => h) (.bl _)
      · split at eb
        · rename_i hl
          rw [Bool.and_eq_true] at hl
          cases eb
          have o2 : okq (.tup _) 64 = true := hl.2
          refine .inr (.inr ⟨_, _, dp_of r1.rep hl.1, (by have := dp_of (T := T) r2.rep o2; simp only [toPy] at this; exact this), shaped_of hT hl.1, (by have := shaped_of hT o2; simp only [toPy] at this; exact this), ?_⟩)
          rw [any_py hT hl.1 hl.2]
          exact k _ H (fun _ _ h => h) (.bl _)
        · cases eb
    · split at eb
      · rename_i hl
        rw [Bool.and_eq_true] at hl
        cases eb
        obtain ⟨a, us, rfl, h1, q1⟩ := r2.lst
        have h3 := flat_in hT (.inl r1.rep) hl.1 (q1.mono hid_le) hl.2
        refine .inl (.inl ⟨a, us, rfl, .inl (.inl (.inl h1)), flat_rep r1 hl.1, h3.1, ?_⟩)
        rw [if_neg (by decide), h3.2]
        exact k _ H (fun _ _ h => h) (.bl _)
      · split at eb
        · rename_i hl
          rw [Bool.and_eq_true] at hl
          cases eb
          have o2 : okq (.lst _) 64 = true := hl.2
          refine .inr (.inl ⟨_, _, dp_of r1.rep hl.1, (by have := dp_of (T := T) r2.rep o2; simp only [toPy] at this; exact this), shaped_of hT hl.1, (by have := shaped_of hT o2; simp only [toPy] at this; exact this), ?_⟩)
          rw [any_py hT hl.1 hl.2]
          exact k _ H (fun _ _ h => h) (.bl _)
        · cases eb
    · split at eb
      · rename_i hl
        cases eb
        obtain ⟨a, kvs, rfl, h1, h2, q1⟩ := r2.dic
        obtain ⟨o, g, _, _, h5⟩ := dget_of hT r1 hl h1 h2 q1
        refine .inl (.inr ⟨a, o, rfl, g, ?_⟩)
        rw [if_neg (by decide), h5]
        exact k _ H (fun _ _ h => h) (.bl _)
      · cases eb
  | notin =>
    cases d2 <;> simp only [cop] at eb <;> try cases eb
    · split at eb
      · rename_i hl
        rw [Bool.and_eq_true] at hl
        cases eb
        obtain ⟨a, us, rfl, h1, h1', q1⟩ := r2.tup
        have h3 := flat_in hT (.inl r1.rep) hl.1 (q1.mono hid_le) hl.2
        refine .inl (.inl ⟨a, us, rfl, .inr h1, flat_rep r1 hl.1, h3.1, ?_⟩)
        rw [if_pos rfl, h3.2]
        exact k _ H (fun _ _ h => h) (.bl _)
      · split at eb
        · rename_i hl
          rw [Bool.and_eq_true] at hl
          cases eb
          have o2 : okq (.tup _) 64 = true := hl.2
          refine .inr (.inr ⟨_, _, dp_of r1.rep hl.1, (by have := dp_of (T := T) r2.rep o2; simp only [toPy] at this; exact this), shaped_of hT hl.1, (by have := shaped_of hT o2; simp only [toPy] at this; exact this), ?_⟩)
          rw [any_py hT hl.1 hl.2]
          exact k _ H (fun _ _ h => h) (.bl _)
        · cases eb
    · split at eb
      · rename_i hl
        rw [Bool.and_eq_true] at hl
        cases eb
        obtain ⟨a, us, rfl, h1, q1⟩ := r2.lst
        have h3 := flat_in hT (.inl r1.rep) hl.1 (q1.mono hid_le) hl.2
        refine .inl (.inl ⟨a, us, rfl, .inl (.inl (.inl h1)), flat_rep r1 hl.1, h3.1, ?_⟩)
        rw [if_pos rfl, h3.2]
        exact k _ H (fun _ _ h => h) (.bl _)
      · split at eb
        · rename_i hl
          rw [Bool.and_eq_true] at hl
          cases eb
          have o2 : okq (.lst _) 64 = true := hl.2
          refine .inr (.inl ⟨_, _, dp_of r1.rep hl.1, (by have := dp_of (T := T) r2.rep o2; simp only [toPy] at this; exact this), shaped_of hT hl.1, (by have := shaped_of hT o2; simp only [toPy] at this; exact this), ?_⟩)
          rw [any_py hT hl.1 hl.2]
          exact k _ H (fun _ _ h => h) (.bl _)
        · cases eb
    · split at eb
      · rename_i hl
        cases eb
        obtain ⟨a, kvs, rfl, h1, h2, q1⟩ := r2.dic
        obtain ⟨o, g, _, _, h5⟩ := dget_of hT r1 hl h1 h2 q1
        refine .inl (.inr ⟨a, o, rfl, g, ?_⟩)
        rw [if_pos rfl, h5]
        exact k _ H (fun _ _ h => h) (.bl _)
      · cases eb

/-! ### is None -/
theorem isNone_rep {T : Nat → Str} {K : PySem.W.Frag} {wa : Option Addr} {hH H : Hp} {d : D} {v : V} (r : RepB T K wa hH H d v) : decide (v = V.non) = isNone d := by
  rcases r with r | ⟨a, rfl, _, _⟩
  · cases r <;> rfl
  · cases d <;> first | rfl | (rename_i h; exact h.elim)

/-! ### subscripts -/
def ixR (K : PySem.W.Frag) : R2 := fun x y H Q => rIxL K x y H Q ∨ rIxT K x y H Q
theorem ix_okr {X : Cx} : IxR X (ixR X.K) := IxR.or ix_list ix_tup
def ixS : D → D → Option D
  | .tup xs, .int i => atD xs i
  | .lst xs, .int i => atD xs i
  | .scr ns, .int i => (L2.atI ns i).map .int
  | _, _ => none
theorem at_rep {T : Nat → Str} {K : PySem.W.Frag} {wa : Option Addr} {H : Hp} {ds : List D} {vs : List V} {i : Int} {d : D} (r : Reps T K wa H ds vs) (h : atD ds i = some d) : ∃ v, atI vs i = some v ∧ Rep T K wa H d v := by
  unfold atD atI at h
  cases e : ixN ds.length i with
  | none => rw [e] at h; cases h
  | some j =>
    rw [e] at h
    obtain ⟨v, h1, h2⟩ := r.get (i := j) h
    refine ⟨v, ?_, h2⟩
    unfold atI
    rw [← r.len, e]
    exact h1
theorem ix_ok {T : Nat → Str} {K : PySem.W.Frag} : ROk T K (ixR K) (fun _ => ixS) := by
  intro O wa env ω ws σ H x y d1 d2 z Q st r1 r2 e k
  dsimp only at e
  unfold ixS at e
  split at e
  · obtain ⟨a, us, rfl, h1, h1', q1⟩ := r1.tup
    obtain ⟨v, h2, h3⟩ := at_rep q1 e
    exact .inr ⟨a, us, _, v, rfl, r2.int, h1, h2, k v H (fun _ _ h => h) h3⟩
  · obtain ⟨a, us, rfl, h1, q1⟩ := r1.lst
    obtain ⟨v, h2, h3⟩ := at_rep q1 e
    exact .inl ⟨a, us, _, v, rfl, r2.int, .inl (.inl h1), h2, k v H (fun _ _ h => h) h3⟩
  · rename_i ns i
    obtain ⟨a, rfl, h1⟩ := r1.scr
    obtain ⟨n, h2, rfl⟩ := Option.map_eq_some_iff.mp e
    refine .inl ⟨a, _, _, .int n, rfl, r2.int, h1, ?_, k _ H (fun _ _ h => h) (.int n)⟩
    unfold atI at h2 ⊢
    rw [List.length_map]
    cases c : ixN ns.length i with
    | none => rw [c] at h2; cases h2
    | some j =>
      rw [c] at h2
      show (ns.map V.int)[j]? = some (V.int n)
      rw [List.getElem?_map, show ns[j]? = some n from h2]
      rfl
  · cases e
def rDG : R2 := fun x y H Q => ∃ a v, x = .ref a ∧ DGet H a y (some v) ∧ Q v H
def ixG (ws : WS) : D → D → Option D
  | .dic ks vs, k => if isK k then dget ks vs k else none
  | .wd, .str k => match ws with
    | some kvs => wg kvs k
    | none => none
  | _, _ => none
theorem wg_ok {T : Nat → Str} (hT : TOk T) {K : PySem.W.Frag} {wa : Option Addr} {H : Hp} {n : Nat} {d : D} (hn : n < 512) : ∀ {kvs : List (Nat × D)} {kv' : List (Key × V)}, kvs.map (fun p => (Sum.inr (T p.1) : Key)) = kv'.map (·.1) → (∀ p ∈ kvs, p.1 < 512) →
    Reps T K wa H (kvs.map (·.2)) (kv'.map (·.2)) → wg kvs n = some d → ∃ v, valV kv' (Sum.inr (T n)) = some v ∧ Rep T K wa H d v
  | [], _, _, _, _, h => by simp [wg] at h
  | _ :: _, [], h, _, _, _ => by simp at h
  | p :: kvs, q :: kv', h, hm, r, e => by
    simp only [List.map_cons, List.cons.injEq] at h
    cases r with
    | cons r t =>
      simp only [wg] at e
      split at e
      · rename_i c
        cases e
        exact ⟨q.2, valV_pos (by rw [← h.1, c]), r⟩
      · rename_i c
        have ne : ¬ q.1 = Sum.inr (T n) := fun z => by
          rw [← h.1] at z
          exact c (hT.inj _ _ (hm p List.mem_cons_self) hn (Sum.inr.inj z))
        rw [valV_neg ne]
        exact wg_ok hT hn h.2 (fun x hx => hm x (List.mem_cons_of_mem _ hx)) t e
theorem wg_mem : ∀ {kvs : List (Nat × D)} {n : Nat} {d : D}, wg kvs n = some d → ∃ p ∈ kvs, p.1 = n
  | [], _, _, h => by simp [wg] at h
  | p :: r, n, d, h => by
    simp only [wg] at h
    split at h
    · rename_i c; exact ⟨p, List.mem_cons_self, c⟩
    · obtain ⟨q, h1, h2⟩ := wg_mem h
      exact ⟨q, List.mem_cons_of_mem _ h1, h2⟩
theorem ixG_ok {T : Nat → Str} (hT : TOk T) {K : PySem.W.Frag} : ROk T K rDG ixG := by
  intro O wa env ω ws σ H x y d1 d2 z Q st r1 r2 e k
  unfold ixG at e
  split at e
  · split at e
    · rename_i hl
      obtain ⟨a, kvs, rfl, h1, h2, q1⟩ := r1.dic
      obtain ⟨o, g, h3, _, _⟩ := dget_of hT r2 hl h1 h2 q1
      obtain ⟨u, rfl, h4⟩ := h3 _ e
      exact ⟨a, u, rfl, g, k u H (fun _ _ h => h) h4⟩
    · cases e
  · split at e
    · rename_i kvs
      obtain ⟨a, rfl, ea⟩ := r1.wd
      have w := st.wsr
      subst ea
      obtain ⟨kv', h1, h2, h3, h4⟩ := w
      obtain ⟨p, hp, ep⟩ := wg_mem e
      obtain ⟨v, h5, h6⟩ := wg_ok hT (by rw [← ep]; exact h3 p hp) h2 h3 h4 e
      refine ⟨a, v, rfl, ?_, k v H (fun _ _ h => h) h6⟩
      rw [r2.str, ← h5]
      exact DGet.k (k := Sum.inr _) h1
    · cases e
  · cases e
end Pv

set_option Elab.async false
set_option linter.all false
set_option maxRecDepth 100000
set_option maxHeartbeats 4000000
/-! Pv5: slices, calls of built-ins, displays, arguments, tests. -/
namespace Pv
open PySem PySem.Spec PyProof.Rows L2

/-! ### slices -/
def tP (T : Nat → Str) (K : PySem.W.Frag) (n : Bool) (f : EvF) : TO := fun σ H Q => ∃ O wa env ω ws d o ws', StR T K O wa env ω ws σ H ∧ f env ws = some (d, ws') ∧ bnd n d = some o ∧
  ∀ H', StR T K O wa env ω ws' σ H' → Stp wa H H' → Q o H'
def sl3 (fa fl fh : EvF) (n1 n2 : Bool) : EvF := fun env ws => match fa env ws with
  | none => none
  | some (x, ws1) => match fl env ws1 with
    | none => none
    | some (l, ws2) => match fh env ws2 with
      | none => none
      | some (h, ws3) => match bnd n1 l with
        | none => none
        | some lo' => match bnd n2 h with
          | none => none
          | some hi' => match slD x lo' hi' with
            | none => none
            | some z => some (z, ws3)
section
variable {T : Nat → Str} {X : Cx} {e a b c : Expr} {fa fb fc fl fh : EvF} {pos p2 : Pos} {lo hi : Option Expr} {n1 n2 : Bool}
theorem PO.mono {e : Option Expr} {t t' : TO} (h : PO X e t) (m : ∀ σ H Q, t' σ H Q → t σ H Q) : PO X e t' := ⟨fun pins s σ H Q I q => h.run pins s σ H Q I (m σ H Q q)⟩
theorem po_n : PO X none (tP T X.K true fun _ ws => some (.non, ws)) :=
  PO.mono po_none fun σ H Q ⟨O, wa, env, ω, ws, d, o, ws', st, hf, hb, k⟩ => by
    cases hf
    cases hb
    exact k H st (Stp.refl _ _)
theorem po_s (h : PE X e (tE T X.K fa)) : PO X (some e) (tP T X.K false fa) :=
  PO.mono (po_some h) fun σ H Q ⟨O, wa, env, ω, ws, d, o, ws', st, hf, hb, k⟩ => by
    refine ⟨O, wa, env, ω, ws, d, ws', st, hf, fun v H' st' sp r => ?_⟩
    cases d <;> simp only [bnd] at hb <;> cases hb
    cases r
    exact ⟨_, rfl, k H' st' sp⟩
def slR (K : PySem.W.Frag) : V → Option Int → Option Int → Hp → VK → Prop := fun x lo hi H Q => rSlL K x lo hi H Q ∨ rSlP K x lo hi H Q
theorem cut_whole {xs : List V} {lo hi : Option Int} (h : HT.sIx xs.length 0 lo = 0 ∧ HT.sIx xs.length xs.length hi = xs.length) : cutV xs lo hi = xs := by
  unfold cutV
  rw [h.1, h.2, List.drop_zero, Nat.sub_zero, List.take_length]
theorem pe_slc (ha : PE X a (tB T X.K fa)) (hl : PO X lo (tP T X.K n1 fl)) (hh : PO X hi (tP T X.K n2 fh)) :
    PE X (.Subscript a (.Slice lo hi none p2) pos) (tE T X.K (sl3 fa fl fh n1 n2)) :=
  PE.mono (pe_slice (SlR.or sl_list sl_tupP) ha hl hh) fun σ H Q ⟨O, wa, env, ω, ws, d, ws', st, hf, k⟩ => by
    unfold sl3 at hf
    split at hf
    · cases hf
    rename_i x ws1 e1
    split at hf
    · cases hf
    rename_i l ws2 e2
    split at hf
    · cases hf
    rename_i h ws3 e3
    split at hf
    · cases hf
    rename_i lo' e4
    split at hf
    · cases hf
    rename_i hi' e5
    split at hf
    · cases hf
    rename_i z e6
    cases hf
    refine ⟨O, wa, env, ω, ws, x, _, st, e1, fun v1 H1 st1 sp1 r1 => ?_⟩
    refine ⟨O, wa, env, ω, _, l, lo', _, st1, e2, e4, fun H2 st2 sp2 => ?_⟩
    refine ⟨O, wa, env, ω, _, h, hi', _, st2, e3, e5, fun H3 st3 sp3 => ?_⟩
    have r3 := r1.mono (sp2.trans sp3)
    have sp := (sp1.trans sp2).trans sp3
    cases x <;> simp only [slD] at e6 <;> cases e6
    · obtain ⟨p, vs, rfl, h1, h1', q1⟩ := r3.tup
      refine .inr ⟨p, vs, rfl, h1, fun hw => ?_, fun hw p o n nd => ?_⟩
      · refine k _ H3 st3 sp (.tup (vs := vs) h1' ?_)
        have := q1.cut lo' hi'
        rw [cut_whole hw] at this
        exact this
      · exact k _ _ (st3.grow (new_same n)) (sp.trans (Stp.of (new_same n))) (.tup (.inl ⟨o, hid_new st3 n, nd⟩) ((q1.cut _ _).mono (hid_newS st3 n)))
    · obtain ⟨p, vs, rfl, h1, q1⟩ := r3.lst
      refine .inl ⟨p, vs, rfl, .inl (.inl h1), fun p n => ?_⟩
      exact k _ _ (st3.grow (new_same n)) (sp.trans (Stp.of (new_same n))) (.lst (hid_new st3 n) ((q1.cut _ _).mono (hid_newS st3 n)))
end

/-! ### no star -/
def noStar : Expr → Bool
  | .Starred .. => false
  | _ => true
theorem star_cons {e : Expr} (h : noStar e = true) (es : List Expr) (env : PySem.Env) : starEach (e :: es) env = (false, eval e env) :: starEach es env := by
  cases e <;> first | rfl | (simp [noStar] at h)
theorem star_any {pos : Pos} (env : PySem.Env) : ∀ {es : List Expr}, es.all noStar = true → (backTo pos (starEach es env)).any (·.1) = false
  | [], _ => rfl
  | e :: es, h => by
    rw [List.all_cons, Bool.and_eq_true] at h
    rw [star_cons h.1]
    exact star_any env h.2

/-! ### built-ins of one argument -/
section
variable {T : Nat → Str} {X : Cx} {e a b c : Expr} {fa fb fc fl fh : EvF} {pos p2 p : Pos}
theorem ht_b {id : String} {x : Str} {r : List V → Hp → VK → Prop} (hc : CallR X (.builtin id) r) (hg : Gl X x) (hm : X.mg x = none) (hv : bootBuiltins x = some (.builtin id)) (hn : x ≠ "__name__") (hdb : (x == ("__debug__" : Str)) = false) (hs : noStar a = true) :
    ∀ ta, PE X a ta → PE X (.Call (.Name x p) [a] [] pos) (tUn (fun x H Q => r [x] H Q) ta) := fun ta ha =>
  pe_callB hc hg hm hv (pa_cons ha pa_nil (star_cons hs _ _)) hn hdb (star_cons hs _ _)
theorem ht_t {id : String} {x : Str} {r : List V → Hp → VK → Prop} (hc : CallR X (.type id) r) (hg : Gl X x) (hm : X.mg x = none) (hv : bootBuiltins x = some (.type id)) (hn : x ≠ "__name__") (hdb : (x == ("__debug__" : Str)) = false) (hs : noStar a = true) :
    ∀ ta, PE X a ta → PE X (.Call (.Name x p) [a] [] pos) (tUn (fun x H Q => r [x] H Q) ta) := fun ta ha =>
  pe_callTy hc hg hm hv (pa_cons ha pa_nil (star_cons hs _ _)) hn hdb (star_cons hs _ _)
theorem ht_b2 {id : String} {x : Str} {r : List V → Hp → VK → Prop} (hc : CallR X (.builtin id) r) (hg : Gl X x) (hm : X.mg x = none) (hv : bootBuiltins x = some (.builtin id)) (hn : x ≠ "__name__") (hdb : (x == ("__debug__" : Str)) = false) (hs : noStar a = true) (hs2 : noStar b = true) :
    ∀ ta tb, PE X a ta → PE X b tb → PE X (.Call (.Name x p) [a, b] [] pos) (tOp (fun x y H Q => r [x, y] H Q) ta tb) := fun ta tb ha hb =>
  pe_callB hc hg hm hv (pa_cons ha (pa_cons hb pa_nil (star_cons hs2 _ _)) (star_cons hs _ _)) hn hdb (star_cons hs _ _) (star_any _ (by rw [List.all_cons, hs2]; rfl))
end
/-! #### what they give -/
section
variable {T : Nat → Str} {K : PySem.W.Frag}
def lenR (K : PySem.W.Frag) : List V → Hp → VK → Prop := fun xs H Q => (∃ x n, xs = [x] ∧ LenV K x H n ∧ Q (.int n) H) ∨ (∃ a kvs, xs = [V.ref a] ∧ H a = some (.dK kvs) ∧ Q (.int kvs.length) H)
theorem len_okr {X : Cx} : CallR X (.builtin "len") (lenR X.K) := CallR.or call_len call_lenD
theorem len_okU : UOk T K (fun x H Q => lenR K [x] H Q) (bf1 .len) := by
  intro O wa env ω ws σ H x d1 z Q st r e k
  cases d1 <;> simp only [bf1] at e <;> cases e
  · obtain ⟨a, vs, rfl, h1, h1', q1⟩ := r.tup
    refine .inl ⟨_, vs.length, rfl, .inr ⟨_, h1, rfl⟩, ?_⟩
    rw [← q1.len]
    exact k _ H (fun _ _ h => h) (.int _)
  · obtain ⟨a, vs, rfl, h1, q1⟩ := r.lst
    refine .inl ⟨_, vs.length, rfl, .inl ⟨_, .inl (.inl h1), rfl⟩, ?_⟩
    rw [← q1.len]
    exact k _ H (fun _ _ h => h) (.int _)
  · obtain ⟨a, kvs, rfl, h1, h2, q1⟩ := r.dic
    refine .inr ⟨a, kvs, rfl, h1, ?_⟩
    have := congrArg List.length h2
    rw [List.length_map, List.length_map] at this
    rw [← this]
    exact k _ H (fun _ _ h => h) (.int _)
  · obtain ⟨a, rfl, h1⟩ := r.scr
    refine .inl ⟨_, _, rfl, .inl ⟨_, h1, rfl⟩, ?_⟩
    rw [List.length_map]
    exact k _ H (fun _ _ h => h) (.int _)
theorem abs_okU : UOk T K (fun x H Q => (fun xs H (Q : VK) => ∃ i, xs = [V.int i] ∧ Q (.int (if i < 0 then -i else i)) H) [x] H Q) (bf1 .abs) := by
  intro O wa env ω ws σ H x d1 z Q st r e k
  cases d1 <;> simp only [bf1] at e <;> cases e
  exact ⟨_, congrArg (fun z => [z]) r.int, k _ H (fun _ _ h => h) (.int _)⟩
theorem int_okU : UOk T K (fun x H Q => (fun xs H (Q : VK) => (∃ i, xs = [V.int i] ∧ Q (.int i) H) ∨ ∃ k, xs = [V.bl k] ∧ Q (.int (if k then 1 else 0)) H) [x] H Q) (bf1 .int) := by
  intro O wa env ω ws σ H x d1 z Q st r e k
  cases d1 <;> simp only [bf1] at e <;> cases e
  · exact .inr ⟨_, congrArg (fun z => [z]) r.bl, k _ H (fun _ _ h => h) (.int _)⟩
  · exact .inl ⟨_, congrArg (fun z => [z]) r.int, k _ H (fun _ _ h => h) (.int _)⟩
theorem tup_okU : UOk T K (fun x H Q => rTupP K [x] H Q) (bf1 .tupOf) := by
  intro O wa env ω ws σ H x d1 z Q st r e k
  cases d1 <;> simp only [bf1] at e <;> cases e
  · obtain ⟨a, vs, rfl, h1, h1', q1⟩ := r.tup
    exact ⟨a, vs, rfl, .inr ⟨h1, k _ H (fun _ _ h => h) (.tup h1' q1)⟩⟩
  · obtain ⟨a, vs, rfl, h1, q1⟩ := r.lst
    exact ⟨a, vs, rfl, .inl ⟨.inl (.inl h1), fun p o n nd => k _ _ (new_same n) (.tup (.inl ⟨o, hid_new st n, nd⟩) (q1.mono (hid_newS st n)))⟩⟩
theorem all_okU : UOk T K (fun x H Q => rAll K [x] H Q) (bf1 .all) := by
  intro O wa env ω ws σ H x d1 z Q st r e k
  cases d1 <;> simp only [bf1] at e <;> try cases e
  split at e
  · rename_i bs hb
    cases e
    obtain ⟨a, vs, rfl, h1, q1⟩ := r.lst
    have := q1.bls hb
    subst this
    exact ⟨a, bs, rfl, .inl (.inl h1), k _ H (fun _ _ h => h) (.bl _)⟩
  · cases e
theorem any_okU : UOk T K (fun x H Q => rAny K [x] H Q) (bf1 .any) := by
  intro O wa env ω ws σ H x d1 z Q st r e k
  cases d1 <;> simp only [bf1] at e <;> try cases e
  split at e
  · rename_i bs hb
    cases e
    obtain ⟨a, vs, rfl, h1, q1⟩ := r.lst
    have := q1.bls hb
    subst this
    exact ⟨a, bs, rfl, .inl (.inl h1), k _ H (fun _ _ h => h) (.bl _)⟩
  · cases e
/-- list(..) -/
def lstR (K : PySem.W.Frag) : List V → Hp → VK → Prop := fun xs H Q => (∃ p ys, xs = [.ref p] ∧ (SqL K H p ys ∨ SqT K H p ys) ∧ ∀ l, H l = none → Q (.ref l) (upd H l (.lst ys))) ∨
  (∃ (a : Addr) (kvs : List (Key × V)), xs = [.ref a] ∧ Rd H a (.dK kvs) ∧ ∀ p, H p = none → Q (.ref p) (upd H p (.lst (kvs.map fun kv => kV kv.1))))
theorem lst_okr {X : Cx} (hc : X.calm = true) : CallR X (.type "list") (lstR X.K) := CallR.or call_list_of (call_listD hc)
theorem keys_rep {wa : Option Addr} {H : Hp} : ∀ {ks : List D} {kvs : List (Key × V)}, ks.map (keyOf T) = kvs.map (fun p => some p.1) → Reps T K wa H ks (kvs.map fun kv => kV kv.1)
  | [], [], _ => .nil
  | [], _ :: _, h => by simp at h
  | _ :: _, [], h => by simp at h
  | k :: ks, p :: kvs, h => by
    simp only [List.map_cons, List.cons.injEq] at h
    refine .cons ?_ (keys_rep h.2)
    have e := h.1
    show Rep T K wa H k (kV p.1)
    cases k <;> simp only [keyOf] at e <;> try cases e
    · rw [← Option.some.inj e]; exact .int _
    · split at e
      · rw [← Option.some.inj e]; exact .str _
      · cases e
theorem lst_okF : UFOk T K (fun x H Q => lstR K [x] H Q) (bf1 .lstOf) := by
  intro O wa env ω ws σ H x d1 z Q st r e k
  cases d1 <;> simp only [bf1] at e <;> cases e
  · obtain ⟨a, vs, rfl, h1, h1', q1⟩ := r.tup
    exact .inl ⟨a, vs, rfl, .inr h1, fun p n => k p _ n ⟨vs, upd_same, q1⟩⟩
  · obtain ⟨a, vs, rfl, h1, q1⟩ := r.lst
    exact .inl ⟨a, vs, rfl, .inl (.inl (.inl h1)), fun p n => k p _ n ⟨vs, upd_same, q1⟩⟩
  · obtain ⟨a, kvs, rfl, h1, h2, q1⟩ := r.dic
    exact .inr ⟨a, kvs, rfl, .inl h1, fun p n => k p _ n ⟨_, upd_same, keys_rep h2⟩⟩
/-! sorted -/
theorem ins_perm (x : Int) : ∀ ys : List Int, (ins x ys).Perm (x :: ys)
  | [] => .refl _
  | y :: ys => by
    unfold ins
    split
    · exact .refl _
    · exact ((ins_perm x ys).cons y).trans (.swap x y ys)
theorem isort_perm : ∀ xs : List Int, (isort xs).Perm xs
  | [] => .refl _
  | x :: xs => (ins_perm x _).trans ((isort_perm xs).cons x)
theorem ins_sorted (x : Int) : ∀ {ys : List Int}, ys.Pairwise (· ≤ ·) → (ins x ys).Pairwise (· ≤ ·)
  | [], _ => by simp [ins]
  | y :: ys, h => by
    unfold ins
    rw [List.pairwise_cons] at h
    split
    · rename_i c
      refine .cons (fun z hz => ?_) (.cons h.1 h.2)
      rcases List.mem_cons.mp hz with rfl | hz
      · exact c
      · exact Int.le_trans c (h.1 z hz)
    · rename_i c
      refine .cons (fun z hz => ?_) (ins_sorted x h.2)
      rcases List.mem_cons.mp ((ins_perm x ys).mem_iff.mp hz) with rfl | hz
      · omega
      · exact h.1 z hz
theorem isort_sorted : ∀ xs : List Int, (isort xs).Pairwise (· ≤ ·)
  | [] => .nil
  | x :: xs => ins_sorted x (isort_sorted xs)
theorem sorted_one : ∀ {l1 l2 : List Int}, l1.Perm l2 → l1.Pairwise (· ≤ ·) → l2.Pairwise (· ≤ ·) → l1 = l2
  | [], l2, h, _, _ => by
    have := h.length_eq
    cases l2 with
    | nil => rfl
    | cons _ _ => simp at this
  | x :: xs, [], h, _, _ => by
    have := h.length_eq
    simp at this
  | x :: xs, y :: ys, h, s1, s2 => by
    rw [List.pairwise_cons] at s1 s2
    have hx : x ∈ y :: ys := h.mem_iff.mp List.mem_cons_self
    have hy : y ∈ x :: xs := h.mem_iff.mpr List.mem_cons_self
    have e : x = y := by
      rcases List.mem_cons.mp hx with e | hx
      · exact e
      · rcases List.mem_cons.mp hy with e | hy
        · exact e.symm
        · have h1 := s1.1 y hy
          have h2 := s2.1 x hx
          omega
    subst e
    rw [sorted_one (List.Perm.cons_inv h) s1.2 s2.2]
def srtR (K : PySem.W.Frag) : List V → Hp → VK → Prop := fun xs H Q => rSorted K xs H Q ∨ (∃ (a : Addr) (kvs : List (Key × V)) (ks : List Int), xs = [.ref a] ∧ Rd H a (.dK kvs) ∧ kvs.map (·.1) = ks.map Sum.inl ∧ ks.length < 64 ∧
  ∀ (ys : List Int) (p : Addr), ys.Perm ks → ys.Pairwise (· ≤ ·) → H p = none → Q (.ref p) (upd H p (.lst (ys.map V.int))))
theorem srt_okr {X : Cx} (hc : X.calm = true) : CallR X (.builtin "sorted") (srtR X.K) := CallR.or cr_sorted (call_sortedDI hc)
theorem keys_ints : ∀ {ks : List D} {kvs : List (Key × V)} {ns : List Int}, ks.map (keyOf T) = kvs.map (fun p => some p.1) → intsOf ks = some ns → kvs.map (·.1) = ns.map Sum.inl
  | [], [], ns, _, e => by simp [intsOf] at e; subst e; rfl
  | [], _ :: _, _, h, _ => by simp at h
  | _ :: _, [], _, h, _ => by simp at h
  | k :: ks, p :: kvs, ns, h, e => by
    simp only [List.map_cons, List.cons.injEq] at h
    cases k <;> simp only [intsOf] at e <;> try cases e
    split at e
    · rename_i i is hi
      cases e
      have := h.1
      simp only [keyOf] at this
      rw [List.map_cons, List.map_cons, ← Option.some.inj this, keys_ints h.2 hi]
    · cases e
theorem srt_okF : UFOk T K (fun x H Q => srtR K [x] H Q) (bf1 .sorted) := by
  intro O wa env ω ws σ H x d1 z Q st r e k
  cases d1 <;> simp only [bf1] at e <;> try cases e
  · split at e
    · rename_i ns hn
      split at e
      · rename_i hl
        cases e
        obtain ⟨a, vs, rfl, h1, q1⟩ := r.lst
        have := q1.ints hn
        subst this
        refine .inl ⟨a, ns, rfl, .inl (.inl h1), of_decide_eq_true hl, fun ns' p hp hs n => k p _ n ⟨_, upd_same, ?_⟩⟩
        rw [sorted_one (hp.trans (isort_perm ns).symm) hs (isort_sorted ns)]
        exact reps_ints _
      · cases e
    · cases e
  · split at e
    · rename_i ns hn
      split at e
      · rename_i hl
        cases e
        obtain ⟨a, kvs, rfl, h1, h2, q1⟩ := r.dic
        refine .inr ⟨a, kvs, ns, rfl, .inl h1, keys_ints h2 hn, of_decide_eq_true hl, fun ns' p hp hs n => k p _ n ⟨_, upd_same, ?_⟩⟩
        rw [sorted_one (hp.trans (isort_perm ns).symm) hs (isort_sorted ns)]
        exact reps_ints _
      · cases e
    · cases e
/-! max, min, sum of a list -/
theorem maxI_ok : ∀ (ns : List Int) (m : Int), (maxI m ns = m ∨ maxI m ns ∈ ns) ∧ m ≤ maxI m ns ∧ ∀ y ∈ ns, y ≤ maxI m ns
  | [], m => ⟨.inl rfl, Int.le_refl _, by simp⟩
  | x :: xs, m => by
    obtain ⟨h1, h2, h3⟩ := maxI_ok xs (if m < x then x else m)
    unfold maxI
    refine ⟨?_, ?_, fun y hy => ?_⟩
    · rcases h1 with h1 | h1
      · rw [h1]
        split
        · exact .inr List.mem_cons_self
        · exact .inl rfl
      · exact .inr (List.mem_cons_of_mem _ h1)
    · refine Int.le_trans ?_ h2
      split <;> omega
    · rcases List.mem_cons.mp hy with e | hy
      · subst e
        refine Int.le_trans ?_ h2
        split <;> omega
      · exact h3 y hy
theorem minI_ok : ∀ (ns : List Int) (m : Int), (minI m ns = m ∨ minI m ns ∈ ns) ∧ minI m ns ≤ m ∧ ∀ y ∈ ns, minI m ns ≤ y
  | [], m => ⟨.inl rfl, Int.le_refl _, by simp⟩
  | x :: xs, m => by
    obtain ⟨h1, h2, h3⟩ := minI_ok xs (if x < m then x else m)
    unfold minI
    refine ⟨?_, ?_, fun y hy => ?_⟩
    · rcases h1 with h1 | h1
      · rw [h1]
        split
        · exact .inr List.mem_cons_self
        · exact .inl rfl
      · exact .inr (List.mem_cons_of_mem _ h1)
    · refine Int.le_trans h2 ?_
      split <;> omega
    · rcases List.mem_cons.mp hy with e | hy
      · subst e
        refine Int.le_trans h2 ?_
        split <;> omega
      · exact h3 y hy
theorem maxL_okU : UOk T K (fun x H Q => rMax K [x] H Q) (bf1 .maxL) := by
  intro O wa env ω ws σ H x d1 z Q st r e k
  cases d1 <;> simp only [bf1] at e <;> try cases e
  split at e
  · rename_i n ns hn
    cases e
    obtain ⟨a, vs, rfl, h1, q1⟩ := r.lst
    have := q1.ints hn
    subst this
    obtain ⟨g1, g2, g3⟩ := maxI_ok ns n
    refine ⟨a, n :: ns, rfl, .inl (.inl h1), by simp, fun m hm hy => ?_⟩
    have : m = maxI n ns := by
      have a1 : maxI n ns ≤ m := hy _ (g1.elim (fun z => by rw [z]; exact List.mem_cons_self) fun z => List.mem_cons_of_mem _ z)
      rcases List.mem_cons.mp hm with e | hm
      · omega
      · have := g3 m hm; omega
    subst this
    exact k _ H (fun _ _ h => h) (.int _)
  · cases e
theorem minL_okU : UOk T K (fun x H Q => rMin K [x] H Q) (bf1 .minL) := by
  intro O wa env ω ws σ H x d1 z Q st r e k
  cases d1 <;> simp only [bf1] at e <;> try cases e
  split at e
  · rename_i n ns hn
    cases e
    obtain ⟨a, vs, rfl, h1, q1⟩ := r.lst
    have := q1.ints hn
    subst this
    obtain ⟨g1, g2, g3⟩ := minI_ok ns n
    refine ⟨a, n :: ns, rfl, .inl (.inl h1), by simp, fun m hm hy => ?_⟩
    have : m = minI n ns := by
      have a1 : m ≤ minI n ns := hy _ (g1.elim (fun z => by rw [z]; exact List.mem_cons_self) fun z => List.mem_cons_of_mem _ z)
      rcases List.mem_cons.mp hm with e | hm
      · omega
      · have := g3 m hm; omega
    subst this
    exact k _ H (fun _ _ h => h) (.int _)
  · cases e
theorem sumL_okU : UOk T K (fun x H Q => rSum K [x] H Q) (bf1 .sumL) := by
  intro O wa env ω ws σ H x d1 z Q st r e k
  cases d1 <;> simp only [bf1] at e <;> try cases e
  split at e
  · rename_i ns hn
    cases e
    obtain ⟨a, vs, rfl, h1, q1⟩ := r.lst
    have := q1.ints hn
    subst this
    exact ⟨a, ns, rfl, .inl (.inl h1), k _ H (fun _ _ h => h) (.int _)⟩
  · cases e
/-! two ints -/
theorem max_ok : ROk T K (fun x y H Q => (fun xs H (Q : VK) => ∃ i j, xs = [V.int i, V.int j] ∧ Q (.int (if j > i then j else i)) H) [x, y] H Q) (fun _ => bf2 .max) := by
  intro O wa env ω ws σ H x y d1 d2 z Q st r1 r2 e k
  cases d1 <;> cases d2 <;> simp only [bf2] at e <;> cases e
  exact ⟨_, _, by rw [r1.int, r2.int], k _ H (fun _ _ h => h) (.int _)⟩
theorem min_ok : ROk T K (fun x y H Q => (fun xs H (Q : VK) => ∃ i j, xs = [V.int i, V.int j] ∧ Q (.int (if j < i then j else i)) H) [x, y] H Q) (fun _ => bf2 .min) := by
  intro O wa env ω ws σ H x y d1 d2 z Q st r1 r2 e k
  cases d1 <;> cases d2 <;> simp only [bf2] at e <;> cases e
  exact ⟨_, _, by rw [r1.int, r2.int], k _ H (fun _ _ h => h) (.int _)⟩
theorem neg_okU : UOk T K (rU fun i => .int (-i)) (fun d => match d with
    | .int i => some (.int (-i))
    | _ => none) := by
  intro O wa env ω ws σ H x d1 z Q st r e k
  cases d1 <;> simp only [] at e <;> cases e
  exact ⟨_, r.int, k _ H (fun _ _ h => h) (.int _)⟩
/-! isinstance -/
def tyN : Ty → String
  | .int => "int" | .bool => "bool" | .tuple => "tuple" | .list => "list" | .dict => "dict" | .str => "str"
theorem ty_rep {wa : Option Addr} {S : Addr → Prop} {H : Hp} {t : Ty} {d : D} {v : V} {z : Bool} (r : RepB T K wa (hid S H) H d v) (e : isiD t d = some z) :
    ∃ u, TyX K H v u ∧ PySem.W.kitOne K u (.type (tyN t)) = some z := by
  have tupK : ∀ {a : Addr} {vs : List V}, SqT K H a vs → TyX K H (.ref a) (.type "tuple") := fun h => by
    rcases h with (h | ⟨o, h⟩) | ⟨o, its, n, hk, hc, _⟩
    · exact .base (.tup h)
    · exact .fTuple h
    · exact .kTuple hk hc
  cases d with
  | non =>
    rw [r.non]
    refine ⟨_, .base .non, kit_ty ?_⟩
    cases t <;> simp only [isiD] at e <;> cases e <;> decide +kernel
  | bl b =>
    rw [r.bl]
    refine ⟨_, .base (.bl b), kit_ty ?_⟩
    cases t <;> simp only [isiD] at e <;> cases e <;> decide +kernel
  | int b =>
    rw [r.int]
    refine ⟨_, .base (.int b), kit_ty ?_⟩
    cases t <;> simp only [isiD] at e <;> cases e <;> decide +kernel
  | str b =>
    rw [r.str]
    refine ⟨_, .base (.str _), kit_ty ?_⟩
    cases t <;> simp only [isiD] at e <;> cases e <;> decide +kernel
  | tup b =>
    obtain ⟨a, vs, rfl, h1, _, _⟩ := r.tup
    refine ⟨_, tupK h1, kit_ty ?_⟩
    cases t <;> simp only [isiD] at e <;> cases e <;> decide +kernel
  | lst b =>
    obtain ⟨a, vs, rfl, h1, _⟩ := r.lst
    refine ⟨_, .base (.lst h1), kit_ty ?_⟩
    cases t <;> simp only [isiD] at e <;> cases e <;> decide +kernel
  | dic b c =>
    obtain ⟨a, vs, rfl, h1, _⟩ := r.dic
    refine ⟨_, .base (.dK h1), kit_ty ?_⟩
    cases t <;> simp only [isiD] at e <;> cases e <;> decide +kernel
  | scr b => cases t <;> simp only [isiD] at e <;> cases e
  | wd => cases t <;> simp only [isiD] at e <;> cases e
theorem isi_okU (t : Ty) : UOk T K (fun x H Q => rIsi K [x, .ty (tyN t)] H Q) (fun d => match isiD t d with
    | none => none
    | some z => some (.bl z)) := by
  intro O wa env ω ws σ H x d1 z Q st r e k
  dsimp only at e
  split at e
  · cases e
  · rename_i b hb
    cases e
    obtain ⟨u, h1, h2⟩ := ty_rep r hb
    exact ⟨x, .ty (tyN t), u, .type (tyN t), b, rfl, .ty _, h1, h2, k _ H (fun _ _ h => h) (.bl b)⟩
end
end Pv

set_option Elab.async false
set_option linter.all false
set_option maxRecDepth 100000
set_option maxHeartbeats 4000000
/-! Pv6: arguments, displays, calls, get, tests. -/
namespace Pv
open PySem PySem.Spec PyProof.Rows L2

section
variable {T : Nat → Str} {K : PySem.W.Frag} {O : Addr → Prop} {wa : Option Addr} {env : Env} {ω : Nat → Option Addr} {ws : WS} {σ : L2.St} {H : Hp}
/-- a hidden object is written -/
theorem StR.wr (h : StR T K O wa env ω ws σ H) {p : Addr} (o : HO) (hp : O p) (nw : wa ≠ some p) : StR T K O wa env ω ws σ (upd H p o) := by
  have m : Same (hid (SS O ω wa) H) (hid (SS O ω wa) (upd H p o)) := hid_mono (fun a u s q => by rw [upd_ne (fun z => s (by rw [z]; exact .inl hp))]; exact q) fun _ q => q
  refine ⟨h.len, fun i => ?_, h.own, h.inj, fun a q z => ?_, h.wsr.mono m fun a u e q => by rw [upd_ne (fun z => nw (by rw [← z]; exact e))]; exact q⟩
  · have q := h.slot i
    cases hs : eg env i with
    | un => trivial
    | va d =>
      rw [hs] at q
      obtain ⟨v, h1, h2⟩ := q
      exact ⟨v, h1, h2.mono m⟩
    | ow d =>
      rw [hs] at q
      obtain ⟨a, h1, h2, h3⟩ := q
      exact ⟨a, h1, h2, h3.mono m fun u q => by rw [upd_ne (fun z => (h.own i a h1).2.1 (by rw [z]; exact hp))]; exact q⟩
  · by_cases e : a = p
    · subst e; rw [upd_same] at z; cases z
    · rw [upd_ne e] at z; exact h.dom a q z
end

section
variable {T : Nat → Str} {X : Cx} {e a b c : Expr} {es : List Expr} {fa fb fc : EvF} {ga : EvAF} {pos p2 p : Pos}
/-! ### arguments -/
def consA (fa : EvF) (ga : EvAF) : EvAF := fun env ws => match fa env ws with
  | none => none
  | some (d, ws1) => match ga env ws1 with
    | none => none
    | some (ds, ws2) => some (d :: ds, ws2)
theorem pa_n : PA X [] (tA T X.K fun _ ws => some ([], ws)) :=
  PA.mono pa_nil fun σ H Q ⟨O, wa, env, ω, ws, d, ws', st, hf, k⟩ => by
    cases hf
    exact k [] H st (Stp.refl _ _) .nil
theorem pa_c (ha : PE X a (tE T X.K fa)) (hr : PA X es (tA T X.K ga)) (hs : noStar a = true) : PA X (a :: es) (tA T X.K (consA fa ga)) :=
  PA.mono (pa_cons ha hr (star_cons hs _ _)) fun σ H Q ⟨O, wa, env, ω, ws, d, ws', st, hf, k⟩ => by
    unfold consA at hf
    split at hf
    · cases hf
    rename_i x ws1 e1
    split at hf
    · cases hf
    rename_i xs ws2 e2
    cases hf
    refine ⟨O, wa, env, ω, ws, x, _, st, e1, fun v1 H1 st1 sp1 r1 => ?_⟩
    refine ⟨O, wa, env, ω, _, xs, _, st1, e2, fun v2 H2 st2 sp2 r2 => ?_⟩
    exact k _ H2 st2 (sp1.trans sp2) (.cons (r1.mono sp2.hid) r2)
/-! ### displays -/
def dispT (ga : EvAF) : EvF := fun env ws => match ga env ws with
  | none => none
  | some (ds, ws1) => some (.tup ds, ws1)
def dispL (ga : EvAF) : EvF := fun env ws => match ga env ws with
  | none => none
  | some (ds, ws1) => some (.lst ds, ws1)
theorem pe_dt {x1} (h : PA X es (tA T X.K ga)) (hl : okLen es.length = true) (hga : ∀ env ws ds ws', ga env ws = some (ds, ws') → ds.length = es.length) : PE X (.Tuple es x1 pos) (tE T X.K (dispT ga)) :=
  PE.mono (pe_tupP h) fun σ H Q ⟨O, wa, env, ω, ws, d, ws', st, hf, k⟩ => by
    unfold dispT at hf
    split at hf
    · cases hf
    rename_i ds ws1 e1
    cases hf
    refine ⟨O, wa, env, ω, ws, ds, _, st, e1, fun vs H1 st1 sp1 r1 => ⟨?_, fun p o n nd => ?_⟩⟩
    · rw [← r1.len, hga _ _ _ _ e1]; exact len_ok hl
    · exact k _ _ (st1.grow (new_same n)) (sp1.trans (Stp.of (new_same n))) (.tup (.inl ⟨o, hid_new st1 n, nd⟩) (r1.mono (hid_newS st1 n)))
theorem pe_dl (h : PA X es (tA T X.K ga)) (hl : okLen es.length = true) (hga : ∀ env ws ds ws', ga env ws = some (ds, ws') → ds.length = es.length) : PE X (.List es pos) (tF T X.K (dispL ga)) :=
  PE.mono (pe_lst h) fun σ H Q ⟨O, wa, env, ω, ws, d, ws', st, hf, k⟩ => by
    unfold dispL at hf
    split at hf
    · cases hf
    rename_i ds ws1 e1
    cases hf
    refine ⟨O, wa, env, ω, ws, ds, _, st, e1, fun vs H1 st1 sp1 r1 => ⟨?_, fun p n => ?_⟩⟩
    · rw [← r1.len, hga _ _ _ _ e1]; exact len_ok hl
    · exact k p _ (st1.more n _) (sp1.trans (Stp.of (new_same n))) (st1.fresh n) (st1.back sp1 n) ⟨vs, upd_same, r1.mono (new_at st1 n)⟩
theorem pe_d0 : PE X (.Dict [] [] pos) (tF T X.K fun _ ws => some (.dic [] [], ws)) :=
  PE.mono pe_dnewK fun σ H Q ⟨O, wa, env, ω, ws, d, ws', st, hf, k⟩ => by
    cases hf
    intro p n
    exact k p _ (st.more n _) (Stp.of (new_same n)) (st.fresh n) n ⟨[], upd_same, rfl, .nil⟩
def dispD (fa fb : EvF) : EvF := fun env ws => match fa env ws with
  | none => none
  | some (kd, ws1) => match fb env ws1 with
    | none => none
    | some (vd, ws2) => if isK kd then some (.dic [kd] [vd], ws2) else none
theorem pe_d1 (ha : PE X a (tE T X.K fa)) (hb : PE X b (tE T X.K fb)) : PE X (.Dict [some a] [b] pos) (tF T X.K (dispD fa fb)) :=
  PE.mono (pe_disp (pps_cons ha hb pps_nil) rfl rfl (by simp) (show 1 ≤ 15 by decide)) fun σ H Q ⟨O, wa, env, ω, ws, d, ws', st, hf, k⟩ => by
    unfold dispD at hf
    split at hf
    · cases hf
    rename_i x ws1 e1
    split at hf
    · cases hf
    rename_i y ws2 e2
    split at hf
    · rename_i hk
      cases hf
      intro p n
      have nw : wa ≠ some p := fun z => st.fresh n (.inr (.inr z))
      refine ⟨_, wa, env, ω, ws, x, _, st.more n _, e1, fun v1 H1 st1 sp1 r1 => ?_⟩
      refine ⟨_, wa, env, ω, _, y, _, st1, e2, fun v2 H2 st2 sp2 r2 => ?_⟩
      obtain ⟨q, hq⟩ := isK_key (T := T) hk
      have e3 : v1 = kV q := key_rep (H := H2) (hH := hid (SS (fun x => O x ∨ x = p) ω wa) H2) hq (.inl (r1.mono sp2.hid))
      have e4 : H2 p = some (.dK []) := sp2 _ _ nw (sp1 _ _ nw upd_same)
      subst e3
      refine ⟨e4, [(q, v2)], rfl, (show 1 ≤ 15 by decide), ?_⟩
      have sp : Stp wa H (upd H2 p (.dK [(q, v2)])) := fun c o nc hc => by
        rw [upd_ne (ne_of_none hc n)]
        exact sp2 _ _ nc (sp1 _ _ nc (new_same n _ _ hc))
      refine k p _ (st2.wr _ (.inr rfl) nw) sp (st.fresh n) n ⟨[(q, v2)], upd_same, by simp [hq], .cons (r2.mono ?_) .nil⟩
      exact hid_mono (fun c o s hc => by rw [upd_ne (fun z => s (.inl (.inr z)))]; exact hc) fun _ q => q
    · cases hf
/-! ### get -/
def noCall : Expr → Bool
  | .Call .. => false
  | _ => true
theorem attr_plain {o : Expr} (h : noCall o = true) (m : Str) (env : PySem.Env) (w : Sem Value) : attributeBase o m env w = w := by
  cases o <;> first | rfl | (simp [noCall] at h)
def getF (fd fk fe : EvF) : EvF := fun env ws => match fd env ws with
  | some (.dic ks vs, ws1) => match fk env ws1 with
    | none => none
    | some (kd, ws2) => match fe env ws2 with
      | none => none
      | some (ed, ws3) => if isK kd then some ((dget ks vs kd).getD ed, ws3) else none
  | _ => none
theorem m2_of {o : Expr} {m : Str} {apos cpos : Pos} (ho : noCall o = true) (ha : noStar a = true) (hb : noStar b = true) (hl : (apos.endLine == cpos.line) = true) : M2 X o m apos a b cpos where
  base := attr_plain ho _ _ _
  few := by rw [star_cons ha, star_cons hb]; rfl
  line := hl
  trees := by rw [star_cons ha, star_cons hb]; rfl
theorem pe_get {o : Expr} {fd fk fe : EvF} {apos cpos : Pos} (hT : TOk T) (hu : X.A.units + 1 < cLine) (ho : PE X o (tB T X.K fd)) (hk : PE X a (tE T X.K fk)) (he : PE X b (tE T X.K fe)) (no : noCall o = true) (na : noStar a = true) (nb : noStar b = true) (hl : (apos.endLine == cpos.line) = true) :
    PE X (.Call (.Attribute o "get" apos) [a, b] [] cpos) (tE T X.K (getF fd fk fe)) :=
  PE.mono (pe_dget2 hu ho hk he (m2_of no na nb hl)) fun σ H Q ⟨O, wa, env, ω, ws, d, ws', st, hf, k⟩ => by
    unfold getF at hf
    split at hf
    · rename_i ks vs ws1 e1
      split at hf
      · cases hf
      rename_i kd ws2 e2
      split at hf
      · cases hf
      rename_i ed ws3 e3
      split at hf
      · rename_i hk
        cases hf
        refine ⟨O, wa, env, ω, ws, _, _, st, e1, fun v1 H1 st1 sp1 r1 => ?_⟩
        obtain ⟨p, kvs, rfl, h1, h2, q1⟩ := r1.dic
        refine ⟨p, rfl, .inl ⟨kvs, .inl h1⟩, ?_⟩
        refine ⟨O, wa, env, ω, _, _, _, st1, e2, fun v2 H2 st2 sp2 r2 => ?_⟩
        refine ⟨O, wa, env, ω, _, _, _, st2, e3, fun v3 H3 st3 sp3 r3 => ?_⟩
        obtain ⟨p', kvs', ep, h1', h2', q1'⟩ := (r1.mono (sp2.trans sp3)).dic
        cases ep
        obtain ⟨o', g, h3, h4, _⟩ := dget_of (H := H3) hT (RepB.mono (O := O) (ω := ω) sp3 (.inl r2)) hk h1' h2' q1'
        refine ⟨o', g, k _ H3 st3 ((sp1.trans sp2).trans sp3) ?_⟩
        cases hd : dget ks vs kd with
        | none =>
          rw [h4 hd]
          exact r3
        | some d =>
          obtain ⟨u, rfl, h5⟩ := h3 d hd
          exact h5
      · cases hf
    · cases hf
/-! ### truth, tests -/
theorem truth_rep {wa : Option Addr} {hH H : Hp} {d : D} {v : V} {k : Bool} (r : RepB T X.K wa hH H d v) (h : truth d = some k) : TruV X.K v H k := by
  cases d <;> simp only [truth] at h <;> cases h
  · rw [r.non]; rfl
  · rw [r.bl]; rfl
  · rw [r.int]; rfl
def valT (fa : EvF) : EvTF := fun env ws => match fa env ws with
  | none => none
  | some (d, ws1) => match truth d with
    | none => none
    | some b => some (b, ws1)
def plainT : Expr → Bool
  | .UnaryOp .Not .. => false
  | .BoolOp .. => false
  | .IfExp .. => false
  | .Compare .. => false
  | _ => true
theorem isTrue_plain (h : plainT a = true) (env : PySem.Env) (whole : Sem Value) : isTrue a env whole = (do let v ← whole; standAt a.pos; holding [v] (truthy v)) := by
  cases a <;> first | rfl | (simp [plainT] at h; done) | skip
  rename_i op x p
  cases op <;> first | rfl | (simp [plainT] at h; done)
theorem pt_v (ha : PE X a (tE T X.K fa)) (h : plainT a = true) : PT X a (tT T X.K (valT fa)) :=
  PT.mono (pt_truth ha (isTrue_plain h _)) fun σ H Q ⟨O, wa, env, ω, ws, d, ws', st, hf, k⟩ => by
    unfold valT at hf
    split at hf
    · cases hf
    rename_i x ws1 e1
    split at hf
    · cases hf
    rename_i z e2
    cases hf
    refine ⟨O, wa, env, ω, ws, x, _, st, e1, fun v H1 st1 sp1 r1 => ⟨_, truth_rep (.inl r1) e2, k H1 st1 sp1⟩⟩
/-- a comparison, by its value -/
def bT (f : EvF) : EvTF := fun env ws => match f env ws with
  | some (.bl z, ws1) => some (z, ws1)
  | _ => none
def twoT (fa fb : EvF) (o : Cop) : EvTF := fun env ws => match fa env ws with
  | none => none
  | some (x, ws1) => match fb env ws1 with
    | none => none
    | some (y, ws2) => match cop o x y with
      | none => none
      | some z => some (z, ws2)
theorem pt_two {o : Cop} {r : R2} (ht : ∀ ta tb, PE X a ta → PE X b tb → PT X e (tTest (tOp r ta tb))) (hr : ROk T X.K r (fun _ => copD o)) (ha : PE X a (tB T X.K fa)) (hb : PE X b (tB T X.K fb)) : PT X e (tT T X.K (twoT fa fb o)) :=
  PT.mono (ht _ _ ha hb) fun σ H Q ⟨O, wa, env, ω, ws, d, ws', st, hf, k⟩ => by
    unfold twoT at hf
    split at hf
    · cases hf
    rename_i x ws1 e1
    split at hf
    · cases hf
    rename_i y ws2 e2
    split at hf
    · cases hf
    rename_i z e3
    cases hf
    refine ⟨O, wa, env, ω, ws, x, _, st, e1, fun v1 H1 st1 sp1 r1 => ?_⟩
    refine ⟨O, wa, env, ω, _, y, _, st1, e2, fun v2 H2 st2 sp2 r2 => ?_⟩
    refine hr O wa env ω _ σ H2 v1 v2 x y (.bl d) _ st2 (r1.mono sp2) r2 (by dsimp only [copD]; rw [e3]) fun v H' sm rz => ?_
    cases rz
    exact ⟨_, rfl, k H' (st2.grow sm) ((sp1.trans sp2).trans (Stp.of sm))⟩
/-- is None -/
def oneT (fa : EvF) (neg : Bool) : EvTF := fun env ws => match fa env ws with
  | none => none
  | some (x, ws1) => some (if neg then !isNone x else isNone x, ws1)
theorem pt_none {neg : Bool} {op : CmpOp} {j : Nat} {p1 : Pos} (ho : op = if neg then .IsNot else .Is) (ha : PE X a (tB T X.K fa)) : PT X (.Compare a [op] [.Constant .none j p1] pos) (tT T X.K (oneT fa neg)) := by
  cases neg
  · have ho : op = .Is := ho
    subst ho
    refine PT.mono (pt_cmpR op_isN ha pe_non (nomark _)) fun σ H Q ⟨O, wa, env, ω, ws, d, ws', st, hf, k⟩ => ?_
    unfold oneT at hf
    split at hf
    · cases hf
    rename_i x ws1 e1
    cases hf
    refine ⟨O, wa, env, ω, ws, x, _, st, e1, fun v1 H1 st1 sp1 r1 => ⟨rfl, _, rfl, ?_⟩⟩
    rw [isNone_rep r1]
    exact k H1 st1 sp1
  · have ho : op = .IsNot := ho
    subst ho
    refine PT.mono (pt_cmpR op_notN ha pe_non (nomark _)) fun σ H Q ⟨O, wa, env, ω, ws, d, ws', st, hf, k⟩ => ?_
    unfold oneT at hf
    split at hf
    · cases hf
    rename_i x ws1 e1
    cases hf
    refine ⟨O, wa, env, ω, ws, x, _, st, e1, fun v1 H1 st1 sp1 r1 => ⟨rfl, _, rfl, ?_⟩⟩
    rw [isNone_rep r1]
    exact k H1 st1 sp1
def oneV (fa : EvF) (neg : Bool) : EvF := fun env ws => match fa env ws with
  | none => none
  | some (x, ws1) => some (.bl (if neg then !isNone x else isNone x), ws1)
theorem pe_none {neg : Bool} {op : CmpOp} {j : Nat} {p1 : Pos} (ho : op = if neg then .IsNot else .Is) (ha : PE X a (tB T X.K fa)) : PE X (.Compare a [op] [.Constant .none j p1] pos) (tE T X.K (oneV fa neg)) := by
  cases neg
  · have ho : op = .Is := ho
    subst ho
    refine PE.mono (pe_cmpR op_isN ha pe_non (nomark _)) fun σ H Q ⟨O, wa, env, ω, ws, d, ws', st, hf, k⟩ => ?_
    unfold oneV at hf
    split at hf
    · cases hf
    rename_i x ws1 e1
    cases hf
    refine ⟨O, wa, env, ω, ws, x, _, st, e1, fun v1 H1 st1 sp1 r1 => ⟨rfl, ?_⟩⟩
    rw [isNone_rep r1]
    exact k _ H1 st1 sp1 (.bl _)
  · have ho : op = .IsNot := ho
    subst ho
    refine PE.mono (pe_cmpR op_notN ha pe_non (nomark _)) fun σ H Q ⟨O, wa, env, ω, ws, d, ws', st, hf, k⟩ => ?_
    unfold oneV at hf
    split at hf
    · cases hf
    rename_i x ws1 e1
    cases hf
    refine ⟨O, wa, env, ω, ws, x, _, st, e1, fun v1 H1 st1 sp1 r1 => ⟨rfl, ?_⟩⟩
    rw [isNone_rep r1]
    exact k _ H1 st1 sp1 (.bl _)
/-! and, or, not, if .. else -/
def notT (fa : EvTF) : EvTF := fun env ws => match fa env ws with
  | none => none
  | some (b, ws1) => some (!b, ws1)
def andT (fa fb : EvTF) : EvTF := fun env ws => match fa env ws with
  | none => none
  | some (t, ws1) => if t then fb env ws1 else some (false, ws1)
def orT (fa fb : EvTF) : EvTF := fun env ws => match fa env ws with
  | none => none
  | some (t, ws1) => if t then some (true, ws1) else fb env ws1
def iteT' (fc fa fb : EvTF) : EvTF := fun env ws => match fc env ws with
  | none => none
  | some (t, ws1) => if t then fa env ws1 else fb env ws1
def iteV (fc : EvTF) (fa fb : EvF) : EvF := fun env ws => match fc env ws with
  | none => none
  | some (t, ws1) => if t then fa env ws1 else fb env ws1
variable {ta tb tc : EvTF} {rest : List Expr}
theorem pt_n (ha : PT X a (tT T X.K ta)) : PT X (.UnaryOp .Not a pos) (tT T X.K (notT ta)) :=
  PT.mono (pt_not ha) fun σ H Q ⟨O, wa, env, ω, ws, d, ws', st, hf, k⟩ => by
    unfold notT at hf
    split at hf
    · cases hf
    rename_i x ws1 e1
    cases hf
    exact ⟨O, wa, env, ω, ws, x, _, st, e1, fun H1 st1 sp1 => k H1 st1 sp1⟩
theorem tAnd_of (σ : L2.St) (H : Hp) (Q : Bool → Hp → Prop) (h : tT T X.K (andT ta tb) σ H Q) : tAnd (tT T X.K ta) (tT T X.K tb) σ H Q := by
  obtain ⟨O, wa, env, ω, ws, d, ws', st, hf, k⟩ := h
  unfold andT at hf
  split at hf
  · cases hf
  rename_i x ws1 e1
  refine ⟨O, wa, env, ω, ws, x, _, st, e1, fun H1 st1 sp1 => ?_⟩
  cases x
  · rw [if_neg (by decide)] at hf ⊢
    cases hf
    exact k H1 st1 sp1
  · rw [if_pos rfl] at hf ⊢
    exact ⟨O, wa, env, ω, _, d, ws', st1, hf, fun H2 st2 sp2 => k H2 st2 (sp1.trans sp2)⟩
theorem tOr_of (σ : L2.St) (H : Hp) (Q : Bool → Hp → Prop) (h : tT T X.K (orT ta tb) σ H Q) : tOr (tT T X.K ta) (tT T X.K tb) σ H Q := by
  obtain ⟨O, wa, env, ω, ws, d, ws', st, hf, k⟩ := h
  unfold orT at hf
  split at hf
  · cases hf
  rename_i x ws1 e1
  refine ⟨O, wa, env, ω, ws, x, _, st, e1, fun H1 st1 sp1 => ?_⟩
  cases x
  · rw [if_neg (by decide)] at hf ⊢
    exact ⟨O, wa, env, ω, _, d, ws', st1, hf, fun H2 st2 sp2 => k H2 st2 (sp1.trans sp2)⟩
  · rw [if_pos rfl] at hf ⊢
    cases hf
    exact k H1 st1 sp1
theorem pw_a1 (ha : PT X a (tT T X.K ta)) : PW X (.BoolOp .And [a] pos) (tT T X.K ta) := pw_and1 ha
theorem pw_o1 (ha : PT X a (tT T X.K ta)) : PW X (.BoolOp .Or [a] pos) (tT T X.K ta) := pw_or1 ha
theorem pw_a (ha : PT X a (tT T X.K ta)) (hb : PW X (.BoolOp .And (b :: rest) pos) (tT T X.K tb)) : PW X (.BoolOp .And (a :: b :: rest) pos) (tT T X.K (andT ta tb)) := PW.mono (pw_and ha hb) tAnd_of
theorem pw_o (ha : PT X a (tT T X.K ta)) (hb : PW X (.BoolOp .Or (b :: rest) pos) (tT T X.K tb)) : PW X (.BoolOp .Or (a :: b :: rest) pos) (tT T X.K (orT ta tb)) := PW.mono (pw_or ha hb) tOr_of
theorem pe_ie (hc : PT X c (tT T X.K tc)) (ha : PE X a (tE T X.K fa)) (hb : PE X b (tE T X.K fb)) : PE X (.IfExp c a b pos) (tE T X.K (iteV tc fa fb)) :=
  PE.mono (pe_ifExp hc ha hb) fun σ H Q ⟨O, wa, env, ω, ws, d, ws', st, hf, k⟩ => by
    unfold iteV at hf
    split at hf
    · cases hf
    rename_i x ws1 e1
    refine ⟨O, wa, env, ω, ws, x, _, st, e1, fun H1 st1 sp1 => ?_⟩
    cases x
    · rw [if_neg (by decide)] at hf ⊢
      exact ⟨O, wa, env, ω, _, d, ws', st1, hf, fun v H2 st2 sp2 r => k v H2 st2 (sp1.trans sp2) r⟩
    · rw [if_pos rfl] at hf ⊢
      exact ⟨O, wa, env, ω, _, d, ws', st1, hf, fun v H2 st2 sp2 r => k v H2 st2 (sp1.trans sp2) r⟩
/-! .. as values -/
def andV (fa fb : EvF) : EvF := fun env ws => match fa env ws with
  | some (.bl true, ws1) => fb env ws1
  | some (.bl false, ws1) => some (.bl false, ws1)
  | _ => none
def orV (fa fb : EvF) : EvF := fun env ws => match fa env ws with
  | some (.bl true, ws1) => some (.bl true, ws1)
  | some (.bl false, ws1) => fb env ws1
  | _ => none
def notV (fa : EvF) : EvF := fun env ws => match fa env ws with
  | some (.bl b, ws1) => some (.bl (!b), ws1)
  | _ => none
theorem pe_av (ha : PE X a (tE T X.K fa)) (hb : PE X (.BoolOp .And (b :: rest) pos) (tE T X.K fb)) : PE X (.BoolOp .And (a :: b :: rest) pos) (tE T X.K (andV fa fb)) :=
  PE.mono (pe_and ha hb) fun σ H Q ⟨O, wa, env, ω, ws, d, ws', st, hf, k⟩ => by
    unfold andV at hf
    split at hf
    · rename_i ws1 e1
      refine ⟨O, wa, env, ω, ws, _, _, st, e1, fun v H1 st1 sp1 r => ?_⟩
      cases r
      refine ⟨true, rfl, ?_⟩
      rw [if_pos rfl]
      exact ⟨O, wa, env, ω, _, d, ws', st1, hf, fun v H2 st2 sp2 r => k v H2 st2 (sp1.trans sp2) r⟩
    · rename_i ws1 e1
      cases hf
      refine ⟨O, wa, env, ω, ws, _, _, st, e1, fun v H1 st1 sp1 r => ?_⟩
      cases r
      refine ⟨false, rfl, ?_⟩
      rw [if_neg (by decide)]
      exact k _ H1 st1 sp1 (.bl _)
    · cases hf
theorem pe_ov (ha : PE X a (tE T X.K fa)) (hb : PE X (.BoolOp .Or (b :: rest) pos) (tE T X.K fb)) : PE X (.BoolOp .Or (a :: b :: rest) pos) (tE T X.K (orV fa fb)) :=
  PE.mono (pe_or ha hb) fun σ H Q ⟨O, wa, env, ω, ws, d, ws', st, hf, k⟩ => by
    unfold orV at hf
    split at hf
    · rename_i ws1 e1
      cases hf
      refine ⟨O, wa, env, ω, ws, _, _, st, e1, fun v H1 st1 sp1 r => ?_⟩
      cases r
      refine ⟨true, rfl, ?_⟩
      rw [if_pos rfl]
      exact k _ H1 st1 sp1 (.bl _)
    · rename_i ws1 e1
      refine ⟨O, wa, env, ω, ws, _, _, st, e1, fun v H1 st1 sp1 r => ?_⟩
      cases r
      refine ⟨false, rfl, ?_⟩
      rw [if_neg (by decide)]
      exact ⟨O, wa, env, ω, _, d, ws', st1, hf, fun v H2 st2 sp2 r => k v H2 st2 (sp1.trans sp2) r⟩
    · cases hf
theorem pe_nv (ha : PE X a (tE T X.K fa)) : PE X (.UnaryOp .Not a pos) (tE T X.K (notV fa)) :=
  PE.mono (pe_not ha) fun σ H Q ⟨O, wa, env, ω, ws, d, ws', st, hf, k⟩ => by
    unfold notV at hf
    split at hf
    · rename_i z ws1 e1
      cases hf
      refine ⟨O, wa, env, ω, ws, _, _, st, e1, fun v H1 st1 sp1 r => ?_⟩
      cases r
      exact ⟨z, rfl, k _ H1 st1 sp1 (.bl _)⟩
    · cases hf
end
end Pv

set_option Elab.async false
set_option linter.all false
set_option maxRecDepth 100000
set_option maxHeartbeats 4000000
/-! Pv7: slots set and wiped, what a loop walks, comprehensions. -/
namespace Pv
open PySem PySem.Spec PyProof.Rows L2

/-! ### slots -/
theorem es_len : ∀ (env : Env) (i : Nat) (s : Slot), (es env i s).length = env.length
  | [], _, _ => rfl
  | _ :: _, 0, _ => rfl
  | _ :: r, i + 1, s => congrArg (· + 1) (es_len r i s)
theorem eg_ne : ∀ (env : Env) (i j : Nat) (s : Slot), j ≠ i → eg (es env i s) j = eg env j
  | [], _, _, _, _ => rfl
  | _ :: _, 0, 0, _, h => absurd rfl h
  | _ :: _, 0, j + 1, _, _ => rfl
  | _ :: _, i + 1, 0, _, _ => rfl
  | _ :: r, i + 1, j + 1, s, h => eg_ne r i j s (fun e => h (by rw [e]))
theorem eg_out : ∀ (env : Env) (i : Nat), env.length ≤ i → eg env i = .un
  | [], _, _ => rfl
  | _ :: r, 0, h => absurd h (by simp)
  | _ :: r, i + 1, h => eg_out r i (Nat.le_of_succ_le_succ h)
theorem eg_eq : ∀ (env : Env) (i : Nat) (s : Slot), i < env.length → eg (es env i s) i = s
  | [], _, _, h => absurd h (by simp)
  | _ :: _, 0, _, _ => rfl
  | _ :: r, i + 1, s, h => eg_eq r i s (Nat.lt_of_succ_lt_succ h)
def om (ω : Nat → Option Addr) (i : Nat) : Nat → Option Addr := fun j => if j = i then none else ω j
theorem om_some {ω : Nat → Option Addr} {i j : Nat} {a : Addr} (h : om ω i j = some a) : ω j = some a ∧ j ≠ i := by
  unfold om at h
  split at h
  · cases h
  · exact ⟨h, by assumption⟩
section
variable {T : Nat → Str} {K : PySem.W.Frag} {O : Addr → Prop} {wa : Option Addr} {env : Env} {ω : Nat → Option Addr} {ws : WS} {σ : L2.St} {H : Hp}
theorem SS_om {i : Nat} {a : Addr} (h : SS O (om ω i) wa a) : SS O ω wa a := by
  rcases h with h | ⟨j, h⟩ | h
  · exact .inl h
  · exact .inr (.inl ⟨j, (om_some h).1⟩)
  · exact .inr (.inr h)
/-- a name is stored -/
theorem StR.set (h : StR T K O wa env ω ws σ H) (i : Nat) {d : D} {v : V} (r : Rep T K wa (hid (SS O ω wa) H) d v) :
    StR T K O wa (es env i (.va d)) (om ω i) ws (σ.set i (some v)) H := by
  have m : Same (hid (SS O ω wa) H) (hid (SS O (om ω i) wa) H) := hid_mono (fun _ _ _ q => q) fun _ => SS_om
  refine ⟨by rw [List.length_set, es_len]; exact h.len, fun j => ?_, fun j a q => ?_, fun j l a q q' => h.inj j l a (om_some q).1 (om_some q').1, h.dom, h.wsr.mono m fun _ _ _ q => q⟩
  · by_cases e : j = i
    · subst e
      by_cases hl : j < env.length
      · rw [eg_eq env j _ hl]
        exact ⟨v, by rw [List.getElem?_set_self (by rw [h.len]; exact hl)], r.mono m⟩
      · rw [eg_out _ _ (by rw [es_len]; omega)]
        trivial
    · rw [eg_ne env i j _ e]
      have q := h.slot j
      cases hs : eg env j with
      | un => trivial
      | va d =>
        rw [hs] at q
        obtain ⟨v, h1, h2⟩ := q
        exact ⟨v, by rw [List.getElem?_set_ne (Ne.symm e)]; exact h1, h2.mono m⟩
      | ow d =>
        rw [hs] at q
        obtain ⟨a, h1, h2, h3⟩ := q
        exact ⟨a, by unfold om; rw [if_neg e]; exact h1, by rw [List.getElem?_set_ne (Ne.symm e)]; exact h2, h3.mono m fun _ q => q⟩
  · obtain ⟨q, e⟩ := om_some q
    rw [eg_ne env i j _ e]
    exact h.own j a q
/-- a name is forgotten, what it owned is hidden -/
theorem StR.forget (h : StR T K O wa env ω ws σ H) (i : Nat) : StR T K (fun a => O a ∨ ω i = some a) wa (es env i .un) (om ω i) ws (σ.set i none) H := by
  have m : Same (hid (SS O ω wa) H) (hid (SS (fun a => O a ∨ ω i = some a) (om ω i) wa) H) := hid_mono (fun _ _ _ q => q) fun a q => by
    rcases q with (q | q) | ⟨j, q⟩ | q
    · exact .inl q
    · exact .inr (.inl ⟨i, q⟩)
    · exact .inr (.inl ⟨j, (om_some q).1⟩)
    · exact .inr (.inr q)
  refine ⟨by rw [List.length_set, es_len]; exact h.len, fun j => ?_, fun j a q => ?_, fun j l a q q' => h.inj j l a (om_some q).1 (om_some q').1, fun a q => ?_, h.wsr.mono m fun _ _ _ q => q⟩
  · by_cases e : j = i
    · subst e
      by_cases hl : j < env.length
      · rw [eg_eq env j _ hl]
        trivial
      · rw [eg_out _ _ (by rw [es_len]; omega)]
        trivial
    · rw [eg_ne env i j _ e]
      have q := h.slot j
      cases hs : eg env j with
      | un => trivial
      | va d =>
        rw [hs] at q
        obtain ⟨v, h1, h2⟩ := q
        exact ⟨v, by rw [List.getElem?_set_ne (Ne.symm e)]; exact h1, h2.mono m⟩
      | ow d =>
        rw [hs] at q
        obtain ⟨a, h1, h2, h3⟩ := q
        exact ⟨a, by unfold om; rw [if_neg e]; exact h1, by rw [List.getElem?_set_ne (Ne.symm e)]; exact h2, h3.mono m fun _ q => q⟩
  · obtain ⟨q, e⟩ := om_some q
    rw [eg_ne env i j _ e]
    have z := h.own j a q
    exact ⟨z.1, fun y => y.elim z.2.1 fun y => e (h.inj j i a q y), z.2.2⟩
  · rcases q with q | q
    · exact h.dom a q
    · exact h.sdom (.inr (.inl ⟨i, q⟩))
def oms (ω : Nat → Option Addr) : List Nat → Nat → Option Addr
  | [] => ω
  | i :: is => om (oms ω is) i
theorem oms_some {ω : Nat → Option Addr} : ∀ {is : List Nat} {j : Nat} {a : Addr}, oms ω is j = some a → ω j = some a ∧ j ∉ is
  | [], _, _, h => ⟨h, by simp⟩
  | i :: is, j, a, h => by
    obtain ⟨h1, h2⟩ := om_some h
    obtain ⟨h3, h4⟩ := oms_some (is := is) h1
    exact ⟨h3, by simp [h2, h4]⟩
theorem StR.iff {O' : Addr → Prop} (h : StR T K O wa env ω ws σ H) (e : ∀ a, O' a ↔ O a) : StR T K O' wa env ω ws σ H := by
  have : O' = O := funext fun a => propext (e a)
  rw [this]; exact h
theorem StR.wipe (h : StR T K O wa env ω ws σ H) : ∀ is : List Nat, StR T K (fun a => O a ∨ ∃ i ∈ is, ω i = some a) wa (wipeE env is) (oms ω is) ws (L2.wipe σ is) H
  | [] => h.iff fun a => by simp
  | i :: is => by
    refine ((h.wipe is).forget i).iff fun a => ?_
    constructor
    · rintro (q | ⟨j, hj, q⟩)
      · exact .inl (.inl q)
      · rcases List.mem_cons.mp hj with e | hj
        · subst e
          by_cases hm : j ∈ is
          · exact .inl (.inr ⟨j, hm, q⟩)
          · refine .inr ?_
            have : ∀ l : List Nat, j ∉ l → oms ω l j = some a := by
              intro l
              induction l with
              | nil => intro _; exact q
              | cons x l ih =>
                intro hl
                simp only [List.mem_cons, not_or] at hl
                show om (oms ω l) x j = some a
                unfold om
                rw [if_neg hl.1]
                exact ih hl.2
            exact this is hm
        · exact .inl (.inr ⟨j, hj, q⟩)
    · rintro ((q | ⟨j, hj, q⟩) | q)
      · exact .inl q
      · exact .inr ⟨j, List.mem_cons_of_mem _ hj, q⟩
      · exact .inr ⟨i, List.mem_cons_self, (oms_some q).1⟩
/-- another heap, the same but for what is hidden from outside, and the record -/
theorem StR.evolve {ws' : WS} {H' : Hp} (h : StR T K O wa env ω ws σ H) (e : ∀ a o, ¬ O a → wa ≠ some a → H a = some o → H' a = some o) (ed : ∀ a, O a → H' a ≠ none) (w : WsR T K (hid (SS O ω wa) H') H' wa ws') :
    StR T K O wa env ω ws' σ H' := by
  have m : Same (hid (SS O ω wa) H) (hid (SS O ω wa) H') := hid_mono (fun a o s q => e a o (fun z => s (.inl z)) (fun z => s (.inr (.inr z))) q) fun _ q => q
  refine ⟨h.len, fun i => ?_, h.own, h.inj, ed, w⟩
  have q := h.slot i
  cases hs : eg env i with
  | un => trivial
  | va d =>
    rw [hs] at q
    obtain ⟨v, h1, h2⟩ := q
    exact ⟨v, h1, h2.mono m⟩
  | ow d =>
    rw [hs] at q
    obtain ⟨a, h1, h2, h3⟩ := q
    exact ⟨a, h1, h2, h3.mono m fun o q => e a o (h.own i a h1).2.1 (h.own i a h1).2.2 q⟩
/-! ### targets -/
def gNames : List Nat → TGs
  | [] => gNil
  | i :: is => gCons (gName i) (gNames is)
/-- a tuple or a list is taken apart -/
def gUT (K : PySem.W.Frag) (n : Nat) (t : TGs) : TG := fun v σ H Q => gTup K n t v σ H Q ∨ gUnl K n t v σ H Q
theorem pg_ut {X : Cx} {es : List Expr} {k : Nat} {t : TGs} {n : Nat} {pos : Pos} (hc : X.calm = true) (h : PGs X es t)
    (hn : (assignEach es X.env).length = n) (hst : (assignEach es X.env).findIdx? (·.1) = none) : PG X (.Tuple es k pos) (gUT X.K n t) :=
  ⟨fun pins s σ H v u Q I r hw => hw.elim ((pg_tup hc h hn hst).run pins s σ H v u Q I r) ((pg_unl hc h hn hst).run pins s σ H v u Q I r)⟩
def gNmT (K : PySem.W.Frag) : List Nat → TG
  | [i] => gName i
  | is => gTup K is.length (gNames is)
def gNmsT (K : PySem.W.Frag) : List (List Nat) → TGs
  | [] => gNil
  | t :: ts => gCons (gNmT K t) (gNmsT K ts)
def gT (K : PySem.W.Frag) : Tg → TG
  | .nm i => gName i
  | .tp is => gUT K is.length (gNames is)
  | .tq ts => gTup K ts.length (gNmsT K ts)
theorem wipe_set {σ : L2.St} {i : Nat} {x : Option V} : ∀ {vs : List Nat}, i ∈ vs → L2.wipe (σ.set i x) vs = L2.wipe σ vs
  | [], h => by simp at h
  | v :: vs, h => by
    show (L2.wipe (σ.set i x) vs).set v none = (L2.wipe σ vs).set v none
    by_cases hm : i ∈ vs
    · rw [wipe_set hm]
    · have e : i = v := by
        rcases List.mem_cons.mp h with e | h
        · exact e
        · exact absurd h hm
      subst e
      have : ∀ (vs : List Nat) (σ : L2.St), i ∉ vs → L2.wipe (σ.set i x) vs = (L2.wipe σ vs).set i x := by
        intro vs
        induction vs with
        | nil => intro σ _; rfl
        | cons w vs ih =>
          intro σ hw
          simp only [List.mem_cons, not_or] at hw
          show (L2.wipe (σ.set i x) vs).set w none = ((L2.wipe σ vs).set w none).set i x
          rw [ih σ hw.2, List.set_comm _ _ hw.1]
      rw [this vs σ hm, List.set_set]
theorem wipe_idem (σ : L2.St) : ∀ vs : List Nat, L2.wipe (L2.wipe σ vs) vs = L2.wipe σ vs := by
  have key : ∀ (us vs : List Nat) (σ : L2.St), (∀ v ∈ us, v ∈ vs) → L2.wipe (L2.wipe σ us) vs = L2.wipe σ vs := by
    intro us
    induction us with
    | nil => intro vs σ _; rfl
    | cons u us ih =>
      intro vs σ h
      show L2.wipe ((L2.wipe σ us).set u none) vs = L2.wipe σ vs
      rw [wipe_set (h u List.mem_cons_self), ih vs σ fun v hv => h v (List.mem_cons_of_mem _ hv)]
  exact fun vs => key vs vs σ fun _ h => h
theorem setAll_ok {vs0 : List Nat} : ∀ {is : List Nat} {ds : List D} {vs : List V} {env env1 : Env} {ω : Nat → Option Addr} {σ : L2.St} {Q : L2.St → Hp → Prop}, StR T K O wa env ω ws σ H → Reps T K wa (hid (SS O ω wa) H) ds vs → setAll env is ds = some env1 →
    (∀ σ1 ω1, StR T K O wa env1 ω1 ws σ1 H → (∀ j, j ∉ is → ω1 j = ω j) → (∀ j a, ω1 j = some a → ω j = some a) → ((∀ i ∈ is, i ∈ vs0) → L2.wipe σ1 vs0 = L2.wipe σ vs0) → Q σ1 H) → vs.length = is.length ∧ gNames is vs σ H Q
  | [], [], _, env, env1, ω, σ, Q, st, .nil, e, k => by
    cases e
    exact ⟨rfl, rfl, k σ ω st (fun _ _ => rfl) (fun _ _ h => h) fun _ => rfl⟩
  | [], _ :: _, _, _, _, _, _, _, _, _, e, _ => by simp [setAll] at e
  | _ :: _, [], _, _, _, _, _, _, _, _, e, _ => by simp [setAll] at e
  | i :: is, d :: ds, _, env, env1, ω, σ, Q, st, .cons (v := v) (vs := vs) r t, e, k => by
    simp only [setAll] at e
    have st1 := st.set i r
    have m : Same (hid (SS O ω wa) H) (hid (SS O (om ω i) wa) H) := hid_mono (fun _ _ _ q => q) fun _ => SS_om
    have ih := setAll_ok (vs0 := vs0) (Q := Q) st1 (t.mono m) e fun σ1 ω1 st2 h1 h2 h3 => k σ1 ω1 st2 (fun j hj => ?_) (fun j a q => (om_some (h2 j a q)).1) fun hm => ?_
    · exact ⟨by rw [List.length_cons, List.length_cons, ih.1], v, vs, rfl, ih.2⟩
    · simp only [List.mem_cons, not_or] at hj
      rw [h1 j hj.2]
      unfold om
      rw [if_neg hj.1]
    · rw [h3 fun x hx => hm x (List.mem_cons_of_mem _ hx), wipe_set (hm i List.mem_cons_self)]
theorem bind1_ok {vs0 : List Nat} {t : List Nat} {d : D} {v : V} {env1 : Env} {Q : L2.St → Hp → Prop} (st : StR T K O wa env ω ws σ H) (r : Rep T K wa (hid (SS O ω wa) H) d v) (e : bind1 env t d = some env1)
    (k : ∀ σ1 ω1, StR T K O wa env1 ω1 ws σ1 H → (∀ j, j ∉ t → ω1 j = ω j) → (∀ j a, ω1 j = some a → ω j = some a) → ((∀ i ∈ t, i ∈ vs0) → L2.wipe σ1 vs0 = L2.wipe σ vs0) → Q σ1 H) : gNmT K t v σ H Q := by
  have tupC : ∀ is : List Nat, (∀ v, gNmT K is v = gTup K is.length (gNames is) v) → (∀ xs, bind1 env is (.tup xs) = setAll env is xs) → (∀ d, (∀ xs, d ≠ .tup xs) → bind1 env is d = none) → is = t → gNmT K t v σ H Q := by
    intro is g1 g2 g3 et
    subst et
    rw [g1]
    cases d with
    | tup xs =>
      rw [g2] at e
      cases r with
      | tup h r =>
        have := setAll_ok (vs0 := vs0) (Q := Q) st r e k
        exact ⟨_, _, rfl, (h.mono hid_le).sq, this.1, this.2⟩
    | _ => rw [g3 _ (by intro xs z; cases z)] at e; cases e
  match t, e, k with
  | [i], e, k =>
    simp only [bind1] at e
    cases e
    refine k _ _ (st.set i r) (fun j hj => ?_) (fun j a q => (om_some q).1) fun hm => wipe_set (hm i (by simp))
    unfold om
    rw [if_neg (by simpa using hj)]
  | [], e, k => exact tupC [] (fun _ => rfl) (fun _ => rfl) (fun d hd => by cases d <;> first | rfl | exact absurd rfl (hd _)) rfl
  | i :: j :: l, e, k => exact tupC (i :: j :: l) (fun _ => rfl) (fun _ => rfl) (fun d hd => by cases d <;> first | rfl | exact absurd rfl (hd _)) rfl
theorem setAllT_len : ∀ {ts : List (List Nat)} {ds : List D} {env env1 : Env}, setAllT env ts ds = some env1 → ds.length = ts.length
  | [], [], _, _, _ => rfl
  | [], _ :: _, _, _, e => by simp [setAllT] at e
  | _ :: _, [], _, _, e => by simp [setAllT] at e
  | t :: ts, d :: ds, env, env1, e => by
    simp only [setAllT] at e
    split at e
    · cases e
    · rw [List.length_cons, List.length_cons, setAllT_len e]
theorem setAllT_ok {vs0 : List Nat} : ∀ {ts : List (List Nat)} {ds : List D} {vs : List V} {env env1 : Env} {ω : Nat → Option Addr} {σ : L2.St} {Q : L2.St → Hp → Prop}, StR T K O wa env ω ws σ H → Reps T K wa (hid (SS O ω wa) H) ds vs → setAllT env ts ds = some env1 →
    (∀ σ1 ω1, StR T K O wa env1 ω1 ws σ1 H → (∀ j, j ∉ ts.flatten → ω1 j = ω j) → (∀ j a, ω1 j = some a → ω j = some a) → ((∀ i ∈ ts.flatten, i ∈ vs0) → L2.wipe σ1 vs0 = L2.wipe σ vs0) → Q σ1 H) → gNmsT K ts vs σ H Q
  | [], [], _, env, env1, ω, σ, Q, st, .nil, e, k => by
    cases e
    exact ⟨rfl, k σ ω st (fun _ _ => rfl) (fun _ _ h => h) fun _ => rfl⟩
  | [], _ :: _, _, _, _, _, _, _, _, _, e, _ => by simp [setAllT] at e
  | _ :: _, [], _, _, _, _, _, _, _, _, e, _ => by simp [setAllT] at e
  | t :: ts, d :: ds, _, env, env1, ω, σ, Q, st, .cons (v := v) (vs := vs) r tl, e, k => by
    simp only [setAllT] at e
    split at e
    · cases e
    rename_i env2 e1
    refine ⟨v, vs, rfl, bind1_ok (vs0 := vs0) st r e1 fun σ1 ω1 st1 h1 h2 h3 => ?_⟩
    have m : Same (hid (SS O ω wa) H) (hid (SS O ω1 wa) H) := hid_mono (fun _ _ _ q => q) fun a q => by
      rcases q with q | ⟨j, q⟩ | q
      · exact .inl q
      · exact .inr (.inl ⟨j, h2 j a q⟩)
      · exact .inr (.inr q)
    refine setAllT_ok (vs0 := vs0) st1 (tl.mono m) e fun σ2 ω2 st2 g1 g2 g3 => k σ2 ω2 st2 (fun j hj => ?_) (fun j a q => h2 j a (g2 j a q)) fun hm => ?_
    · simp only [List.flatten_cons, List.mem_append, not_or] at hj
      rw [g1 j hj.2, h1 j hj.1]
    · simp only [List.flatten_cons, List.mem_append] at hm
      rw [g3 fun i hi => hm i (.inr hi), h3 fun i hi => hm i (.inl hi)]
theorem bindT_ok {vs0 : List Nat} {tg : Tg} {d : D} {v : V} {env1 : Env} {Q : L2.St → Hp → Prop} (st : StR T K O wa env ω ws σ H) (r : Rep T K wa (hid (SS O ω wa) H) d v) (e : bindT env tg d = some env1)
    (k : ∀ σ1 ω1, StR T K O wa env1 ω1 ws σ1 H → (∀ j, j ∉ tgs tg → ω1 j = ω j) → (∀ j a, ω1 j = some a → ω j = some a) → ((∀ i ∈ tgs tg, i ∈ vs0) → L2.wipe σ1 vs0 = L2.wipe σ vs0) → Q σ1 H) : gT K tg v σ H Q := by
  cases tg with
  | nm i =>
    simp only [bindT] at e
    cases e
    refine k _ _ (st.set i r) (fun j hj => ?_) (fun j a q => (om_some q).1) fun hm => wipe_set (hm i (by simp [tgs]))
    unfold om
    rw [if_neg (by simpa [tgs] using hj)]
  | tp is =>
    cases d <;> simp only [bindT] at e <;> try cases e
    · cases r with
      | tup h r =>
        have := setAll_ok (vs0 := vs0) (Q := Q) st r e k
        exact .inl ⟨_, _, rfl, (h.mono hid_le).sq, this.1, this.2⟩
    · cases r with
      | lst h r =>
        have := setAll_ok (vs0 := vs0) (Q := Q) st r e k
        exact .inr ⟨_, _, rfl, .inl (.inl (hid_in h).1), this.1, this.2⟩
  | tq ts =>
    cases d <;> simp only [bindT] at e <;> try cases e
    cases r with
    | tup h r =>
      exact ⟨_, _, rfl, (h.mono hid_le).sq, by rw [← r.len]; exact setAllT_len e, setAllT_ok (vs0 := vs0) (Q := Q) st r e k⟩
end

/-! ### what is walked -/
def ItOk (M : Addr → Prop) (J : It) (vs : List V) (H : Hp) : Prop :=
  ∀ H1, (∀ b o, ¬ M b → H b = some o → H1 b = some o) → ∀ i, (i < vs.length → J.go i H1 ∧ ∀ x H2, J.yld i H1 x H2 → H2 = H1 ∧ vs[i]? = some x) ∧ (vs.length ≤ i → J.stop i H1)
theorem itok_l {K : PySem.W.Frag} {M : Addr → Prop} {a : Addr} {vs : List V} {H : Hp} (h : ∀ H1, (∀ b o, ¬ M b → H b = some o → H1 b = some o) → SqL K H1 a vs) : ItOk M (Itl K a) vs H := fun H1 k i =>
  have q := h H1 k
  ⟨fun hi => ⟨⟨vs, vs[i], q, List.getElem?_eq_getElem hi⟩, fun x H2 y => ⟨y.1, y.2 vs q⟩⟩, fun hi => ⟨vs, q, hi⟩⟩
theorem itok_t {K : PySem.W.Frag} {M : Addr → Prop} {a : Addr} {vs : List V} {H : Hp} (h : ∀ H1, (∀ b o, ¬ M b → H b = some o → H1 b = some o) → SqT K H1 a vs) : ItOk M (Itt K a) vs H := fun H1 k i =>
  have q := h H1 k
  ⟨fun hi => ⟨⟨vs, vs[i], q, List.getElem?_eq_getElem hi⟩, fun x H2 y => ⟨y.1, y.2 vs q⟩⟩, fun hi => ⟨vs, q, hi⟩⟩
def tI (T : Nat → Str) (K : PySem.W.Frag) (fz : Bool) (f : EvF) : TI := fun σ H R => ∃ O wa env ω ws x ds ws', StR T K O wa env ω ws σ H ∧ f env ws = some (x, ws') ∧ itemsOf x = some ds ∧
  ∀ J H' vs, StR T K O wa env ω ws' σ H' → Stp wa H H' → Reps T K wa (hid (SS O ω wa) H') ds vs → ItOk (fun b => if fz then SS O ω wa b else wa = some b) J vs H' → R J H'
section
variable {T : Nat → Str} {X : Cx} {tg e a b : Expr} {fa fb : EvF} {pos p : Pos} {fz : Bool}
theorem PI.or {t t' : TI} (h : PI X tg e t) (h' : PI X tg e t') : PI X tg e (fun σ H R => t σ H R ∨ t' σ H R) :=
  ⟨fun pins s σ H R I q => q.elim (h.run pins s σ H R I) (h'.run pins s σ H R I)⟩
theorem mfz {O : Addr → Prop} {wa : Option Addr} {ω : Nat → Option Addr} {b : Addr} (s : ¬ SS O ω wa b) : ¬ (if fz then SS O ω wa b else wa = some b) := by
  cases fz
  · exact fun z => s (.inr (.inr (by simpa using z)))
  · simpa using s
theorem pi_v (ha : PE X a (if fz then tE T X.K fa else tB T X.K fa)) : PI X tg a (tI T X.K fz fa) :=
  PI.mono (PI.or (pi_list ha) (pi_tup ha)) fun σ H R ⟨O, wa, env, ω, ws, x, ds, ws', st, hf, hi, k⟩ => by
    -- the value, whatever kind it is
    have go : ∀ (W : V → Hp → Prop), (∀ v H', StR T X.K O wa env ω ws' σ H' → Stp wa H H' → (if fz then Rep T X.K wa (hid (SS O ω wa) H') x v else RepB T X.K wa (hid (SS O ω wa) H') H' x v) → W v H') → (if fz then tE T X.K fa else tB T X.K fa) σ H W := by
      intro W w
      cases fz
      · exact ⟨O, wa, env, ω, ws, x, ws', st, hf, fun v H' st' sp r => w v H' st' sp r⟩
      · exact ⟨O, wa, env, ω, ws, x, ws', st, hf, fun v H' st' sp r => w v H' st' sp r⟩
    have tb : ∀ {H' : Hp} {v : V}, (if fz then Rep T X.K wa (hid (SS O ω wa) H') x v else RepB T X.K wa (hid (SS O ω wa) H') H' x v) → RepB T X.K wa (hid (SS O ω wa) H') H' x v := fun h => by
      cases fz
      · exact h
      · exact .inl h
    cases x <;> simp only [itemsOf] at hi <;> cases hi
    · refine .inr (go _ fun v H' st' sp r => ?_)
      obtain ⟨p, vs, rfl, h1, h1', q1⟩ := (tb r).tup
      refine ⟨p, rfl, ⟨vs, h1⟩, k _ H' vs st' sp q1 (itok_t fun H1 kk => ?_)⟩
      rcases h1' with ⟨o, h, nd⟩ | h
      · exact .inl (.inr ⟨o, kk _ _ (mfz (hid_in h).2) (hid_in h).1⟩)
      · exact PlT.sq (H := H1) (.inr h)
    · refine .inl (go _ fun v H' st' sp r => ?_)
      cases fz
      · have r : RepB T X.K wa (hid (SS O ω wa) H') H' _ v := r
        rcases r with r | ⟨p, rfl, nw, vs, h1, q1⟩
        · cases r with
          | lst h q1 =>
            exact ⟨_, rfl, ⟨_, .inl (.inl (hid_in h).1)⟩, k _ H' _ st' sp q1 (itok_l fun H1 kk => .inl (.inl (kk _ _ (mfz (hid_in h).2) (hid_in h).1)))⟩
        · exact ⟨p, rfl, ⟨vs, .inl (.inl h1)⟩, k _ H' vs st' sp q1 (itok_l fun H1 kk => .inl (.inl (kk _ _ (by simpa using nw) h1)))⟩
      · have r : Rep T X.K wa (hid (SS O ω wa) H') _ v := r
        cases r with
        | lst h q1 =>
          exact ⟨_, rfl, ⟨_, .inl (.inl (hid_in h).1)⟩, k _ H' _ st' sp q1 (itok_l fun H1 kk => .inl (.inl (kk _ _ (mfz (hid_in h).2) (hid_in h).1)))⟩
    · refine .inl (go _ fun v H' st' sp r => ?_)
      rcases tb r with r | ⟨p, rfl, nw, r⟩
      · cases r with
        | scr h =>
          refine ⟨_, rfl, ⟨_, Same.seq hid_le h⟩, k _ H' _ st' sp (reps_ints _) (itok_l fun H1 kk => ?_)⟩
          rcases h with (h | ⟨o, h⟩) | h
          · exact .inl (.inl (kk _ _ (mfz (hid_in h).2) (hid_in h).1))
          · exact .inl (.inr ⟨o, kk _ _ (mfz (hid_in h).2) (hid_in h).1⟩)
          · exact .inr h
      · exact r.elim
def rngF (fa : EvF) : EvF := fun env ws => match fa env ws with
  | some (.int j, ws1) => if decide (-100000 ≤ j) && decide (j ≤ 100000) then some (.lst ((List.range j.toNat).map fun k : Nat => .int (0 + (k : Int))), ws1) else none
  | _ => none
def rng2F (fa fb : EvF) : EvF := fun env ws => match fa env ws with
  | some (.int i, ws1) => match fb env ws1 with
    | some (.int j, ws2) => if decide (-100000 ≤ i) && decide (i ≤ 100000) && decide (-100000 ≤ j) && decide (j ≤ 100000) then
        some (.lst ((List.range (j - i).toNat).map fun k : Nat => .int (i + (k : Int))), ws2) else none
    | _ => none
  | _ => none
theorem itok_r {M : Addr → Prop} {lo : Int} {n : Nat} {H : Hp} : ItOk M (Itr lo n) ((List.range n).map fun k : Nat => V.int (lo + (k : Int))) H := fun H1 _ i => by
  rw [List.length_map, List.length_range]
  refine ⟨fun hi => ⟨hi, fun x H2 y => ⟨y.1, ?_⟩⟩, fun hi => hi⟩
  rw [List.getElem?_map, List.getElem?_range hi, y.2]
  rfl
theorem reps_rng {T : Nat → Str} {K : PySem.W.Frag} {wa : Option Addr} {H : Hp} (lo : Int) (l : List Nat) : Reps T K wa H (l.map fun k : Nat => D.int (lo + (k : Int))) (l.map fun k : Nat => V.int (lo + (k : Int))) := by
  induction l with
  | nil => exact .nil
  | cons x l ih => exact .cons (.int _) ih
theorem pi_r1 (hg : Gl X "range") (hm : X.mg "range" = none) (ha : PE X a (tE T X.K fa)) (hs : noStar a = true) : PI X tg (.Call (.Name "range" p) [a] [] pos) (tI T X.K fz (rngF fa)) :=
  PI.mono (pi_range1 hg hm (pa_cons ha pa_nil (star_cons hs _ _)) (star_cons hs _ _)) fun σ H R ⟨O, wa, env, ω, ws, x, ds, ws', st, hf, hi, k⟩ => by
    unfold rngF at hf
    split at hf
    · rename_i j ws1 e1
      split at hf
      · rename_i hb
        rw [Bool.and_eq_true, decide_eq_true_eq, decide_eq_true_eq] at hb
        cases hf
        simp only [itemsOf] at hi
        cases hi
        refine ⟨O, wa, env, ω, ws, _, _, st, e1, fun v H1 st1 sp1 r => ?_⟩
        cases r
        refine ⟨j, rfl, by omega, by omega, k _ H1 _ st1 sp1 (reps_rng 0 _) itok_r⟩
      · cases hf
    · cases hf
theorem pi_r2 (hg : Gl X "range") (hm : X.mg "range" = none) (ha : PE X a (tE T X.K fa)) (hb : PE X b (tE T X.K fb)) (hs : noStar a = true) (hs2 : noStar b = true) : PI X tg (.Call (.Name "range" p) [a, b] [] pos) (tI T X.K fz (rng2F fa fb)) :=
  PI.mono (pi_range2 hg hm (pa_cons ha (pa_cons hb pa_nil (star_cons hs2 _ _)) (star_cons hs _ _)) (by rw [star_cons hs, star_cons hs2]; rfl) (star_cons hs2 _ _)) fun σ H R ⟨O, wa, env, ω, ws, x, ds, ws', st, hf, hi, k⟩ => by
    unfold rng2F at hf
    split at hf
    · rename_i i ws1 e1
      split at hf
      · rename_i j ws2 e2
        split at hf
        · rename_i hb
          rw [Bool.and_eq_true, Bool.and_eq_true, Bool.and_eq_true, decide_eq_true_eq, decide_eq_true_eq, decide_eq_true_eq, decide_eq_true_eq] at hb
          cases hf
          simp only [itemsOf] at hi
          cases hi
          refine ⟨O, wa, env, ω, ws, _, _, st, e1, fun v H1 st1 sp1 r => ?_⟩
          cases r
          refine ⟨O, wa, env, ω, _, _, _, st1, e2, fun v H2 st2 sp2 r => ?_⟩
          cases r
          refine ⟨i, j, rfl, ⟨by omega, by omega, by omega, by omega⟩, k _ H2 _ st2 (sp1.trans sp2) (reps_rng i _) itok_r⟩
        · cases hf
      · cases hf
    · cases hf
end
end Pv

set_option Elab.async false
set_option linter.all false
set_option maxRecDepth 100000
set_option maxHeartbeats 4000000
/-! Pv8: comprehensions, calls of defs. -/
namespace Pv
open PySem PySem.Spec PyProof.Rows L2

def compF (fi : EvF) (ft : EvTF) (fe : EvF) (tg : Tg) : EvF := fun env ws => match fi env ws with
  | none => none
  | some (x, ws1) => match itemsOf x with
    | none => none
    | some ds => if okLen ds.length then match compL ft fe tg (wipeE env (tgs tg)) ds ws1 with
      | none => none
      | some (r, ws2) => some (.lst r, ws2) else none
theorem compL_len {ft : EvTF} {fe : EvF} {tg : Tg} {env : Env} : ∀ {ds : List D} {ws : WS} {r : List D} {ws' : WS}, compL ft fe tg env ds ws = some (r, ws') → r.length ≤ ds.length
  | [], _, _, _, h => by simp only [compL] at h; cases h; exact Nat.le_refl _
  | d :: ds, ws, r, ws', h => by
    simp only [compL] at h
    split at h
    · cases h
    split at h
    · cases h
    · exact Nat.le_succ_of_le (compL_len h)
    · split at h
      · cases h
      split at h
      · cases h
      rename_i e
      cases h
      exact Nat.succ_le_succ (compL_len e)
section
variable {T : Nat → Str} {K : PySem.W.Frag} {fi fe : EvF} {ft : EvTF} {tg : Tg}
theorem lc_read (σ : L2.St) (H : Hp) (Q : VK) (h : tF T K (compF fi ft fe tg) σ H Q) : tLc (tI T K false fi) (gT K tg) (tT T K ft) (tE T K fe) (tgs tg) σ H Q := by
  obtain ⟨O, wa, env, ω, ws, d, ws', st, hf, k⟩ := h
  unfold compF at hf
  split at hf
  · cases hf
  rename_i x ws1 e1
  split at hf
  · cases hf
  rename_i ds e2
  split at hf
  case isFalse => cases hf
  rename_i hlen
  split at hf
  · cases hf
  rename_i res ws2 e3
  cases hf
  refine ⟨O, wa, env, ω, ws, x, ds, ws1, st, e1, e2, fun J H1 vs st1 sp1 rs it D hD => ?_⟩
  have lds := rs.len
  have nwD : wa ≠ some D := fun z => st1.fresh hD (.inr (.inr z))
  have nS := st1.fresh hD
  -- the block's owners
  let O2 : Addr → Prop := fun a => (O a ∨ a = D) ∨ ∃ i ∈ tgs tg, ω i = some a
  have stD : StR T K (fun a => O a ∨ a = D) wa env ω ws1 σ (upd H1 D (.lst [])) := st1.more hD _
  have stB : StR T K O2 wa (wipeE env (tgs tg)) (oms ω (tgs tg)) ws1 (L2.wipe σ (tgs tg)) (upd H1 D (.lst [])) := stD.wipe (tgs tg)
  have seq : ∀ a, SS O2 (oms ω (tgs tg)) wa a ↔ SS (fun a => O a ∨ a = D) ω wa a := fun a => by
    constructor
    · rintro ((q | ⟨i, _, q⟩) | ⟨i, q⟩ | q)
      · exact .inl q
      · exact .inr (.inl ⟨i, q⟩)
      · exact .inr (.inl ⟨i, (oms_some q).1⟩)
      · exact .inr (.inr q)
    · rintro (q | ⟨i, q⟩ | q)
      · exact .inl (.inl q)
      · by_cases hm : i ∈ tgs tg
        · exact .inl (.inr ⟨i, hm, q⟩)
        · refine .inr (.inl ⟨i, ?_⟩)
          have : ∀ l : List Nat, i ∉ l → oms ω l i = some a := by
            intro l
            induction l with
            | nil => intro _; exact q
            | cons x l ih =>
              intro hl
              simp only [List.mem_cons, not_or] at hl
              show om (oms ω l) x i = some a
              unfold om
              rw [if_neg hl.1]
              exact ih hl.2
          exact this _ hm
      · exact .inr (.inr q)
  have hidE : ∀ Hc : Hp, hid (SS O2 (oms ω (tgs tg)) wa) Hc = hid (SS (fun a => O a ∨ a = D) ω wa) Hc := fun Hc => by
    have : SS O2 (oms ω (tgs tg)) wa = SS (fun a => O a ∨ a = D) ω wa := funext fun a => propext (seq a)
    rw [this]
  have rsD : Reps T K wa (hid (SS O2 (oms ω (tgs tg)) wa) (upd H1 D (.lst []))) ds vs := by
    rw [hidE]; exact rs.mono (new_at st1 hD)
  -- the word
  let W : Nat → Nat → Hp → Prop := fun i m Hc => ∃ wsc acc accd rest, StR T K O2 wa (wipeE env (tgs tg)) (oms ω (tgs tg)) wsc (L2.wipe σ (tgs tg)) Hc ∧
    (∀ b o, b ≠ D → wa ≠ some b → H1 b = some o → Hc b = some o) ∧ Hc D = some (.lst acc) ∧ Reps T K wa (hid (SS O2 (oms ω (tgs tg)) wa) Hc) accd acc ∧ accd.length ≤ i ∧
    Reps T K wa (hid (SS O2 (oms ω (tgs tg)) wa) Hc) ds vs ∧
    compL ft fe tg (wipeE env (tgs tg)) (ds.drop i) wsc = some (rest, ws') ∧ accd ++ rest = res ∧ m = ds.length - i ∧ i ≤ ds.length
  refine ⟨W, ⟨ds.length, ws1, [], [], res, stB, fun b o nb _ q => ?_, upd_same, .nil, Nat.le_refl _, rsD, by simpa using e3, rfl, by omega, Nat.zero_le _⟩, ?_⟩
  · rw [upd_ne nb]; exact q
  rintro i m Hc ⟨wsc, acc, accd, rest, stc, keep, hacc, racc, hal, rsc, hc, hres, rfl, hi⟩
  have itc := it Hc (fun b o nM q => keep b o (fun z => by rw [z, hD] at q; cases q) (by simpa using nM) q) i
  by_cases hlt : i < ds.length
  · -- a turn
    obtain ⟨hgo, hyld⟩ := itc.1 (by rw [← lds]; exact hlt)
    refine .inr ⟨hgo, fun H' => ∃ m', m' < ds.length - i ∧ W (i + 1) m' H', fun H' q => q, fun v H2 hy => ?_⟩
    obtain ⟨rfl, hv⟩ := hyld v H2 hy
    have hdrop : ds.drop i = ds[i] :: ds.drop (i + 1) := List.drop_eq_getElem_cons hlt
    rw [hdrop] at hc
    obtain ⟨v', hv', rv⟩ := rsc.get (i := i) (d := ds[i]) (List.getElem?_eq_getElem hlt)
    rw [hv] at hv'
    cases hv'
    simp only [compL] at hc
    split at hc
    · cases hc
    rename_i env1 eb
    refine bindT_ok (vs0 := tgs tg) stc rv eb fun σ1 ω1 st2 h1 h2 h3 => ?_
    refine ⟨by rw [h3 fun _ h => h, wipe_idem], ?_⟩
    have same_om : ω1 = oms ω (tgs tg) := by
      funext j
      by_cases hm : j ∈ tgs tg
      · cases q : oms ω (tgs tg) j with
        | none =>
          cases q2 : ω1 j with
          | none => rfl
          | some a => rw [h2 j a q2] at q; cases q
        | some a => exact absurd hm (oms_some q).2
      · exact h1 j hm
    subst same_om
    -- what the block may own is what it owned
    have back : ∀ {Hn : Hp} {wsn : WS}, StR T K O2 wa env1 (oms ω (tgs tg)) wsn σ1 Hn → Stp wa H2 Hn → StR T K O2 wa (wipeE env (tgs tg)) (oms ω (tgs tg)) wsn (L2.wipe σ (tgs tg)) Hn := fun {Hn wsn} sn sp =>
      stc.evolve (fun a o _ nw q => sp a o nw q) (fun a q => sn.dom a q) sn.wsr
    split at hc
    · cases hc
    · -- the test says no
      rename_i ws3 et
      refine ⟨O2, wa, env1, _, wsc, false, ws3, st2, et, fun H3 st3 sp3 => ?_⟩
      dsimp only
      rw [if_neg (by decide)]
      refine ⟨ds.length - (i + 1), by omega, ws3, acc, accd, rest, back st3 sp3, fun b o nb nw q => sp3 b o nw (keep b o nb nw q), sp3 _ _ nwD hacc, racc.mono sp3.hid, by omega, rsc.mono sp3.hid, hc, hres, rfl, hlt⟩
    · rename_i ws3 et
      split at hc
      · cases hc
      rename_i y ws4 ee
      split at hc
      · cases hc
      rename_i rest' ws5 er
      cases hc
      refine ⟨O2, wa, env1, _, wsc, true, ws3, st2, et, fun H3 st3 sp3 => ?_⟩
      dsimp only
      rw [if_pos rfl]
      refine ⟨O2, wa, env1, _, ws3, y, ws4, st3, ee, fun u H4 st4 sp4 ry => ?_⟩
      have hacc4 : H4 D = some (.lst acc) := sp4 _ _ nwD (sp3 _ _ nwD hacc)
      refine ⟨acc, hacc4, ?_, ?_⟩
      · rw [← racc.len]; exact Nat.lt_of_le_of_lt (Nat.le_trans hal (Nat.le_of_lt hlt)) (len_lt hlen)
      · have sp := sp3.trans sp4
        have st5 := (back st4 sp).wr (p := D) (.lst (acc ++ [u])) (.inl (.inr rfl)) nwD
        have mm : Same (hid (SS O2 (oms ω (tgs tg)) wa) H4) (hid (SS O2 (oms ω (tgs tg)) wa) (upd H4 D (.lst (acc ++ [u])))) := hid_mono (fun a o s q => by rw [upd_ne (fun z => s (by rw [z]; exact .inl (.inl (.inr rfl))))]; exact q) fun _ q => q
        refine ⟨ds.length - (i + 1), by omega, ws4, acc ++ [u], accd ++ [y], rest', st5, fun b o nb nw q => ?_, upd_same, ((racc.mono sp.hid).app (.cons ry .nil)).mono mm, by rw [List.length_append, List.length_singleton]; omega, (rsc.mono sp.hid).mono mm, er, by rw [← hres, List.append_assoc]; rfl, rfl, hlt⟩
        rw [upd_ne nb]
        exact sp b o nw (keep b o nb nw q)
  · -- the end
    have ei : i = ds.length := by omega
    subst ei
    refine .inl ⟨itc.2 (by rw [← lds]; exact Nat.le_refl _), ?_⟩
    rw [List.drop_length] at hc
    simp only [compL] at hc
    cases hc
    rw [List.append_nil] at hres
    subst hres
    refine k D Hc ?_ ?_ nS (st1.back sp1 hD) ⟨acc, hacc, ?_⟩
    · refine stD.evolve (fun a o nO nw q => ?_) (fun a q => stc.dom a (.inl q)) ?_
      · have ne : a ≠ D := fun z => nO (.inr z)
        rw [upd_ne ne] at q
        exact keep a o ne nw q
      · have := stc.wsr
        rw [hidE] at this
        exact this
    · exact fun b o nw q => keep b o (fun z => by rw [← z] at hD; rw [sp1 b o nw q] at hD; cases hD) nw (sp1 b o nw q)
    · rw [hidE] at racc
      exact racc
end
/-! ### two clauses -/
def comp2F (fi fs : EvF) (ft : EvTF) (fe : EvF) (tg tg2 : Tg) : EvF := fun env ws => match fi env ws with
  | none => none
  | some (x, ws1) => match itemsOf x with
    | none => none
    | some ds => match compL2 fs ft fe tg tg2 (wipeE env (tgs tg ++ tgs tg2)) ds ws1 with
      | none => none
      | some (r, ws2) => if okLen r.length then some (.lst r, ws2) else none
theorem oms_in {ω : Nat → Option Addr} : ∀ {l : List Nat} {i : Nat}, i ∈ l → oms ω l i = none := fun {l i} h => by
  cases q : oms ω l i with
  | none => rfl
  | some a => exact absurd h (oms_some q).2
theorem oms_out {ω : Nat → Option Addr} {i : Nat} : ∀ {l : List Nat}, i ∉ l → oms ω l i = ω i
  | [], _ => rfl
  | x :: l, h => by
    simp only [List.mem_cons, not_or] at h
    show om (oms ω l) x i = ω i
    unfold om
    rw [if_neg h.1]
    exact oms_out h.2
theorem oms_oms {ω : Nat → Option Addr} {l l2 : List Nat} (h : ∀ i ∈ l2, i ∈ l) : oms (oms ω l) l2 = oms ω l := by
  funext i
  by_cases hi : i ∈ l2
  · rw [oms_in hi, oms_in (h i hi)]
  · rw [oms_out hi]
section
variable {T : Nat → Str} {K : PySem.W.Frag} {fi fs fe : EvF} {ft : EvTF} {tg tg2 : Tg}
theorem lc2_read (σ : L2.St) (H : Hp) (Q : VK) (h : tF T K (comp2F fi fs ft fe tg tg2) σ H Q) :
    tLc2 (tI T K false fi) (gT K tg) (tT T K fun _ ws => some (true, ws)) (tI T K true fs) (gT K tg2) (tT T K ft) (tE T K fe) (tgs tg ++ tgs tg2) (tgs tg2) σ H Q := by
  obtain ⟨O, wa, env, ω, ws, d, ws', st, hf, k⟩ := h
  unfold comp2F at hf
  split at hf
  · cases hf
  rename_i x ws1 e1
  split at hf
  · cases hf
  rename_i ds e2
  split at hf
  · cases hf
  rename_i res ws2 e3
  split at hf
  case isFalse => cases hf
  rename_i hlen
  cases hf
  refine ⟨O, wa, env, ω, ws, x, ds, ws1, st, e1, e2, fun J H1 vs st1 sp1 rs it D hD => ?_⟩
  have lds := rs.len
  have nwD : wa ≠ some D := fun z => st1.fresh hD (.inr (.inr z))
  have nS := st1.fresh hD
  generalize hal : tgs tg ++ tgs tg2 = al at e3 ⊢
  have hm1 : ∀ i ∈ tgs tg, i ∈ al := fun i hi => by rw [← hal]; exact List.mem_append_left _ hi
  have hm2 : ∀ i ∈ tgs tg2, i ∈ al := fun i hi => by rw [← hal]; exact List.mem_append_right _ hi
  -- the block's owners
  let O2 : Addr → Prop := fun a => (O a ∨ a = D) ∨ ∃ i ∈ al, ω i = some a
  have stD : StR T K (fun a => O a ∨ a = D) wa env ω ws1 σ (upd H1 D (.lst [])) := st1.more hD _
  have stB : StR T K O2 wa (wipeE env al) (oms ω al) ws1 (L2.wipe σ al) (upd H1 D (.lst [])) := stD.wipe al
  have seq : ∀ a, SS O2 (oms ω al) wa a ↔ SS (fun a => O a ∨ a = D) ω wa a := fun a => by
    constructor
    · rintro ((q | ⟨i, _, q⟩) | ⟨i, q⟩ | q)
      · exact .inl q
      · exact .inr (.inl ⟨i, q⟩)
      · exact .inr (.inl ⟨i, (oms_some q).1⟩)
      · exact .inr (.inr q)
    · rintro (q | ⟨i, q⟩ | q)
      · exact .inl (.inl q)
      · by_cases hm : i ∈ al
        · exact .inl (.inr ⟨i, hm, q⟩)
        · exact .inr (.inl ⟨i, by rw [oms_out hm]; exact q⟩)
      · exact .inr (.inr q)
  have hidE : ∀ Hc : Hp, hid (SS O2 (oms ω al) wa) Hc = hid (SS (fun a => O a ∨ a = D) ω wa) Hc := fun Hc => by
    have : SS O2 (oms ω al) wa = SS (fun a => O a ∨ a = D) ω wa := funext fun a => propext (seq a)
    rw [this]
  have rsD : Reps T K wa (hid (SS O2 (oms ω al) wa) (upd H1 D (.lst []))) ds vs := by
    rw [hidE]; exact rs.mono (new_at st1 hD)
  -- the word
  let W : Nat → Nat → Hp → Prop := fun i m Hc => ∃ wsc acc accd rest, StR T K O2 wa (wipeE env al) (oms ω al) wsc (L2.wipe σ al) Hc ∧
    (∀ b o, b ≠ D → wa ≠ some b → H1 b = some o → Hc b = some o) ∧ Hc D = some (.lst acc) ∧ Reps T K wa (hid (SS O2 (oms ω al) wa) Hc) accd acc ∧
    Reps T K wa (hid (SS O2 (oms ω al) wa) Hc) ds vs ∧
    compL2 fs ft fe tg tg2 (wipeE env al) (ds.drop i) wsc = some (rest, ws') ∧ accd ++ rest = res ∧ m = ds.length - i ∧ i ≤ ds.length
  refine ⟨W, ⟨ds.length, ws1, [], [], res, stB, fun b o nb _ q => ?_, upd_same, .nil, rsD, by simpa using e3, rfl, by omega, Nat.zero_le _⟩, ?_⟩
  · rw [upd_ne nb]; exact q
  rintro i m Hc ⟨wsc, acc, accd, rest, stc, keep, hacc, racc, rsc, hc, hres, rfl, hi⟩
  have itc := it Hc (fun b o nM q => keep b o (fun z => by rw [z, hD] at q; cases q) (by simpa using nM) q) i
  by_cases hlt : i < ds.length
  · -- a turn
    obtain ⟨hgo, hyld⟩ := itc.1 (by rw [← lds]; exact hlt)
    refine .inr ⟨hgo, fun H' => ∃ m', m' < ds.length - i ∧ W (i + 1) m' H', fun H' q => q, fun v H2 hy => ?_⟩
    obtain ⟨rfl, hv⟩ := hyld v H2 hy
    have hdrop : ds.drop i = ds[i] :: ds.drop (i + 1) := List.drop_eq_getElem_cons hlt
    rw [hdrop] at hc
    obtain ⟨v', hv', rv⟩ := rsc.get (i := i) (d := ds[i]) (List.getElem?_eq_getElem hlt)
    rw [hv] at hv'
    cases hv'
    simp only [compL2] at hc
    split at hc
    · cases hc
    rename_i env1 eb
    refine bindT_ok (vs0 := al) stc rv eb fun σ1 ω1 st2 h1 h2 h3 => ?_
    refine ⟨by rw [h3 hm1, wipe_idem], ?_⟩
    have same_om : ω1 = oms ω al := by
      funext j
      by_cases hm : j ∈ tgs tg
      · rw [oms_in (hm1 j hm)]
        cases q2 : ω1 j with
        | none => rfl
        | some a => have := h2 j a q2; rw [oms_in (hm1 j hm)] at this; cases this
      · exact h1 j hm
    subst same_om
    -- what the block may own is what it owned
    have back : ∀ {Hn : Hp} {wsn : WS}, (∀ a, O2 a → Hn a ≠ none) → WsR T K (hid (SS O2 (oms ω al) wa) Hn) Hn wa wsn → (∀ b o, b ≠ D → wa ≠ some b → H2 b = some o → Hn b = some o) → StR T K O2 wa (wipeE env al) (oms ω al) wsn (L2.wipe σ al) Hn := fun {Hn wsn} sd sw sp =>
      stc.evolve (fun a o nO nw q => sp a o (fun z => nO (.inl (.inr z))) nw q) (fun a q => sd a q) sw
    split at hc
    · cases hc
    rename_i x2 ws3 es2
    split at hc
    · cases hc
    rename_i es ei
    split at hc
    · cases hc
    rename_i r ws4 ec
    split at hc
    · cases hc
    rename_i r' ws5 er
    cases hc
    refine ⟨O2, wa, env1, _, wsc, true, wsc, st2, rfl, fun H3 st3 sp3 => ?_⟩
    dsimp only
    rw [if_pos rfl]
    refine ⟨O2, wa, env1, _, wsc, x2, es, ws3, st3, es2, ei, fun J1 H4 us st4 sp4 rus it1 => ?_⟩
    have sp34 := sp3.trans sp4
    have lus := rus.len
    have hacc4 : H4 D = some (.lst acc) := sp4 _ _ nwD (sp3 _ _ nwD hacc)
    -- the inner block
    have stI : StR T K O2 wa (wipeE env1 (tgs tg2)) (oms ω al) ws3 (L2.wipe σ1 (tgs tg2)) H4 := by
      have := st4.wipe (tgs tg2)
      rw [oms_oms hm2] at this
      refine this.iff fun a => ⟨fun q => .inl q, fun q => q.elim id fun ⟨i, hi, q⟩ => ?_⟩
      rw [oms_in (hm2 i hi)] at q; cases q
    let W1 : Nat → Nat → Hp → Prop := fun j k2 Hj => ∃ wsj accj accdj restj, StR T K O2 wa (wipeE env1 (tgs tg2)) (oms ω al) wsj (L2.wipe σ1 (tgs tg2)) Hj ∧
      (∀ b o, b ≠ D → wa ≠ some b → H4 b = some o → Hj b = some o) ∧ Hj D = some (.lst accj) ∧ Reps T K wa (hid (SS O2 (oms ω al) wa) Hj) accdj accj ∧
      Reps T K wa (hid (SS O2 (oms ω al) wa) Hj) es us ∧ Reps T K wa (hid (SS O2 (oms ω al) wa) Hj) ds vs ∧
      compL ft fe tg2 (wipeE env1 (tgs tg2)) (es.drop j) wsj = some (restj, ws4) ∧ accdj ++ (restj ++ r') = res ∧ k2 = es.length - j ∧ j ≤ es.length
    refine ⟨W1, ⟨es.length, ws3, acc, accd, r, stI, fun _ _ _ _ q => q, hacc4, racc.mono sp34.hid, rus, rsc.mono sp34.hid, by simpa using ec, hres, by omega, Nat.zero_le _⟩, ?_⟩
    rintro j k2 Hj ⟨wsj, accj, accdj, restj, stj, keepj, haccj, raccj, rsj, rdj, hcj, hresj, rfl, hj⟩
    have itj := it1 Hj (fun b o nM q => keepj b o (fun z => (by simpa using nM : ¬ SS O2 (oms ω al) wa b) (.inl (.inl (.inr z)))) (fun z => (by simpa using nM : ¬ SS O2 (oms ω al) wa b) (.inr (.inr z))) q) j
    by_cases hltj : j < es.length
    · obtain ⟨hgo1, hyld1⟩ := itj.1 (by rw [← lus]; exact hltj)
      refine .inr ⟨hgo1, fun H' => ∃ k', k' < es.length - j ∧ W1 (j + 1) k' H', fun H' q => q, fun v2 H5 hy2 => ?_⟩
      obtain ⟨rfl, hv2⟩ := hyld1 v2 H5 hy2
      have hdropj : es.drop j = es[j] :: es.drop (j + 1) := List.drop_eq_getElem_cons hltj
      rw [hdropj] at hcj
      obtain ⟨v2', hv2', rv2⟩ := rsj.get (i := j) (d := es[j]) (List.getElem?_eq_getElem hltj)
      rw [hv2] at hv2'
      cases hv2'
      simp only [compL] at hcj
      split at hcj
      · cases hcj
      rename_i env2 eb2
      refine bindT_ok (vs0 := tgs tg2) stj rv2 eb2 fun σ2 ω2 st5 g1 g2 g3 => ?_
      refine ⟨by rw [g3 fun _ h => h, wipe_idem], ?_⟩
      have same_om2 : ω2 = oms ω al := by
        funext j2
        by_cases hm : j2 ∈ tgs tg2
        · rw [oms_in (hm2 j2 hm)]
          cases q2 : ω2 j2 with
          | none => rfl
          | some a => have := g2 j2 a q2; rw [oms_in (hm2 j2 hm)] at this; cases this
        · exact g1 j2 hm
      subst same_om2
      have backj : ∀ {Hn : Hp} {wsn : WS}, StR T K O2 wa env2 (oms ω al) wsn σ2 Hn → Stp wa H5 Hn → StR T K O2 wa (wipeE env1 (tgs tg2)) (oms ω al) wsn (L2.wipe σ1 (tgs tg2)) Hn := fun {Hn wsn} sn sp =>
        stj.evolve (fun a o _ nw q => sp a o nw q) (fun a q => sn.dom a q) sn.wsr
      have lacc : accdj.length ≤ res.length := by rw [← hresj, List.length_append]; omega
      split at hcj
      · cases hcj
      · -- the test says no
        rename_i ws6 et
        refine ⟨O2, wa, env2, _, wsj, false, ws6, st5, et, fun H6 st6 sp6 => ?_⟩
        dsimp only
        rw [if_neg (by decide)]
        exact ⟨es.length - (j + 1), by omega, ws6, accj, accdj, restj, backj st6 sp6, fun b o nb nw q => sp6 b o nw (keepj b o nb nw q), sp6 _ _ nwD haccj, raccj.mono sp6.hid, rsj.mono sp6.hid, rdj.mono sp6.hid, hcj, hresj, rfl, hltj⟩
      · rename_i ws6 et
        split at hcj
        · cases hcj
        rename_i y ws7 ee
        split at hcj
        · cases hcj
        rename_i restj' ws8 er2
        cases hcj
        refine ⟨O2, wa, env2, _, wsj, true, ws6, st5, et, fun H6 st6 sp6 => ?_⟩
        dsimp only
        rw [if_pos rfl]
        refine ⟨O2, wa, env2, _, ws6, y, ws7, st6, ee, fun u H7 st7 sp7 ry => ?_⟩
        have hacc7 : H7 D = some (.lst accj) := sp7 _ _ nwD (sp6 _ _ nwD haccj)
        refine ⟨accj, hacc7, ?_, ?_⟩
        · have l1 : accdj.length < res.length := by rw [← hresj, List.length_append, List.length_append, List.length_cons]; omega
          rw [← raccj.len]; exact Nat.lt_of_lt_of_le l1 (Nat.le_of_lt (len_lt hlen))
        · have sp := sp6.trans sp7
          have st8 := (backj st7 sp).wr (p := D) (.lst (accj ++ [u])) (.inl (.inr rfl)) nwD
          have mm : Same (hid (SS O2 (oms ω al) wa) H7) (hid (SS O2 (oms ω al) wa) (upd H7 D (.lst (accj ++ [u])))) := hid_mono (fun a o s q => by rw [upd_ne (fun z => s (by rw [z]; exact .inl (.inl (.inr rfl))))]; exact q) fun _ q => q
          refine ⟨es.length - (j + 1), by omega, ws7, accj ++ [u], accdj ++ [y], restj', st8, fun b o nb nw q => ?_, upd_same, ((raccj.mono sp.hid).app (.cons ry .nil)).mono mm, (rsj.mono sp.hid).mono mm, (rdj.mono sp.hid).mono mm, er2, by rw [← hresj, List.append_assoc]; rfl, rfl, hltj⟩
          rw [upd_ne nb]
          exact sp b o nw (keepj b o nb nw q)
    · have ej : j = es.length := by omega
      subst ej
      refine .inl ⟨itj.2 (by rw [← lus]; exact Nat.le_refl _), ?_⟩
      rw [List.drop_length] at hcj
      simp only [compL] at hcj
      cases hcj
      refine ⟨ds.length - (i + 1), by omega, ws4, accj, accdj, r', back (fun a q => stj.dom a q) stj.wsr (fun b o nb nw q => keepj b o nb nw (sp34 b o nw q)), fun b o nb nw q => keepj b o nb nw (sp34 b o nw (keep b o nb nw q)), haccj, raccj, rdj, er, by simpa using hresj, rfl, hlt⟩
  · -- the end
    have ei : i = ds.length := by omega
    subst ei
    refine .inl ⟨itc.2 (by rw [← lds]; exact Nat.le_refl _), ?_⟩
    rw [List.drop_length] at hc
    simp only [compL2] at hc
    cases hc
    rw [List.append_nil] at hres
    subst hres
    refine k D Hc ?_ ?_ nS (st1.back sp1 hD) ⟨acc, hacc, ?_⟩
    · refine stD.evolve (fun a o nO nw q => ?_) (fun a q => stc.dom a (.inl q)) ?_
      · have ne : a ≠ D := fun z => nO (.inr z)
        rw [upd_ne ne] at q
        exact keep a o ne nw q
      · have := stc.wsr
        rw [hidE] at this
        exact this
    · exact fun b o nw q => keep b o (fun z => by rw [← z] at hD; rw [sp1 b o nw q] at hD; cases hD) nw (sp1 b o nw q)
    · rw [hidE] at racc
      exact racc
end
section
variable {T : Nat → Str} {X : Cx} {elt tge iter tge2 iter2 : Expr} {ifs : List Expr} {scope : Scope} {own : List (Str × Nat)} {pos : Pos} {fi fs fe : EvF} {ft : EvTF} {tg tg2 : Tg}
theorem pts_n0 : PTs X [] (tT T X.K fun _ ws => some (true, ws)) :=
  ⟨fun pins s σ H Q I h => pts_nil.run pins s σ H Q I (by
    obtain ⟨O, wa, env, ω, ws, d, ws', st, hf, k⟩ := h
    cases hf
    exact k H st (Stp.refl _ _))⟩
theorem pe_cm2 (hc : X.calm = true) (hN : X.N.Nodup) (hi : PI X tge iter (tI T X.K false fi)) (ok : BlkOk X.N X.env.scope scope own) (hown : own.map (·.2) = tgs tg ++ tgs tg2)
    (hg : ∀ (s : Shared) (H : Hp) (C : Addr) (cl : List (Str × Addr)) (fp : List Addr), PG (X.blk s H scope (compEnvC scope cl C X.env) fp) tge (gT X.K tg))
    (hi2 : ∀ (s : Shared) (H : Hp) (C : Addr) (cl : List (Str × Addr)) (fp : List Addr), PI (X.blk s H scope (compEnvC scope cl C X.env) fp) tge2 iter2 (tI T X.K true fs))
    (hg2 : ∀ (s : Shared) (H : Hp) (C : Addr) (cl : List (Str × Addr)) (fp : List Addr), PG (X.blk s H scope (compEnvC scope cl C X.env) fp) tge2 (gT X.K tg2))
    (ht : ∀ (s : Shared) (H : Hp) (C : Addr) (cl : List (Str × Addr)) (fp : List Addr), PTs (X.blk s H scope (compEnvC scope cl C X.env) fp) ifs (tT T X.K ft))
    (he : ∀ (s : Shared) (H : Hp) (C : Addr) (cl : List (Str × Addr)) (fp : List Addr), PE (X.blk s H scope (compEnvC scope cl C X.env) fp) elt (tE T X.K fe)) (hs : ∀ x, foldedSetIterable iter X.env x = pure x)
    (hs2 : ∀ env x, foldedSetIterable iter2 env x = pure x) :
    PE X (.ListComp elt [⟨tge, iter, [], 0⟩, ⟨tge2, iter2, ifs, 0⟩] scope pos) (tF T X.K (comp2F fi fs ft fe tg tg2)) := by
  have h0 : ∀ (s : Shared) (H : Hp) (C : Addr) (cl : List (Str × Addr)) (fp : List Addr), PTs (X.blk s H scope (compEnvC scope cl C X.env) fp) [] (tT T X.K fun _ ws => some (true, ws)) := fun _ _ _ _ _ => pts_n0
  have := pe_lc2 (pos := pos) (vs1 := tgs tg2) hc hN hi ok (fun i hi => by rw [hown]; exact List.mem_append_right _ hi) hg h0 hi2 hg2 ht he hs hs2
  rw [hown] at this
  exact PE.mono this lc2_read
end
section
variable {T : Nat → Str} {X : Cx} {elt tge iter : Expr} {ifs : List Expr} {scope : Scope} {own : List (Str × Nat)} {pos : Pos} {fi fe : EvF} {ft : EvTF} {tg : Tg}
theorem pe_cm (hc : X.calm = true) (hN : X.N.Nodup) (hi : PI X tge iter (tI T X.K false fi)) (ok : BlkOk X.N X.env.scope scope own) (hown : own.map (·.2) = tgs tg)
    (hg : ∀ (s : Shared) (H : Hp) (C : Addr) (cl : List (Str × Addr)) (fp : List Addr), PG (X.blk s H scope (compEnvC scope cl C X.env) fp) tge (gT X.K tg))
    (ht : ∀ (s : Shared) (H : Hp) (C : Addr) (cl : List (Str × Addr)) (fp : List Addr), PTs (X.blk s H scope (compEnvC scope cl C X.env) fp) ifs (tT T X.K ft))
    (he : ∀ (s : Shared) (H : Hp) (C : Addr) (cl : List (Str × Addr)) (fp : List Addr), PE (X.blk s H scope (compEnvC scope cl C X.env) fp) elt (tE T X.K fe)) (hs : ∀ x, foldedSetIterable iter X.env x = pure x) :
    PE X (.ListComp elt [⟨tge, iter, ifs, 0⟩] scope pos) (tF T X.K (compF fi ft fe tg)) := by
  have := pe_lc (pos := pos) hc hN hi ok hg ht he hs
  rw [hown] at this
  exact PE.mono this lc_read
theorem pts_n : PTs X [] (tT T X.K fun _ ws => some (true, ws)) :=
  ⟨fun pins s σ H Q I h => pts_nil.run pins s σ H Q I (by
    obtain ⟨O, wa, env, ω, ws, d, ws', st, hf, k⟩ := h
    cases hf
    exact k H st (Stp.refl _ _))⟩
end

/-! ### what a def keeps -/
def O2S (O : Addr → Prop) (wa : Option Addr) : Addr → Prop := SS O (fun _ => none) wa
def spO (T : Nat → Str) (K : PySem.W.Frag) (P : Nat → Option Def) (n f : Nat) : Sp := fun vs H Q _ => ∃ O wa ws ds d ws', (∀ a, O a → H a ≠ none) ∧ WsR T K (hid (O2S O wa) H) H wa ws ∧
  Reps T K wa (hid (O2S O wa) H) ds vs ∧ callO P n f ds ws = some (d, ws') ∧
  ∀ v H', Stp wa H H' → WsR T K (hid (O2S O wa) H') H' wa ws' → Rep T K wa (hid (O2S O wa) H') d v → Q v H'
section
variable {T : Nat → Str} {X : Cx} {P : Nat → Option Def} {n f : Nat} {ga : EvAF} {es : List Expr} {e : Expr} {pos p : Pos} {x : Str} {fA : Addr} {fd : FuncData} {ps : List Str}
def callF (Φ : Fns) (f : Nat) (ga : EvAF) : EvF := fun env ws => match ga env ws with
  | none => none
  | some (ds, ws1) => Φ f ds ws1
theorem call_read (σ : L2.St) (H : Hp) (Q : VK) (h : tE T X.K (callF (callO P n) f ga) σ H Q) : tCall (spO T X.K P n f) [] E0 (tA T X.K ga) σ H Q := by
  obtain ⟨O, wa, env, ω, ws, d, ws', st, hf, k⟩ := h
  unfold callF at hf
  split at hf
  · cases hf
  rename_i ds ws1 e1
  refine ⟨O, wa, env, ω, ws, ds, ws1, st, e1, fun vs H1 st1 sp1 r1 => ?_⟩
  dsimp only
  rw [List.append_nil]
  have heq : O2S (fun a => O a ∨ ∃ i, ω i = some a) wa = SS O ω wa := funext fun a => propext ⟨fun q => by
      rcases q with (q | q) | ⟨i, q⟩ | q
      · exact .inl q
      · exact .inr (.inl q)
      · cases q
      · exact .inr (.inr q), fun q => by
      rcases q with q | q | q
      · exact .inl (.inl q)
      · exact .inl (.inr q)
      · exact .inr (.inr q)⟩
  refine ⟨fun a => O a ∨ ∃ i, ω i = some a, wa, ws1, ds, d, ws', fun a q => ?_, ?_, ?_, hf, fun v H2 sp2 w2 r2 => ?_⟩
  · exact st1.sdom (q.elim .inl fun z => .inr (.inl z))
  · rw [heq]; exact st1.wsr
  · rw [heq]; exact r1
  · rw [heq] at w2 r2
    refine k v H2 (st1.evolve (fun a o _ nw q => sp2 a o nw q) (fun a q z => ?_) w2) (sp1.trans sp2) r2
    cases c : H1 a with
    | none => exact st1.dom a q c
    | some o =>
      by_cases nw : wa = some a
      · have := w2
        rw [nw] at this
        cases ws' with
        | none => exact this
        | some kvs =>
          obtain ⟨kv', h1, _⟩ := this
          rw [h1] at z; cases z
      · rw [sp2 a o nw c] at z; cases z
theorem pe_cl (F : FnOk X.prog X.w X.K X.mg X.base CX0 n fA fd ps (spO T X.K P n f)) (hr : Room n X.A) (hg : Gl X x) (hm : X.mg x = some (.ref fA)) (hk : PySem.W.keepIn X.K (.ref fA) = true) (hb : Binds X.K fd ps [])
    (ha : PA X (e :: es) (tA T X.K ga)) (hdb : (x == ("__debug__" : Str)) = false) (hs : noStar e = true) (hss : es.all noStar = true) : PE X (.Call (.Name x p) (e :: es) [] pos) (tE T X.K (callF (callO P n) f ga)) :=
  PE.mono (pe_call F hr hg hm hk hb .nil pass0 ha hdb (star_cons hs _ _) (star_any _ hss)) call_read
end
end Pv

set_option Elab.async false
set_option linter.all false
set_option maxRecDepth 100000
set_option maxHeartbeats 4000000
/-! Pv9: statements. -/
namespace Pv
open PySem PySem.Spec PyProof.Rows L2

/-! ### from one state of a frame to a later one -/
structure Evo (ω : Nat → Option Addr) (wa : Option Addr) (H : Hp) (ω' : Nat → Option Addr) (wa' : Option Addr) (H' : Hp) : Prop where
  keep : ∀ b o, wa ≠ some b → (∀ i, ω i ≠ some b) → H b = some o → H' b = some o
  dom : ∀ b, H b ≠ none → H' b ≠ none
  own : ∀ i a, ω' i = some a → (∃ j, ω j = some a) ∨ H a = none
  rc : ∀ a, wa' = some a → wa = some a ∨ H a = none
  was : wa = none ∨ wa' = wa
theorem Evo.refl (ω : Nat → Option Addr) (wa : Option Addr) (H : Hp) : Evo ω wa H ω wa H := ⟨fun _ _ _ _ h => h, fun _ h => h, fun i _ h => .inl ⟨i, h⟩, fun _ h => .inl h, .inr rfl⟩
theorem Evo.trans {ω ω1 ω2 : Nat → Option Addr} {wa wa1 wa2 : Option Addr} {H H1 H2 : Hp} (a : Evo ω wa H ω1 wa1 H1) (b : Evo ω1 wa1 H1 ω2 wa2 H2) : Evo ω wa H ω2 wa2 H2 := by
  have nn : ∀ {x : Addr}, H1 x = none → H x = none := fun {x} h => by
    cases c : H x with
    | none => rfl
    | some o => exact absurd h (a.dom x (by rw [c]; simp))
  refine ⟨fun x o nw no h => ?_, fun x h => b.dom x (a.dom x h), fun i x h => ?_, fun x h => ?_, ?_⟩
  · refine b.keep x o (fun z => ?_) (fun i z => ?_) (a.keep x o nw no h)
    · rcases a.rc x z with q | q
      · exact nw q
      · rw [h] at q; cases q
    · rcases a.own i x z with ⟨j, q⟩ | q
      · exact no j q
      · rw [h] at q; cases q
  · rcases b.own i x h with ⟨j, q⟩ | q
    · exact a.own j x q
    · exact .inr (nn q)
  · rcases b.rc x h with q | q
    · exact a.rc x q
    · exact .inr (nn q)
  · rcases a.was with q | q
    · exact .inl q
    · rcases b.was with r | r
      · rw [← q]; exact .inl r
      · exact .inr (r.trans q)
theorem Stp.evo {ω : Nat → Option Addr} {wa : Option Addr} {H H' : Hp} (e : Stp wa H H') (hw : ∀ a, wa = some a → H' a ≠ none) : Evo ω wa H ω wa H' := by
  refine ⟨fun b o nw _ h => e b o nw h, fun b h => ?_, fun i _ h => .inl ⟨i, h⟩, fun _ h => .inl h, .inr rfl⟩
  cases c : H b with
  | none => exact absurd c h
  | some o =>
    by_cases nw : wa = some b
    · exact hw b nw
    · rw [e b o nw c]; simp
section
variable {T : Nat → Str} {K : PySem.W.Frag} {O : Addr → Prop} {wa : Option Addr} {env : Env} {ω : Nat → Option Addr} {ws ws' : WS} {σ : L2.St} {H H' : Hp}
theorem StR.evoS (h : StR T K O wa env ω ws' σ H') (e : Stp wa H H') : Evo ω wa H ω wa H' := e.evo fun a z => h.sdom (.inr (.inr z))
theorem es_out : ∀ (env : Env) (i : Nat) (s : Slot), env.length ≤ i → es env i s = env
  | [], _, _, _ => rfl
  | _ :: _, 0, _, h => absurd h (by simp)
  | x :: r, i + 1, s, h => congrArg (x :: ·) (es_out r i s (Nat.le_of_succ_le_succ h))
/-- a name takes an object of its own -/
def ow1 (env : Env) (ω : Nat → Option Addr) (i : Nat) (a : Addr) : Nat → Option Addr := fun j => if j = i then (if i < env.length then some a else none) else ω j
theorem ow1_some {i j : Nat} {a b : Addr} (h : ow1 env ω i a j = some b) : (j = i ∧ i < env.length ∧ a = b) ∨ (j ≠ i ∧ ω j = some b) := by
  unfold ow1 at h
  split at h
  · split at h
    · exact .inl ⟨by assumption, by assumption, Option.some.inj h⟩
    · cases h
  · exact .inr ⟨by assumption, h⟩
theorem StR.take {a : Addr} {d : D} (h : StR T K (fun x => O x ∨ x = a) wa env ω ws σ H) (i : Nat) (ns : ¬ SS O ω wa a) (o : OwnAt T K wa (hid (SS (fun x => O x ∨ x = a) ω wa) H) H d a) :
    StR T K O wa (es env i (.ow d)) (ow1 env ω i a) ws (σ.set i (some (.ref a))) H := by
  have m : Same (hid (SS (fun x => O x ∨ x = a) ω wa) H) (hid (SS O (ow1 env ω i a) wa) H) := hid_mono (fun _ _ _ q => q) fun b q => by
    rcases q with q | ⟨j, q⟩ | q
    · exact .inl (.inl q)
    · rcases ow1_some q with ⟨_, _, e⟩ | ⟨_, e⟩
      · exact .inl (.inr e.symm)
      · exact .inr (.inl ⟨j, e⟩)
    · exact .inr (.inr q)
  refine ⟨by rw [List.length_set, es_len]; exact h.len, fun j => ?_, fun j b q => ?_, fun j l b q q' => ?_, fun b q => h.dom b (.inl q), h.wsr.mono m fun _ _ _ q => q⟩
  · by_cases e : j = i
    · subst e
      by_cases hl : j < env.length
      · rw [eg_eq env j _ hl]
        exact ⟨a, by unfold ow1; rw [if_pos rfl, if_pos hl], by rw [List.getElem?_set_self (by rw [h.len]; exact hl)], o.mono m fun _ q => q⟩
      · rw [eg_out _ _ (by rw [es_len]; omega)]
        trivial
    · rw [eg_ne env i j _ e]
      have q := h.slot j
      cases hs : eg env j with
      | un => trivial
      | va d =>
        rw [hs] at q
        obtain ⟨v, h1, h2⟩ := q
        exact ⟨v, by rw [List.getElem?_set_ne (Ne.symm e)]; exact h1, h2.mono m⟩
      | ow d =>
        rw [hs] at q
        obtain ⟨b, h1, h2, h3⟩ := q
        exact ⟨b, by unfold ow1; rw [if_neg e]; exact h1, by rw [List.getElem?_set_ne (Ne.symm e)]; exact h2, h3.mono m fun _ q => q⟩
  · rcases ow1_some q with ⟨e, hl, rfl⟩ | ⟨e, q⟩
    · subst e
      rw [eg_eq env j _ hl]
      exact ⟨⟨d, rfl⟩, fun z => ns (.inl z), fun z => ns (.inr (.inr z))⟩
    · rw [eg_ne env i j _ e]
      have z := h.own j b q
      exact ⟨z.1, fun y => z.2.1 (.inl y), z.2.2⟩
  · rcases ow1_some q with ⟨e, hl, e2⟩ | ⟨e, q⟩
    · rcases ow1_some q' with ⟨e', _, _⟩ | ⟨e', q'⟩
      · rw [e, e']
      · exact absurd (.inr (.inl ⟨l, by rw [e2]; exact q'⟩)) ns
    · rcases ow1_some q' with ⟨e', _, e2⟩ | ⟨e', q'⟩
      · exact absurd (.inr (.inl ⟨j, by rw [e2]; exact q⟩)) ns
      · exact h.inj j l b q q'
/-- an own object is written -/
theorem StR.put {i : Nat} {a : Addr} {d d' : D} {o : HO} (h : StR T K O wa env ω ws σ H) (hi : ω i = some a) (he : eg env i = .ow d) (own : OwnAt T K wa (hid (SS O ω wa) (upd H a o)) (upd H a o) d' a) :
    StR T K O wa (es env i (.ow d')) ω ws σ (upd H a o) := by
  have hS : SS O ω wa a := .inr (.inl ⟨i, hi⟩)
  have nw := (h.own i a hi).2.2
  have m : Same (hid (SS O ω wa) H) (hid (SS O ω wa) (upd H a o)) := hid_mono (fun b u s q => by rw [upd_ne (fun z => s (by rw [z]; exact hS))]; exact q) fun _ q => q
  have hl : i < env.length := by
    by_cases c : i < env.length
    · exact c
    · rw [eg_out _ _ (by omega)] at he; cases he
  refine ⟨by rw [es_len]; exact h.len, fun j => ?_, fun j b q => ?_, h.inj, fun b q z => ?_, h.wsr.mono m fun b u e q => by rw [upd_ne (fun z => nw (by rw [← z]; exact e))]; exact q⟩
  · by_cases e : j = i
    · subst e
      rw [eg_eq env j _ hl]
      have q := h.slot j
      rw [he] at q
      obtain ⟨b, h1, h2, h3⟩ := q
      rw [hi] at h1
      cases h1
      exact ⟨a, hi, h2, own⟩
    · rw [eg_ne env i j _ e]
      have q := h.slot j
      cases hs : eg env j with
      | un => trivial
      | va d =>
        rw [hs] at q
        obtain ⟨v, h1, h2⟩ := q
        exact ⟨v, h1, h2.mono m⟩
      | ow d =>
        rw [hs] at q
        obtain ⟨b, h1, h2, h3⟩ := q
        exact ⟨b, h1, h2, h3.mono m fun u q => by rw [upd_ne (fun z => e (h.inj j i a (by rw [← z]; exact h1) hi))]; exact q⟩
  · by_cases e : j = i
    · subst e
      rw [eg_eq env j _ hl]
      exact ⟨⟨d', rfl⟩, (h.own j b q).2⟩
    · rw [eg_ne env i j _ e]
      exact h.own j b q
  · by_cases e : b = a
    · subst e; rw [upd_same] at z; cases z
    · rw [upd_ne e] at z; exact h.dom b q z
theorem evo_put {i : Nat} {a : Addr} {o : HO} (hi : ω i = some a) : Evo ω wa H ω wa (upd H a o) :=
  ⟨fun b u _ no q => by rw [upd_ne (fun z => no i (by rw [z]; exact hi))]; exact q, fun b q z => by
    by_cases e : b = a
    · subst e; rw [upd_same] at z; cases z
    · rw [upd_ne e] at z; exact q z, fun j _ h => .inl ⟨j, h⟩, fun _ h => .inl h, .inr rfl⟩
theorem evo_om (i : Nat) : Evo ω wa H (om ω i) wa H := ⟨fun _ _ _ _ h => h, fun _ h => h, fun j _ h => .inl ⟨j, (om_some h).1⟩, fun _ h => .inl h, .inr rfl⟩
theorem evo_sub {ω' : Nat → Option Addr} (h : ∀ j a, ω' j = some a → ω j = some a) : Evo ω wa H ω' wa H := ⟨fun _ _ _ _ h => h, fun _ h => h, fun j a q => .inl ⟨j, h j a q⟩, fun _ h => .inl h, .inr rfl⟩
/-- nothing is one's own any longer -/
theorem StR.frz (h : StR T K O wa env ω ws σ H) : StR T K O wa (frzA env) (fun _ => none) ws σ H := by
  have m : Same (hid (SS O ω wa) H) (hid (SS O (fun _ => none) wa) H) := hid_mono (fun _ _ _ q => q) fun b q => by
    rcases q with q | ⟨j, q⟩ | q
    · exact .inl q
    · cases q
    · exact .inr (.inr q)
  have eg_frz : ∀ (env : Env) (i : Nat), eg (frzA env) i = frzS (eg env i) := by
    intro env
    induction env with
    | nil => intro i; rfl
    | cons s r ih =>
      intro i
      cases i with
      | zero => rfl
      | succ i => exact ih i
  refine ⟨by unfold frzA; rw [List.length_map]; exact h.len, fun i => ?_, fun i a q => (by cases q), fun i j a q => (by cases q), h.dom, h.wsr.mono m fun _ _ _ q => q⟩
  rw [eg_frz]
  have q := h.slot i
  cases hs : eg env i with
  | un => trivial
  | va d =>
    rw [hs] at q
    obtain ⟨v, h1, h2⟩ := q
    exact ⟨v, h1, h2.mono m⟩
  | ow d =>
    rw [hs] at q
    obtain ⟨a, h1, h2, h3⟩ := q
    refine ⟨_, h2, h3.rep m fun o q => hid_of q fun z => ?_⟩
    rcases z with z | ⟨j, z⟩ | z
    · exact (h.own i a h1).2.1 z
    · cases z
    · exact (h.own i a h1).2.2 z
theorem StR.frz1 (h : StR T K O wa env ω ws σ H) (i : Nat) : StR T K O wa (es env i (frzS (eg env i))) (om ω i) ws σ H := by
  have m : Same (hid (SS O ω wa) H) (hid (SS O (om ω i) wa) H) := hid_mono (fun _ _ _ q => q) fun _ => SS_om
  refine ⟨by rw [es_len]; exact h.len, fun j => ?_, fun j a q => ?_, fun j l a q q' => h.inj j l a (om_some q).1 (om_some q').1, h.dom, h.wsr.mono m fun _ _ _ q => q⟩
  · by_cases e : j = i
    · subst e
      by_cases hl : j < env.length
      · rw [eg_eq env j _ hl]
        have q := h.slot j
        cases hs : eg env j with
        | un => trivial
        | va d =>
          rw [hs] at q
          obtain ⟨v, h1, h2⟩ := q
          exact ⟨v, h1, h2.mono m⟩
        | ow d =>
          rw [hs] at q
          obtain ⟨a, h1, h2, h3⟩ := q
          refine ⟨_, h2, h3.rep m fun o q => hid_of q fun z => ?_⟩
          rcases z with z | ⟨l, z⟩ | z
          · exact (h.own j a h1).2.1 z
          · obtain ⟨z1, z2⟩ := om_some z
            exact z2 (h.inj l j a z1 h1)
          · exact (h.own j a h1).2.2 z
      · rw [eg_out _ _ (by rw [es_len]; omega)]
        trivial
    · rw [eg_ne env i j _ e]
      have q := h.slot j
      cases hs : eg env j with
      | un => trivial
      | va d =>
        rw [hs] at q
        obtain ⟨v, h1, h2⟩ := q
        exact ⟨v, h1, h2.mono m⟩
      | ow d =>
        rw [hs] at q
        obtain ⟨a, h1, h2, h3⟩ := q
        exact ⟨a, by unfold om; rw [if_neg e]; exact h1, h2, h3.mono m fun _ q => q⟩
  · obtain ⟨q, e⟩ := om_some q
    rw [eg_ne env i j _ e]
    exact h.own j a q
end

/-! ### what a statement is to reach -/
def KS (T : Nat → Str) (K : PySem.W.Frag) (O : Addr → Prop) (ω : Nat → Option Addr) (wa : Option Addr) (H : Hp) (D : Ends) : Fl → Env → WS → Prop
  | .nx, env', ws' => ∀ σ' H' wa' ω', StR T K O wa' env' ω' ws' σ' H' → Evo ω wa H ω' wa' H' → D.nx σ' H'
  | .br, env', ws' => ∀ σ' H' wa' ω', StR T K O wa' env' ω' ws' σ' H' → Evo ω wa H ω' wa' H' → D.bk σ' H'
  | .ct, env', ws' => ∀ σ' H' wa' ω', StR T K O wa' env' ω' ws' σ' H' → Evo ω wa H ω' wa' H' → D.ct σ' H'
  | .rt d, _, ws' => ∀ v H' wa', Evo ω wa H (fun _ => none) wa' H' → WsR T K (hid (O2S O wa') H') H' wa' ws' → Rep T K wa' (hid (O2S O wa') H') d v → D.rt v H'
theorem KS.trans {T : Nat → Str} {K : PySem.W.Frag} {O : Addr → Prop} {ω ω1 : Nat → Option Addr} {wa wa1 : Option Addr} {H H1 : Hp} {D : Ends} {fl : Fl} {env' : Env} {ws' : WS} (k : KS T K O ω wa H D fl env' ws') (e : Evo ω wa H ω1 wa1 H1) :
    KS T K O ω1 wa1 H1 D fl env' ws' := by
  cases fl with
  | nx => exact fun σ' H' wa' ω' st ev => k σ' H' wa' ω' st (e.trans ev)
  | br => exact fun σ' H' wa' ω' st ev => k σ' H' wa' ω' st (e.trans ev)
  | ct => exact fun σ' H' wa' ω' st ev => k σ' H' wa' ω' st (e.trans ev)
  | rt d => exact fun v H' wa' ev w r => k v H' wa' (e.trans ev) w r
abbrev SF := Env → WS → Out
def tS (T : Nat → Str) (K : PySem.W.Frag) (f : SF) : TS := fun D σ H => ∃ O wa env ω ws fl env' ws', StR T K O wa env ω ws σ H ∧ f env ws = some (fl, env', ws') ∧ KS T K O ω wa H D fl env' ws'
section
variable {T : Nat → Str} {X : Cx} {st : Stmt} {rest : List Stmt} {fe fk fc : EvF} {ft : EvTF} {fs fr : SF} {tg : Tg} {i : Nat} {e : Expr} {pos : Pos}
/-! blocks -/
def seqF (fs fr : SF) : SF := fun env ws => match fs env ws with
  | none => none
  | some (.nx, env1, ws1) => fr env1 ws1
  | some (fl, env1, ws1) => some (fl, env1, ws1)
theorem pss_n : PSs X [] (tS T X.K fun env ws => some (.nx, env, ws)) :=
  PSs.mono pss_nil fun D σ H ⟨O, wa, env, ω, ws, fl, env', ws', s, hf, k⟩ => by
    cases hf
    exact k σ H wa ω s (Evo.refl _ _ _)
theorem pss_c (h1 : PS X st (tS T X.K fs)) (h2 : PSs X rest (tS T X.K fr)) : PSs X (st :: rest) (tS T X.K (seqF fs fr)) :=
  PSs.mono (pss_cons h1 h2) fun D σ H ⟨O, wa, env, ω, ws, fl, env', ws', s, hf, k⟩ => by
    unfold seqF at hf
    split at hf
    · cases hf
    · rename_i env1 ws1 e1
      exact ⟨O, wa, env, ω, ws, .nx, env1, ws1, s, e1, fun σ' H' wa' ω' s' ev => ⟨O, wa', env1, ω', ws1, fl, env', ws', s', hf, k.trans ev⟩⟩
    · rename_i fl1 env1 ws1 hn e1
      cases hf
      refine ⟨O, wa, env, ω, ws, _, _, _, s, e1, ?_⟩
      cases fl with
      | nx => exact absurd rfl hn
      | br => exact k
      | ct => exact k
      | rt d => exact k
/-- a ghost: what stands at a name is its own no longer -/
theorem pss_frz (h2 : PSs X rest (tS T X.K fr)) : PSs X rest (tS T X.K (seqF (fun env ws => some (.nx, es env i (frzS (eg env i)), ws)) fr)) :=
  PSs.mono h2 fun D σ H ⟨O, wa, env, ω, ws, fl, env', ws', s, hf, k⟩ =>
    ⟨O, wa, _, _, ws, fl, env', ws', s.frz1 i, hf, k.trans (evo_om i)⟩
/-! simple ones -/
theorem ps_pa : PS X (.Pass pos) (tS T X.K fun env ws => some (.nx, env, ws)) :=
  PS.mono ps_pass fun D σ H ⟨O, wa, env, ω, ws, fl, env', ws', s, hf, k⟩ => by
    cases hf
    exact k σ H wa ω s (Evo.refl _ _ _)
theorem ps_br : PS X (.Break pos) (tS T X.K fun env ws => some (.br, env, ws)) :=
  PS.mono ps_break fun D σ H ⟨O, wa, env, ω, ws, fl, env', ws', s, hf, k⟩ => by
    cases hf
    exact k σ H wa ω s (Evo.refl _ _ _)
theorem ps_co : PS X (.Continue pos) (tS T X.K fun env ws => some (.ct, env, ws)) :=
  PS.mono ps_continue fun D σ H ⟨O, wa, env, ω, ws, fl, env', ws', s, hf, k⟩ => by
    cases hf
    exact k σ H wa ω s (Evo.refl _ _ _)
theorem ps_bad : PS X st (tS T X.K fun _ _ => none) := PS.mono ps_never fun D σ H ⟨O, wa, env, ω, ws, fl, env', ws', s, hf, k⟩ => by cases hf
def retF (fe : EvF) : SF := fun env ws => match fe (frzA env) ws with
  | none => none
  | some (d, ws1) => some (.rt d, env, ws1)
theorem hid_O2 {O : Addr → Prop} {wa : Option Addr} {H : Hp} : hid (SS O (fun _ => none) wa) H = hid (O2S O wa) H := rfl
theorem ps_re (he : PE X e (tE T X.K fe)) : PS X (.Return (some e) pos) (tS T X.K (retF fe)) :=
  PS.mono (ps_ret he) fun D σ H ⟨O, wa, env, ω, ws, fl, env', ws', s, hf, k⟩ => by
    unfold retF at hf
    split at hf
    · cases hf
    rename_i d ws1 e1
    cases hf
    exact ⟨O, wa, _, _, ws, d, _, s.frz, e1, fun v H' s' sp r => k v H' wa ((evo_sub (fun j a q => by cases q)).trans (s'.evoS sp)) s'.wsr r⟩
theorem ps_rn : PS X (.Return none pos) (tS T X.K fun env ws => some (.rt .non, env, ws)) :=
  PS.mono ps_retN fun D σ H ⟨O, wa, env, ω, ws, fl, env', ws', s, hf, k⟩ => by
    cases hf
    exact k .non H wa (evo_sub (fun j a q => by cases q)) s.frz.wsr .non
def dropF (fe : EvF) : SF := fun env ws => match fe env ws with
  | none => none
  | some (_, ws1) => some (.nx, env, ws1)
theorem ps_dr (he : PE X e (tE T X.K fe)) (hs : swapsWith e none pos.line X.env = pure false) : PS X (.Expr e pos) (tS T X.K (dropF fe)) :=
  PS.mono (ps_expr he hs) fun D σ H ⟨O, wa, env, ω, ws, fl, env', ws', s, hf, k⟩ => by
    unfold dropF at hf
    split at hf
    · cases hf
    rename_i d ws1 e1
    cases hf
    exact ⟨O, wa, _, _, ws, d, _, s, e1, fun v H' s' sp r => k σ H' wa ω s' (s'.evoS sp)⟩
/-! stores -/
def setF (fe : EvF) (tg : Tg) : SF := fun env ws => match fe env ws with
  | none => none
  | some (d, ws1) => match bindT env tg d with
    | none => none
    | some env1 => some (.nx, env1, ws1)
theorem ps_st (h : PS X st (tAsg (tE T X.K fe) (gT X.K tg))) : PS X st (tS T X.K (setF fe tg)) :=
  PS.mono h fun D σ H ⟨O, wa, env, ω, ws, fl, env', ws', s, hf, k⟩ => by
    unfold setF at hf
    split at hf
    · cases hf
    rename_i d ws1 e1
    split at hf
    · cases hf
    rename_i env1 e2
    cases hf
    refine ⟨O, wa, _, _, ws, d, _, s, e1, fun v H' s' sp r => ?_⟩
    exact bindT_ok (vs0 := []) s' r e2 fun σ1 ω1 s1 _ h2 _ => k σ1 H' wa ω1 s1 ((s'.evoS sp).trans (evo_sub h2))
def ownF (fe : EvF) (i : Nat) : SF := fun env ws => match fe env ws with
  | none => none
  | some (d, ws1) => some (.nx, es env i (.ow d), ws1)
theorem evo_take {ω : Nat → Option Addr} {wa : Option Addr} {H H' : Hp} {env : Env} {a : Addr} (i : Nat) (e : Evo ω wa H ω wa H') (n : H a = none) : Evo ω wa H (ow1 env ω i a) wa H' :=
  ⟨e.keep, e.dom, fun j b q => by
    rcases ow1_some q with ⟨_, _, rfl⟩ | ⟨_, q⟩
    · exact .inr n
    · exact .inl ⟨j, q⟩, e.rc, e.was⟩
theorem StR.evoF {T : Nat → Str} {K : PySem.W.Frag} {O : Addr → Prop} {wa : Option Addr} {env : Env} {ω : Nat → Option Addr} {ws : WS} {σ : L2.St} {H H' : Hp} (s : StR T K O wa env ω ws σ H') (e : Stp wa H H') : Evo ω wa H ω wa H' := s.evoS e
theorem ps_ow (h : PS X st (tAsg (tF T X.K fe) (gName i))) : PS X st (tS T X.K (ownF fe i)) :=
  PS.mono h fun D σ H ⟨O, wa, env, ω, ws, fl, env', ws', s, hf, k⟩ => by
    unfold ownF at hf
    split at hf
    · cases hf
    rename_i d ws1 e1
    cases hf
    refine ⟨O, wa, _, _, ws, d, _, s, e1, fun a H' s' sp ns n ow => ?_⟩
    exact k _ H' wa _ (s'.take i ns ow) (evo_take i (s'.evoF sp) n)
end
end Pv

set_option Elab.async false
set_option linter.all false
set_option maxRecDepth 100000
set_option maxHeartbeats 4000000
/-! Pv10: statements that write, branch, loop. -/
namespace Pv
open PySem PySem.Spec PyProof.Rows L2

section
variable {T : Nat → Str} {X : Cx} {st : Stmt} {a b e c : Expr} {rest : List Stmt} {fe fk fc fi : EvF} {ft : EvTF} {fs fr : SF} {tg : Tg} {i : Nat} {pos pos' p : Pos}
/-! ### name op= e -/
def aopO : Bop → Operator := bopO
def aopR : Bop → R2
  | .add => rI0 fun i j => .int (i + j)
  | .sub => rI0 fun i j => .int (i - j)
  | .mul => rI CMul fun i j => .int (i * j)
  | _ => fun _ _ _ _ => False
theorem aop_opr : ∀ o : Bop, PIp X (bopO o) (aopR o)
  | .add => iop_add
  | .sub => iop_sub
  | .mul => iop_mul
  | .fdiv => fun _ _ _ _ _ _ _ _ _ _ _ _ h => h.elim
  | .mod => fun _ _ _ _ _ _ _ _ _ _ _ _ h => h.elim
  | .shl => fun _ _ _ _ _ _ _ _ _ _ _ _ h => h.elim
  | .shr => fun _ _ _ _ _ _ _ _ _ _ _ _ h => h.elim
  | .pow => fun _ _ _ _ _ _ _ _ _ _ _ _ h => h.elim
theorem aop_ok {o : Bop} {x y z : Int} {H : Hp} {Q : VK} (h : aop o x y = some z) (q : Q (.int z) H) : aopR o (.int x) (.int y) H Q := by
  cases o <;> simp only [aop] at h <;> try cases h
  · exact ⟨x, y, rfl, rfl, q⟩
  · exact ⟨x, y, rfl, rfl, q⟩
  · split at h
    · rename_i hl
      cases h
      have := of_decide_eq_true hl
      exact ⟨x, y, rfl, rfl, .inr (by omega), q⟩
    · cases h
def augF (i : Nat) (o : Bop) (fe : EvF) : SF := fun env ws => match eg env i with
  | .va x => match fe env ws with
    | none => none
    | some (y, ws1) => match x, y with
      | .int a, .int b => match aop o a b with
        | none => none
        | some z => some (.nx, es env i (.va (.int z)), ws1)
      | _, _ => none
  | _ => none
theorem ps_au {x : Str} {o : Bop} (hN : X.N.Nodup) (hi : X.N[i]? = some x) (hx : Loc X.env.scope x) (he : PE X e (tE T X.K fe)) (hf : X.fn x = true ∨ X.env.scope.names.lookup x = some .local) :
    PS X (.AugAssign (.Name x pos') (bopO o) e pos) (tS T X.K (augF i o fe)) :=
  PS.mono (ps_aug hN hi hx he (aop_opr o) hf) fun D σ H ⟨O, wa, env, ω, ws, fl, env', ws', s, hf, k⟩ => by
    unfold augF at hf
    split at hf
    · rename_i x hx
      split at hf
      · cases hf
      rename_i y ws1 e1
      split at hf
      · rename_i n m
        split at hf
        · cases hf
        rename_i z e2
        cases hf
        have q := s.slot i
        rw [hx] at q
        obtain ⟨v, h1, h2⟩ := q
        cases h2
        refine ⟨_, h1, O, wa, _, _, ws, _, _, s, e1, fun v H' s' sp r => ?_⟩
        cases r
        exact aop_ok e2 (k _ H' wa _ (s'.set i (.int z)) ((s'.evoS sp).trans (evo_om i)))
      · cases hf
    · cases hf
/-! ### name[k] = e, an own dict -/
theorem swaps_sub (v o i : Expr) (p : Pos) (l : Nat) (env : PySem.Env) : swapsWith v (some (.Subscript o i p)) l env = pure false := by
  cases v <;> rfl
def dputF (i : Nat) (fk fe : EvF) : SF := fun env ws => match fe env ws with
  | none => none
  | some (y, ws1) => match fk env ws1 with
    | none => none
    | some (kd, ws2) => match eg env i with
      | .ow (.dic ks vs) => if isK kd && okLen ks.length then some (.nx, es env i (.ow (.dic (dputK ks kd) (dputV ks vs kd y))), ws2) else none
      | _ => none
theorem ps_dp {o : Expr} (hT : TOk T) (hu : X.A.units + 1 < cLine) (ho : PE X o (tVar i)) (hk : PE X a (tE T X.K fk)) (he : PE X e (tE T X.K fe)) : PS X (.Assign [.Subscript o a pos'] e pos) (tS T X.K (dputF i fk fe)) :=
  PS.mono (ps_dput hu ho hk he (swaps_sub _ _ _ _ _ _)) fun D σ H ⟨O, wa, env, ω, ws, fl, env', ws', s, hf, k⟩ => by
    unfold dputF at hf
    split at hf
    · cases hf
    rename_i y ws1 e1
    split at hf
    · cases hf
    rename_i kd ws2 e2
    split at hf
    · rename_i ks vs hx
      split at hf
      · rename_i hl
        rw [Bool.and_eq_true] at hl
        cases hf
        refine ⟨O, wa, _, _, ws, _, _, s, e1, fun v H1 s1 sp1 r1 => ?_⟩
        have q := s1.slot i
        rw [hx] at q
        obtain ⟨p, h1, h2, kvs, h3, h4, h5⟩ := q
        refine ⟨_, h2, O, wa, _, _, _, _, _, s1, e2, fun u H2 s2 sp2 r2 => ?_⟩
        obtain ⟨q, hq⟩ := isK_key (T := T) hl.1
        have nw := (s1.own i p h1).2.2
        have h3' : H2 p = some (.dK kvs) := sp2 _ _ nw h3
        have eu : u = kV q := key_rep (H := H2) (hH := hid (SS O ω wa) H2) hq (.inl r2)
        subst eu
        have hlen : kvs.length < sizeLine := by
          have := congrArg List.length h4
          rw [List.length_map, List.length_map] at this
          rw [← this]; exact len_lt hl.2
        refine ⟨p, _, rfl, DPut.k h3' hlen, ?_⟩
        have hput := put_ok hT hq (r1.mono sp2.hid) h4 (h5.mono sp2.hid)
        have mm : Same (hid (SS O ω wa) H2) (hid (SS O ω wa) (upd H2 p (.dK (putK kvs q v)))) := hid_mono (fun b o sn qq => by rw [upd_ne (fun z => sn (by rw [z]; exact .inr (.inl ⟨i, h1⟩)))]; exact qq) fun _ q => q
        refine k σ _ wa ω (s2.put (i := i) (o := .dK (putK kvs q v)) h1 hx ⟨_, upd_same, hput.1, hput.2.mono mm⟩) (((s1.evoS sp1).trans (s2.evoS sp2)).trans (evo_put h1))
      · cases hf
    · cases hf
/-! ### the record's fields -/
theorem wp_keys (n : Nat) (d : D) : ∀ kvs : List (Nat × D), (wp kvs n d).map (·.1) = kvs.map (·.1)
  | [] => rfl
  | (k, x) :: r => congrArg (k :: ·) (wp_keys n d r)
theorem wp_ok {T : Nat → Str} (hT : TOk T) {K : PySem.W.Frag} {wa : Option Addr} {H : Hp} {n : Nat} {d : D} {v : V} (hn : n < 512) (rv : Rep T K wa H d v) : ∀ {kvs : List (Nat × D)} {kv' : List (Key × V)}, kvs.map (fun p => (Sum.inr (T p.1) : Key)) = kv'.map (·.1) → (∀ p ∈ kvs, p.1 < 512) →
    Reps T K wa H (kvs.map (·.2)) (kv'.map (·.2)) → Reps T K wa H ((wp kvs n d).map (·.2)) ((kv'.map (fun kv => if kv.1 = Sum.inr (T n) then (kv.1, v) else kv)).map (·.2))
  | [], [], _, _, _ => .nil
  | [], _ :: _, h, _, _ => by simp at h
  | _ :: _, [], h, _, _ => by simp at h
  | (k, x) :: kvs, q :: kv', h, hm, r => by
    simp only [List.map_cons, List.cons.injEq] at h
    cases r with
    | cons r t =>
      have key : (q.1 = Sum.inr (T n)) ↔ k = n := by
        rw [← h.1]
        constructor
        · intro z; exact hT.inj _ _ (hm (k, x) List.mem_cons_self) hn (Sum.inr.inj z)
        · intro z; rw [z]
      have ih := wp_ok hT hn rv h.2 (fun z hz => hm z (List.mem_cons_of_mem _ hz)) t
      unfold wp
      simp only [List.map_cons]
      by_cases c : k = n
      · rw [if_pos c, if_pos (key.mpr c)]
        exact .cons rv ih
      · rw [if_neg c, if_neg (fun z => c (key.mp z))]
        exact .cons r ih
/-- the record takes a field's new value -/
theorem wsr_put {T : Nat → Str} (hT : TOk T) {K : PySem.W.Frag} {hH H : Hp} {a : Addr} {kvs : List (Nat × D)} {n : Nat} {d x : D} {v : V} (w : WsR T K hH H (some a) (some kvs)) (hx : wg kvs n = some x) (rv : Rep T K (some a) hH d v) (hl : kvs.length < sizeLine) :
    ∃ H', DPut H a (.str (T n)) v H' ∧ (∀ b, b ≠ a → H' b = H b) ∧ (∀ hH', Same hH hH' → WsR T K hH' H' (some a) (some (wp kvs n d))) := by
  obtain ⟨kv', h1, h2, h3, h4⟩ := w
  obtain ⟨p, hp, ep⟩ := wg_mem hx
  have hn : n < 512 := by rw [← ep]; exact h3 p hp
  have hl' : kv'.length < sizeLine := by
    have := congrArg List.length h2
    rw [List.length_map, List.length_map] at this
    rw [← this]; exact hl
  refine ⟨_, DPut.k (k := Sum.inr (T n)) h1 hl', fun b ne => upd_ne ne, fun hH' m => ?_⟩
  have hany : (kv'.any fun kv => decide (kv.1 = (Sum.inr (T n) : Key))) = true := by
    rw [List.any_eq_true]
    have : (Sum.inr (T n) : Key) ∈ kv'.map (·.1) := by
      rw [← h2]
      exact List.mem_map.mpr ⟨p, hp, by rw [ep]⟩
    obtain ⟨q, hq, e⟩ := List.mem_map.mp this
    exact ⟨q, hq, decide_eq_true e⟩
  refine ⟨_, upd_same, ?_, fun q hq => ?_, ?_⟩
  · unfold putK
    rw [if_pos hany, List.map_map]
    have e1 : kvs.map (fun p => (Sum.inr (T p.1) : Key)) = (wp kvs n d).map (fun p => (Sum.inr (T p.1) : Key)) := by
      have := congrArg (List.map fun m => (Sum.inr (T m) : Key)) (wp_keys n d kvs)
      rw [List.map_map, List.map_map] at this
      exact this.symm
    rw [← e1, h2]
    refine List.map_congr_left fun p _ => ?_
    show p.1 = (if p.1 = Sum.inr (T n) then (p.1, v) else p).1
    split <;> rfl
  · have : q.1 ∈ kvs.map (·.1) := by
      rw [← wp_keys n d kvs]; exact List.mem_map.mpr ⟨q, hq, rfl⟩
    obtain ⟨z, hz, e⟩ := List.mem_map.mp this
    rw [← e]; exact h3 z hz
  · unfold putK
    rw [if_pos hany]
    exact wp_ok hT hn (rv.mono m) h2 h3 (h4.mono m)
section
variable {T : Nat → Str} {X : Cx} {st : Stmt} {a b e c o : Expr} {rest : List Stmt} {fa fb fe fk fc fi : EvF} {ft : EvTF} {fs fr : SF} {tg : Tg} {i : Nat} {pos pos' p : Pos}
def waugF (i k : Nat) (o : Bop) (fe : EvF) : SF := fun env ws => match eg env i with
  | .va .wd => match ws with
    | none => none
    | some kvs => match wg kvs k with
      | none => none
      | some x => match fe env ws with
        | none => none
        | some (y, ws1) => match x, y, ws1 with
          | .int a, .int b, some kvs1 => if okLen kvs1.length && (wg kvs1 k).isSome then match o with
            | .add => some (.nx, env, some (wp kvs1 k (.int (a + b))))
            | .sub => some (.nx, env, some (wp kvs1 k (.int (a - b))))
            | _ => none
            else none
          | _, _, _ => none
  | _ => none
def rW : Bop → V → V → Hp → VK → Prop
  | .add => rAdd
  | .sub => rSub
  | _ => fun _ _ _ _ => False
theorem rW_in : ∀ o : Bop, InOp X (bopO o) (rW o)
  | .add => in_add
  | .sub => in_sub
  | .mul => fun _ _ _ _ _ _ _ _ _ _ _ _ h => h.elim
  | .fdiv => fun _ _ _ _ _ _ _ _ _ _ _ _ h => h.elim
  | .mod => fun _ _ _ _ _ _ _ _ _ _ _ _ h => h.elim
  | .shl => fun _ _ _ _ _ _ _ _ _ _ _ _ h => h.elim
  | .shr => fun _ _ _ _ _ _ _ _ _ _ _ _ h => h.elim
  | .pow => fun _ _ _ _ _ _ _ _ _ _ _ _ h => h.elim
theorem ps_wa {k : Nat} {op : Bop} {tpos : Pos} (hT : TOk T) (hu : X.A.units + 1 < cLine) (ho : PE X o (tVar i)) (hk : PE X a (tC (.str (T k)))) (he : PE X e (tE T X.K fe))
    (ha : ∀ ov iv new, augStore a ov iv new = (do holding [new, ov, iv] (setItem ov iv new); release [new, ov, iv] []; pure .next)) :
    PS X (.AugAssign (.Subscript o a tpos) (bopO op) e pos) (tS T X.K (waugF i k op fe)) :=
  PS.mono (ps_daug hu ho hk he (rW_in op) ha) fun D σ H ⟨O, wa, env, ω, ws, fl, env', ws', s, hf, kk⟩ => by
    unfold waugF at hf
    split at hf
    · rename_i hx
      split at hf
      · cases hf
      rename_i kvs
      split at hf
      · cases hf
      rename_i x e0
      split at hf
      · cases hf
      rename_i y ws1 e1
      split at hf
      · rename_i n m kvs1
        split at hf
        · rename_i hl
          rw [Bool.and_eq_true] at hl
          have q := s.slot i
          rw [hx] at q
          obtain ⟨v, h1, h2⟩ := q
          cases h2 with
          | @wd wr ea =>
            subst ea
            obtain ⟨kv', g1, g2, g3, g4⟩ := s.wsr
            obtain ⟨p, hp, ep⟩ := wg_mem e0
            have hn : k < 512 := by rw [← ep]; exact g3 p hp
            obtain ⟨u, g5, g6⟩ := wg_ok hT hn g2 g3 g4 e0
            cases g6
            refine ⟨_, h1, wr, .int n, rfl, ?_, O, some wr, _, _, _, _, _, s, e1, fun w1 H3 s3 sp3 r3 => ?_⟩
            · rw [← g5]; exact DGet.k (k := Sum.inr _) g1
            cases r3
            -- the field is still there
            obtain ⟨kv2, f1, f2, f3, f4⟩ := s3.wsr
            have fin : ∀ z : Int, (∃ x, wg kvs1 k = some x) → ((.nx : Fl), env, some (wp kvs1 k (.int z))) = (fl, env', ws') → ∃ H5, DPut H3 wr (.str (T k)) (.int z) H5 ∧ D.nx σ H5 := by
              rintro z ⟨x0, hx0⟩ ez
              cases ez
              obtain ⟨H5, d1, d2, d3⟩ := wsr_put (d := .int z) (v := .int z) hT s3.wsr hx0 (.int z) (len_lt hl.1)
              refine ⟨H5, d1, kk σ H5 (some wr) ω (s3.evolve (fun a o _ nw q => ?_) (fun a q z => ?_) (d3 _ ?_)) ((s3.evoS sp3).trans ⟨fun b o nw _ q => ?_, fun b q z => ?_, fun i _ h => .inl ⟨i, h⟩, fun _ h => .inl h, .inr rfl⟩)⟩
              · rw [d2 a (fun e => nw (by rw [e]))]; exact q
              · by_cases e : a = wr
                · subst e
                  obtain ⟨kk', y1, _⟩ := d3 _ (fun _ _ q => q)
                  rw [y1] at z; cases z
                · rw [d2 a e] at z; exact s3.dom a q z
              · exact hid_mono (fun a o sn q => by rw [d2 a (fun e => sn (.inr (.inr (by rw [e]))))]; exact q) fun _ q => q
              · rw [d2 b (fun e => nw (by rw [e]))]; exact q
              · by_cases e : b = wr
                · subst e
                  obtain ⟨kk', y1, _⟩ := d3 _ (fun _ _ q => q)
                  rw [y1] at z; cases z
                · rw [d2 b e] at z; exact q z
            have there : ∃ x, wg kvs1 k = some x := Option.isSome_iff_exists.mp hl.2
            cases op with
            | add => exact ⟨n, m, rfl, rfl, fin _ there (Option.some.inj hf)⟩
            | sub => exact ⟨n, m, rfl, rfl, fin _ there (Option.some.inj hf)⟩
            | _ => cases hf
        · cases hf
      · cases hf
    · cases hf
end
end
end Pv

set_option Elab.async false
set_option linter.all false
set_option maxRecDepth 100000
set_option maxHeartbeats 4000000
/-! Pv11: the record made, lists grown, several stores at once, if, while, for. -/
namespace Pv
open PySem PySem.Spec PyProof.Rows L2

section
variable {T : Nat → Str} {K : PySem.W.Frag} {H : Hp}
mutual
theorem Rep.wa0 {wa : Option Addr} : ∀ {d : D} {v : V}, Rep T K none H d v → Rep T K wa H d v
  | _, _, .non => .non
  | _, _, .bl b => .bl b
  | _, _, .int i => .int i
  | _, _, .str n => .str n
  | _, _, .tup h r => .tup h (Reps.wa0 r)
  | _, _, .lst h r => .lst h (Reps.wa0 r)
  | _, _, .dic h k r => .dic h k (Reps.wa0 r)
  | _, _, .scr h => .scr h
  | _, _, .wd h => by cases h
theorem Reps.wa0 {wa : Option Addr} : ∀ {d : List D} {v : List V}, Reps T K none H d v → Reps T K wa H d v
  | _, _, .nil => .nil
  | _, _, .cons r t => .cons (Rep.wa0 r) (Reps.wa0 t)
end
theorem OwnAt.wa0 {wa : Option Addr} {hH : Hp} {d : D} {a : Addr} (h : OwnAt T K none hH H d a) : OwnAt T K wa hH H d a := by
  cases d with
  | lst ds =>
    obtain ⟨vs, h1, h2⟩ := h
    exact ⟨vs, h1, h2.wa0⟩
  | dic ks ds =>
    obtain ⟨vs, h1, h2, h3⟩ := h
    exact ⟨vs, h1, h2, h3.wa0⟩
  | _ => exact h.elim
end
section
variable {T : Nat → Str} {X : Cx} {st : Stmt} {a b e c o : Expr} {rest : List Stmt} {fa fb fe fk fc fi : EvF} {ft : EvTF} {fs fr : SF} {tg : Tg} {i : Nat} {pos pos' p cpos apos : Pos}
/-! ### the record -/
def mkwF (i k l : Nat) (fa fb : EvF) : SF := fun env ws => match ws with
  | some _ => none
  | none => match fa env none with
    | some (x, none) => match fb env none with
      | some (y, none) => if decide (k < 512) && decide (l < 512) && !decide (k = l) then some (.nx, es env i (.va .wd), some [(k, x), (l, y)]) else none
      | _ => none
    | _ => none
theorem ps_mw {k l : Nat} (hT : TOk T) (h : PS X st (tAsg (tDisp [(tC (.str (T k)), tE T X.K fa), (tC (.str (T l)), tE T X.K fb)]) (gName i))) : PS X st (tS T X.K (mkwF i k l fa fb)) :=
  PS.mono h fun D σ H ⟨O, wa, env, ω, ws, fl, env', ws', s, hf, kk⟩ => by
    unfold mkwF at hf
    split at hf
    · cases hf
    split at hf
    · rename_i x e1
      split at hf
      · rename_i y e2
        split at hf
        · rename_i hl
          rw [Bool.and_eq_true, Bool.and_eq_true, decide_eq_true_eq, decide_eq_true_eq] at hl
          cases hf
          cases wa with
          | some _ => exact s.wsr.elim
          | none =>
          intro p n
          refine ⟨_, none, env, ω, _, x, _, s.more n _, e1, fun v1 H1 s1 sp1 r1 => ?_⟩
          refine ⟨_, none, env, ω, _, y, _, s1, e2, fun v2 H2 s2 sp2 r2 => ?_⟩
          have ne : T k ≠ T l := fun z => by
            have := hT.inj _ _ hl.1.1 hl.1.2 z
            have h3 := hl.2
            rw [this] at h3
            simp at h3
          have e4 : H2 p = some (.dK []) := sp2 _ _ (by simp) (sp1 _ _ (by simp) upd_same)
          refine ⟨e4, [(.inr (T k), v1), (.inr (T l), v2)], rfl, (show 2 ≤ 15 by decide), ?_⟩
          have em : mergeK [] [((.inr (T k) : Key), v1), (.inr (T l), v2)] = [(.inr (T k), v1), (.inr (T l), v2)] := by
            simp [mergeK, putK, ne]
          rw [em]
          -- the frame's state with the record
          have r1' := r1.mono (sp2.hid (O := fun x => O x ∨ x = p) (ω := ω))
          let H3 := upd H2 p (.dK [((.inr (T k) : Key), v1), (.inr (T l), v2)])
          have m : Same (hid (SS (fun x => O x ∨ x = p) ω none) H2) (hid (SS O (om ω i) (some p)) H3) := hid_mono (fun b o sn q => by
            show upd H2 p _ b = some o
            rw [upd_ne (fun z => sn (.inl (.inr z)))]; exact q) fun b q => by
            rcases q with q | ⟨j, q⟩ | q
            · exact .inl (.inl q)
            · exact .inr (.inl ⟨j, (om_some q).1⟩)
            · exact .inl (.inr (Option.some.inj q).symm)
          have hnS := s.fresh n
          refine kk _ _ (some p) (om ω i) ⟨?_, fun j => ?_, fun j b q => ?_, fun j l b q q' => s2.inj j l b (om_some q).1 (om_some q').1, fun b q z => ?_, ⟨_, upd_same, rfl, fun q hq => ?_, .cons (r1'.wa0.mono m) (.cons (r2.wa0.mono m) .nil)⟩⟩ ?_
          · rw [List.length_set, es_len]; exact s2.len
          · by_cases ej : j = i
            · subst ej
              by_cases hlen : j < env.length
              · rw [eg_eq env j _ hlen]
                exact ⟨_, by rw [List.getElem?_set_self (by rw [s2.len]; exact hlen)], .wd rfl⟩
              · rw [eg_out _ _ (by rw [es_len]; omega)]
                trivial
            · rw [eg_ne env i j _ ej]
              have q := s2.slot j
              cases hs : eg env j with
              | un => trivial
              | va d =>
                rw [hs] at q
                obtain ⟨v, h1, h2⟩ := q
                exact ⟨v, by rw [List.getElem?_set_ne (Ne.symm ej)]; exact h1, (h2.mono m).wa0⟩
              | ow d =>
                rw [hs] at q
                obtain ⟨b, h1, h2, h3⟩ := q
                refine ⟨b, by unfold om; rw [if_neg ej]; exact h1, by rw [List.getElem?_set_ne (Ne.symm ej)]; exact h2, (h3.mono m fun o q => ?_).wa0⟩
                rw [upd_ne (fun z => (s2.own j b h1).2.1 (.inr z))]; exact q
          · obtain ⟨q, ej⟩ := om_some q
            rw [eg_ne env i j _ ej]
            have z := s2.own j b q
            exact ⟨z.1, fun y => z.2.1 (.inl y), fun y => z.2.1 (.inr (Option.some.inj y).symm)⟩
          · by_cases eb : b = p
            · subst eb; rw [upd_same] at z; cases z
            · rw [upd_ne eb] at z; exact s2.dom b (.inl q) z
          · rcases List.mem_cons.mp hq with e | hq
            · rw [e]; exact hl.1.1
            · rcases List.mem_cons.mp hq with e | hq
              · rw [e]; exact hl.1.2
              · cases hq
          · refine ⟨fun b o _ _ q => ?_, fun b q z => ?_, fun j b q => .inl ⟨j, (om_some q).1⟩, fun b q => .inr (by cases q; exact n), .inl rfl⟩
            · rw [upd_ne (ne_of_none q n)]
              exact sp2 b o (by simp) (sp1 b o (by simp) (new_same n b o q))
            · by_cases eb : b = p
              · subst eb; rw [upd_same] at z; cases z
              · rw [upd_ne eb] at z
                cases hb : H b with
                | none => exact q hb
                | some ob =>
                  rw [sp2 b ob (by simp) (sp1 b ob (by simp) (new_same n b ob hb))] at z
                  cases z
        · cases hf
      · cases hf
    · cases hf
/-! ### lists grown -/
theorem few1 {e : Expr} (h : noStar e = true) (cpos : Pos) (env : PySem.Env) : ((backTo cpos (starEach [e] env)).all (fun x => !x.1) && (backToKw cpos (keywordEach [] env)).all (fun x => x.1.isSome)
      && decide (([e] : List Expr).length + ([] : List Keyword).length + (if ([] : List Keyword).isEmpty then 0 else 1) < 30)) = true := by
  rw [star_cons h]; rfl
def appF (i : Nat) (fe : EvF) : SF := fun env ws => match fe env ws with
  | none => none
  | some (y, ws1) => match eg env i with
    | .ow (.lst xs) => if okLen xs.length then some (.nx, es env i (.ow (.lst (xs ++ [y]))), ws1) else none
    | _ => none
theorem ps_ap (ho : PE X o (tVar i)) (he : PE X e (tE T X.K fe)) (nc : noCall o = true) (ns : noStar e = true) (hl : (apos.endLine == cpos.line) = true) (hs : swapsWith (.Call (.Attribute o "append" apos) [e] [] cpos) none pos.line X.env = pure false) :
    PS X (.Expr (.Call (.Attribute o "append" apos) [e] [] cpos) pos) (tS T X.K (appF i fe)) :=
  PS.mono (ps_expr (pe_bm PySem.F.plainAttrs_list PySem.F.slot_list_append PySem.F.type_list_append mt_append ho (pa_cons he pa_nil (star_cons ns _ _)) (attr_plain nc _ _ _) (few1 ns _ _) hl (star_cons ns _ _) rfl) hs) fun D σ H ⟨O, wa, env, ω, ws, fl, env', ws', s, hf, k⟩ => by
    unfold appF at hf
    split at hf
    · cases hf
    rename_i y ws1 e1
    split at hf
    · rename_i xs hx
      split at hf
      · rename_i hl
        cases hf
        have q := s.slot i
        rw [hx] at q
        obtain ⟨p, h1, h2, vs, h3, h4⟩ := q
        have nw := (s.own i p h1).2.2
        refine ⟨_, h2, .inl ⟨rfl, vs, .inl (.inl h3)⟩, O, wa, _, _, ws, _, _, s, e1, fun v H1 s1 sp1 r1 => ?_⟩
        have h3' := sp1 _ _ nw h3
        refine ⟨p, vs, v, rfl, rfl, h3', by rw [← h4.len]; exact len_lt hl, ?_⟩
        have mm : Same (hid (SS O ω wa) H1) (hid (SS O ω wa) (upd H1 p (.lst (vs ++ [v])))) := hid_mono (fun b o sn qq => by rw [upd_ne (fun z => sn (by rw [z]; exact .inr (.inl ⟨i, h1⟩)))]; exact qq) fun _ q => q
        exact k σ _ wa ω (s1.put (i := i) h1 hx ⟨_, upd_same, ((h4.mono sp1.hid).app (.cons r1 .nil)).mono mm⟩) ((s1.evoS sp1).trans (evo_put h1))
      · cases hf
    · cases hf
def extF (i : Nat) (fe : EvF) : SF := fun env ws => match fe env ws with
  | some (.lst ys, ws1) => match eg env i with
    | .ow (.lst xs) => if okLen (xs.length + ys.length) then some (.nx, es env i (.ow (.lst (xs ++ ys))), ws1) else none
    | _ => none
  | _ => none
theorem ps_ex (ho : PE X o (tVar i)) (he : PE X e (tE T X.K fe)) (nc : noCall o = true) (ns : noStar e = true) (hl : (apos.endLine == cpos.line) = true) (hs : swapsWith (.Call (.Attribute o "extend" apos) [e] [] cpos) none pos.line X.env = pure false) :
    PS X (.Expr (.Call (.Attribute o "extend" apos) [e] [] cpos) pos) (tS T X.K (extF i fe)) :=
  PS.mono (ps_expr (pe_bm PySem.F.plainAttrs_list PySem.F.slot_list_extend PySem.F.type_list_extend mt_extend ho (pa_cons he pa_nil (star_cons ns _ _)) (attr_plain nc _ _ _) (few1 ns _ _) hl (star_cons ns _ _) rfl) hs) fun D σ H ⟨O, wa, env, ω, ws, fl, env', ws', s, hf, k⟩ => by
    unfold extF at hf
    split at hf
    · rename_i ys ws1 e1
      split at hf
      · rename_i xs hx
        split at hf
        · rename_i hl
          cases hf
          have q := s.slot i
          rw [hx] at q
          obtain ⟨p, h1, h2, vs, h3, h4⟩ := q
          have nw := (s.own i p h1).2.2
          refine ⟨_, h2, .inl ⟨rfl, vs, .inl (.inl h3)⟩, O, wa, _, _, ws, _, _, s, e1, fun v H1 s1 sp1 r1 => ?_⟩
          have h3' := sp1 _ _ nw h3
          cases r1 with
          | @lst b zs _ hb r2 =>
            refine ⟨p, b, vs, zs, rfl, rfl, h3', (hid_in hb).1, by rw [← h4.len, ← r2.len]; exact len_ok hl, ?_⟩
            have mm : Same (hid (SS O ω wa) H1) (hid (SS O ω wa) (upd H1 p (.lst (vs ++ zs)))) := hid_mono (fun b o sn qq => by rw [upd_ne (fun z => sn (by rw [z]; exact .inr (.inl ⟨i, h1⟩)))]; exact qq) fun _ q => q
            exact k σ _ wa ω (s1.put (i := i) h1 hx ⟨_, upd_same, ((h4.mono sp1.hid).app r2).mono mm⟩) ((s1.evoS sp1).trans (evo_put h1))
        · cases hf
      · cases hf
    · cases hf
def popF (tg : Tg) (i : Nat) : SF := fun env ws => match eg env i with
  | .ow (.lst xs) => match xs.getLast? with
    | none => none
    | some y => match bindT (es env i (.ow (.lst xs.dropLast))) tg y with
      | none => none
      | some env1 => some (.nx, env1, ws)
  | _ => none
theorem ps_po (h : PS X st (tAsg (tBM0 X.K "list" rPop (tVar i)) (gT X.K tg))) : PS X st (tS T X.K (popF tg i)) :=
  PS.mono h fun D σ H ⟨O, wa, env, ω, ws, fl, env', ws', s, hf, k⟩ => by
    unfold popF at hf
    split at hf
    · rename_i xs hx
      split at hf
      · cases hf
      rename_i y e1
      split at hf
      · cases hf
      rename_i env1 e2
      cases hf
      have q := s.slot i
      rw [hx] at q
      obtain ⟨p, h1, h2, vs, h3, h4⟩ := q
      rw [List.getLast?_eq_getElem?] at e1
      obtain ⟨v, g1, g2⟩ := h4.get e1
      refine ⟨_, h2, .inl ⟨rfl, vs, .inl (.inl h3)⟩, p, vs, v, rfl, rfl, h3, by rw [← h4.len]; exact g1, ?_⟩
      have mm : Same (hid (SS O ω wa) H) (hid (SS O ω wa) (upd H p (.lst vs.dropLast))) := hid_mono (fun b o sn qq => by rw [upd_ne (fun z => sn (by rw [z]; exact .inr (.inl ⟨i, h1⟩)))]; exact qq) fun _ q => q
      have s1 := s.put (i := i) (d' := .lst xs.dropLast) (o := .lst vs.dropLast) h1 hx ⟨_, upd_same, h4.dropLast.mono mm⟩
      exact bindT_ok (vs0 := []) s1 (g2.mono mm) e2 fun σ1 ω1 s2 _ hh _ => k σ1 _ wa ω1 s2 ((evo_put h1).trans (evo_sub hh))
    · cases hf
/-! ### if, while, for -/
def iteF (ft : EvTF) (fs fr : SF) : SF := fun env ws => match ft env ws with
  | none => none
  | some (t, ws1) => if t then fs env ws1 else fr env ws1
theorem ps_it {sa sb : List Stmt} (hc : PT X c (tT T X.K ft)) (ha : PSs X sa (tS T X.K fs)) (hb : PSs X sb (tS T X.K fr)) : PS X (.If c sa sb pos) (tS T X.K (iteF ft fs fr)) :=
  PS.mono (ps_if hc ha hb) fun D σ H ⟨O, wa, env, ω, ws, fl, env', ws', s, hf, k⟩ => by
    unfold iteF at hf
    split at hf
    · cases hf
    rename_i t ws1 e1
    refine ⟨O, wa, env, ω, ws, t, ws1, s, e1, fun H1 s1 sp1 => ?_⟩
    have k' := k.trans (s1.evoS sp1)
    cases t
    · dsimp only
      rw [if_neg (by decide)] at hf ⊢
      exact ⟨O, wa, env, ω, ws1, fl, env', ws', s1, hf, k'⟩
    · dsimp only
      rw [if_pos rfl] at hf ⊢
      exact ⟨O, wa, env, ω, ws1, fl, env', ws', s1, hf, k'⟩
theorem ps_wh {sb : List Stmt} {n : Nat} (hp : PassesOwn (model X.prog X.w) X.A X.env X.xe) (hc : PT X c (tT T X.K ft)) (hb : PSs X sb (tS T X.K fs)) : PS X (.While c sb [] pos) (tS T X.K fun env ws => whlN ft fs n env ws) :=
  PS.mono (ps_while hp hc hb) fun D σ H ⟨O, wa, env, ω, ws, fl, env', ws', s, hf, k⟩ => by
    refine ⟨fun m σ1 H1 => ∃ wa1 env1 ω1 ws1, StR T X.K O wa1 env1 ω1 ws1 σ1 H1 ∧ Evo ω wa H ω1 wa1 H1 ∧ whlN ft fs m env1 ws1 = some (fl, env', ws'), ⟨n, wa, env, ω, ws, s, Evo.refl _ _ _, hf⟩, ?_⟩
    rintro m σ1 H1 ⟨wa1, env1, ω1, ws1, s1, ev1, hf1⟩
    cases m with
    | zero => simp [whlN] at hf1
    | succ m =>
      simp only [whlN] at hf1
      split at hf1
      · cases hf1
      · rename_i ws2 e1
        cases hf1
        refine ⟨O, wa1, _, ω1, ws1, false, _, s1, e1, fun H2 s2 sp2 => ?_⟩
        dsimp only
        rw [if_neg (by decide)]
        exact k σ1 H2 wa1 ω1 s2 (ev1.trans (s2.evoS sp2))
      · rename_i ws2 e1
        refine ⟨O, wa1, env1, ω1, ws1, true, ws2, s1, e1, fun H2 s2 sp2 => ?_⟩
        dsimp only
        rw [if_pos rfl]
        have ev2 := ev1.trans (s2.evoS sp2)
        refine ⟨fun σ' H' => ∃ wa1 env1 ω1 ws1, StR T X.K O wa1 env1 ω1 ws1 σ' H' ∧ Evo ω wa H ω1 wa1 H' ∧ whlN ft fs m env1 ws1 = some (fl, env', ws'), fun σ' H' q => ⟨m, Nat.lt_succ_self m, q⟩, ?_⟩
        split at hf1
        · cases hf1
        · rename_i env2 ws3 e2
          exact ⟨O, wa1, env1, ω1, ws2, .nx, env2, ws3, s2, e2, fun σ3 H3 wa3 ω3 s3 ev3 => ⟨wa3, env2, ω3, ws3, s3, ev2.trans ev3, hf1⟩⟩
        · rename_i env2 ws3 e2
          exact ⟨O, wa1, env1, ω1, ws2, .ct, env2, ws3, s2, e2, fun σ3 H3 wa3 ω3 s3 ev3 => ⟨wa3, env2, ω3, ws3, s3, ev2.trans ev3, hf1⟩⟩
        · rename_i env2 ws3 e2
          cases hf1
          exact ⟨O, wa1, env1, ω1, ws2, .br, _, _, s2, e2, fun σ3 H3 wa3 ω3 s3 ev3 => k σ3 H3 wa3 ω3 s3 (ev2.trans ev3)⟩
        · rename_i v env2 ws3 e2
          cases hf1
          exact ⟨O, wa1, env1, ω1, ws2, .rt v, _, _, s2, e2, fun u H3 wa3 ev3 w r => k u H3 wa3 (ev2.trans ev3) w r⟩
def forF (fi : EvF) (tg : Tg) (fs : SF) : SF := fun env ws => match fi env ws with
  | none => none
  | some (x, ws1) => match itemsOf x with
    | none => none
    | some ds => forL fs tg ds env ws1
theorem ps_fo {sb : List Stmt} {tge iter : Expr} (hp : PassesOwn (model X.prog X.w) X.A X.env X.xe) (hc : X.calm = true) (hi : PI X tge iter (tI T X.K true fi)) (hg : PG X tge (gT X.K tg)) (hb : PSs X sb (tS T X.K fs)) (hs : ∀ x, foldedSetIterable iter X.env x = pure x) :
    PS X (.For tge iter sb [] pos) (tS T X.K (forF fi tg fs)) :=
  PS.mono (ps_for hp hc hi hg hb hs) fun D σ H ⟨O, wa, env, ω, ws, fl, env', ws', s, hf, k⟩ => by
    unfold forF at hf
    split at hf
    · cases hf
    rename_i x ws0 e1
    split at hf
    · cases hf
    rename_i ds e2
    refine ⟨O, wa, env, ω, ws, x, ds, ws0, s, e1, e2, fun J H0 vs s0 sp0 rs it => ?_⟩
    have lds := rs.len
    have ev0 := s0.evoS sp0
    let W : Nat → Nat → L2.St → Hp → Prop := fun i m σ1 H1 => m = ds.length - i ∧ i ≤ ds.length ∧ ∃ wa1 env1 ω1 ws1, StR T X.K O wa1 env1 ω1 ws1 σ1 H1 ∧ Evo ω wa H0 ω1 wa1 H1 ∧ (∀ b o, ¬ SS O ω wa b → H0 b = some o → H1 b = some o) ∧
      Reps T X.K wa1 (hid (SS O ω1 wa1) H1) ds vs ∧ forL fs tg (ds.drop i) env1 ws1 = some (fl, env', ws')
    refine ⟨W, ⟨ds.length, by simp, Nat.zero_le _, wa, env, ω, ws0, s0, Evo.refl _ _ _, fun _ _ _ q => q, rs, by simpa using hf⟩, ?_⟩
    rintro i m σ1 H1 ⟨rfl, hi, wa1, env1, ω1, ws1, s1, ev1, keep, rs1, hf1⟩
    have it1 := it H1 (fun b o nM q => keep b o (by simpa using nM) q) i
    by_cases hlt : i < ds.length
    · obtain ⟨hgo, hyld⟩ := it1.1 (by rw [← lds]; exact hlt)
      refine .inr ⟨hgo, fun σ' H' => W (i + 1) (ds.length - (i + 1)) σ' H', fun σ' H' q => ⟨ds.length - (i + 1), by omega, q⟩, fun v H2 hy => ?_⟩
      obtain ⟨rfl, hv⟩ := hyld v H2 hy
      rw [List.drop_eq_getElem_cons hlt] at hf1
      simp only [forL] at hf1
      split at hf1
      · cases hf1
      rename_i env2 eb
      obtain ⟨v', hv', rv⟩ := rs1.get (i := i) (d := ds[i]) (List.getElem?_eq_getElem hlt)
      rw [hv] at hv'
      cases hv'
      refine bindT_ok (vs0 := []) s1 rv eb fun σ2 ω2 s2 _ hh _ => ?_
      have ev2 : Evo ω wa H0 ω2 wa1 H2 := ev1.trans (evo_sub hh)
      have rs2 : Reps T X.K wa1 (hid (SS O ω2 wa1) H2) ds vs := rs1.mono (hid_mono (fun _ _ _ q => q) fun b q => by
        rcases q with q | ⟨j, q⟩ | q
        · exact .inl q
        · exact .inr (.inl ⟨j, hh j b q⟩)
        · exact .inr (.inr q))
      -- what the body leaves as it was
      have next : ∀ {σ3 : L2.St} {H3 : Hp} {wa3 : Option Addr} {ω3 : Nat → Option Addr} {env3 : Env} {ws3 : WS}, StR T X.K O wa3 env3 ω3 ws3 σ3 H3 → Evo ω2 wa1 H2 ω3 wa3 H3 → forL fs tg (ds.drop (i + 1)) env3 ws3 = some (fl, env', ws') → W (i + 1) (ds.length - (i + 1)) σ3 H3 := by
        intro σ3 H3 wa3 ω3 env3 ws3 s3 ev3 hf3
        have ev03 := ev2.trans ev3
        have rs3 : Reps T X.K wa3 (hid (SS O ω3 wa3) H3) ds vs := by
          -- nothing that was visible is hidden now
          have m : Same (hid (SS O ω2 wa1) H2) (hid (SS O ω3 wa3) H3) := fun b o q => by
            obtain ⟨q1, q2⟩ := hid_in q
            refine hid_of (ev3.keep b o (fun z => q2 (.inr (.inr z))) (fun j z => q2 (.inr (.inl ⟨j, z⟩))) q1) fun z => ?_
            rcases z with z | ⟨j, z⟩ | z
            · exact q2 (.inl z)
            · rcases ev3.own j b z with ⟨l, y⟩ | y
              · exact q2 (.inr (.inl ⟨l, y⟩))
              · rw [q1] at y; cases y
            · rcases ev3.rc b z with y | y
              · exact q2 (.inr (.inr y))
              · rw [q1] at y; cases y
          rcases ev3.was with z | z
          · subst z; exact (rs2.mono m).wa0
          · subst z; exact rs2.mono m
        refine ⟨rfl, hlt, wa3, env3, ω3, ws3, s3, ev03, fun b o sn q => ?_, rs3, hf3⟩
        exact ev03.keep b o (fun z => sn (.inr (.inr z))) (fun j z => sn (.inr (.inl ⟨j, z⟩))) q
      split at hf1
      · cases hf1
      · rename_i env3 ws3 e3
        exact ⟨O, wa1, env2, ω2, ws1, .nx, env3, ws3, s2, e3, fun σ3 H3 wa3 ω3 s3 ev3 => next s3 ev3 hf1⟩
      · rename_i env3 ws3 e3
        exact ⟨O, wa1, env2, ω2, ws1, .ct, env3, ws3, s2, e3, fun σ3 H3 wa3 ω3 s3 ev3 => next s3 ev3 hf1⟩
      · rename_i env3 ws3 e3
        cases hf1
        exact ⟨O, wa1, env2, ω2, ws1, .br, _, _, s2, e3, fun σ3 H3 wa3 ω3 s3 ev3 => k σ3 H3 wa3 ω3 s3 (ev0.trans (ev2.trans ev3))⟩
      · rename_i u env3 ws3 e3
        cases hf1
        exact ⟨O, wa1, env2, ω2, ws1, .rt u, _, _, s2, e3, fun v3 H3 wa3 ev3 w r => k v3 H3 wa3 (ev0.trans (ev2.trans ev3)) w r⟩
    · have ei : i = ds.length := by omega
      subst ei
      rw [List.drop_length] at hf1
      simp only [forL] at hf1
      cases hf1
      exact .inl ⟨it1.2 (by rw [← lds]; exact Nat.le_refl _), k σ1 H1 wa1 ω1 s1 (ev0.trans ev1)⟩
end
end Pv

set_option Elab.async false
set_option linter.all false
set_option maxRecDepth 100000
set_option maxHeartbeats 4000000
/-! Pv12: several stores at once. -/
namespace Pv
open PySem PySem.Spec PyProof.Rows L2

def tL (T : Nat → Str) (K : PySem.W.Frag) : List (Bool × EvF) → TA
  | [] => tNil
  | (true, f) :: r => tCons (tF T K f) (tL T K r)
  | (false, f) :: r => tCons (tE T K f) (tL T K r)
def evL : List (Bool × EvF) → EvAF
  | [], _, ws => some ([], ws)
  | (_, f) :: r, env, ws => match f env ws with
    | none => none
    | some (d, ws1) => match evL r env ws1 with
      | none => none
      | some (ds, ws2) => some (d :: ds, ws2)
inductive ParR (T : Nat → Str) (K : PySem.W.Frag) (wa : Option Addr) (hH H : Hp) : List Bool → List D → List V → List Addr → Prop
  | nil : ParR T K wa hH H [] [] [] []
  | va {d : D} {v : V} {bs : List Bool} {ds : List D} {vs : List V} {L : List Addr} : Rep T K wa hH d v → ParR T K wa hH H bs ds vs L → ParR T K wa hH H (false :: bs) (d :: ds) (v :: vs) L
  | ow {d : D} {a : Addr} {bs : List Bool} {ds : List D} {vs : List V} {L : List Addr} : OwnAt T K wa hH H d a → a ∉ L → ParR T K wa hH H bs ds vs L → ParR T K wa hH H (true :: bs) (d :: ds) (.ref a :: vs) (a :: L)
section
variable {T : Nat → Str} {K : PySem.W.Frag} {O : Addr → Prop} {wa : Option Addr} {env : Env} {ω : Nat → Option Addr} {ws ws' : WS} {σ : L2.St} {H H' hH hH' : Hp}
theorem ParR.mono (e : Same hH hH') : ∀ {bs : List Bool} {ds : List D} {vs : List V} {L : List Addr}, ParR T K wa hH H bs ds vs L → ParR T K wa hH' H bs ds vs L
  | _, _, _, _, .nil => .nil
  | _, _, _, _, .va r t => .va (r.mono e) (ParR.mono e t)
  | _, _, _, _, .ow o n t => .ow (o.mono e fun _ q => q) n (ParR.mono e t)
theorem tL_ok : ∀ {l : List (Bool × EvF)} {O : Addr → Prop} {ws : WS} {H : Hp} {ds : List D} {ws' : WS} {Q : List V → Hp → Prop}, StR T K O wa env ω ws σ H → evL l env ws = some (ds, ws') →
    (∀ vs L H', StR T K (fun x => O x ∨ x ∈ L) wa env ω ws' σ H' → Stp wa H H' → (∀ a ∈ L, H a = none ∧ ¬ SS O ω wa a) → ParR T K wa (hid (SS (fun x => O x ∨ x ∈ L) ω wa) H') H' (l.map (·.1)) ds vs L → Q vs H') → tL T K l σ H Q
  | [], O, ws, H, ds, ws', Q, st, e, k => by
    simp only [evL] at e
    cases e
    exact k [] [] H (st.iff fun a => by simp) (Stp.refl _ _) (by simp) .nil
  | (true, f) :: r, O, ws, H, ds, ws', Q, st, e, k => by
    simp only [evL] at e
    split at e
    · cases e
    rename_i d ws1 e1
    split at e
    · cases e
    rename_i ds' ws2 e2
    cases e
    refine ⟨O, wa, env, ω, ws, d, ws1, st, e1, fun a H1 st1 sp1 ns hn ow => ?_⟩
    refine tL_ok (l := r) st1 e2 fun vs L H2 st2 sp2 hL p => ?_
    have nwa : wa ≠ some a := fun z => ns (.inr (.inr z))
    have eqO : ∀ x, ((O x ∨ x = a) ∨ x ∈ L) ↔ (O x ∨ x ∈ a :: L) := fun x => by
      rw [List.mem_cons]
      constructor
      · rintro ((q | q) | q)
        · exact .inl q
        · exact .inr (.inl q)
        · exact .inr (.inr q)
      · rintro (q | q | q)
        · exact .inl (.inl q)
        · exact .inl (.inr q)
        · exact .inr q
    have eqS : (fun x => (O x ∨ x = a) ∨ x ∈ L) = fun x => O x ∨ x ∈ a :: L := funext fun x => propext (eqO x)
    rw [eqS] at st2 p
    refine k (.ref a :: vs) (a :: L) H2 st2 (sp1.trans sp2) (fun b hb => ?_) (.ow (ow.mono ?_ fun o q => sp2 a o nwa q) (fun hm => (hL a hm).2 (.inl (.inr rfl))) p)
    · rcases List.mem_cons.mp hb with e | hb
      · rw [e]; exact ⟨hn, ns⟩
      · exact ⟨st1.back sp1 (hL b hb).1, fun z => (hL b hb).2 z.weak⟩
    · intro x o q
      obtain ⟨q1, q2⟩ := hid_in q
      refine hid_of (sp2 x o (fun z => q2 (.inr (.inr z))) q1) fun z => ?_
      rcases z with (z | z) | z
      · exact q2 (.inl (.inl z))
      · rcases List.mem_cons.mp z with z | z
        · exact q2 (.inl (.inr z))
        · rw [(hL x z).1] at q1; cases q1
      · exact q2 (.inr z)
  | (false, f) :: r, O, ws, H, ds, ws', Q, st, e, k => by
    simp only [evL] at e
    split at e
    · cases e
    rename_i d ws1 e1
    split at e
    · cases e
    rename_i ds' ws2 e2
    cases e
    refine ⟨O, wa, env, ω, ws, d, ws1, st, e1, fun v H1 st1 sp1 rv => ?_⟩
    refine tL_ok (l := r) st1 e2 fun vs L H2 st2 sp2 hL p => ?_
    refine k (v :: vs) L H2 st2 (sp1.trans sp2) (fun b hb => ⟨st1.back sp1 (hL b hb).1, (hL b hb).2⟩) (.va (rv.mono ?_) p)
    intro x o q
    obtain ⟨q1, q2⟩ := hid_in q
    refine hid_of (sp2 x o (fun z => q2 (.inr (.inr z))) q1) fun z => ?_
    rcases z with (z | z) | z
    · exact q2 (.inl z)
    · rw [(hL x z).1] at q1; cases q1
    · exact q2 (.inr z)
def setS : L2.St → List Nat → List V → L2.St
  | σ, i :: is, v :: vs => setS (σ.set i (some v)) is vs
  | σ, _, _ => σ
theorem par_set : ∀ {is : List (Nat × Bool)} {ds : List D} {vs : List V} {L : List Addr} {env env1 : Env} {ω : Nat → Option Addr} {σ : L2.St}, StR T K (fun x => O x ∨ x ∈ L) wa env ω ws σ H → (∀ a ∈ L, ¬ SS O ω wa a) →
    ParR T K wa (hid (SS (fun x => O x ∨ x ∈ L) ω wa) H) H (is.map (·.2)) ds vs L → setPar env is ds = some env1 →
    vs.length = is.length ∧ ∃ ω1, StR T K O wa env1 ω1 ws (setS σ (is.map (·.1)) vs) H ∧ ∀ j a, ω1 j = some a → (∃ i, ω i = some a) ∨ a ∈ L
  | [], _, _, _, env, env1, ω, σ, st, hL, .nil, e => by
    simp only [setPar] at e
    cases e
    exact ⟨rfl, ω, st.iff fun a => by simp, fun j a q => .inl ⟨j, q⟩⟩
  | (i, false) :: is, _, _, L, env, env1, ω, σ, st, hL, .va r p, e => by
    simp only [setPar] at e
    have st1 := st.set i r
    have m : Same (hid (SS (fun x => O x ∨ x ∈ L) ω wa) H) (hid (SS (fun x => O x ∨ x ∈ L) (om ω i) wa) H) := hid_mono (fun _ _ _ q => q) fun _ => SS_om
    obtain ⟨h1, ω1, h2, h3⟩ := par_set st1 (fun a ha z => hL a ha (SS_om z)) (p.mono m) e
    refine ⟨by rw [List.length_cons, List.length_cons, h1], ω1, h2, fun j a q => ?_⟩
    rcases h3 j a q with ⟨l, z⟩ | z
    · exact .inl ⟨l, (om_some z).1⟩
    · exact .inr z
  | (i, true) :: is, ds0, vs0, L0, env, env1, ω, σ, st, hL, p0, e => by
    have p0 : ParR T K wa (hid (SS (fun x => O x ∨ x ∈ L0) ω wa) H) H (true :: is.map (·.2)) ds0 vs0 L0 := p0
    cases p0 with
    | @ow d a _ ds vs L o n p =>
    simp only [setPar] at e
    have eqS : (fun x => O x ∨ x ∈ a :: L) = fun x => (O x ∨ x ∈ L) ∨ x = a := funext fun x => propext (by
      rw [List.mem_cons]
      constructor
      · rintro (q | q | q)
        · exact .inl (.inl q)
        · exact .inr q
        · exact .inl (.inr q)
      · rintro ((q | q) | q)
        · exact .inl q
        · exact .inr (.inr q)
        · exact .inr (.inl q))
    rw [eqS] at st o p
    have nS : ¬ SS (fun x => O x ∨ x ∈ L) ω wa a := fun z => by
      rcases z with (z | z) | z
      · exact hL a List.mem_cons_self (.inl z)
      · exact n z
      · exact hL a List.mem_cons_self (.inr z)
    have st1 := st.take i nS o
    have m : Same (hid (SS (fun x => (O x ∨ x ∈ L) ∨ x = a) ω wa) H) (hid (SS (fun x => O x ∨ x ∈ L) (ow1 env ω i a) wa) H) := hid_mono (fun _ _ _ q => q) fun b q => by
      rcases q with q | ⟨j, q⟩ | q
      · exact .inl (.inl q)
      · rcases ow1_some q with ⟨_, _, e⟩ | ⟨_, e⟩
        · exact .inl (.inr e.symm)
        · exact .inr (.inl ⟨j, e⟩)
      · exact .inr (.inr q)
    obtain ⟨h1, ω1, h2, h3⟩ := par_set st1 (fun b hb z => by
      rcases z with z | ⟨j, z⟩ | z
      · exact hL b (List.mem_cons_of_mem _ hb) (.inl z)
      · rcases ow1_some z with ⟨_, _, e⟩ | ⟨_, e⟩
        · rw [← e] at hb; exact n hb
        · exact hL b (List.mem_cons_of_mem _ hb) (.inr (.inl ⟨j, e⟩))
      · exact hL b (List.mem_cons_of_mem _ hb) (.inr (.inr z))) (p.mono m) e
    refine ⟨by rw [List.length_cons, List.length_cons, h1], ω1, h2, fun j b q => ?_⟩
    rcases h3 j b q with ⟨l, z⟩ | z
    · rcases ow1_some z with ⟨_, _, e⟩ | ⟨_, e⟩
      · exact .inr (by rw [← e]; exact List.mem_cons_self)
      · exact .inl ⟨l, e⟩
    · exact .inr (List.mem_cons_of_mem _ z)
theorem gNames_set {Q : L2.St → Hp → Prop} : ∀ {is : List Nat} {vs : List V} {σ : L2.St}, vs.length = is.length → Q (setS σ is vs) H → gNames is vs σ H Q
  | [], [], σ, _, q => ⟨rfl, q⟩
  | [], _ :: _, _, h, _ => by simp at h
  | _ :: _, [], _, h, _ => by simp at h
  | i :: is, v :: vs, σ, h, q => ⟨v, vs, rfl, gNames_set (by simpa using h) q⟩
end
section
variable {T : Nat → Str} {X : Cx} {st : Stmt} {l : List (Bool × EvF)} {is : List (Nat × Bool)}
def parF (is : List (Nat × Bool)) (ga : EvAF) : SF := fun env ws => match ga env ws with
  | none => none
  | some (ds, ws1) => match setPar env is ds with
    | none => none
    | some env1 => some (.nx, env1, ws1)
theorem par_read {D : Ends} {σ : L2.St} {H : Hp} (hb : l.map (·.1) = is.map (·.2)) (h : tS T X.K (parF is (evL l)) D σ H) :
    tL T X.K l σ H fun vs H1 => vs.length = is.length ∧ (∀ p, H1 p = none → D.nx (setS σ (is.map (·.1)) vs) (upd H1 p (.tup vs))) ∧ D.nx (setS σ (is.map (·.1)) vs) H1 := by
  obtain ⟨O, wa, env, ω, ws, fl, env', ws', s, hf, k⟩ := h
  unfold parF at hf
  split at hf
  · cases hf
  rename_i ds ws1 e1
  split at hf
  · cases hf
  rename_i env1 e2
  cases hf
  refine tL_ok s e1 fun vs L H1 s1 sp1 hL p => ?_
  rw [hb] at p
  obtain ⟨h1, ω1, h2, h3⟩ := par_set s1 (fun a ha => (hL a ha).2) p e2
  have ev : Evo ω wa H ω1 wa H1 := by
    have e0 := s1.evoS sp1
    exact ⟨e0.keep, e0.dom, fun j a q => (h3 j a q).elim .inl fun z => .inr (hL a z).1, e0.rc, e0.was⟩
  refine ⟨h1, fun q n => ?_, k _ H1 wa ω1 h2 ev⟩
  exact k _ _ wa ω1 (h2.grow (new_same n)) (ev.trans ⟨fun b o _ _ q => new_same n b o q, fun b q z => q ((new_same n).free z), fun i _ h => .inl ⟨i, h⟩, fun _ h => .inl h, .inr rfl⟩)
theorem ps_p2 {i j : Nat} {b1 b2 : Bool} {f1 f2 : EvF} (h : PS X st (tPar i j (tL T X.K [(b1, f1), (b2, f2)]))) : PS X st (tS T X.K (parF [(i, b1), (j, b2)] (evL [(b1, f1), (b2, f2)]))) :=
  PS.mono h fun D σ H q => by
    have := par_read (T := T) (X := X) (l := [(b1, f1), (b2, f2)]) (is := [(i, b1), (j, b2)]) rfl q
    refine tL_mono this fun vs H1 ⟨h1, _, h3⟩ => ?_
    obtain ⟨v, w, rfl⟩ : ∃ v w, vs = [v, w] := by
      cases vs with
      | nil => simp at h1
      | cons v r => cases r with
        | nil => simp at h1
        | cons w r => cases r with
          | nil => exact ⟨v, w, rfl⟩
          | cons _ _ => simp at h1
    exact ⟨v, w, rfl, h3⟩
where
  tL_mono : ∀ {T : Nat → Str} {K : PySem.W.Frag} {l : List (Bool × EvF)} {σ : L2.St} {H : Hp} {Q Q' : List V → Hp → Prop}, tL T K l σ H Q → (∀ vs H', Q vs H' → Q' vs H') → tL T K l σ H Q'
  | _, _, [], _, _, _, _, h, m => m _ _ h
  | T, K, (true, f) :: r, σ, H, Q, Q', h, m => by
    obtain ⟨O, wa, env, ω, ws, d, ws', st, hf, k⟩ := h
    exact ⟨O, wa, env, ω, ws, d, ws', st, hf, fun a H' s1 s2 s3 s4 s5 => tL_mono (k a H' s1 s2 s3 s4 s5) fun vs H2 q => m _ _ q⟩
  | T, K, (false, f) :: r, σ, H, Q, Q', h, m => by
    obtain ⟨O, wa, env, ω, ws, d, ws', st, hf, k⟩ := h
    exact ⟨O, wa, env, ω, ws, d, ws', st, hf, fun a H' s1 s2 s3 => tL_mono (k a H' s1 s2 s3) fun vs H2 q => m _ _ q⟩
theorem ps_p3 {i j m : Nat} {b1 b2 b3 : Bool} {f1 f2 f3 : EvF} (h : PS X st (tPar3 i j m (tL T X.K [(b1, f1), (b2, f2), (b3, f3)]))) : PS X st (tS T X.K (parF [(i, b1), (j, b2), (m, b3)] (evL [(b1, f1), (b2, f2), (b3, f3)]))) :=
  PS.mono h fun D σ H q => by
    have := par_read (T := T) (X := X) (l := [(b1, f1), (b2, f2), (b3, f3)]) (is := [(i, b1), (j, b2), (m, b3)]) rfl q
    refine ps_p2.tL_mono this fun vs H1 ⟨h1, _, h3⟩ => ?_
    obtain ⟨v, w, z, rfl⟩ : ∃ v w z, vs = [v, w, z] := by
      cases vs with
      | nil => simp at h1
      | cons v r => cases r with
        | nil => simp at h1
        | cons w r => cases r with
          | nil => simp at h1
          | cons z r => cases r with
            | nil => exact ⟨v, w, z, rfl⟩
            | cons _ _ => simp at h1
    exact ⟨v, w, z, rfl, h3⟩
theorem ps_pn (hb : l.map (·.1) = is.map (·.2)) (hl : okLen is.length = true) (h : PS X st (tAsg (tTup (tL T X.K l)) (gT X.K (.tp (is.map (·.1)))))) : PS X st (tS T X.K (parF is (evL l))) :=
  PS.mono h fun D σ H q => by
    have := par_read (T := T) (X := X) hb q
    refine ps_p2.tL_mono this fun vs H1 ⟨h1, h2, _⟩ => ⟨by rw [h1]; exact len_ok hl, fun p n => ?_⟩
    exact .inl ⟨p, vs, rfl, .inl (.inl upd_same), by rw [h1, List.length_map], gNames_set (by rw [h1, List.length_map]) (h2 p n)⟩
theorem pa_l0 : PA X [] (tL T X.K []) := pa_nil
theorem pa_lF {e : Expr} {es : List Expr} {f : EvF} (he : PE X e (tF T X.K f)) (hr : PA X es (tL T X.K l)) (ns : noStar e = true) : PA X (e :: es) (tL T X.K ((true, f) :: l)) := pa_cons he hr (star_cons ns _ _)
theorem pa_lE {e : Expr} {es : List Expr} {f : EvF} (he : PE X e (tE T X.K f)) (hr : PA X es (tL T X.K l)) (ns : noStar e = true) : PA X (e :: es) (tL T X.K ((false, f) :: l)) := pa_cons he hr (star_cons ns _ _)
end
end Pv

set_option Elab.async false
set_option linter.all false
set_option maxRecDepth 100000
set_option maxHeartbeats 4000000
/-! Pv13: dict(rows of pairs). -/
namespace Pv
open PySem PySem.Spec PyProof.Rows L2

theorem prs_of {X : Cx} {pins : List (Addr × Obj)} {σ : L2.St} {H : Hp} {s : Shared} (I : Inv X pins σ H s) : ∀ {ps : List Addr} {kvs : List (Key × V)}, Paired (fun p kv => SqT X.K H p [kV kv.1, kv.2]) ps kvs →
    ∃ (vs : List (Value × Value)) (prs : List (Key × Value)), KV kvs prs ∧ vs.length = ps.length ∧ prs.length = ps.length ∧
      ∀ (j : Nat) (k v : Value), vs[j]? = some (k, v) → ∃ b q, ps[j]? = some b ∧ prs[j]? = some (q, v) ∧ IsTup s.heap b #[k, v] ∧ keyIs q k = true
  | _, _, .nil => ⟨[], [], .nil, rfl, rfl, fun j k v e => by simp at e⟩
  | _, _, .cons (a := p) (b := kv) h t => by
    obtain ⟨vs, prs, r1, l1, l2, g⟩ := prs_of I t
    obtain ⟨its, rv, tt, _⟩ := I.tuple h
    obtain ⟨u, y, ei, ru, ry⟩ := vals2 rv
    subst ei
    refine ⟨(u, y) :: vs, (kv.1, y) :: prs, .cons ⟨rfl, ry⟩ r1, by simp [l1], by simp [l2], fun j k v e => ?_⟩
    cases j with
    | zero =>
      have e' : (u, y) = (k, v) := by simpa using e
      cases e'
      exact ⟨p, kv.1, rfl, rfl, tt, kV_is (P := X.prog) (w := X.w) ru⟩
    | succ j =>
      obtain ⟨b, q, e1, e2, e3⟩ := g j k v (by simpa using e)
      exact ⟨b, q, by simpa using e1, by simpa using e2, e3⟩
/-- dict(t), t a tuple of pairs -/
theorem call_dictT {X : Cx} (hc : X.calm = true) : CallR X (.type "dict") (fun xs H Q => ∃ (a : Addr) (ps : List Addr) (kvs : List (Key × V)), xs = [.ref a] ∧ PlT X.K H a (ps.map V.ref) ∧ Paired (fun p kv => SqT X.K H p [kV kv.1, kv.2]) ps kvs ∧
    ∀ p, H p = none → Q (.ref p) (upd H p (.dK (mergeK [] kvs)))) := by
  intro pins s σ H xs us Q I rs ⟨a, ps, kvs, ex, ha, hp, q⟩
  subst ex
  obtain ⟨u, eu, ru⟩ := vals1 rs
  subst eu
  cases ru
  -- the tuple's object
  obtain ⟨o, its, n, ho, hcl, hd, hdat, rv, hz⟩ : ∃ (o : Obj) (its : List Value) (n : Nat), s.heap.get? a = some o ∧ o.cls = .type "tuple" ∧ o.dict = none ∧ o.data = .seq its.toArray n ∧ Vals (ps.map V.ref) its ∧ ps.length ≤ sizeLine := by
    rcases ha with ⟨o, h, nd⟩ | ⟨o, its, n, h1, h2, h3, h4, h5, h6⟩
    · obtain ⟨g1, g2, its, g3, o', g4, g5, n, g6⟩ := I.hok a _ h
      rw [g1] at g4
      cases g4
      exact ⟨o, its, n, g1, g5, nd, g6, g3, by simpa using g2⟩
    · refine ⟨o, its.toList, n, I.kIn a o h1, h2, h6, by simpa using h3, h5, ?_⟩
      have := h5.length
      simp only [List.length_map, Array.length_toList] at this
      omega
  have ei := refs_at rv
  subst ei
  obtain ⟨vs, prs, r1, l1, l2, g⟩ := prs_of I hp
  have P := PySem.PairArg.tuple (prog := X.prog) (w := X.w) a (ps.map Value.ref).toArray (fun j => ps.getD j 0) vs
  refine PySem.call_dict_pairs (knd := mixKind X.prog X.w) (kvs := prs) P (I.ok.hd hc) ⟨⟨o, n, ho, hcl, hd, hdat⟩, by simp [l1], fun j k v e => ?_⟩ ⟨by rw [l2, l1], fun i k v e => ?_⟩ (by rw [l1]; exact hz) fun h' tk hd' hk => ?_
  · obtain ⟨b, q', e1, e2, e3, e4⟩ := g j k v e
    have eb : ps.getD j 0 = b := by rw [List.getD_eq_getElem?_getD, e1]; rfl
    refine ⟨?_, ?_⟩
    · dsimp only; rw [eb]; simp [e1]
    · dsimp only; rw [eb]; exact .inl e3
  · obtain ⟨b, q', e1, e2, e3, e4⟩ := g i k v e
    exact ⟨q', e2, e4⟩
  · have hlen : (mergeK [] kvs).length ≤ sizeLine := by
      have h1 := length_mergeK kvs []
      have h2 : kvs.length = prs.length := r1.length
      rw [List.length_nil, Nat.zero_add] at h1
      omega
    have hm : (s.heap.objs.size == sysModules) = false := beq_eq_false_iff_ne.mpr (Nat.ne_of_gt I.big)
    have kk : ∀ b u, s.heap.get? b = some u → h'.get? b = some u := fun b u e => hk b u (by simp) e
    exact ⟨.ref s.heap.objs.size, _, I.laid (t' := tk) (o := .dK (mergeK [] kvs)) kk (Nat.le_refl _) ⟨hlen, hm, merged [] prs, KV.merge r1 .nil, hd'⟩, rfl, q _ (I.hok.fresh (Nat.le_refl _))⟩

section
variable {T : Nat → Str} {K : PySem.W.Frag}
def dctR (K : PySem.W.Frag) : List V → Hp → VK → Prop := fun xs H Q => ((∃ (a : Addr) (ps : List Addr) (kvs : List (Key × V)), xs = [.ref a] ∧ SqL K H a (ps.map V.ref) ∧ Paired (fun p kv => SqT K H p [kV kv.1, kv.2]) ps kvs ∧
    ∀ p, H p = none → Q (.ref p) (upd H p (.dK (mergeK [] kvs)))) ∨ (∃ (a : Addr) (ps : List Addr) (kvs : List (Key × V)), xs = [.ref a] ∧ PlT K H a (ps.map V.ref) ∧ Paired (fun p kv => SqT K H p [kV kv.1, kv.2]) ps kvs ∧
    ∀ p, H p = none → Q (.ref p) (upd H p (.dK (mergeK [] kvs))))) ∨ (∃ (a : Addr) (kvs : List (Key × V)), xs = [.ref a] ∧ Rd H a (.dK kvs) ∧ ∀ p, H p = none → Q (.ref p) (upd H p (.dK kvs)))
theorem dct_okr {X : Cx} (hc : X.calm = true) : CallR X (.type "dict") (dctR X.K) := CallR.or (CallR.or (call_dictP hc) (call_dictT hc)) call_dictD
/-- the pairs -/
theorem dfold_ok (hT : TOk T) {wa : Option Addr} {H : Hp} : ∀ {rows : List D} {vs : List V} {ks ds ks' ds' : List D} {acc : List (Key × V)}, Reps T K wa H rows vs → dfold rows ks ds = some (ks', ds') → ks.map (keyOf T) = acc.map (fun p => some p.1) → Reps T K wa H ds (acc.map (·.2)) →
    ∃ (ps : List Addr) (kvs : List (Key × V)), vs = ps.map V.ref ∧ Paired (fun p kv => SqT K H p [kV kv.1, kv.2]) ps kvs ∧ ks'.map (keyOf T) = (mergeK acc kvs).map (fun p => some p.1) ∧ Reps T K wa H ds' ((mergeK acc kvs).map (·.2))
  | [], _, _, _, _, _, _, .nil, e, hk, hd => by
    simp only [dfold] at e
    cases e
    exact ⟨[], [], rfl, .nil, hk, hd⟩
  | row :: rows, _, ks, ds, ks', ds', acc, .cons r t, e, hk, hd => by
    unfold dfold at e
    split at e
    · rename_i e0
      cases e0
    · rename_i k v r' e0
      cases e0
      split at e
      · rename_i hik
        cases r with
        | tup h q =>
          cases q with
          | cons q1 q =>
            cases q with
            | cons q2 q =>
              cases q
              obtain ⟨kk, hq⟩ := isK_key (T := T) hik
              have ek := key_rep (H := H) (hH := H) hq (.inl q1)
              subst ek
              have hp := put_ok hT hq q2 hk hd
              obtain ⟨ps, kvs, e1, e2, e3, e4⟩ := dfold_ok hT t e hp.1 hp.2
              rename_i a b
              exact ⟨_ :: ps, (kk, b) :: kvs, by rw [e1]; rfl, .cons h.sq e2, e3, e4⟩
      · cases e
    · cases e
theorem dct_okF (hT : TOk T) : UFOk T K (fun x H Q => dctR K [x] H Q) (bf1 .dictOf) := by
  intro O wa env ω ws σ H x d1 z Q st r e k
  cases d1 <;> simp only [bf1] at e <;> try cases e
  · split at e
    · rename_i ks vs hf
      cases e
      obtain ⟨a, us, rfl, h1, h1', q1⟩ := r.tup
      obtain ⟨ps, kvs, rfl, e2, e3, e4⟩ := dfold_ok (acc := []) hT q1 hf rfl .nil
      refine .inl (.inr ⟨a, ps, kvs, rfl, h1'.mono hid_le, ?_, fun p n => k p _ n ⟨_, upd_same, e3, e4⟩⟩)
      exact Paired.mapP e2 fun _ _ h => sqT_mono hid_le h
    · cases e
  · split at e
    · rename_i ks vs hf
      cases e
      obtain ⟨a, us, rfl, h1, q1⟩ := r.lst
      obtain ⟨ps, kvs, rfl, e2, e3, e4⟩ := dfold_ok (acc := []) hT q1 hf rfl .nil
      refine .inl (.inl ⟨a, ps, kvs, rfl, .inl (.inl h1), ?_, fun p n => k p _ n ⟨_, upd_same, e3, e4⟩⟩)
      exact Paired.mapP e2 fun _ _ h => sqT_mono hid_le h
    · cases e
  · obtain ⟨a, kvs, rfl, h1, h2, q1⟩ := r.dic
    exact .inr ⟨a, kvs, rfl, .inl h1, fun p n => k p _ n ⟨kvs, upd_same, h2, q1⟩⟩
end
/-! ### tuple(range(n)) -/
def tTupRgP (te : L2.St → Hp → (Int → Int → Hp → Prop) → Prop) : TE := fun σ H Q => te σ H fun a b H1 => RgOk a b ∧ ∀ q o, H1 q = none → o.dict = none → Q (.ref q) (upd H1 q (.frz o (.tup (rgV a b))))
theorem pe_tupRgP {X : Cx} {e : Expr} {te : L2.St → Hp → (Int → Int → Hp → Prop) → Prop} {p pos : Pos} (hc : X.calm = true) (hg : Gl X "tuple") (hm : X.mg "tuple" = none) (he : PRg X e te) (na : starEach [e] X.env = (false, eval e X.env) :: starEach [] X.env := by rfl) :
    PE X (.Call (.Name "tuple" p) [e] [] pos) (tTupRgP te) := by
  refine ⟨fun pins s σ H Q I h => ?_⟩
  refine Call_ (ld_blt I hg hm boot_tuple (PyProof.Rows.callWith_type1 (args_cons (thn (he pins s σ H _ I h) fun x s1 ⟨r, a, b, t, u, v, H1, ex, hr, I1, ok, q⟩ => args_nil ?_) na) na))
  subst ex
  obtain ⟨b1, b2, b3, b4, b5⟩ := ok
  refine call_tuple_range (n := (b - a).toNat) (I1.ok.hd hc) hr (small_one b1 b2 b3 b4) (rangeSize_nat a b) b5 fun h' tk acc hk hi => ?_
  have I2 : Inv X pins σ H1 { s1 with heap := h', toks := tk } := I1.kept hk
  have ea : acc = acc.toList.toArray := by simp
  have := tup_new (Q := Q) I2 (vals_rg hi) (by rw [rgV_length, sizeLine_eq]; omega) q
  unfold tupO at this
  rw [← ea] at this
  exact this
def tupRF (fa : EvF) : EvF := fun env ws => match fa env ws with
  | some (.int j, ws1) => if decide (0 ≤ j) && decide (j ≤ 100000) then some (.tup ((List.range j.toNat).map fun k : Nat => .int (k : Int)), ws1) else none
  | _ => none
theorem reps_rg0 {T : Nat → Str} {K : PySem.W.Frag} {wa : Option Addr} {H : Hp} (l : List Nat) : Reps T K wa H (l.map fun k : Nat => D.int (k : Int)) (l.map fun k : Nat => V.int (0 + (k : Int))) := by
  induction l with
  | nil => exact .nil
  | cons x l ih => exact .cons (by show Rep T K wa H (.int (x : Int)) (.int (0 + (x : Int))); rw [Int.zero_add]; exact .int _) ih
theorem pe_tr {T : Nat → Str} {X : Cx} {a : Expr} {fa : EvF} {p p2 pos pos2 : Pos} (hc : X.calm = true) (hg : Gl X "tuple") (hm : X.mg "tuple" = none) (hgr : Gl X "range") (hmr : X.mg "range" = none) (ha : PE X a (tE T X.K fa)) (hs : noStar a = true) :
    PE X (.Call (.Name "tuple" p) [.Call (.Name "range" p2) [a] [] pos2] [] pos) (tE T X.K (tupRF fa)) :=
  PE.mono (pe_tupRgP hc hg hm (prg_1 hgr hmr ha (star_cons hs _ _))) fun σ H Q ⟨O, wa, env, ω, ws, d, ws', st, hf, k⟩ => by
    unfold tupRF at hf
    split at hf
    · rename_i j ws1 e1
      split at hf
      · rename_i hb
        rw [Bool.and_eq_true, decide_eq_true_eq, decide_eq_true_eq] at hb
        cases hf
        refine ⟨O, wa, env, ω, ws, _, _, st, e1, fun v H1 st1 sp1 r => ?_⟩
        cases r
        refine ⟨j, rfl, RgOk.of_le (by omega) (by omega) (by omega) (by omega), fun q o n nd => ?_⟩
        have sm : Same H1 (upd H1 q (.frz o (.tup (rgV 0 j)))) := fun a u h => by rw [upd_ne (ne_of_none h n)]; exact h
        refine k _ _ (st1.grow sm) (sp1.trans (Stp.of sm)) (.tup (.inl ⟨o, hid_of upd_same (st1.fresh n), nd⟩) ?_)
        have : rgV 0 j = (List.range j.toNat).map fun k : Nat => V.int (0 + (k : Int)) := by unfold rgV; rw [Int.sub_zero]
        rw [this]
        exact reps_rg0 _
      · cases hf
    · cases hf
end Pv

set_option Elab.async false
set_option linter.all false
set_option maxRecDepth 100000
set_option maxHeartbeats 4000000
/-! Ps1: set(list of ints) as a set whose order is known. -/
namespace Pv
open PySem PySem.Spec PyProof.Rows L2
/-- a set that was made just now -/
abbrev sO (w : World) : Obj := { cls := .type "set", dict := none, data := .set #[] 0 (.fresh 0 0 (!w.params.followText "set-order")) }
section
variable {P : Program} {w : World} {A : Around} {E : Value → Shared → Prop} {s : Shared}
theorem call_set_lstI {b0 : Addr} {arr : Array Value} (qs : List Int) {Q : Value → Shared → Prop} (nh : A.handled = none) (al : s.heap.IsList b0 arr) (ia : IntsAre arr.toList qs) (room : qs.length + 1 < scanBound)
    (h : ∀ (hp2 : Heap) (n2 c : Nat), SetR w hp2 s.heap.objs.size (fun j => decide (j ∈ qs)) c → c ≤ qs.length → (∀ b o, s.heap.get? b = some o → hp2.get? b = some o) → Q (.ref s.heap.objs.size) { s with heap := hp2, toks := n2 }) :
    wpAny (model P w) A (call (.type "set") [.ref b0]) Q E s := by
  have arn : arr.size = qs.length := by
    have q := IntsAre.length ia
    rw [Array.length_toList] at q
    exact q
  obtain ⟨c, mt, m0⟩ := F.called_set.mro
  have m1 := F.called_set.made
  have m2 := F.called_set.sub
  refine wpAny_call (codeAny_of_tree ?_)
  show wpAny _ _ (callAny (.type "set") _) _ _ _
  refine wpAny_pure ⟨Code.quiet_builtin _ (by decide +kernel), codeAny_builtin F.entry_type_call ?_⟩
  rw [Around.under_plain (weight_type_call_type "set" [.ref b0] []) rfl]
  have w1 := F.called_set.notType
  have w2 := F.called_set.canCreate
  have w3 := F.typeCall_set_1 (.ref b0)
  repeat (any_goals (first | wp_step | assumption))

  refine codeAny_mono (code_set_led1 (.ref b0) (E := E) (Q₁ := fun ob0 t1 => ob0 = .ref s.heap.objs.size ∧ t1 = { s with heap := s.heap.push (sO w) }) ⟨rfl, rfl⟩) fun rv t1 gr => ?_
  cases rv with
  | error e => exact gr
  | ok f1 =>
    cases f1 with
    | ret ob0 =>
      obtain ⟨rfl, rfl⟩ := gr
      have oS : (s.heap.push (sO w)).get? s.heap.objs.size = some (sO w) := Heap.get?_push_size _ rfl
      have oT : Shared.TypeIs { s with heap := s.heap.push (sO w) } (.ref s.heap.objs.size) "set" := ⟨_, oS, rfl⟩
      have ii1 := F.called_set.init.lookup
      have ii2 := F.called_set.init.bind (.ref s.heap.objs.size)
      repeat (any_goals (first | wp_step | assumption))

      refine codeAny_mono (codeAny_call_builtin (R := wants (fun rv t2 => rv = .none ∧ ∃ hp2 n2 c, t2 = { s with heap := hp2, toks := n2 } ∧ SetR w hp2 s.heap.objs.size (fun j => decide (j ∈ qs)) c ∧ c ≤ qs.length ∧
          (∀ b o, s.heap.get? b = some o → hp2.get? b = some o)) E) F.called_set.init.plain F.entry_set_init (check_set_init_1 oT ?_)) fun rw2 t2 gw2 => ?_
      · obtain ⟨lo, lo1, lo2, lo3, lo4⟩ := al
        obtain ⟨z1, z2, z3, z4⟩ := lo
        simp only at lo2 lo4
        subst lo2; subst lo4
        have lo5 : (s.heap.push (sO w)).get? b0 = some { cls := .type "list", dict := z2, data := .seq arr lo3, slots := z4 } := Heap.get?_push_of_some _ lo1
        have u1 := F.sub_list_set
        have u2 := F.sub_list_frozenset
        have u3 : (Value.type "list" == Value.type "dict") = false := by decide
        have u4 : (s.heap.push (sO w)).IsList b0 arr := ⟨_, lo5, rfl, lo3, rfl⟩
        unfold Builtin.«set.__init__» noKeywords Builtin.Frozenset.updateFrom
        generalize ePI : pyIter = pI
        wp_walk
        subst ePI

        refine wpAny_pyIter_list u4 ?_
        refine wpAny_bind (wpAny_runValue ?_)
        have v1 : b0 < s.heap.objs.size := Heap.lt_size lo1
        have v2 : A.in1.in1.in1.handled = none := by simp [nh]
        have v3 : (s.heap.push (sO w)).objs.size = s.heap.objs.size + 1 := Heap.size_push ..
        have v4 : b0 ≠ (s.heap.push (sO w)).objs.size := by
          rw [Heap.size_push]; exact Nat.ne_of_lt (Nat.lt_succ_of_lt v1)
        have v5 : s.heap.objs.size ∉ [(s.heap.push (sO w)).objs.size, b0] := by
          rw [Heap.size_push]; simp only [List.mem_cons, List.mem_singleton, List.not_mem_nil, or_false, not_or]
          exact ⟨Nat.ne_of_lt (Nat.lt_succ_self _), Nat.ne_of_gt v1⟩
        have v6 : ∀ (i : Nat) (v : Value), arr[i]? = some v → ∃ k t, qs[i]? = some k ∧ v = .int k t := fun i v e6 => by
          have i6 : i < qs.length := by rw [← arn]; exact (Array.getElem?_eq_some_iff.mp e6).1
          obtain ⟨t, e⟩ := PyProof.Rows.IntsAre.int_at ia i v (by rw [Array.getElem?_toList]; exact e6)
          refine ⟨qs[i], t, List.getElem?_eq_getElem i6, ?_⟩
          rw [e, List.getD_eq_getElem?_getD, List.getElem?_eq_getElem i6] <;> rfl
        refine set_update_ints ((Walks.list v2 _ b0 v4 arr).toS) s.heap.objs.size
          v5 qs arn room v6 (arr.size - 0) 0 _ (by omega) (Nat.zero_le _)
          ⟨⟨_, Heap.get?_push_size _ rfl, rfl, rfl⟩, (u4.push _)⟩ ?hS0 ?hR
        case hS0 =>
          have g7 : ((s.heap.push (sO w)).push { cls := .type "list_iterator", data := .fields #[.ref b0, .int 0 0] }).get? s.heap.objs.size
              = some (sO w) := Heap.get?_push_of_some _ oS
          exact ⟨0, Nat.le_refl 0, setR_new_at g7⟩
        case hR =>
          intro t3 c2 mv oc2 oS2
          obtain ⟨hp2, gg, dd, nn, oo⟩ := t3
          have q1 : gg = s.gens := mv.gens
          have q2 : dd = s.drawn := mv.drawn
          have q3 : oo = s.os := mv.os
          subst q1; subst q2; subst q3
          show wpAny _ _ _ _ _ _
          refine wpAny_pure ?_
          show wpAny _ _ (ret Value.none) _ _ _
          rw [arn] at oc2
          refine wpAny_pure ⟨rfl, hp2, nn, c2, rfl, oS2, oc2, fun b o e => ?_⟩
          have y0 : b < s.heap.objs.size := Heap.lt_size e
          have y1 : b ≠ s.heap.objs.size := Nat.ne_of_lt y0
          have y2 : b ≠ (s.heap.push (sO w)).objs.size := by
            rw [Heap.size_push]; exact Nat.ne_of_lt (Nat.lt_succ_of_lt y0)
          exact mv.heap b o (by simp only [List.mem_cons, List.mem_singleton, List.not_mem_nil, or_false, not_or]; exact ⟨y1, y2⟩) (Heap.get?_push_of_some _ (Heap.get?_push_of_some _ e))

      · cases rw2 with
        | error e => exact gw2
        | ok f2 =>
          cases f2 with
          | ret rv =>
            obtain ⟨rfl, hp2, n2, c2, rfl, oS2, oc2, kk⟩ := gw2
            repeat (any_goals (first | wp_step | assumption))
            exact h _ _ _ oS2 oc2 kk
          | _ => exact gw2.elim
    | _ => exact gr.elim

end
end Pv

set_option Elab.async false
set_option linter.all false
set_option maxRecDepth 100000
set_option maxHeartbeats 4000000
/-! Ps2: sorted(set(list of ints)). -/
namespace Pv
open PySem PySem.Spec PyProof.Rows L2
def rSetL1 (w : World) : List V → Hp → VK → Prop := fun xs H Q => ∃ (a : Addr) (ns : List Int), xs = [.ref a] ∧ H a = some (.lst (ns.map V.int)) ∧ ns.length < 64 ∧ ∀ p c, H p = none → c < 64 → Q (.ref p) (upd H p (SetO w p (fun j => decide (j ∈ ns)) c))
theorem cr_setL1 {X : Cx} (hc : X.calm = true) : CallR X (.type "set") (rSetL1 X.w) := by
  intro pins s σ H xs us Q I rs ⟨a, ns, ex, ha, hl, q⟩
  subst ex
  obtain ⟨u, eu, ru⟩ := vals1 rs
  subst eu
  cases ru
  obtain ⟨its, rv, ⟨o, n, g1, g2, g3, g4⟩, hz⟩ := I.list (.inl (.inl ha))
  have hi : IntsAre its.toArray.toList ns := ints_of_vals rv
  refine call_set_lstI ns (I.ok.hd hc) ⟨o, g1, g2, n, g4⟩ hi (by unfold scanBound; omega) fun hp2 n2 c R lc kp => ?_
  exact ⟨.ref s.heap.objs.size, _, I.laid (t' := n2) kp (Nat.le_refl _) (setO_new R), rfl, q _ c (I.hok.fresh (Nat.le_refl _)) (by omega)⟩
theorem insU_mem (x z : Int) : ∀ ys : List Int, z ∈ insU x ys ↔ z = x ∨ z ∈ ys
  | [] => by simp [insU]
  | y :: ys => by
    unfold insU
    split
    · simp
    · split
      · rename_i h; subst h; simp
      · simp only [List.mem_cons, insU_mem x z ys]
        constructor
        · rintro (h | h | h)
          · exact .inr (.inl h)
          · exact .inl h
          · exact .inr (.inr h)
        · rintro (h | h | h)
          · exact .inr (.inl h)
          · exact .inl h
          · exact .inr (.inr h)
theorem usort_mem (z : Int) : ∀ xs : List Int, z ∈ usort xs ↔ z ∈ xs
  | [] => Iff.rfl
  | x :: xs => by unfold usort; rw [insU_mem, usort_mem z xs, List.mem_cons]
theorem insU_up (x : Int) : ∀ {ys : List Int}, ys.Pairwise (· < ·) → (insU x ys).Pairwise (· < ·)
  | [], _ => by simp [insU]
  | y :: ys, h => by
    have h' := List.pairwise_cons.mp h
    unfold insU
    split
    · rename_i c
      refine .cons (fun z hz => ?_) h
      rcases List.mem_cons.mp hz with q | q
      · omega
      · have := h'.1 z q; omega
    · split
      · exact h
      · rename_i c c'
        refine .cons (fun z hz => ?_) (insU_up x h'.2)
        rcases (insU_mem x z ys).mp hz with q | q
        · omega
        · exact h'.1 z q
theorem usort_up : ∀ xs : List Int, (usort xs).Pairwise (· < ·)
  | [] => .nil
  | x :: xs => insU_up x (usort_up xs)
theorem up_one : ∀ {l1 l2 : List Int}, (∀ z, z ∈ l1 ↔ z ∈ l2) → l1.Pairwise (· < ·) → l2.Pairwise (· < ·) → l1 = l2
  | [], [], _, _, _ => rfl
  | [], y :: _, h, _, _ => by have := (h y).mpr List.mem_cons_self; cases this
  | x :: _, [], h, _, _ => by have := (h x).mp List.mem_cons_self; cases this
  | x :: xs, y :: ys, h, s1, s2 => by
    rw [List.pairwise_cons] at s1 s2
    have e : x = y := by
      rcases List.mem_cons.mp ((h x).mp List.mem_cons_self) with e | hx
      · exact e
      · rcases List.mem_cons.mp ((h y).mpr List.mem_cons_self) with e | hy
        · exact e.symm
        · have h1 := s1.1 y hy
          have h2 := s2.1 x hx
          omega
    subst e
    rw [up_one (fun z => ?_) s1.2 s2.2]
    constructor
    · intro hz
      rcases List.mem_cons.mp ((h z).mp (List.mem_cons_of_mem _ hz)) with q | q
      · subst q; have := s1.1 z hz; omega
      · exact q
    · intro hz
      rcases List.mem_cons.mp ((h z).mpr (List.mem_cons_of_mem _ hz)) with q | q
      · subst q; have := s2.1 z hz; omega
      · exact q
theorem pe_ss {T : Nat → Str} {X : Cx} {a : Expr} {fa : EvF} {x y : Str} {p p1 p2 pos : Pos} (hc : X.calm = true) (hx : x = "sorted") (hy : y = "set") (g1 : Gl X x) (g2 : Gl X y) (m1 : X.mg x = none) (m2 : X.mg y = none) (hs : noStar a = true) (ha : PE X a (tB T X.K fa)) :
    PE X (.Call (.Name x p) [.Call (.Name y p1) [a] [] p2] [] pos) (tF T X.K (un1 fa (bf1 .sortedSet))) := by
  subst hx
  subst hy
  refine PE.mono (ht_b (cr_sortedSet hc) g1 m1 boot_sorted (by decide +kernel) (by decide +kernel) rfl _ (ht_t (cr_setL1 hc) g2 m2 boot_set (by decide +kernel) (by decide +kernel) hs _ ha)) fun σ H Q ⟨O, wa, env, ω, ws, d, ws', st, hf, k⟩ => ?_
  unfold un1 at hf
  split at hf
  · cases hf
  rename_i xd ws1 e1
  split at hf
  · cases hf
  rename_i z e3
  cases hf
  refine ⟨O, wa, env, ω, ws, xd, _, st, e1, fun v1 H1 st1 sp1 r1 => ?_⟩
  cases xd <;> simp only [bf1] at e3 <;> try cases e3
  split at e3
  · rename_i ns hn
    split at e3
    · rename_i hl
      cases e3
      obtain ⟨a1, vs, rfl, h1, q1⟩ := r1.lst
      have := q1.ints hn
      subst this
      refine ⟨a1, ns, rfl, h1, of_decide_eq_true hl, fun p c n hc => ?_⟩
      refine ⟨p, _, c, rfl, upd_same, hc, fun ms p2 up mem _ n2 => ?_⟩
      have st2 := st1.grow (new_same (o := SetO X.w p (fun j => decide (j ∈ ns)) c) n)
      have em : ms = usort ns := up_one (fun z => by rw [mem z, usort_mem, decide_eq_true_eq]) up (usort_up ns)
      subst em
      refine k p2 _ (st2.more n2 _) (sp1.trans ((Stp.of (new_same n)).trans (Stp.of (new_same n2)))) (st2.fresh n2) (st1.back sp1 (st2.back (Stp.of (new_same n)) n2)) ⟨_, upd_same, reps_ints _⟩
    · cases e3
  · cases e3
end Pv

set_option Elab.async false
set_option linter.all false
set_option maxRecDepth 100000
set_option maxHeartbeats 4000000
/-! Pv14: when an Ex is what a text's expression says. -/
namespace Pv
open PySem PySem.Spec PyProof.Rows L2

mutual
def sameD : D → D → Bool
  | .non, .non => true
  | .bl a, .bl b => decide (a = b)
  | .int a, .int b => decide (a = b)
  | .str a, .str b => decide (a = b)
  | .tup a, .tup b => sameDs a b
  | .lst a, .lst b => sameDs a b
  | _, _ => false
def sameDs : List D → List D → Bool
  | [], [] => true
  | x :: xs, y :: ys => sameD x y && sameDs xs ys
  | _, _ => false
end
mutual
theorem sameD_eq : ∀ {a b : D}, sameD a b = true → a = b
  | .non, .non, _ => rfl
  | .bl a, .bl b, h => by simp only [sameD, decide_eq_true_eq] at h; rw [h]
  | .int a, .int b, h => by simp only [sameD, decide_eq_true_eq] at h; rw [h]
  | .str a, .str b, h => by simp only [sameD, decide_eq_true_eq] at h; rw [h]
  | .tup a, .tup b, h => by simp only [sameD] at h; rw [sameDs_eq h]
  | .lst a, .lst b, h => by simp only [sameD] at h; rw [sameDs_eq h]
  | .non, .bl _, h | .non, .int _, h | .non, .str _, h | .non, .tup _, h | .non, .lst _, h | .non, .dic _ _, h | .non, .scr _, h | .non, .wd, h => by simp [sameD] at h
  | .bl _, .non, h | .bl _, .int _, h | .bl _, .str _, h | .bl _, .tup _, h | .bl _, .lst _, h | .bl _, .dic _ _, h | .bl _, .scr _, h | .bl _, .wd, h => by simp [sameD] at h
  | .int _, .non, h | .int _, .bl _, h | .int _, .str _, h | .int _, .tup _, h | .int _, .lst _, h | .int _, .dic _ _, h | .int _, .scr _, h | .int _, .wd, h => by simp [sameD] at h
  | .str _, .non, h | .str _, .bl _, h | .str _, .int _, h | .str _, .tup _, h | .str _, .lst _, h | .str _, .dic _ _, h | .str _, .scr _, h | .str _, .wd, h => by simp [sameD] at h
  | .tup _, .non, h | .tup _, .bl _, h | .tup _, .int _, h | .tup _, .str _, h | .tup _, .lst _, h | .tup _, .dic _ _, h | .tup _, .scr _, h | .tup _, .wd, h => by simp [sameD] at h
  | .lst _, .non, h | .lst _, .bl _, h | .lst _, .int _, h | .lst _, .str _, h | .lst _, .tup _, h | .lst _, .dic _ _, h | .lst _, .scr _, h | .lst _, .wd, h => by simp [sameD] at h
  | .dic _ _, _, h => by simp [sameD] at h
  | .scr _, _, h => by simp [sameD] at h
  | .wd, _, h => by simp [sameD] at h
theorem sameDs_eq : ∀ {a b : List D}, sameDs a b = true → a = b
  | [], [], _ => rfl
  | x :: xs, y :: ys, h => by
    simp only [sameDs, Bool.and_eq_true] at h
    rw [sameD_eq h.1, sameDs_eq h.2]
  | [], _ :: _, h => by simp [sameDs] at h
  | _ :: _, [], h => by simp [sameDs] at h
end

structure Cf where
  N : List Str
  T : Nat → Str
  fn : Nat → List Str
  co : Nat → Option (Str × D)
def isVis (sc : Scope) (x : Str) : Bool := match sc.names.lookup x with
  | some .local => true
  | some .cell => true
  | some .free => true
  | _ => false
theorem isVis_ok {sc : Scope} {x : Str} (h : isVis sc x = true) : Vis sc x := by
  unfold isVis at h
  split at h
  · exact .inl (by assumption)
  · exact .inr (.inl (by assumption))
  · exact .inr (.inr (by assumption))
  · cases h
def isLoc (sc : Scope) (x : Str) : Bool := match sc.names.lookup x with
  | some .local => true
  | some .cell => true
  | _ => false
theorem isLoc_ok {sc : Scope} {x : Str} (h : isLoc sc x = true) : Loc sc x := by
  unfold isLoc at h
  split at h
  · exact .inl (by assumption)
  · exact .inr (by assumption)
  · cases h
def isLo (sc : Scope) (x : Str) : Bool := match sc.names.lookup x with
  | some .local => true
  | _ => false
theorem isLo_ok {sc : Scope} {x : Str} (h : isLo sc x = true) : sc.names.lookup x = some .local := by
  unfold isLo at h
  split at h
  · assumption
  · cases h
def isGl (sc : Scope) (x : Str) : Bool := match sc.names.lookup x with
  | some .globalImplicit => true
  | _ => false
def plainN (x : Str) : Bool := !(x == ("__debug__" : Str)) && !(x == ("__classdict__" : Str)) && !decide (x = ("__name__" : Str))
theorem plainN_ok {x : Str} (h : plainN x = true) : (x == ("__debug__" : Str)) = false ∧ (x == ("__classdict__" : Str)) = false ∧ x ≠ "__name__" := by
  unfold plainN at h
  rw [Bool.and_eq_true, Bool.and_eq_true, Bool.not_eq_true', Bool.not_eq_true', Bool.not_eq_true', decide_eq_false_iff_not] at h
  exact ⟨h.1.1, h.1.2, h.2⟩
/-! names of built-ins -/
def b1N : B1 → Str
  | .len => "len" | .abs => "abs" | .int => "int" | .lstOf => "list" | .tupOf => "tuple" | .dictOf => "dict" | .sorted => "sorted" | .sortedSet => "sorted" | .all => "all" | .any => "any" | .maxL => "max" | .minL => "min" | .sumL => "sum"
def b2N : B2 → Str
  | .max => "max" | .min => "min"
def tyS (t : Ty) : Str := Str.ofString (tyN t)
def noSlice : Expr → Bool
  | .Slice .. => false
  | _ => true
def noSet : Expr → Bool
  | .Set .. => false
  | _ => true
def isCN : Expr → Bool
  | .Constant .none _ _ => true
  | _ => false
def relS' (scope sc : Scope) : Scope := L2.relS scope sc
/-- a target: the names of slots -/
def okNm (N : List Str) (p : Str → Bool) (i : Nat) : Expr → Bool
  | .Name x _ => decide (N[i]? = some x) && p x
  | _ => false
def okNms (N : List Str) (p : Str → Bool) : List Nat → List Expr → Bool
  | [], [] => true
  | i :: is, e :: es => okNm N p i e && okNms N p is es
  | _, _ => false
def okNmT (N : List Str) (p : Str → Bool) : List Nat → Expr → Bool
  | [i], e => okNm N p i e
  | is, .Tuple es _ _ => okNms N p is es
  | _, _ => false
def okNmsT (N : List Str) (p : Str → Bool) : List (List Nat) → List Expr → Bool
  | [], [] => true
  | t :: ts, e :: es => okNmT N p t e && okNmsT N p ts es
  | _, _ => false
def okTg (N : List Str) (p : Str → Bool) : Tg → Expr → Bool
  | .nm i, e => okNm N p i e
  | .tp is, .Tuple es _ _ => okNms N p is es
  | .tq ts, .Tuple es _ _ => okNmsT N p ts es
  | _, _ => false
def ownOf2 (N : List Str) (tg tg2 : Tg) : List (Str × Nat) := (tgs tg ++ tgs tg2).map fun i => (N.getD i "", i)
def ownOf (N : List Str) (tg : Tg) : List (Str × Nat) := (tgs tg).map fun i => (N.getD i "", i)

/-- a chain of and, or -/
def isB2 : Tx → Bool
  | .and2 _ _ => true
  | .or2 _ _ => true
  | .one _ => true
  | _ => false
mutual
def okE (cf : Cf) : Ex → Scope → Expr → Bool
  | .bad, _, _ => true
  | .non, _, e => isCN e
  | .tt b, _, e => match e with
    | .Constant (.bool c) _ _ => decide (b = c)
    | _ => false
  | .num i, _, e => match e with
    | .Constant (.int j) _ _ => decide (i = j)
    | _ => false
  | .txt n, _, e => match e with
    | .Constant (.str s) _ _ => decide (cf.T n = s)
    | _ => false
  | .var i, sc, e => match e with
    | .Name x _ => decide (cf.N[i]? = some x) && isVis sc x && plainN x
    | _ => false
  | .con k d, sc, e => match e with
    | .Name x _ => (match cf.co k with
      | some (y, d') => decide (y = x) && sameD d' d
      | none => false) && isGl sc x && plainN x
    | _ => false
  | .bin o a b, sc, e => match e with
    | .BinOp a' op b' _ => decide (bopO o = op) && okE cf a sc a' && okE cf b sc b'
    | _ => false
  | .neg a, sc, e => match e with
    | .UnaryOp .USub a' _ => okE cf a sc a'
    | _ => false
  | .cmp o a b, sc, e => match e with
    | .Compare a' [op] [b'] _ => decide (copO o = op) && okE cf a sc a' && (if o = .isN ∨ o = .notN then isCN b' else okE cf b sc b' && noSet b')
    | _ => false
  | .chain o p a b c, sc, e => (match e with
    | .Compare a' [op, op2] [b', c'] _ => decide (copO o = op) && decide (copO p = op2) && okE cf a sc a' && okE cf b sc b' && okE cf c sc c' && noSet c'
    | _ => false)
  | .andv a r, sc, e => match e with
    | .BoolOp .And (x :: y :: rest) pos => okE cf a sc x && okE cf r sc (.BoolOp .And (y :: rest) pos)
    | _ => false
  | .orv a r, sc, e => match e with
    | .BoolOp .Or (x :: y :: rest) pos => okE cf a sc x && okE cf r sc (.BoolOp .Or (y :: rest) pos)
    | _ => false
  | .one a, sc, e => match e with
    | .BoolOp _ [x] _ => okE cf a sc x
    | _ => false
  | .notv a, sc, e => match e with
    | .UnaryOp .Not x _ => okE cf a sc x
    | _ => false
  | .ite c a b, sc, e => match e with
    | .IfExp c' a' b' _ => okT cf c sc c' && okE cf a sc a' && okE cf b sc b'
    | _ => false
  | .tup es, sc, e => match e with
    | .Tuple es' _ _ => okEs cf es sc es' && okLen es'.length
    | _ => false
  | .lst es, sc, e => match e with
    | .List es' _ => okEs cf es sc es' && okLen es'.length
    | _ => false
  | .dic ks vs, sc, e => match ks, vs with
    | .nil, .nil => (match e with
      | .Dict [] [] _ => true
      | _ => false)
    | .cons k .nil, .cons v .nil => (match e with
      | .Dict [some k'] [v'] _ => okE cf k sc k' && okE cf v sc v'
      | _ => false)
    | _, _ => false
  | .ix a b, sc, e => match e with
    | .Subscript a' b' _ => okE cf a sc a' && okE cf b sc b' && noSlice b'
    | _ => false
  | .sl a lo hi, sc, e => match e with
    | .Subscript a' (.Slice l h none _) _ => okE cf a sc a' && (match l with
      | none => isN lo
      | some l' => !isN lo && okE cf lo sc l') && (match h with
      | none => isN hi
      | some h' => !isN hi && okE cf hi sc h')
    | _ => false
  | .call f args, sc, e => match e with
    | .Call (.Name x _) (a :: as) [] _ => (cf.fn f).contains x && isGl sc x && plainN x && okEs cf args sc (a :: as)
    | _ => false
  | .b1 f a, sc, e => match e with
    | .Call (.Name x _) [a'] [] _ => if f = .sortedSet then (match a' with
        | .Call (.Name y _) [a2] [] _ => decide (x = "sorted") && decide (y = "set") && isGl sc x && isGl sc y && okE cf a sc a2 && noStar a2
        | _ => false)
        else decide (x = b1N f) && isGl sc x && okE cf a sc a' && noStar a'
    | _ => false
  | .b2 f a b, sc, e => match e with
    | .Call (.Name x _) [a', b'] [] _ => decide (x = b2N f) && isGl sc x && okE cf a sc a' && okE cf b sc b' && noStar a' && noStar b'
    | _ => false
  | .isi t a, sc, e => match e with
    | .Call (.Name x _) [a', .Name y _] [] _ => decide (x = "isinstance") && decide (y = tyS t) && isGl sc x && isGl sc y && okE cf a sc a' && noStar a'
    | _ => false
  | .get2 d k x, sc, e => match e with
    | .Call (.Attribute o m ap) [k', x'] [] cp => decide (m = "get") && okE cf d sc o && okE cf k sc k' && okE cf x sc x' && noCall o && noStar k' && noStar x' && (ap.endLine == cp.line)
    | _ => false
  | .rng a, _, _ => false
  | .rng2 a b, _, _ => false
  | .comp tg it elt, sc, e => match e with
    | .ListComp elt' [⟨tg', it', [], 0⟩] scope _ => (okIt cf it sc it' || okE cf it sc it') && noSet it' && blkC cf.N sc scope (ownOf cf.N tg) && okTg cf.N (isLo (relS' scope sc)) tg tg' && okE cf elt (relS' scope sc) elt'
    | _ => false
  | .compIf tg it c elt, sc, e => match e with
    | .ListComp elt' [⟨tg', it', [c'], 0⟩] scope _ => (okIt cf it sc it' || okE cf it sc it') && noSet it' && blkC cf.N sc scope (ownOf cf.N tg) && okTg cf.N (isLo (relS' scope sc)) tg tg' && okE cf elt (relS' scope sc) elt' && okT cf c (relS' scope sc) c'
    | _ => false
  | .comp2 tg it tg2 it2 elt, sc, e => match e with
    | .ListComp elt' [⟨tg', it', [], 0⟩, ⟨tg2', it2', [], 0⟩] scope _ => (okIt cf it sc it' || okE cf it sc it') && noSet it' && (okIt cf it2 (relS' scope sc) it2' || okE cf it2 (relS' scope sc) it2') && noSet it2' && blkC cf.N sc scope (ownOf2 cf.N tg tg2) && okTg cf.N (isLo (relS' scope sc)) tg tg' && okTg cf.N (isLo (relS' scope sc)) tg2 tg2' && okE cf elt (relS' scope sc) elt'
    | _ => false
  | .comp2If tg it tg2 it2 c elt, sc, e => match e with
    | .ListComp elt' [⟨tg', it', [], 0⟩, ⟨tg2', it2', [c'], 0⟩] scope _ => (okIt cf it sc it' || okE cf it sc it') && noSet it' && (okIt cf it2 (relS' scope sc) it2' || okE cf it2 (relS' scope sc) it2') && noSet it2' && blkC cf.N sc scope (ownOf2 cf.N tg tg2) && okTg cf.N (isLo (relS' scope sc)) tg tg' && okTg cf.N (isLo (relS' scope sc)) tg2 tg2' && okE cf elt (relS' scope sc) elt' && okT cf c (relS' scope sc) c'
    | _ => false
  | .tupR a, sc, e => match e with
    | .Call (.Name x _) [.Call (.Name y _) [a'] [] _] [] _ => decide (x = "tuple") && decide (y = "range") && isGl sc x && isGl sc y && okE cf a sc a' && noStar a'
    | _ => false
/-- what is walked -/
def okIt (cf : Cf) : Ex → Scope → Expr → Bool
  | .rng a, sc, e => match e with
    | .Call (.Name x _) [a'] [] _ => decide (x = "range") && isGl sc x && okE cf a sc a' && noStar a'
    | _ => false
  | .rng2 a b, sc, e => match e with
    | .Call (.Name x _) [a', b'] [] _ => decide (x = "range") && isGl sc x && okE cf a sc a' && okE cf b sc b' && noStar a' && noStar b'
    | _ => false
  | _, _, _ => false
def okEs (cf : Cf) : Exs → Scope → List Expr → Bool
  | .nil, _, es => match es with
    | [] => true
    | _ => false
  | .cons e r, sc, es => match es with
    | e' :: r' => okE cf e sc e' && noStar e' && okEs cf r sc r'
    | _ => false
def okT (cf : Cf) : Tx → Scope → Expr → Bool
  | .val a, sc, e => okE cf a sc e && plainT e
  | .cmp o a b, sc, e => match e with
    | .Compare a' [op] [b'] _ => decide (copO o = op) && okE cf a sc a' && (if o = .isN ∨ o = .notN then isCN b' else okE cf b sc b' && noSet b')
    | _ => false
  | .chain o p a b c, sc, e => (match e with
    | .Compare a' [op, op2] [b', c'] _ => decide (copO o = op) && decide (copO p = op2) && okE cf a sc a' && okE cf b sc b' && okE cf c sc c' && noSet c'
    | _ => false)
  | .not a, sc, e => match e with
    | .UnaryOp .Not x _ => okT cf a sc x
    | _ => false
  | .and2 a r, sc, e => match e with
    | .BoolOp .And (x :: y :: rest) pos => okT cf a sc x && okT cf r sc (.BoolOp .And (y :: rest) pos) && isB2 r
    | _ => false
  | .or2 a r, sc, e => match e with
    | .BoolOp .Or (x :: y :: rest) pos => okT cf a sc x && okT cf r sc (.BoolOp .Or (y :: rest) pos) && isB2 r
    | _ => false
  | .one a, sc, e => match e with
    | .BoolOp _ [x] _ => okT cf a sc x
    | _ => false
  | .ite .., _, _ => false
end
end Pv

set_option Elab.async false
set_option linter.all false
set_option maxRecDepth 100000
set_option maxHeartbeats 8000000
/-! Pv15: what matches is read. -/
namespace Pv
open PySem PySem.Spec PyProof.Rows L2

def bNames : List Str := ["len", "abs", "int", "list", "tuple", "dict", "sorted", "set", "all", "any", "max", "min", "isinstance", "range", "bool", "str", "sum"]
/-- what is known where a def's body (or a comprehension's block) runs -/
structure XOk (cf : Cf) (P : Nat → Option Def) (n : Nat) (X : Cx) (sc : Scope) : Prop where
  env : X.env.scope = sc
  N : X.N = cf.N
  nd : X.N.Nodup
  calm : X.calm = true
  room : Room n X.A
  T : TOk cf.T
  fns : ∀ f x, x ∈ cf.fn f → ∃ fA fd ps, FnOk X.prog X.w X.K X.mg X.base CX0 n fA fd ps (spO cf.T X.K P n f) ∧ X.mg x = some (.ref fA) ∧ PySem.W.keepIn X.K (.ref fA) = true ∧ Binds X.K fd ps []
  blt : ∀ x ∈ bNames, X.mg x = none
  con : ∀ k x d, cf.co k = some (x, d) → ∃ v u, X.mg x = some u ∧ RelV v u ∧ ∀ wa H, Rep cf.T X.K wa H d v
section
variable {cf : Cf} {P : Nat → Option Def} {n : Nat} {X : Cx} {sc : Scope}
theorem XOk.gl (h : XOk cf P n X sc) {x : Str} (g : isGl sc x = true) : Gl X x := by
  unfold isGl at g
  split at g
  · rename_i q
    show X.env.scope.names.lookup x = _
    rw [h.env]; exact q
  · cases g
theorem XOk.nm (h : XOk cf P n X sc) {x : Str} {i : Nat} {pos : Pos} (hi : cf.N[i]? = some x) (hv : isVis sc x = true) (hp : plainN x = true) : PE X (.Name x pos) (tVar i) := by
  have hv := isVis_ok hv
  rw [← h.env] at hv
  exact pe_var (by rw [h.N]; exact hi) hv (plainN_ok hp).1 (plainN_ok hp).2.1
theorem XOk.blk (h : XOk cf P n X sc) (s : Shared) (H : Hp) (scope : Scope) (C : Addr) (cl : List (Str × Addr)) (fp : List Addr) : XOk cf P n (X.blk s H scope (compEnvC scope cl C X.env) fp) (relS' scope sc) := by
  refine ⟨?_, h.N, h.nd, h.calm, h.room, h.T, h.fns, h.blt, h.con⟩
  show relabel scope X.env = L2.relS scope sc
  rw [← h.env]
  rfl
theorem okNm_ok {X : Cx} {N : List Str} {p : Str → Bool} {i : Nat} {e : Expr} (hN : X.N = N) (nd : X.N.Nodup) (hp : ∀ x, p x = true → Loc X.env.scope x ∧ (X.fn x = true ∨ X.env.scope.names.lookup x = some .local)) (h : okNm N p i e = true) : PG X e (gName i) := by
  unfold okNm at h
  split at h
  · rw [Bool.and_eq_true, decide_eq_true_eq] at h
    exact pg_name nd (by rw [hN]; exact h.1) (hp _ h.2).1 (hp _ h.2).2
  · cases h
theorem okNms_ok {X : Cx} {N : List Str} {p : Str → Bool} (hN : X.N = N) (nd : X.N.Nodup) (hp : ∀ x, p x = true → Loc X.env.scope x ∧ (X.fn x = true ∨ X.env.scope.names.lookup x = some .local)) : ∀ {is : List Nat} {es : List Expr}, okNms N p is es = true →
    PGs X es (gNames is) ∧ es.length = is.length ∧ (assignEach es X.env).length = is.length ∧ (assignEach es X.env).findIdx? (·.1) = none
  | [], [], _ => ⟨pgs_nil, rfl, rfl, rfl⟩
  | [], _ :: _, h => by simp [okNms] at h
  | _ :: _, [], h => by simp [okNms] at h
  | i :: is, e :: es, h => by
    simp only [okNms, Bool.and_eq_true] at h
    obtain ⟨g1, g2, g3, g4⟩ := okNms_ok hN nd hp h.2
    have ha : assignEach (e :: es) X.env = (false, assign e X.env) :: assignEach es X.env := by
      have := h.1
      unfold okNm at this
      split at this
      · rfl
      · cases this
    refine ⟨pgs_cons (okNm_ok hN nd hp h.1) g1 (by rw [ha]; rfl), by rw [List.length_cons, List.length_cons, g2], by rw [ha, List.length_cons, List.length_cons, g3], ?_⟩
    rw [ha, List.findIdx?_cons]
    simp [g4]
theorem okNmT_ok {X : Cx} {N : List Str} {p : Str → Bool} {t : List Nat} {e : Expr} (hN : X.N = N) (nd : X.N.Nodup) (hc : X.calm = true) (hp : ∀ x, p x = true → Loc X.env.scope x ∧ (X.fn x = true ∨ X.env.scope.names.lookup x = some .local)) (h : okNmT N p t e = true) : PG X e (gNmT X.K t) ∧ ∀ es : List Expr, assignEach (e :: es) X.env = (false, assign e X.env) :: assignEach es X.env := by
  have tupC : ∀ (is : List Nat) (e' : Expr), okNmT N p is e' = (match e' with | .Tuple es _ _ => okNms N p is es | _ => false) → (∀ v, gNmT X.K is v = gTup X.K is.length (gNames is) v) → is = t → e' = e → PG X e (gNmT X.K t) ∧ ∀ es : List Expr, assignEach (e :: es) X.env = (false, assign e X.env) :: assignEach es X.env := by
    intro is e' g1 g2 et ee
    subst et
    subst ee
    rw [g1] at h
    split at h
    · obtain ⟨k1, k2, k3, k4⟩ := okNms_ok hN nd hp h
      refine ⟨?_, fun _ => rfl⟩
      have : gNmT X.K is = gTup X.K is.length (gNames is) := funext g2
      rw [this]
      exact pg_tup hc k1 k3 k4
    · cases h
  match t, h with
  | [i], h =>
    refine ⟨okNm_ok hN nd hp h, fun es => ?_⟩
    have h : okNm N p i e = true := h
    unfold okNm at h
    split at h
    · rfl
    · cases h
  | [], h => exact tupC [] e (by cases e <;> rfl) (fun _ => rfl) rfl rfl
  | i :: j :: l, h => exact tupC (i :: j :: l) e (by cases e <;> rfl) (fun _ => rfl) rfl rfl
theorem okNmsT_ok {X : Cx} {N : List Str} {p : Str → Bool} (hN : X.N = N) (nd : X.N.Nodup) (hc : X.calm = true) (hp : ∀ x, p x = true → Loc X.env.scope x ∧ (X.fn x = true ∨ X.env.scope.names.lookup x = some .local)) : ∀ {ts : List (List Nat)} {es : List Expr}, okNmsT N p ts es = true →
    PGs X es (gNmsT X.K ts) ∧ es.length = ts.length ∧ (assignEach es X.env).length = ts.length ∧ (assignEach es X.env).findIdx? (·.1) = none
  | [], [], _ => ⟨pgs_nil, rfl, rfl, rfl⟩
  | [], _ :: _, h => by simp [okNmsT] at h
  | _ :: _, [], h => by simp [okNmsT] at h
  | i :: is, e :: es, h => by
    simp only [okNmsT, Bool.and_eq_true] at h
    obtain ⟨g1, g2, g3, g4⟩ := okNmsT_ok hN nd hc hp h.2
    obtain ⟨k1, k2⟩ := okNmT_ok hN nd hc hp h.1
    refine ⟨pgs_cons k1 g1 (by rw [k2]; rfl), by rw [List.length_cons, List.length_cons, g2], by rw [k2, List.length_cons, List.length_cons, g3], ?_⟩
    rw [k2, List.findIdx?_cons]
    simp [g4]
theorem okTg_ok {X : Cx} {N : List Str} {p : Str → Bool} {tg : Tg} {e : Expr} (hN : X.N = N) (nd : X.N.Nodup) (hc : X.calm = true) (hp : ∀ x, p x = true → Loc X.env.scope x ∧ (X.fn x = true ∨ X.env.scope.names.lookup x = some .local)) (h : okTg N p tg e = true) : PG X e (gT X.K tg) := by
  unfold okTg at h
  split at h
  · exact okNm_ok hN nd hp h
  · obtain ⟨g1, g2, g3, g4⟩ := okNms_ok hN nd hp h
    exact pg_ut hc g1 g3 g4
  · obtain ⟨g1, g2, g3, g4⟩ := okNmsT_ok hN nd hc hp h
    exact pg_tup hc g1 g3 g4
  · cases h
theorem okEs_len {sc : Scope} {Φ : Fns} : ∀ {es : Exs} {es' : List Expr}, okEs cf es sc es' = true → es'.all noStar = true ∧ ∀ env ws ds ws', evs Φ es env ws = some (ds, ws') → ds.length = es'.length
  | .nil, es', h => by
    simp only [okEs] at h
    split at h
    · refine ⟨rfl, fun env ws ds ws' e => ?_⟩
      simp only [evs] at e
      cases e
      rfl
    · cases h
  | .cons e r, es', h => by
    simp only [okEs] at h
    split at h
    · rename_i e' r'
      rw [Bool.and_eq_true, Bool.and_eq_true] at h
      obtain ⟨g1, g2⟩ := okEs_len (Φ := Φ) h.2
      refine ⟨by rw [List.all_cons, h.1.2, g1]; rfl, fun env ws ds ws' q => ?_⟩
      simp only [evs] at q
      split at q
      · cases q
      split at q
      · cases q
      rename_i e2
      cases q
      rw [List.length_cons, List.length_cons, g2 _ _ _ _ e2]
    · cases h
def fresh : Ex → Bool
  | .lst _ => true
  | .dic _ _ => true
  | .comp .. => true
  | .compIf .. => true
  | .comp2 .. => true
  | .comp2If .. => true
  | .b1 f _ => match f with
    | .lstOf => true
    | .dictOf => true
    | .sorted => true
    | .sortedSet => true
    | _ => false
  | _ => false
theorem borrow {e : Expr} {a : Ex} {Φ : Fns} (h : XOk cf P n X sc) (ok : okE cf a sc e = true) (he : PE X e (tE cf.T X.K (ev Φ a))) : PE X e (tB cf.T X.K fun env ws => bor (vi a) env ws (ev Φ a env ws)) := by
  cases hv : vi a with
  | none =>
    have e : (fun (env : Env) (ws : WS) => bor none env ws (ev Φ a env ws)) = ev Φ a := funext fun env => funext fun ws => bor_none
    rw [e]
    exact tE_tB he
  | some i =>
    have ea : a = .var i := by
      unfold vi at hv
      split at hv
      · cases hv; rfl
      · cases hv
    subst ea
    simp only [okE] at ok
    split at ok
    · rw [Bool.and_eq_true, Bool.and_eq_true, decide_eq_true_eq] at ok
      exact pe_vb (h.nm ok.1.1 ok.1.2 ok.2)
    · cases ok
theorem fold_plain {e : Expr} (h : noSet e = true) (env : PySem.Env) : ∀ x, foldedSetIterable e env x = pure x := by
  intro x
  cases e <;> first | rfl | (simp [noSet] at h)
theorem slice_plain {e : Expr} (h : noSlice e = true) : ∀ o i, subscripted e false o i = operate [o, i] (getItem o i) := by
  intro o i
  cases e <;> first | rfl | (simp [noSlice] at h)
theorem marks_plain {op : CmpOp} {e : Expr} (h : noSet e = true) : behindInMarks op e = false := by
  cases e <;> first | rfl | (simp [noSet] at h)
variable {T : Nat → Str}
theorem b1_pe {f : B1} {a : Ex} {a' : Expr} {pos p : Pos} {x : Str} {Φ : Fns} (h : XOk cf P n X sc) (hf : f ≠ .sortedSet) (hx : x = b1N f) (hg : isGl sc x = true) (hs : noStar a' = true) (ha : PE X a' (tB cf.T X.K fun env ws => bor (vi a) env ws (ev Φ a env ws))) :
    PE X (.Call (.Name x p) [a'] [] pos) (tE cf.T X.K (un1 (fun env ws => bor (vi a) env ws (ev Φ a env ws)) (bf1 f))) ∧
    (fresh (.b1 f a) = true → PE X (.Call (.Name x p) [a'] [] pos) (tF cf.T X.K (un1 (fun env ws => bor (vi a) env ws (ev Φ a env ws)) (bf1 f)))) := by
  subst hx
  have g := h.gl hg
  cases f with
  | len => exact ⟨pe_un1 (ht_b len_okr g (h.blt "len" (by decide +kernel)) PySem.boot_len (by decide +kernel) (by decide +kernel) hs) len_okU ha, fun z => by cases z⟩
  | abs => exact ⟨pe_un1 (ht_b call_abs g (h.blt "abs" (by decide +kernel)) boot_abs (by decide +kernel) (by decide +kernel) hs) abs_okU ha, fun z => by cases z⟩
  | int => exact ⟨pe_un1 (ht_t call_int1 g (h.blt "int" (by decide +kernel)) boot_int (by decide +kernel) (by decide +kernel) hs) int_okU ha, fun z => by cases z⟩
  | lstOf =>
    have := pe_unF (T := cf.T) (ht_t (p := p) (pos := pos) (lst_okr h.calm) g (h.blt "list" (by decide +kernel)) boot_list (by decide +kernel) (by decide +kernel) hs) lst_okF ha
    exact ⟨tF_tE this, fun _ => this⟩
  | tupOf => exact ⟨pe_un1 (ht_t call_tupP g (h.blt "tuple" (by decide +kernel)) boot_tuple (by decide +kernel) (by decide +kernel) hs) tup_okU ha, fun z => by cases z⟩
  | dictOf =>
    have := pe_unF (T := cf.T) (ht_t (p := p) (pos := pos) (dct_okr h.calm) g (h.blt "dict" (by decide +kernel)) boot_dict (by decide +kernel) (by decide +kernel) hs) (dct_okF h.T) ha
    exact ⟨tF_tE this, fun _ => this⟩
  | sorted =>
    have := pe_unF (T := cf.T) (ht_b (p := p) (pos := pos) (srt_okr h.calm) g (h.blt "sorted" (by decide +kernel)) boot_sorted (by decide +kernel) (by decide +kernel) hs) srt_okF ha
    exact ⟨tF_tE this, fun _ => this⟩
  | sortedSet => exact absurd rfl hf
  | all => exact ⟨pe_un1 (ht_b (cr_all h.calm) g (h.blt "all" (by decide +kernel)) boot_all (by decide +kernel) (by decide +kernel) hs) all_okU ha, fun z => by cases z⟩
  | maxL => exact ⟨pe_un1 (ht_b (cr_max h.calm) g (h.blt "max" (by decide +kernel)) boot_max (by decide +kernel) (by decide +kernel) hs) maxL_okU ha, fun z => by cases z⟩
  | minL => exact ⟨pe_un1 (ht_b (cr_min h.calm) g (h.blt "min" (by decide +kernel)) boot_min (by decide +kernel) (by decide +kernel) hs) minL_okU ha, fun z => by cases z⟩
  | sumL => exact ⟨pe_un1 (ht_b (cr_sum h.calm) g (h.blt "sum" (by decide +kernel)) boot_sum (by decide +kernel) (by decide +kernel) hs) sumL_okU ha, fun z => by cases z⟩
  | any => exact ⟨pe_un1 (ht_b (cr_any h.calm) g (h.blt "any" (by decide +kernel)) boot_any (by decide +kernel) (by decide +kernel) hs) any_okU ha, fun z => by cases z⟩
theorem isi_pe {t : Ty} {a : Ex} {a' : Expr} {pos p p2 : Pos} {x y : Str} {Φ : Fns} (h : XOk cf P n X sc) (hx : x = "isinstance") (hy : y = tyS t) (hg : isGl sc x = true) (hgy : isGl sc y = true) (hs : noStar a' = true) (ha : PE X a' (tB cf.T X.K fun env ws => bor (vi a) env ws (ev Φ a env ws))) :
    PE X (.Call (.Name x p) [a', .Name y p2] [] pos) (tE cf.T X.K (un1 (fun env ws => bor (vi a) env ws (ev Φ a env ws)) (fun d => match isiD t d with
      | none => none
      | some z => some (.bl z)))) := by
  subst hx
  subst hy
  have bt : ∃ u, bootBuiltins (tyS t) = some u ∧ RelV (.ty (tyN t)) u ∧ X.mg (tyS t) = none ∧ tyS t ≠ "__name__" ∧ (tyS t == ("__debug__" : Str)) = false := by
    cases t
    · exact ⟨_, boot_int, rfl, h.blt "int" (by decide +kernel), by decide, by decide⟩
    · exact ⟨_, boot_bool, rfl, h.blt "bool" (by decide +kernel), by decide, by decide⟩
    · exact ⟨_, boot_tuple, rfl, h.blt "tuple" (by decide +kernel), by decide, by decide⟩
    · exact ⟨_, boot_list, rfl, h.blt "list" (by decide +kernel), by decide, by decide⟩
    · exact ⟨_, boot_dict, rfl, h.blt "dict" (by decide +kernel), by decide, by decide⟩
    · exact ⟨_, boot_str, rfl, h.blt "str" (by decide +kernel), by decide, by decide⟩
  obtain ⟨u, h1, h2, h3, h4, h5⟩ := bt
  refine pe_un1 (r := fun x H Q => rIsi X.K [x, .ty (tyN t)] H Q) (fun ta hta => ?_) (isi_okU t) ha
  exact pe_callB call_isi (h.gl hg) (h.blt "isinstance" (by decide +kernel)) boot_isinstance (pa_cons hta (pa_cons (pe_bltn (h.gl hgy) h3 h1 h2 h4 h5) pa_nil (star_cons rfl _ _)) (star_cons hs _ _)) (by decide +kernel) (by decide +kernel) (star_cons hs _ _) rfl
end
end Pv

set_option Elab.async false
set_option linter.all false
set_option maxRecDepth 100000
set_option maxHeartbeats 8000000
/-! Pv16: every expression that matches is read. -/
namespace Pv
open PySem PySem.Spec PyProof.Rows L2
section
variable {cf : Cf} {P : Nat → Option Def} {n : Nat}
theorem isCN_ok {e : Expr} (h : isCN e = true) : ∃ j p, e = .Constant .none j p := by
  unfold isCN at h
  split at h
  · exact ⟨_, _, rfl⟩
  · cases h
theorem copN {o : Cop} (h : o = .isN ∨ o = .notN) : copO o = if decide (o = .notN) then .IsNot else .Is := by
  rcases h with h | h <;> subst h <;> rfl
theorem cmpV {X : Cx} {sc : Scope} {o : Cop} {a b : Ex} {a' b' : Expr} {op : CmpOp} {pos : Pos} {Φ : Fns} (h : XOk cf P n X sc) (ho : copO o = op) (ha : PE X a' (tB cf.T X.K fun env ws => bor (vi a) env ws (ev Φ a env ws)))
    (hb : (if o = .isN ∨ o = .notN then isCN b' else okE cf b sc b' && noSet b') = true) (ib : okE cf b sc b' = true → PE X b' (tE cf.T X.K (ev Φ b))) :
    PE X (.Compare a' [op] [b'] pos) (tE cf.T X.K (ev Φ (.cmp o a b))) ∧ PT X (.Compare a' [op] [b'] pos) (tT cf.T X.K (evT Φ (.cmp o a b))) := by
  by_cases hn : o = .isN ∨ o = .notN
  · rw [if_pos hn] at hb
    obtain ⟨j, p, rfl⟩ := isCN_ok hb
    have e1 := pe_none (pos := pos) (j := j) (p1 := p) (neg := decide (o = .notN)) (op := op) (by rw [← ho, copN hn]) ha
    have e2 := pt_none (pos := pos) (j := j) (p1 := p) (neg := decide (o = .notN)) (op := op) (by rw [← ho, copN hn]) ha
    refine ⟨PE.mono e1 ?_, PT.mono e2 ?_⟩
    · have : ev Φ (.cmp o a b) = oneV (fun env ws => bor (vi a) env ws (ev Φ a env ws)) (decide (o = .notN)) := by
        funext env ws
        unfold oneV
        simp only [ev]
        rcases hn with hn | hn <;> subst hn <;> rfl
      rw [this]; exact fun _ _ _ q => q
    · have : evT Φ (.cmp o a b) = oneT (fun env ws => bor (vi a) env ws (ev Φ a env ws)) (decide (o = .notN)) := by
        funext env ws
        unfold oneT
        simp only [evT]
        rcases hn with hn | hn <;> subst hn <;> rfl
      rw [this]; exact fun _ _ _ q => q
  · rw [if_neg hn, Bool.and_eq_true] at hb
    have hb2 := borrow h hb.1 (ib hb.1)
    have hu : X.A.units + 65 < cLine := by have := h.room.un; omega
    subst ho
    have e1 := pe_two (T := cf.T) (fun ta tb h1 h2 => pe_cmpR (pos := pos) (cop_opr hu o) h1 h2 (marks_plain hb.2)) (cop_ok h.T o) ha hb2
    have e2 := pt_two (T := cf.T) (fun ta tb h1 h2 => pt_cmpR (pos := pos) (cop_opr hu o) h1 h2 (marks_plain hb.2)) (cop_ok h.T o) ha hb2
    have n1 : o ≠ .isN := fun z => hn (.inl z)
    have n2 : o ≠ .notN := fun z => hn (.inr z)
    refine ⟨PE.mono e1 ?_, PT.mono e2 ?_⟩
    · have : ev Φ (.cmp o a b) = two (fun env ws => bor (vi a) env ws (ev Φ a env ws)) (fun env ws => bor (vi b) env ws (ev Φ b env ws)) (fun _ => copD o) := by
        funext env ws
        unfold two copD
        simp only [ev]
        cases o <;> first | exact absurd rfl n1 | exact absurd rfl n2 | skip
        all_goals
          cases bor (vi a) env ws (ev Φ a env ws) with
          | none => rfl
          | some r =>
            obtain ⟨x, ws1⟩ := r
            dsimp only
            cases bor (vi b) env ws1 (ev Φ b env ws1) with
            | none => rfl
            | some r =>
              obtain ⟨y, ws2⟩ := r
              dsimp only
              cases cop _ x y <;> rfl
      rw [this]; exact fun _ _ _ q => q
    · have : evT Φ (.cmp o a b) = twoT (fun env ws => bor (vi a) env ws (ev Φ a env ws)) (fun env ws => bor (vi b) env ws (ev Φ b env ws)) o := by
        funext env ws
        unfold twoT
        simp only [evT]
        try cases o <;> first | exact absurd rfl n1 | exact absurd rfl n2 | rfl
      rw [this]; exact fun _ _ _ q => q
def chF (o p : Cop) (fa fb fc : EvF) : EvF := fun env ws => match fa env ws with
  | none => none
  | some (x, ws1) => match fb env ws1 with
    | none => none
    | some (y, ws2) => match cop o x y with
      | none => none
      | some false => some (.bl false, ws2)
      | some true => match fc env ws2 with
        | none => none
        | some (z, ws3) => match cop p y z with
          | none => none
          | some t => some (.bl t, ws3)
def chT (o p : Cop) (fa fb fc : EvF) : EvTF := fun env ws => match fa env ws with
  | none => none
  | some (x, ws1) => match fb env ws1 with
    | none => none
    | some (y, ws2) => match cop o x y with
      | none => none
      | some false => some (false, ws2)
      | some true => match fc env ws2 with
        | none => none
        | some (z, ws3) => match cop p y z with
          | none => none
          | some t => some (t, ws3)
theorem chV {X : Cx} {sc : Scope} {o p : Cop} {fa fb fc : EvF} {a' b' c' : Expr} {pos : Pos} (h : XOk cf P n X sc) (ha : PE X a' (tB cf.T X.K fa)) (hb : PE X b' (tB cf.T X.K fb)) (hc : PE X c' (tB cf.T X.K fc)) (hs : noSet c' = true) :
    PE X (.Compare a' [copO o, copO p] [b', c'] pos) (tE cf.T X.K (chF o p fa fb fc)) ∧ PT X (.Compare a' [copO o, copO p] [b', c'] pos) (tT cf.T X.K (chT o p fa fb fc)) := by
  have hu : X.A.units + 65 < cLine := by have := h.room.un; omega
  have go : ∀ (σ : L2.St) (H : Hp) (Q : VK) (O : Addr → Prop) (wa : Option Addr) (env : Env) (ω : Nat → Option Addr) (ws : WS) (t : Bool) (ws' : WS), StR cf.T X.K O wa env ω ws σ H → chT o p fa fb fc env ws = some (t, ws') →
      (∀ H', StR cf.T X.K O wa env ω ws' σ H' → Stp wa H H' → Q (.bl t) H') → tChain (copR X.K o) (copR X.K p) (tB cf.T X.K fa) (tB cf.T X.K fb) (tB cf.T X.K fc) σ H Q := by
    intro σ H Q O wa env ω ws t ws' st hf k
    unfold chT at hf
    split at hf
    · cases hf
    rename_i x ws1 e1
    split at hf
    · cases hf
    rename_i y ws2 e2
    refine ⟨O, wa, env, ω, ws, x, ws1, st, e1, fun v1 H1 st1 sp1 r1 => ⟨O, wa, env, ω, ws1, y, ws2, st1, e2, fun v2 H2 st2 sp2 r2 => ?_⟩⟩
    split at hf
    · cases hf
    · rename_i e3
      cases hf
      refine cop_ok h.T o O wa env ω ws' σ H2 v1 v2 x y (.bl false) _ st2 (r1.mono sp2) r2 (by show copD o x y = _; unfold copD; rw [e3]) fun v H3 sm rz => ?_
      cases rz
      exact ⟨false, rfl, k H3 (st2.grow sm) ((sp1.trans sp2).trans (Stp.of sm))⟩
    · rename_i e3
      split at hf
      · cases hf
      rename_i z ws3 e4
      split at hf
      · cases hf
      rename_i t' e5
      cases hf
      refine cop_ok h.T o O wa env ω ws2 σ H2 v1 v2 x y (.bl true) _ st2 (r1.mono sp2) r2 (by show copD o x y = _; unfold copD; rw [e3]) fun v H3 sm rz => ?_
      cases rz
      refine ⟨true, rfl, ?_⟩
      rw [if_pos rfl]
      refine ⟨O, wa, env, ω, ws2, z, _, st2.grow sm, e4, fun v3 H4 st4 sp4 r3 => ?_⟩
      refine cop_ok h.T p O wa env ω _ σ H4 v2 v3 y z (.bl t) _ st4 (r2.mono ((Stp.of sm).trans sp4)) r3 (by show copD p y z = _; unfold copD; rw [e5]) fun v H5 sm5 rz => ?_
      cases rz
      exact k H5 (st4.grow sm5) ((((sp1.trans sp2).trans (Stp.of sm)).trans sp4).trans (Stp.of sm5))
  refine ⟨PE.mono (pe_chain (cop_opr hu o) (cop_opr hu p) ha hb hc (marks_plain hs)) fun σ H Q ⟨O, wa, env, ω, ws, d, ws', st, hf, k⟩ => ?_, PT.mono (pt_chain (cop_opr hu o) (cop_opr hu p) ha hb hc (marks_plain hs)) fun σ H Q ⟨O, wa, env, ω, ws, d, ws', st, hf, k⟩ => ?_⟩
  · have : ∃ t, d = .bl t ∧ chT o p fa fb fc env ws = some (t, ws') := by
      unfold chF at hf
      unfold chT
      split at hf
      · cases hf
      rename_i x ws1 e1
      split at hf
      · cases hf
      rename_i y ws2 e2
      split at hf
      · cases hf
      · rename_i e3; cases hf; exact ⟨false, rfl, by first | rfl | simp only [e3]⟩
      · rename_i e3
        split at hf
        · cases hf
        rename_i z ws3 e4
        split at hf
        · cases hf
        rename_i t' e5
        cases hf
        exact ⟨t', rfl, by first | rfl | simp only [e3, e4, e5]⟩
    obtain ⟨t, rfl, ht⟩ := this
    exact go σ H Q O wa env ω ws t ws' st ht fun H' s1 s2 => k _ H' s1 s2 (.bl t)
  · exact go σ H _ O wa env ω ws d ws' st hf fun H' s1 s2 => ⟨d, rfl, k H' s1 s2⟩
end
end Pv

set_option Elab.async false
set_option linter.all false
set_option maxRecDepth 100000
set_option maxHeartbeats 8000000
/-! Pv17: every expression that matches is read. -/
namespace Pv
open PySem PySem.Spec PyProof.Rows L2
section
variable {cf : Cf} {P : Nat → Option Def} {n : Nat}
theorem relOk {X : Cx} {sc scope : Scope} {own : List (Str × Nat)} {tg : Tg} (h : XOk cf P n X sc) (hb : blkC cf.N sc scope own = true) : BlkOk X.N X.env.scope scope own := by
  rw [h.N, h.env]; exact blkOk_by hb
theorem own_tgs (N : List Str) (tg : Tg) : (ownOf N tg).map (·.2) = tgs tg := by
  unfold ownOf
  rw [List.map_map]
  exact List.map_id _
theorem blkTg {X : Cx} {sc scope : Scope} {tg : Tg} {tg' : Expr} (h : XOk cf P n X sc) (ht : okTg cf.N (isLo (relS' scope sc)) tg tg' = true) (s : Shared) (H : Hp) (C : Addr) (cl : List (Str × Addr)) (fp : List Addr) :
    PG (X.blk s H scope (compEnvC scope cl C X.env) fp) tg' (gT X.K tg) := by
  have hb := h.blk s H scope C cl fp
  refine okTg_ok (X := X.blk s H scope (compEnvC scope cl C X.env) fp) hb.N hb.nd hb.calm (fun x hx => ?_) ht
  have := isLo_ok hx
  rw [← hb.env] at this
  exact ⟨.inl this, .inr this⟩
theorem compV {X : Cx} {sc scope : Scope} {tg : Tg} {it elt : Ex} {tg' it' elt' : Expr} {pos : Pos} {Φ : Fns} (h : XOk cf P n X sc) (hs : noSet it' = true) (hi : PI X tg' it' (tI cf.T X.K false fun env ws => bor (vi it) env ws (ev Φ it env ws)))
    (hb : blkC cf.N sc scope (ownOf cf.N tg) = true) (ht : okTg cf.N (isLo (relS' scope sc)) tg tg' = true)
    (he : ∀ X : Cx, XOk cf P n X (relS' scope sc) → PE X elt' (tE cf.T X.K (ev Φ elt))) : PE X (.ListComp elt' [⟨tg', it', [], 0⟩] scope pos) (tF cf.T X.K (ev Φ (.comp tg it elt))) := by
  have e := pe_cm (T := cf.T) (pos := pos) (fe := ev Φ elt) (ft := fun _ ws => some (true, ws)) h.calm h.nd hi (relOk (tg := tg) h hb) (own_tgs cf.N tg) (blkTg h ht) (fun _ _ _ _ _ => pts_n)
    (fun s H C cl fp => he _ (h.blk s H scope C cl fp)) (fold_plain hs _)
  refine PE.mono e ?_
  have : ev Φ (.comp tg it elt) = compF (fun env ws => bor (vi it) env ws (ev Φ it env ws)) (fun _ ws => some (true, ws)) (ev Φ elt) tg := by
    funext env ws
    unfold compF
    simp only [ev]
    try rfl
  rw [this]; exact fun _ _ _ q => q
theorem compIfV {X : Cx} {sc scope : Scope} {tg : Tg} {it elt : Ex} {c : Tx} {tg' it' elt' c' : Expr} {pos : Pos} {Φ : Fns} (h : XOk cf P n X sc) (hs : noSet it' = true) (hi : PI X tg' it' (tI cf.T X.K false fun env ws => bor (vi it) env ws (ev Φ it env ws)))
    (hb : blkC cf.N sc scope (ownOf cf.N tg) = true) (ht : okTg cf.N (isLo (relS' scope sc)) tg tg' = true)
    (he : ∀ X : Cx, XOk cf P n X (relS' scope sc) → PE X elt' (tE cf.T X.K (ev Φ elt))) (hc : ∀ X : Cx, XOk cf P n X (relS' scope sc) → PT X c' (tT cf.T X.K (evT Φ c))) :
    PE X (.ListComp elt' [⟨tg', it', [c'], 0⟩] scope pos) (tF cf.T X.K (ev Φ (.compIf tg it c elt))) := by
  have e := pe_cm (T := cf.T) (pos := pos) (fe := ev Φ elt) (ft := evT Φ c) h.calm h.nd hi (relOk (tg := tg) h hb) (own_tgs cf.N tg) (blkTg h ht) (fun s H C cl fp => pts_one (hc _ (h.blk s H scope C cl fp)))
    (fun s H C cl fp => he _ (h.blk s H scope C cl fp)) (fold_plain hs _)
  refine PE.mono e ?_
  have : ev Φ (.compIf tg it c elt) = compF (fun env ws => bor (vi it) env ws (ev Φ it env ws)) (evT Φ c) (ev Φ elt) tg := by
    funext env ws
    unfold compF
    simp only [ev]
    try rfl
  rw [this]; exact fun _ _ _ q => q
theorem own_tgs2 (N : List Str) (tg tg2 : Tg) : (ownOf2 N tg tg2).map (·.2) = tgs tg ++ tgs tg2 := by
  unfold ownOf2
  rw [List.map_map]
  exact List.map_id _
theorem itV {Φ : Fns} {it : Ex} {sc : Scope} {e : Expr} (h : okIt cf it sc e = true) : (fun env ws => bor (vi it) env ws (ev Φ it env ws)) = ev Φ it := by
  cases it <;> first | (simp [okIt] at h; done) | rfl
theorem comp2V {X : Cx} {sc scope : Scope} {tg tg2 : Tg} {it it2 elt : Ex} {tg' it' tg2' it2' elt' : Expr} {cs : List Expr} {pos : Pos} {Φ : Fns} (h : XOk cf P n X sc) (hs : noSet it' = true) (hs2 : noSet it2' = true)
    (hi : PI X tg' it' (tI cf.T X.K false fun env ws => bor (vi it) env ws (ev Φ it env ws)))
    (hi2 : ∀ X : Cx, XOk cf P n X (relS' scope sc) → PI X tg2' it2' (tI cf.T X.K true (ev Φ it2)))
    (hb : blkC cf.N sc scope (ownOf2 cf.N tg tg2) = true) (ht : okTg cf.N (isLo (relS' scope sc)) tg tg' = true) (ht2 : okTg cf.N (isLo (relS' scope sc)) tg2 tg2' = true)
    (he : ∀ X : Cx, XOk cf P n X (relS' scope sc) → PE X elt' (tE cf.T X.K (ev Φ elt)))
    (hc : ∀ X : Cx, XOk cf P n X (relS' scope sc) → PTs X cs (tT cf.T X.K (fun _ ws => some (true, ws)))) :
    PE X (.ListComp elt' [⟨tg', it', [], 0⟩, ⟨tg2', it2', cs, 0⟩] scope pos) (tF cf.T X.K (ev Φ (.comp2 tg it tg2 it2 elt))) := by
  have e := pe_cm2 (T := cf.T) (pos := pos) (fe := ev Φ elt) (ifs := cs) h.calm h.nd hi (relOk (tg := tg) h hb) (own_tgs2 cf.N tg tg2) (blkTg h ht) (fun s H C cl fp => hi2 _ (h.blk s H scope C cl fp)) (blkTg h ht2)
    (fun s H C cl fp => hc _ (h.blk s H scope C cl fp)) (fun s H C cl fp => he _ (h.blk s H scope C cl fp)) (fold_plain hs _) (fun env => fold_plain hs2 env)
  refine PE.mono e ?_
  have : ev Φ (.comp2 tg it tg2 it2 elt) = comp2F (fun env ws => bor (vi it) env ws (ev Φ it env ws)) (ev Φ it2) (fun _ ws => some (true, ws)) (ev Φ elt) tg tg2 := by
    funext env ws
    unfold comp2F
    simp only [ev]
    try rfl
  rw [this]; exact fun _ _ _ q => q
theorem comp2IfV {X : Cx} {sc scope : Scope} {tg tg2 : Tg} {it it2 elt : Ex} {c : Tx} {tg' it' tg2' it2' elt' : Expr} {cs : List Expr} {pos : Pos} {Φ : Fns} (h : XOk cf P n X sc) (hs : noSet it' = true) (hs2 : noSet it2' = true)
    (hi : PI X tg' it' (tI cf.T X.K false fun env ws => bor (vi it) env ws (ev Φ it env ws)))
    (hi2 : ∀ X : Cx, XOk cf P n X (relS' scope sc) → PI X tg2' it2' (tI cf.T X.K true (ev Φ it2)))
    (hb : blkC cf.N sc scope (ownOf2 cf.N tg tg2) = true) (ht : okTg cf.N (isLo (relS' scope sc)) tg tg' = true) (ht2 : okTg cf.N (isLo (relS' scope sc)) tg2 tg2' = true)
    (he : ∀ X : Cx, XOk cf P n X (relS' scope sc) → PE X elt' (tE cf.T X.K (ev Φ elt)))
    (hc : ∀ X : Cx, XOk cf P n X (relS' scope sc) → PTs X cs (tT cf.T X.K (evT Φ c))) :
    PE X (.ListComp elt' [⟨tg', it', [], 0⟩, ⟨tg2', it2', cs, 0⟩] scope pos) (tF cf.T X.K (ev Φ (.comp2If tg it tg2 it2 c elt))) := by
  have e := pe_cm2 (T := cf.T) (pos := pos) (fe := ev Φ elt) (ifs := cs) h.calm h.nd hi (relOk (tg := tg) h hb) (own_tgs2 cf.N tg tg2) (blkTg h ht) (fun s H C cl fp => hi2 _ (h.blk s H scope C cl fp)) (blkTg h ht2)
    (fun s H C cl fp => hc _ (h.blk s H scope C cl fp)) (fun s H C cl fp => he _ (h.blk s H scope C cl fp)) (fold_plain hs _) (fun env => fold_plain hs2 env)
  refine PE.mono e ?_
  have : ev Φ (.comp2If tg it tg2 it2 c elt) = comp2F (fun env ws => bor (vi it) env ws (ev Φ it env ws)) (ev Φ it2) (evT Φ c) (ev Φ elt) tg tg2 := by
    funext env ws
    unfold comp2F
    simp only [ev]
    try rfl
  rw [this]; exact fun _ _ _ q => q
theorem ev_eq {X : Cx} {e : Expr} {T : Nat → Str} {f g : EvF} (h : PE X e (tE T X.K f)) (q : g = f) : PE X e (tE T X.K g) := by rw [q]; exact h
theorem evF_eq {X : Cx} {e : Expr} {T : Nat → Str} {f g : EvF} (h : PE X e (tF T X.K f)) (q : g = f) : PE X e (tF T X.K g) := by rw [q]; exact h
theorem evT_eq {X : Cx} {e : Expr} {T : Nat → Str} {f g : EvTF} (h : PT X e (tT T X.K f)) (q : g = f) : PT X e (tT T X.K g) := by rw [q]; exact h
/-- what an Ex gives that is walked: looked at, or a range -/
def itF (Φ : Fns) (it : Ex) : EvF := fun env ws => bor (vi it) env ws (ev Φ it env ws)
theorem itB {X : Cx} {sc : Scope} {it : Ex} {tg e : Expr} {R : Prop} (h : XOk cf P n X sc) (hE : okE cf it sc e = true → PE X e (tE cf.T X.K (ev (callO P n) it)) ∧ R) (hI : okIt cf it sc e = true → PI X tg e (tI cf.T X.K false (itF (callO P n) it))) (ok : (okIt cf it sc e || okE cf it sc e) = true) :
    PI X tg e (tI cf.T X.K false (itF (callO P n) it)) := by
  rw [Bool.or_eq_true] at ok
  rcases ok with ok | ok
  · exact hI ok
  · exact pi_v (fz := false) (borrow h ok (hE ok).1)
theorem itF_rng {Φ : Fns} {a : Ex} : itF Φ (.rng a) = rngF (ev Φ a) := by
  funext env ws
  unfold itF rngF
  show ev Φ (.rng a) env ws = _
  simp only [ev]
  try rfl
theorem itF_rng2 {Φ : Fns} {a b : Ex} : itF Φ (.rng2 a b) = rng2F (ev Φ a) (ev Φ b) := by
  funext env ws
  unfold itF rng2F
  show ev Φ (.rng2 a b) env ws = _
  simp only [ev]
  try rfl
mutual
theorem readE : ∀ (a : Ex) (X : Cx) (sc : Scope) (e : Expr), XOk cf P n X sc → okE cf a sc e = true → PE X e (tE cf.T X.K (ev (callO P n) a)) ∧ (fresh a = true → PE X e (tF cf.T X.K (ev (callO P n) a)))
  | .bad, X, sc, e, h, ok => ⟨⟨fun _ _ _ _ _ _ q => by obtain ⟨_, _, _, _, _, _, _, _, hf, _⟩ := q; simp [ev] at hf⟩, fun z => by cases z⟩
  | .non, X, sc, e, h, ok => by
    simp only [okE] at ok
    obtain ⟨j, p, rfl⟩ := isCN_ok ok
    exact ⟨ev_eq (pe_k pe_non fun _ _ => .non) (by funext env ws; simp only [ev]), fun z => by cases z⟩
  | .tt b, X, sc, e, h, ok => by
    simp only [okE] at ok
    split at ok
    · rw [decide_eq_true_eq] at ok
      subst ok
      exact ⟨ev_eq (pe_k pe_bl fun _ _ => .bl b) (by funext env ws; simp only [ev]), fun z => by cases z⟩
    · cases ok
  | .num i, X, sc, e, h, ok => by
    simp only [okE] at ok
    split at ok
    · rw [decide_eq_true_eq] at ok
      subst ok
      exact ⟨ev_eq (pe_k pe_int fun _ _ => .int i) (by funext env ws; simp only [ev]), fun z => by cases z⟩
    · cases ok
  | .txt k, X, sc, e, h, ok => by
    simp only [okE] at ok
    split at ok
    · rw [decide_eq_true_eq] at ok
      subst ok
      exact ⟨ev_eq (pe_k pe_str fun _ _ => .str k) (by funext env ws; simp only [ev]), fun z => by cases z⟩
    · cases ok
  | .var i, X, sc, e, h, ok => by
    simp only [okE] at ok
    split at ok
    · rw [Bool.and_eq_true, Bool.and_eq_true, decide_eq_true_eq] at ok
      exact ⟨ev_eq (pe_va (h.nm ok.1.1 ok.1.2 ok.2)) (by funext env ws; simp only [ev]; try rfl), fun z => by cases z⟩
    · cases ok
  | .con k d, X, sc, e, h, ok => by
    simp only [okE] at ok
    split at ok
    · rename_i x p
      rw [Bool.and_eq_true, Bool.and_eq_true] at ok
      have o1 := ok.1.1
      split at o1
      · rename_i y d' hy
        rw [Bool.and_eq_true, decide_eq_true_eq] at o1
        have := sameD_eq o1.2
        subst this
        have := o1.1
        subst this
        obtain ⟨v, u, h1, h2, h3⟩ := h.con k _ _ hy
        exact ⟨ev_eq (pe_k (pe_glob (h.gl ok.1.2) h1 h2 (plainN_ok ok.2).1) h3) (by funext env ws; simp only [ev]), fun z => by cases z⟩
      · cases o1
    · cases ok
  | .bin o a b, X, sc, e, h, ok => by
    simp only [okE] at ok
    split at ok
    · rw [Bool.and_eq_true, Bool.and_eq_true, decide_eq_true_eq] at ok
      have o1 := ok.1.1
      subst o1
      have ha := borrow h ok.1.2 (readE a X sc _ h ok.1.2).1
      have hb := borrow h ok.2 (readE b X sc _ h ok.2).1
      exact ⟨ev_eq (pe_two (fun ta tb h1 h2 => pe_op (bop_opr o) h1 h2) (bop_ok o) ha hb) (by funext env ws; unfold two; simp only [ev]; try rfl), fun z => by cases z⟩
    · cases ok
  | .neg a, X, sc, e, h, ok => by
    simp only [okE] at ok
    split at ok
    · have ha := (readE a X sc _ h ok).1
      refine ⟨ev_eq (pe_un1 (fun ta h1 => pe_un un_neg h1) neg_okU (tE_tB ha)) ?_, fun z => by cases z⟩
      funext env ws
      unfold un1
      simp only [ev]
      cases ev (callO P n) a env ws with
      | none => rfl
      | some r =>
        obtain ⟨x, ws1⟩ := r
        cases x <;> rfl
    · cases ok
  | .cmp o a b, X, sc, e, h, ok => by
    simp only [okE] at ok
    split at ok
    · rw [Bool.and_eq_true, Bool.and_eq_true, decide_eq_true_eq] at ok
      have ha := borrow h ok.1.2 (readE a X sc _ h ok.1.2).1
      exact ⟨(cmpV h ok.1.1 ha ok.2 fun q => (readE b X sc _ h q).1).1, fun z => by cases z⟩
    · cases ok
  | .chain o p a b c, X, sc, e, h, ok => by
    simp only [okE] at ok
    split at ok
    · rw [Bool.and_eq_true, Bool.and_eq_true, Bool.and_eq_true, Bool.and_eq_true, Bool.and_eq_true, decide_eq_true_eq, decide_eq_true_eq] at ok
      have o1 := ok.1.1.1.1.1
      have o2 := ok.1.1.1.1.2
      subst o1
      subst o2
      exact ⟨ev_eq (chV h (borrow h ok.1.1.1.2 (readE a X sc _ h ok.1.1.1.2).1) (borrow h ok.1.1.2 (readE b X sc _ h ok.1.1.2).1) (borrow h ok.1.2 (readE c X sc _ h ok.1.2).1) ok.2).1 (by funext env ws; unfold chF; simp only [ev]; try rfl), fun z => by cases z⟩
    · cases ok
  | .andv a r, X, sc, e, h, ok => by
    simp only [okE] at ok
    split at ok
    · rw [Bool.and_eq_true] at ok
      exact ⟨ev_eq (pe_av (readE a X sc _ h ok.1).1 (readE r X sc _ h ok.2).1) (by funext env ws; unfold andV; simp only [ev]; try rfl), fun z => by cases z⟩
    · cases ok
  | .orv a r, X, sc, e, h, ok => by
    simp only [okE] at ok
    split at ok
    · rw [Bool.and_eq_true] at ok
      exact ⟨ev_eq (pe_ov (readE a X sc _ h ok.1).1 (readE r X sc _ h ok.2).1) (by funext env ws; unfold orV; simp only [ev]; try rfl), fun z => by cases z⟩
    · cases ok
  | .one a, X, sc, e, h, ok => by
    simp only [okE] at ok
    split at ok
    · exact ⟨ev_eq (PE.mono (pe_one (readE a X sc _ h ok).1) fun _ _ _ q => q) (by funext env ws; simp only [ev]), fun z => by cases z⟩
    · cases ok
  | .notv a, X, sc, e, h, ok => by
    simp only [okE] at ok
    split at ok
    · exact ⟨ev_eq (pe_nv (readE a X sc _ h ok).1) (by funext env ws; unfold notV; simp only [ev]; try rfl), fun z => by cases z⟩
    · cases ok
  | .ite c a b, X, sc, e, h, ok => by
    simp only [okE] at ok
    split at ok
    · rw [Bool.and_eq_true, Bool.and_eq_true] at ok
      exact ⟨ev_eq (pe_ie (readT c X sc _ h ok.1.1).1 (readE a X sc _ h ok.1.2).1 (readE b X sc _ h ok.2).1) (by funext env ws; unfold iteV; simp only [ev]; try rfl), fun z => by cases z⟩
    · cases ok
  | .tup es, X, sc, e, h, ok => by
    simp only [okE] at ok
    split at ok
    · rw [Bool.and_eq_true] at ok
      exact ⟨ev_eq (pe_dt (readEs es X sc _ h ok.1) ok.2 (okEs_len (Φ := callO P n) ok.1).2) (by funext env ws; unfold dispT; simp only [ev]; try rfl), fun z => by cases z⟩
    · cases ok
  | .lst es, X, sc, e, h, ok => by
    simp only [okE] at ok
    split at ok
    · rw [Bool.and_eq_true] at ok
      have := fun pos => evF_eq (pe_dl (pos := pos) (readEs es X sc _ h ok.1) ok.2 (okEs_len (Φ := callO P n) ok.1).2) (g := ev (callO P n) (.lst es)) (by funext env ws; unfold dispL; simp only [ev]; try rfl)
      exact ⟨tF_tE (this _), fun _ => this _⟩
    · cases ok
  | .dic .nil .nil, X, sc, e, h, ok => by
    simp only [okE] at ok
    split at ok
    · have := fun pos => evF_eq (X := X) (T := cf.T) (pe_d0 (pos := pos)) (g := ev (callO P n) (.dic .nil .nil)) (by funext env ws; simp only [ev])
      exact ⟨tF_tE (this _), fun _ => this _⟩
    · cases ok
  | .dic (.cons k .nil) (.cons v .nil), X, sc, e, h, ok => by
    simp only [okE] at ok
    split at ok
    · rw [Bool.and_eq_true] at ok
      have := fun pos => evF_eq (pe_d1 (pos := pos) (readE k X sc _ h ok.1).1 (readE v X sc _ h ok.2).1) (g := ev (callO P n) (.dic (.cons k .nil) (.cons v .nil))) (by funext env ws; unfold dispD; simp only [ev]; try rfl)
      exact ⟨tF_tE (this _), fun _ => this _⟩
    · cases ok
  | .dic .nil (.cons _ _), X, sc, e, h, ok => by simp [okE] at ok
  | .dic (.cons _ _) .nil, X, sc, e, h, ok => by simp [okE] at ok
  | .dic (.cons _ (.cons _ _)) (.cons _ _), X, sc, e, h, ok => by simp [okE] at ok
  | .dic (.cons _ .nil) (.cons _ (.cons _ _)), X, sc, e, h, ok => by simp [okE] at ok
  | .ix a b, X, sc, e, h, ok => by
    simp only [okE] at ok
    split at ok
    · rw [Bool.and_eq_true, Bool.and_eq_true] at ok
      have ha := borrow h ok.1.1 (readE a X sc _ h ok.1.1).1
      have hb := tE_tB (readE b X sc _ h ok.1.2).1
      have e1 := fun pos => pe_two (T := cf.T) (fun ta tb h1 h2 => pe_ix (pos := pos) ix_okr h1 h2 (slice_plain ok.2)) ix_ok ha hb
      have e2 := fun pos => pe_two (T := cf.T) (r := rDG) (fun ta tb h1 h2 => pe_dget (pos := pos) (hu_of h.room) h1 h2 (slice_plain ok.2)) (ixG_ok h.T) ha hb
      refine ⟨⟨fun pins s σ H Q I q => ?_⟩, fun z => by cases z⟩
      obtain ⟨O, wa, env, ω, ws, d, ws', st, hf, k⟩ := q
      simp only [ev] at hf
      split at hf
      · cases hf
      rename_i x ws1 e3
      split at hf
      · cases hf
      rename_i y ws2 e4
      split at hf
      · cases hf
      rename_i z e5
      cases hf
      have alt : ixS x y = some d ∨ ixG ws' x y = some d := by
        cases x <;> cases y <;> first | (left; exact e5) | (right; exact e5) | (cases e5)
      rcases alt with alt | alt
      · refine (e1 _).run pins s σ H Q I ⟨O, wa, env, ω, ws, d, ws', st, ?_, k⟩
        unfold two
        dsimp only
        rw [e3]
        dsimp only
        rw [e4]
        dsimp only
        rw [alt]
      · refine (e2 _).run pins s σ H Q I ⟨O, wa, env, ω, ws, d, ws', st, ?_, k⟩
        unfold two
        dsimp only
        rw [e3]
        dsimp only
        rw [e4]
        dsimp only
        rw [alt]
    · cases ok
  | .sl a lo hi, X, sc, e, h, ok => by
    simp only [okE] at ok
    split at ok
    · rename_i a' l h' p2 p
      rw [Bool.and_eq_true, Bool.and_eq_true] at ok
      have ha := borrow h ok.1.1 (readE a X sc _ h ok.1.1).1
      have pl : PO X l (tP cf.T X.K (isN lo) (ev (callO P n) lo)) := by
        have o2 := ok.1.2
        cases l with
        | none =>
          have el : lo = .non := by
            cases lo <;> first | rfl | (simp [isN] at o2)
          subst el
          have : ev (callO P n) .non = fun _ ws => some (.non, ws) := by funext env ws; simp only [ev]
          rw [this]
          exact po_n
        | some l' =>
          rw [Bool.and_eq_true, Bool.not_eq_true'] at o2
          rw [o2.1]
          exact po_s (readE lo X sc _ h o2.2).1
      have ph : PO X h' (tP cf.T X.K (isN hi) (ev (callO P n) hi)) := by
        have o2 := ok.2
        cases h' with
        | none =>
          have el : hi = .non := by
            cases hi <;> first | rfl | (simp [isN] at o2)
          subst el
          have : ev (callO P n) .non = fun _ ws => some (.non, ws) := by funext env ws; simp only [ev]
          rw [this]
          exact po_n
        | some l' =>
          rw [Bool.and_eq_true, Bool.not_eq_true'] at o2
          rw [o2.1]
          exact po_s (readE hi X sc _ h o2.2).1
      exact ⟨ev_eq (pe_slc ha pl ph) (by funext env ws; unfold sl3; simp only [ev]; try rfl), fun z => by cases z⟩
    · cases ok
  | .call f args, X, sc, e, h, ok => by
    simp only [okE] at ok
    split at ok
    · rename_i x p a as p2
      rw [Bool.and_eq_true, Bool.and_eq_true, Bool.and_eq_true] at ok
      obtain ⟨fA, fd, ps, F, hm, hk, hb⟩ := h.fns f x (by simpa using ok.1.1.1)
      have hl := (okEs_len (Φ := callO P n) ok.2).1
      rw [List.all_cons, Bool.and_eq_true] at hl
      exact ⟨ev_eq (pe_cl F h.room (h.gl ok.1.1.2) hm hk hb (readEs args X sc _ h ok.2) (plainN_ok ok.1.2).1 hl.1 hl.2) (by funext env ws; unfold callF; simp only [ev]; try rfl), fun z => by cases z⟩
    · cases ok
  | .b1 f a, X, sc, e, h, ok => by
    simp only [okE] at ok
    split at ok
    · by_cases hf : f = .sortedSet
      · subst hf
        rw [if_pos rfl] at ok
        split at ok
        · rw [Bool.and_eq_true, Bool.and_eq_true, Bool.and_eq_true, Bool.and_eq_true, Bool.and_eq_true, decide_eq_true_eq, decide_eq_true_eq] at ok
          have e1 := ok.1.1.1.1.1
          have e2 := ok.1.1.1.1.2
          subst e1
          subst e2
          have ha := borrow h ok.1.2 (readE a X sc _ h ok.1.2).1
          have q : ev (callO P n) (.b1 .sortedSet a) = un1 (fun env ws => bor (vi a) env ws (ev (callO P n) a env ws)) (bf1 .sortedSet) := by funext env ws; unfold un1; simp only [ev]; try rfl
          have := fun p p1 p2 pos => evF_eq (pe_ss (p := p) (p1 := p1) (p2 := p2) (pos := pos) h.calm rfl rfl (h.gl ok.1.1.1.2) (h.gl ok.1.1.2) (h.blt "sorted" (by decide +kernel)) (h.blt "set" (by decide +kernel)) ok.2 ha) q
          exact ⟨tF_tE (this _ _ _ _), fun _ => this _ _ _ _⟩
        · cases ok
      · rw [if_neg hf, Bool.and_eq_true, Bool.and_eq_true, Bool.and_eq_true, decide_eq_true_eq] at ok
        have ha := borrow h ok.1.2 (readE a X sc _ h ok.1.2).1
        have := fun pos p => b1_pe (pos := pos) (p := p) h hf ok.1.1.1 ok.1.1.2 ok.2 ha
        have q : ev (callO P n) (.b1 f a) = un1 (fun env ws => bor (vi a) env ws (ev (callO P n) a env ws)) (bf1 f) := by funext env ws; unfold un1; simp only [ev]; try rfl
        exact ⟨ev_eq (this _ _).1 q, fun z => evF_eq ((this _ _).2 z) q⟩
    · cases ok
  | .b2 f a b, X, sc, e, h, ok => by
    simp only [okE] at ok
    split at ok
    · rw [Bool.and_eq_true, Bool.and_eq_true, Bool.and_eq_true, Bool.and_eq_true, Bool.and_eq_true, decide_eq_true_eq] at ok
      have o1 := ok.1.1.1.1.1
      subst o1
      have ha := tE_tB (readE a X sc _ h ok.1.1.1.2).1
      have hb := tE_tB (readE b X sc _ h ok.1.1.2).1
      have q : ev (callO P n) (.b2 f a b) = two (ev (callO P n) a) (ev (callO P n) b) (fun _ x y => bf2 f x y) := by funext env ws; unfold two; simp only [ev]; try rfl
      cases f with
      | max => exact ⟨ev_eq (pe_two (ht_b2 (call_max2 h.calm) (h.gl ok.1.1.1.1.2) (h.blt "max" (by decide +kernel)) boot_max (by decide +kernel) (by decide +kernel) ok.1.2 ok.2) max_ok ha hb) q, fun z => by cases z⟩
      | min => exact ⟨ev_eq (pe_two (ht_b2 (call_min2 h.calm) (h.gl ok.1.1.1.1.2) (h.blt "min" (by decide +kernel)) boot_min (by decide +kernel) (by decide +kernel) ok.1.2 ok.2) min_ok ha hb) q, fun z => by cases z⟩
    · cases ok
  | .isi t a, X, sc, e, h, ok => by
    simp only [okE] at ok
    split at ok
    · rw [Bool.and_eq_true, Bool.and_eq_true, Bool.and_eq_true, Bool.and_eq_true, Bool.and_eq_true, decide_eq_true_eq, decide_eq_true_eq] at ok
      have ha := borrow h ok.1.2 (readE a X sc _ h ok.1.2).1
      refine ⟨ev_eq (isi_pe h ok.1.1.1.1.1 ok.1.1.1.1.2 ok.1.1.1.2 ok.1.1.2 ok.2 ha) ?_, fun z => by cases z⟩
      funext env ws
      unfold un1
      simp only [ev]
      cases bor (vi a) env ws (ev (callO P n) a env ws) with
      | none => rfl
      | some r =>
        obtain ⟨x, ws1⟩ := r
        dsimp only
        cases isiD t x <;> rfl
    · cases ok
  | .get2 d k x, X, sc, e, h, ok => by
    simp only [okE] at ok
    split at ok
    · rw [Bool.and_eq_true, Bool.and_eq_true, Bool.and_eq_true, Bool.and_eq_true, Bool.and_eq_true, Bool.and_eq_true, Bool.and_eq_true, decide_eq_true_eq] at ok
      have o1 := ok.1.1.1.1.1.1.1
      subst o1
      have hd := borrow h ok.1.1.1.1.1.1.2 (readE d X sc _ h ok.1.1.1.1.1.1.2).1
      exact ⟨ev_eq (pe_get h.T (hu_of h.room) hd (readE k X sc _ h ok.1.1.1.1.1.2).1 (readE x X sc _ h ok.1.1.1.1.2).1 ok.1.1.1.2 ok.1.1.2 ok.1.2 ok.2) (by funext env ws; unfold getF; simp only [ev]; try rfl), fun z => by cases z⟩
    · cases ok
  | .rng a, X, sc, e, h, ok => by simp [okE] at ok
  | .rng2 a b, X, sc, e, h, ok => by simp [okE] at ok
  | .comp tg it elt, X, sc, e, h, ok => by
    simp only [okE] at ok
    split at ok
    · rw [Bool.and_eq_true, Bool.and_eq_true, Bool.and_eq_true, Bool.and_eq_true] at ok
      have hi := fun tg => itB (tg := tg) h (readE it X sc _ h) (readI it X sc tg _ false h) ok.1.1.1.1
      have := fun pos => compV (pos := pos) h ok.1.1.1.2 (hi _) ok.1.1.2 ok.1.2 fun X' h' => (readE elt X' _ _ h' ok.2).1
      exact ⟨tF_tE (this _), fun _ => this _⟩
    · cases ok
  | .compIf tg it c elt, X, sc, e, h, ok => by
    simp only [okE] at ok
    split at ok
    · rw [Bool.and_eq_true, Bool.and_eq_true, Bool.and_eq_true, Bool.and_eq_true, Bool.and_eq_true] at ok
      have hi := fun tg => itB (tg := tg) h (readE it X sc _ h) (readI it X sc tg _ false h) ok.1.1.1.1.1
      have := fun pos => compIfV (pos := pos) h ok.1.1.1.1.2 (hi _) ok.1.1.1.2 ok.1.1.2 (fun X' h' => (readE elt X' _ _ h' ok.1.2).1) fun X' h' => (readT c X' _ _ h' ok.2).1
      exact ⟨tF_tE (this _), fun _ => this _⟩
    · cases ok
  | .comp2 tg it tg2 it2 elt, X, sc, e, h, ok => by
    simp only [okE] at ok
    split at ok
    · rw [Bool.and_eq_true, Bool.and_eq_true, Bool.and_eq_true, Bool.and_eq_true, Bool.and_eq_true, Bool.and_eq_true, Bool.and_eq_true] at ok
      rename_i elt' tg' it' tg2' it2' scope p
      obtain ⟨⟨⟨⟨⟨⟨⟨o1, o2⟩, o3⟩, o4⟩, o5⟩, o6⟩, o7⟩, o8⟩ := ok
      have hi := fun tg => itB (tg := tg) h (readE it X sc _ h) (readI it X sc tg _ false h) o1
      have := fun pos => comp2V (pos := pos) (it2 := it2) (Φ := callO P n) h o2 o4 (hi _) (fun X' h' => by
        rw [Bool.or_eq_true] at o3
        rcases o3 with o3 | o3
        · have := readI it2 X' _ tg2' _ true h' o3
          unfold itF at this
          rw [itV o3] at this
          exact this
        · exact pi_v (fz := true) (readE it2 X' _ _ h' o3).1) o5 o6 o7 (fun X' h' => (readE elt X' _ _ h' o8).1) (fun X' h' => pts_n0)
      exact ⟨tF_tE (this _), fun _ => this _⟩
    · cases ok
  | .comp2If tg it tg2 it2 c elt, X, sc, e, h, ok => by
    simp only [okE] at ok
    split at ok
    · rw [Bool.and_eq_true, Bool.and_eq_true, Bool.and_eq_true, Bool.and_eq_true, Bool.and_eq_true, Bool.and_eq_true, Bool.and_eq_true, Bool.and_eq_true] at ok
      rename_i elt' tg' it' tg2' it2' c' scope p
      obtain ⟨⟨⟨⟨⟨⟨⟨⟨o1, o2⟩, o3⟩, o4⟩, o5⟩, o6⟩, o7⟩, o8⟩, o9⟩ := ok
      have hi := fun tg => itB (tg := tg) h (readE it X sc _ h) (readI it X sc tg _ false h) o1
      have := fun pos => comp2IfV (pos := pos) (it2 := it2) (Φ := callO P n) h o2 o4 (hi _) (fun X' h' => by
        rw [Bool.or_eq_true] at o3
        rcases o3 with o3 | o3
        · have := readI it2 X' _ tg2' _ true h' o3
          unfold itF at this
          rw [itV o3] at this
          exact this
        · exact pi_v (fz := true) (readE it2 X' _ _ h' o3).1) o5 o6 o7 (fun X' h' => (readE elt X' _ _ h' o8).1) (fun X' h' => pts_one (readT c X' _ _ h' o9).1)
      exact ⟨tF_tE (this _), fun _ => this _⟩
    · cases ok
  | .tupR a, X, sc, e, h, ok => by
    simp only [okE] at ok
    split at ok
    · rw [Bool.and_eq_true, Bool.and_eq_true, Bool.and_eq_true, Bool.and_eq_true, Bool.and_eq_true, decide_eq_true_eq, decide_eq_true_eq] at ok
      obtain ⟨⟨⟨⟨⟨o1, o2⟩, o3⟩, o4⟩, o5⟩, o6⟩ := ok
      subst o1
      subst o2
      refine ⟨ev_eq (pe_tr h.calm (h.gl o3) (h.blt "tuple" (by decide +kernel)) (h.gl o4) (h.blt "range" (by decide +kernel)) (readE a X sc _ h o5).1 o6) ?_, fun z => by cases z⟩
      funext env ws
      unfold tupRF
      simp only [ev]
      try rfl
    · cases ok
theorem readI : ∀ (it : Ex) (X : Cx) (sc : Scope) (tg e : Expr) (fz : Bool), XOk cf P n X sc → okIt cf it sc e = true → PI X tg e (tI cf.T X.K fz (itF (callO P n) it))
  | .rng a, X, sc, tg, e, fz, h, ok => by
    simp only [okIt] at ok
    split at ok
    · rw [Bool.and_eq_true, Bool.and_eq_true, Bool.and_eq_true, decide_eq_true_eq] at ok
      have o1 := ok.1.1.1
      subst o1
      rw [itF_rng]
      exact pi_r1 (h.gl ok.1.1.2) (h.blt "range" (by decide +kernel)) (readE a X sc _ h ok.1.2).1 ok.2
    · cases ok
  | .rng2 a b, X, sc, tg, e, fz, h, ok => by
    simp only [okIt] at ok
    split at ok
    · rw [Bool.and_eq_true, Bool.and_eq_true, Bool.and_eq_true, Bool.and_eq_true, Bool.and_eq_true, decide_eq_true_eq] at ok
      have o1 := ok.1.1.1.1.1
      subst o1
      rw [itF_rng2]
      exact pi_r2 (h.gl ok.1.1.1.1.2) (h.blt "range" (by decide +kernel)) (readE a X sc _ h ok.1.1.1.2).1 (readE b X sc _ h ok.1.1.2).1 ok.1.2 ok.2
    · cases ok
  | .bad, _, _, _, _, _, _, ok | .non, _, _, _, _, _, _, ok | .tt _, _, _, _, _, _, _, ok | .num _, _, _, _, _, _, _, ok | .txt _, _, _, _, _, _, _, ok | .var _, _, _, _, _, _, _, ok | .con _ _, _, _, _, _, _, _, ok
  | .bin _ _ _, _, _, _, _, _, _, ok | .neg _, _, _, _, _, _, _, ok | .cmp _ _ _, _, _, _, _, _, _, ok | .chain _ _ _ _ _, _, _, _, _, _, _, ok | .andv _ _, _, _, _, _, _, _, ok | .orv _ _, _, _, _, _, _, _, ok | .one _, _, _, _, _, _, _, ok | .notv _, _, _, _, _, _, _, ok
  | .ite _ _ _, _, _, _, _, _, _, ok | .tup _, _, _, _, _, _, _, ok | .lst _, _, _, _, _, _, _, ok | .dic _ _, _, _, _, _, _, _, ok | .ix _ _, _, _, _, _, _, _, ok | .sl _ _ _, _, _, _, _, _, _, ok | .call _ _, _, _, _, _, _, _, ok
  | .b1 _ _, _, _, _, _, _, _, ok | .b2 _ _ _, _, _, _, _, _, _, ok | .isi _ _, _, _, _, _, _, _, ok | .get2 _ _ _, _, _, _, _, _, _, ok | .comp _ _ _, _, _, _, _, _, _, ok | .compIf _ _ _ _, _, _, _, _, _, _, ok | .comp2 _ _ _ _ _, _, _, _, _, _, _, ok | .comp2If _ _ _ _ _ _, _, _, _, _, _, _, ok | .tupR _, _, _, _, _, _, _, ok => by simp [okIt] at ok
theorem readEs : ∀ (a : Exs) (X : Cx) (sc : Scope) (e : List Expr), XOk cf P n X sc → okEs cf a sc e = true → PA X e (tA cf.T X.K (evs (callO P n) a))
  | .nil, X, sc, e, h, ok => by
    simp only [okEs] at ok
    split at ok
    · exact PA.mono pa_n (by
        have : evs (callO P n) .nil = fun _ ws => some ([], ws) := by funext env ws; simp only [evs]
        rw [this]; exact fun _ _ _ q => q)
    · cases ok
  | .cons a r, X, sc, e, h, ok => by
    simp only [okEs] at ok
    split at ok
    · rw [Bool.and_eq_true, Bool.and_eq_true] at ok
      exact PA.mono (pa_c (readE a X sc _ h ok.1.1).1 (readEs r X sc _ h ok.2) ok.1.2) (by
        have : evs (callO P n) (.cons a r) = consA (ev (callO P n) a) (evs (callO P n) r) := by funext env ws; unfold consA; simp only [evs]; try rfl
        rw [this]; exact fun _ _ _ q => q)
    · cases ok
theorem readT : ∀ (a : Tx) (X : Cx) (sc : Scope) (e : Expr), XOk cf P n X sc → okT cf a sc e = true → PT X e (tT cf.T X.K (evT (callO P n) a)) ∧ (isB2 a = true → PW X e (tT cf.T X.K (evT (callO P n) a)))
  | .val a, X, sc, e, h, ok => by
    simp only [okT, Bool.and_eq_true] at ok
    exact ⟨evT_eq (pt_v (readE a X sc _ h ok.1).1 ok.2) (by funext env ws; unfold valT; simp only [evT]; try rfl), fun z => by cases z⟩
  | .cmp o a b, X, sc, e, h, ok => by
    simp only [okT] at ok
    split at ok
    · rw [Bool.and_eq_true, Bool.and_eq_true, decide_eq_true_eq] at ok
      have ha := borrow h ok.1.2 (readE a X sc _ h ok.1.2).1
      exact ⟨(cmpV h ok.1.1 ha ok.2 fun q => (readE b X sc _ h q).1).2, fun z => by cases z⟩
    · cases ok
  | .chain o p a b c, X, sc, e, h, ok => by
    simp only [okT] at ok
    split at ok
    · rw [Bool.and_eq_true, Bool.and_eq_true, Bool.and_eq_true, Bool.and_eq_true, Bool.and_eq_true, decide_eq_true_eq, decide_eq_true_eq] at ok
      have o1 := ok.1.1.1.1.1
      have o2 := ok.1.1.1.1.2
      subst o1
      subst o2
      exact ⟨evT_eq (chV h (borrow h ok.1.1.1.2 (readE a X sc _ h ok.1.1.1.2).1) (borrow h ok.1.1.2 (readE b X sc _ h ok.1.1.2).1) (borrow h ok.1.2 (readE c X sc _ h ok.1.2).1) ok.2).2 (by funext env ws; unfold chT; simp only [evT]; try rfl), fun z => by cases z⟩
    · cases ok
  | .not a, X, sc, e, h, ok => by
    simp only [okT] at ok
    split at ok
    · exact ⟨evT_eq (pt_n (readT a X sc _ h ok).1) (by funext env ws; unfold notT; simp only [evT]; try rfl), fun z => by cases z⟩
    · cases ok
  | .and2 a r, X, sc, e, h, ok => by
    simp only [okT] at ok
    split at ok
    · rw [Bool.and_eq_true, Bool.and_eq_true] at ok
      have q : evT (callO P n) (.and2 a r) = andT (evT (callO P n) a) (evT (callO P n) r) := by funext env ws; unfold andT; simp only [evT]; try rfl
      have := pw_a (readT a X sc _ h ok.1.1).1 ((readT r X sc _ h ok.1.2).2 ok.2)
      rw [← q] at this
      exact ⟨this.pt, fun _ => this⟩
    · cases ok
  | .or2 a r, X, sc, e, h, ok => by
    simp only [okT] at ok
    split at ok
    · rw [Bool.and_eq_true, Bool.and_eq_true] at ok
      have q : evT (callO P n) (.or2 a r) = orT (evT (callO P n) a) (evT (callO P n) r) := by funext env ws; unfold orT; simp only [evT]; try rfl
      have := pw_o (readT a X sc _ h ok.1.1).1 ((readT r X sc _ h ok.1.2).2 ok.2)
      rw [← q] at this
      exact ⟨this.pt, fun _ => this⟩
    · cases ok
  | .one a, X, sc, e, h, ok => by
    simp only [okT] at ok
    split at ok
    · rename_i op x p
      have q : evT (callO P n) (.one a) = evT (callO P n) a := by funext env ws; simp only [evT]
      have ha := (readT a X sc _ h ok).1
      rw [← q] at ha
      cases op with
      | And => exact ⟨(pw_a1 ha).pt, fun _ => pw_a1 ha⟩
      | Or => exact ⟨(pw_o1 ha).pt, fun _ => pw_o1 ha⟩
    · cases ok
  | .ite _ _ _, X, sc, e, h, ok => by simp [okT] at ok
end
end
end Pv

set_option Elab.async false
set_option linter.all false
set_option maxRecDepth 100000
set_option maxHeartbeats 8000000
/-! Pv18: when an St is what a text's statement says. -/
namespace Pv
open PySem PySem.Spec PyProof.Rows L2

def noComp : Expr → Bool
  | .ListComp .. => false
  | .SetComp .. => false
  | .DictComp .. => false
  | _ => true
def noTup : Expr → Bool
  | .Tuple .. => false
  | _ => true
def isNm : Expr → Bool
  | .Name .. => true
  | _ => false
def isTp : Expr → Bool
  | .Tuple .. => true
  | _ => false
def isCmp : Ex → Bool
  | .comp .. => true
  | .compIf .. => true
  | _ => false
theorem sw_no {e : Expr} (h : noComp e = true) (t : Option Expr) (l : Nat) (env : PySem.Env) : swapsWith e t l env = pure false := by
  cases e <;> first | rfl | (simp [noComp] at h)
theorem sw_tp {tg e : Expr} (h : isTp tg = true) (l : Nat) (env : PySem.Env) : swapsWith e (some tg) l env = pure false := by
  cases tg <;> first | (simp [isTp] at h; done) | skip
  cases e <;> rfl
theorem ss_nm {tg e : Expr} (h : (isNm tg || noTup e) = true) (env : PySem.Env) : swappedStores [tg] e env = pure none := by
  cases tg <;> first | rfl | skip
  all_goals (cases e <;> first | rfl | (simp [isNm, noTup] at h))
/-- the comprehension's names do not hide the target's -/
def swT (sc : Scope) (x : Str) (px : Pos) : Expr → Bool
  | .ListComp _ _ scope p => isLo sc x && (px.line == p.line) && !(scope.names.any fun (n, k) => n == x && (k == .local || k == .cell))
  | _ => false
/-- .. or the name is a cell: no swap -/
def swC (sc : Scope) (x : Str) : Expr → Bool
  | .ListComp _ _ _ _ => decide (sc.names.lookup x = some .cell)
  | _ => false
theorem sw_cell {env : PySem.Env} {x : Str} {px : Pos} {v : Expr} (h : swC env.scope x v = true) (l : Nat) : swapsWith v (some (.Name x px)) l env = pure false := by
  unfold swC at h
  split at h
  · rw [decide_eq_true_eq] at h
    unfold swapsWith
    simp only [PySem.Env.kindOf, h]
    show pure (env.blockKind == .function && (some NameKind.cell == some NameKind.local) && _ && _) = pure false
    rw [show ((some NameKind.cell : Option NameKind) == some NameKind.local) = false from rfl, Bool.and_false, Bool.false_and, Bool.false_and]
  · cases h
/-- several stores in turn: how the machine orders them -/
def nmsOf (sc : Scope) (line : Nat) (ts : List Expr) : List Str := ts.filterMap fun
  | .Name id pos => if sc.names.lookup id == some .local && pos.line == line then some id else none
  | _ => none
def hdLine (ts : List Expr) : Nat := (ts.head?.map (·.pos.line)).getD 0
def anyStar (vs : List Expr) : Bool := vs.any fun | .Starred .. => true | _ => false
def swNo (sc : Scope) (ts vs : List Expr) : Bool :=
  (!(ts.length == 2 || ts.length == 3) || vs.length != ts.length) || (!anyStar vs && (((nmsOf sc (hdLine ts) ts).length != ts.length || (nmsOf sc (hdLine ts) ts).eraseDups.length != (nmsOf sc (hdLine ts) ts).length) || vs.all (foldedForSure 8)))
theorem sws_eq {env : PySem.Env} {ts vs : List Expr} {k k2 : Nat} {p p2 : Pos} (hk : env.scope.kind = .function) : swappedStores [.Tuple ts k p] (.Tuple vs k2 p2) env =
    (if !(ts.length == 2 || ts.length == 3) || vs.length != ts.length then pure none else if anyStar vs then pure none else
      if (nmsOf env.scope (hdLine ts) ts).length != ts.length || (nmsOf env.scope (hdLine ts) ts).eraseDups.length != (nmsOf env.scope (hdLine ts) ts).length then pure none else
      if vs.all (foldedForSure 8) then pure none else if vs.all (constantsAlone 8) then unsupported "assign.tuple-of-constant-expressions:order-of-the-stores" else pure (some (nmsOf env.scope (hdLine ts) ts))) := by
  have hb : env.blockKind = .function := by unfold PySem.Env.blockKind; rw [hk]; rfl
  have hb2 : (env.blockKind != .function) = false := by rw [hb]; rfl
  unfold swappedStores
  simp only [hb2, Bool.or_false]
  rfl
theorem sws_no {env : PySem.Env} {ts vs : List Expr} {k k2 : Nat} {p p2 : Pos} (hk : env.scope.kind = .function) (h : swNo env.scope ts vs = true) : swappedStores [.Tuple ts k p] (.Tuple vs k2 p2) env = pure none := by
  rw [sws_eq hk]
  unfold swNo at h
  generalize (!(ts.length == 2 || ts.length == 3) || vs.length != ts.length) = c1 at h ⊢
  generalize ((nmsOf env.scope (hdLine ts) ts).length != ts.length || (nmsOf env.scope (hdLine ts) ts).eraseDups.length != (nmsOf env.scope (hdLine ts) ts).length) = c3 at h ⊢
  generalize vs.all (foldedForSure 8) = c4 at h ⊢
  generalize anyStar vs = c2 at h ⊢
  cases c1 <;> cases c2 <;> cases c3 <;> cases c4 <;> first | rfl | (cases h)
def swYes (sc : Scope) (ts vs : List Expr) (xs : List Str) : Bool :=
  !(!(ts.length == 2 || ts.length == 3) || vs.length != ts.length) && !anyStar vs && !((nmsOf sc (hdLine ts) ts).length != ts.length || (nmsOf sc (hdLine ts) ts).eraseDups.length != (nmsOf sc (hdLine ts) ts).length) && !vs.all (foldedForSure 8) && !vs.all (constantsAlone 8) &&
    decide (nmsOf sc (hdLine ts) ts = xs)
theorem sws_yes {env : PySem.Env} {ts vs : List Expr} {k k2 : Nat} {p p2 : Pos} {xs : List Str} (hk : env.scope.kind = .function) (h : swYes env.scope ts vs xs = true) : swappedStores [.Tuple ts k p] (.Tuple vs k2 p2) env = pure (some xs) := by
  rw [sws_eq hk]
  unfold swYes at h
  simp only [Bool.and_eq_true, Bool.not_eq_true', decide_eq_true_eq] at h
  obtain ⟨⟨⟨⟨⟨h1, h2⟩, h3⟩, h4⟩, h5⟩, h6⟩ := h
  rw [h1, h2, h3, h4, h5, h6]
  rfl
/-- the parts of a tuple that are made anew -/
def frOk : List (Nat × Bool) → Exs → Bool
  | [], .nil => true
  | (_, o) :: r, .cons e es => (!o || fresh e) && frOk r es
  | _, _ => false
def parC (sc : Scope) (is : List (Nat × Bool)) (ts vs : List Expr) : Bool := match is, ts, vs with
  | [a, b], [.Name x _, .Name y _], [_, _] => isLo sc x && isLo sc y && decide (a.1 ≠ b.1) && swYes sc ts vs [x, y]
  | [a, b, c], [.Name x _, .Name y _, .Name z _], [_, _, _] => isLo sc x && isLo sc y && isLo sc z && decide (a.1 ≠ b.1) && decide (a.1 ≠ c.1) && decide (b.1 ≠ c.1) && swYes sc ts vs [x, y, z]
  | _, _, _ => false
mutual
def okS (cf : Cf) : St → Scope → Stmt → Bool
  | .bad, _, _ => true
  | .pass, _, s => match s with
    | .Pass _ => true
    | _ => false
  | .set tg e, sc, s => match s with
    | .Assign [t] v _ => okTg cf.N (isLoc sc) tg t && okE cf e sc v && noComp v && (isNm t || noTup v)
    | _ => false
  | .own i e, sc, s => match s with
    | .Assign [.Name x px] v _ => decide (cf.N[i]? = some x) && isLoc sc x && okE cf e sc v && fresh e && (noComp v || swC sc x v || (isCmp e && swT sc x px v))
    | _ => false
  | .par is es, sc, s => match s with
    | .Assign [.Tuple ts _ _] (.Tuple vs _ _) _ => okNms cf.N (isLoc sc) (is.map (·.1)) ts && okEs cf es sc vs && frOk is es && okLen is.length &&
      (swNo sc ts vs || parC sc is ts vs)
    | _ => false
  | .aug i o e, sc, s => match s with
    | .AugAssign (.Name x _) op v _ => decide (cf.N[i]? = some x) && isLoc sc x && decide (bopO o = op) && okE cf e sc v
    | _ => false
  | .dput i k e, sc, s => match s with
    | .Assign [.Subscript (.Name x _) a _] v _ => decide (cf.N[i]? = some x) && isVis sc x && plainN x && okE cf k sc a && okE cf e sc v
    | _ => false
  | .waug i k o e, sc, s => match s with
    | .AugAssign (.Subscript (.Name x _) (.Constant (.str t) _ _) _) op v _ => decide (cf.N[i]? = some x) && isVis sc x && plainN x && decide (cf.T k = t) && decide (bopO o = op) && okE cf e sc v
    | _ => false
  | .mkw i k l a b, sc, s => match s with
    | .Assign [.Name x _] (.Dict [some (.Constant (.str t) _ _), some (.Constant (.str u) _ _)] [a', b'] _) _ => decide (cf.N[i]? = some x) && isLoc sc x && decide (cf.T k = t) && decide (cf.T l = u) && okE cf a sc a' && okE cf b sc b'
    | _ => false
  | .app i e, sc, s => match s with
    | .Expr (.Call (.Attribute (.Name x _) m ap) [v] [] cp) _ => decide (m = "append") && decide (cf.N[i]? = some x) && isVis sc x && plainN x && okE cf e sc v && noStar v && (ap.endLine == cp.line)
    | _ => false
  | .ext i e, sc, s => match s with
    | .Expr (.Call (.Attribute (.Name x _) m ap) [v] [] cp) _ => decide (m = "extend") && decide (cf.N[i]? = some x) && isVis sc x && plainN x && okE cf e sc v && noStar v && (ap.endLine == cp.line)
    | _ => false
  | .pop tg i, sc, s => match s with
    | .Assign [t] (.Call (.Attribute (.Name x _) m ap) [] [] cp) _ => okTg cf.N (isLoc sc) tg t && decide (m = "pop") && decide (cf.N[i]? = some x) && isVis sc x && plainN x && (ap.endLine == cp.line)
    | _ => false
  | .drop e, sc, s => match s with
    | .Expr v _ => okE cf e sc v && noComp v
    | _ => false
  | .ite c a b, sc, s => match s with
    | .If c' a' b' _ => okT cf c sc c' && okSs cf a sc a' && okSs cf b sc b'
    | _ => false
  | .whl c b, sc, s => match s with
    | .While c' b' [] _ => okT cf c sc c' && okSs cf b sc b'
    | _ => false
  | .for_ tg it b, sc, s => match s with
    | .For t it' b' [] _ => okTg cf.N (isLoc sc) tg t && (okIt cf it sc it' || okE cf it sc it') && noSet it' && okSs cf b sc b'
    | _ => false
  | .ret e, sc, s => match s with
    | .Return (some v) _ => okE cf e sc v
    | _ => false
  | .retN, _, s => match s with
    | .Return none _ => true
    | _ => false
  | .brk, _, s => match s with
    | .Break _ => true
    | _ => false
  | .cont, _, s => match s with
    | .Continue _ => true
    | _ => false
  | .frz _, _, _ => false
def okSs (cf : Cf) : Sts → Scope → List Stmt → Bool
  | .nil, _, ss => match ss with
    | [] => true
    | _ => false
  | .cons s r, sc, ss => match s with
    | .frz _ => okSs cf r sc ss
    | _ => match ss with
      | s' :: r' => okS cf s sc s' && okSs cf r sc r'
      | [] => false
end
end Pv

set_option Elab.async false
set_option linter.all false
set_option maxRecDepth 100000
set_option maxHeartbeats 8000000
/-! Pv19: every statement that matches is walked. -/
namespace Pv
open PySem PySem.Spec PyProof.Rows L2
structure BOk (cf : Cf) (P : Nat → Option Def) (n : Nat) (X : Cx) (sc : Scope) : Prop where
  ok : XOk cf P n X sc
  fn : ∀ x, X.fn x = true
  kind : sc.kind = .function
  own : PassesOwn (model X.prog X.w) X.A X.env X.xe
theorem ps_cm {T : Nat → Str} {X : Cx} {elt tge iter : Expr} {ifs : List Expr} {scope : Scope} {own : List (Str × Nat)} {i : Nat} {y : Str} {py pos spos : Pos} {fi fe : EvF} {ft : EvTF} {tg : Tg} (hc : X.calm = true) (hN : X.N.Nodup) (hy : X.N[i]? = some y) (hyl : X.env.scope.names.lookup y = some .local)
    (hsw : swapsWith (.ListComp elt [⟨tge, iter, ifs, 0⟩] scope pos) (some (.Name y py)) spos.line X.env = pure true) (hi : PI X tge iter (tI T X.K false fi)) (ok : BlkOk X.N X.env.scope scope own) (hown : own.map (·.2) = tgs tg)
    (hg : ∀ (s : Shared) (H : Hp) (C : Addr) (cl : List (Str × Addr)) (fp : List Addr), PG (X.blk s H scope (compEnvC scope cl C X.env) fp) tge (gT X.K tg))
    (ht : ∀ (s : Shared) (H : Hp) (C : Addr) (cl : List (Str × Addr)) (fp : List Addr), PTs (X.blk s H scope (compEnvC scope cl C X.env) fp) ifs (tT T X.K ft))
    (he : ∀ (s : Shared) (H : Hp) (C : Addr) (cl : List (Str × Addr)) (fp : List Addr), PE (X.blk s H scope (compEnvC scope cl C X.env) fp) elt (tE T X.K fe)) (hs : ∀ x, foldedSetIterable iter X.env x = pure x) :
    PS X (.Assign [.Name y py] (.ListComp elt [⟨tge, iter, ifs, 0⟩] scope pos) spos) (tAsg (tF T X.K (compF fi ft fe tg)) (gName i)) := by
  have := ps_setLc hc hN hy hyl hsw hi ok hg ht he hs
  rw [hown] at this
  exact PS.mono this fun D σ H q => lc_read σ H _ q
section
variable {cf : Cf} {P : Nat → Option Def} {n : Nat} {X : Cx} {sc : Scope}
theorem BOk.loc (h : BOk cf P n X sc) {x : Str} (q : isLoc sc x = true) : Loc X.env.scope x ∧ (X.fn x = true ∨ X.env.scope.names.lookup x = some .local) := by
  rw [h.ok.env]; exact ⟨isLoc_ok q, .inl (h.fn x)⟩
theorem BOk.lo (h : BOk cf P n X sc) {x : Str} (q : isLo sc x = true) : X.env.scope.names.lookup x = some .local := by
  rw [h.ok.env]; exact isLo_ok q
theorem BOk.at (h : BOk cf P n X sc) {i : Nat} {x : Str} (q : cf.N[i]? = some x) : X.N[i]? = some x := by rw [h.ok.N]; exact q
theorem BOk.kd (h : BOk cf P n X sc) : X.env.scope.kind = .function := by rw [h.ok.env]; exact h.kind
theorem BOk.tg (h : BOk cf P n X sc) {tg : Tg} {t : Expr} (q : okTg cf.N (isLoc sc) tg t = true) : PG X t (gT X.K tg) := okTg_ok h.ok.N h.ok.nd h.ok.calm (fun x hx => h.loc hx) q
theorem es_one {N : List Str} {p : Str → Bool} {tg : Tg} {t : Expr} {env : PySem.Env} (h : okTg N p tg t = true) : (assignEach [t] env).map (·.2) = [assign t env] := by
  unfold okTg at h
  split at h
  · unfold okNm at h
    split at h
    · rfl
    · cases h
  · rfl
  · rfl
  · cases h
def lOf (Φ : Fns) : List (Nat × Bool) → Exs → List (Bool × EvF)
  | (_, o) :: r, .cons e es => (o, ev Φ e) :: lOf Φ r es
  | _, _ => []
theorem lOf_ok (h : BOk cf P n X sc) : ∀ {is : List (Nat × Bool)} {es : Exs} {vs : List Expr}, frOk is es = true → okEs cf es sc vs = true →
    (lOf (callO P n) is es).map (·.1) = is.map (·.2) ∧ PA X vs (tL cf.T X.K (lOf (callO P n) is es)) ∧ evL (lOf (callO P n) is es) = evs (callO P n) es ∧ vs.length = is.length
  | [], .nil, vs, _, ok => by
    simp only [okEs] at ok
    split at ok
    · exact ⟨rfl, pa_l0, by funext env ws; simp only [lOf, evL, evs], rfl⟩
    · cases ok
  | (i, o) :: r, .cons e es, vs, f, ok => by
    simp only [okEs] at ok
    split at ok
    · rename_i e' r'
      rw [Bool.and_eq_true, Bool.and_eq_true] at ok
      simp only [frOk, Bool.and_eq_true] at f
      obtain ⟨g1, g2, g3, g4⟩ := lOf_ok h f.2 ok.2
      obtain ⟨k1, k2⟩ := readE e X sc _ h.ok ok.1.1
      refine ⟨by simp only [lOf, List.map_cons, g1], ?_, ?_, by rw [List.length_cons, List.length_cons, g4]⟩
      · cases o with
        | false => exact pa_lE k1 g2 ok.1.2
        | true => exact pa_lF (k2 (by simpa using f.1)) g2 ok.1.2
      · funext env ws
        simp only [lOf, evL, evs, g3]
        try rfl
    · cases ok
  | [], .cons _ _, _, f, _ => by simp [frOk] at f
  | _ :: _, .nil, _, f, _ => by simp [frOk] at f
theorem sf_eq {st : Stmt} {T : Nat → Str} {f g : SF} (h : PS X st (tS T X.K f)) (q : g = f) : PS X st (tS T X.K g) := by rw [q]; exact h
theorem sfs_eq {st : List Stmt} {T : Nat → Str} {f g : SF} (h : PSs X st (tS T X.K f)) (q : g = f) : PSs X st (tS T X.K g) := by rw [q]; exact h
/-- name = .., the name's own from then on -/
theorem ownS (h : BOk cf P n X sc) {i : Nat} {e : Ex} {x : Str} {px pos : Pos} {v : Expr} (hi : cf.N[i]? = some x) (hl : isLoc sc x = true) (ok : okE cf e sc v = true) (fr : fresh e = true) (hs : (noComp v = true ∨ swC sc x v = true) ∨ (isCmp e = true ∧ swT sc x px v = true)) :
    PS X (.Assign [.Name x px] v pos) (tAsg (tF cf.T X.K (ev (callO P n) e)) (gName i)) := by
  rcases hs with (hs | hs) | ⟨hc, hs⟩
  · exact ps_set h.ok.nd (h.at hi) (h.loc hl).1 ((readE e X sc _ h.ok ok).2 fr) (sw_no hs _ _ _) (h.loc hl).2
  · exact ps_set h.ok.nd (h.at hi) (h.loc hl).1 ((readE e X sc _ h.ok ok).2 fr) (sw_cell (by rw [h.ok.env]; exact hs) _) (h.loc hl).2
  · unfold swT at hs
    split at hs
    · rename_i elt' gs scope p
      rw [Bool.and_eq_true, Bool.and_eq_true, Bool.not_eq_true'] at hs
      have hsw : ∀ l, swapsWith (.ListComp elt' gs scope p) (some (.Name x px)) l X.env = pure true := fun l => sw_true h.kd (h.lo hs.1.1) hs.1.2 hs.2
      cases e <;> first | (simp [isCmp] at hc; done) | skip
      · rename_i tg it elt
        simp only [okE] at ok
        split at ok
        · rename_i e0
          cases e0
          rw [Bool.and_eq_true, Bool.and_eq_true, Bool.and_eq_true, Bool.and_eq_true] at ok
          have hi2 := fun tg => itB (tg := tg) h.ok (readE it X sc _ h.ok) (readI it X sc tg _ false h.ok) ok.1.1.1.1
          have := ps_cm (T := cf.T) (pos := p) (spos := pos) (fe := ev (callO P n) elt) (ft := fun _ ws => some (true, ws)) h.ok.calm h.ok.nd (h.at hi) (h.lo hs.1.1) (hsw _) (hi2 _) (relOk (tg := tg) h.ok ok.1.1.2) (own_tgs cf.N tg) (blkTg h.ok ok.1.2) (fun _ _ _ _ _ => pts_n)
            (fun s H C cl fp => (readE elt _ _ _ (h.ok.blk s H _ C cl fp) ok.2).1) (fold_plain ok.1.1.1.2 _)
          refine PS.mono this ?_
          have q : ev (callO P n) (.comp tg it elt) = compF (itF (callO P n) it) (fun _ ws => some (true, ws)) (ev (callO P n) elt) tg := by
            funext env ws
            unfold compF itF
            simp only [ev]
            try rfl
          rw [q]; exact fun _ _ _ q => q
        · cases ok
      · rename_i tg it c elt
        simp only [okE] at ok
        split at ok
        · rename_i e0
          cases e0
          rw [Bool.and_eq_true, Bool.and_eq_true, Bool.and_eq_true, Bool.and_eq_true, Bool.and_eq_true] at ok
          have hi2 := fun tg => itB (tg := tg) h.ok (readE it X sc _ h.ok) (readI it X sc tg _ false h.ok) ok.1.1.1.1.1
          have := ps_cm (T := cf.T) (pos := p) (spos := pos) (fe := ev (callO P n) elt) (ft := evT (callO P n) c) h.ok.calm h.ok.nd (h.at hi) (h.lo hs.1.1) (hsw _) (hi2 _) (relOk (tg := tg) h.ok ok.1.1.1.2) (own_tgs cf.N tg) (blkTg h.ok ok.1.1.2) (fun s H C cl fp => pts_one (readT c _ _ _ (h.ok.blk s H _ C cl fp) ok.2).1)
            (fun s H C cl fp => (readE elt _ _ _ (h.ok.blk s H _ C cl fp) ok.1.2).1) (fold_plain ok.1.1.1.1.2 _)
          refine PS.mono this ?_
          have q : ev (callO P n) (.compIf tg it c elt) = compF (itF (callO P n) it) (evT (callO P n) c) (ev (callO P n) elt) tg := by
            funext env ws
            unfold compF itF
            simp only [ev]
            try rfl
          rw [q]; exact fun _ _ _ q => q
        · cases ok
    · cases hs
theorem sole {tg e : Expr} {l : Nat} {env : PySem.Env} (h : swapsWith e (some tg) l env = pure false) : swapsWithSole [tg] e l env = pure false := h
theorem sole_tp {ts : List Expr} {k : Nat} {p : Pos} {e : Expr} {l : Nat} {env : PySem.Env} : swapsWithSole [.Tuple ts k p] e l env = pure false := sole (sw_tp (tg := .Tuple ts k p) rfl l env)
theorem parC_ok {is : List (Nat × Bool)} {ts vs : List Expr} (h : parC sc is ts vs = true) :
    (∃ a b x px y py v1 v2, is = [a, b] ∧ ts = [.Name x px, .Name y py] ∧ vs = [v1, v2] ∧ isLo sc x = true ∧ isLo sc y = true ∧ a.1 ≠ b.1 ∧ swYes sc ts vs [x, y] = true) ∨
    (∃ a b c x px y py z pz v1 v2 v3, is = [a, b, c] ∧ ts = [.Name x px, .Name y py, .Name z pz] ∧ vs = [v1, v2, v3] ∧ isLo sc x = true ∧ isLo sc y = true ∧ isLo sc z = true ∧ a.1 ≠ b.1 ∧ a.1 ≠ c.1 ∧ b.1 ≠ c.1 ∧ swYes sc ts vs [x, y, z] = true) := by
  unfold parC at h
  split at h
  · rw [Bool.and_eq_true, Bool.and_eq_true, Bool.and_eq_true, decide_eq_true_eq] at h
    exact .inl ⟨_, _, _, _, _, _, _, _, rfl, rfl, rfl, h.1.1.1, h.1.1.2, h.1.2, h.2⟩
  · rw [Bool.and_eq_true, Bool.and_eq_true, Bool.and_eq_true, Bool.and_eq_true, Bool.and_eq_true, Bool.and_eq_true, decide_eq_true_eq, decide_eq_true_eq, decide_eq_true_eq] at h
    exact .inr ⟨_, _, _, _, _, _, _, _, _, _, _, _, rfl, rfl, rfl, h.1.1.1.1.1.1, h.1.1.1.1.1.2, h.1.1.1.1.2, h.1.1.1.2, h.1.1.2, h.1.2, h.2⟩
  · cases h
theorem parS (h : BOk cf P n X sc) {is : List (Nat × Bool)} {es : Exs} {ts vs : List Expr} {k k2 : Nat} {p p2 pos : Pos} (o1 : okNms cf.N (isLoc sc) (is.map (·.1)) ts = true) (o2 : okEs cf es sc vs = true) (o3 : frOk is es = true) (o4 : okLen is.length = true)
    (o5 : (swNo sc ts vs || parC sc is ts vs) = true) : PS X (.Assign [.Tuple ts k p] (.Tuple vs k2 p2) pos) (tS cf.T X.K (parF is (evs (callO P n) es))) := by
  obtain ⟨g1, g2, g3, g4⟩ := lOf_ok h o3 o2
  have hsc : sc = X.env.scope := h.ok.env.symm
  rw [← g3]
  rw [Bool.or_eq_true] at o5
  rcases o5 with o5 | o5
  · exact ps_pn g1 o4 (ps_asg (pe_tup g2) (h.tg (tg := .tp (is.map fun x => x.1)) (t := .Tuple ts k p) (by unfold okTg; exact o1)) sole_tp (sws_no h.kd (by rw [← hsc]; exact o5)) rfl)
  · rcases parC_ok o5 with ⟨a, b, x, px, y, py, v1, v2, rfl, rfl, rfl, l1, l2, ne, sw⟩ | ⟨a, b, c, x, px, y, py, z, pz, v1, v2, v3, rfl, rfl, rfl, l1, l2, l3, n1, n2, n3, sw⟩
    · simp only [okNms, okNm, List.map_cons, Bool.and_eq_true, decide_eq_true_eq] at o1
      cases es with
      | nil => simp [frOk] at o3
      | cons e1 es => cases es with
        | nil => simp [frOk] at o3
        | cons e2 es => cases es with
          | cons e3 es => simp [frOk] at o3
          | nil =>
            have := ps_par (pos := pos) (kt := k) (pt := p) (k2 := k2) (pt2 := p2) h.ok.calm h.ok.nd (h.at o1.1.1) (h.at o1.2.1.1) ne (h.lo l1) (h.lo l2) g2 (sws_yes h.kd (by rw [← hsc]; exact sw)) sole_tp
            exact ps_p2 this
    · simp only [okNms, okNm, List.map_cons, Bool.and_eq_true, decide_eq_true_eq] at o1
      cases es with
      | nil => simp [frOk] at o3
      | cons e1 es => cases es with
        | nil => simp [frOk] at o3
        | cons e2 es => cases es with
          | nil => simp [frOk] at o3
          | cons e3 es => cases es with
            | cons e3 es => simp [frOk] at o3
            | nil =>
              have := ps_par3 (pos := pos) (kt := k) (pt := p) (k2 := k2) (pt2 := p2) h.ok.calm h.ok.nd (h.at o1.1.1) (h.at o1.2.1.1) (h.at o1.2.2.1.1) n1 n2 n3 (h.lo l1) (h.lo l2) (h.lo l3) g2 (sws_yes h.kd (by rw [← hsc]; exact sw)) sole_tp
              exact ps_p3 this
end
end Pv

set_option Elab.async false
set_option linter.all false
set_option maxRecDepth 100000
set_option maxHeartbeats 8000000
/-! Pv20: every block that matches is walked. -/
namespace Pv
open PySem PySem.Spec PyProof.Rows L2
section
variable {cf : Cf} {P : Nat → Option Def} {n : Nat}
theorem BOk.va {X : Cx} {sc : Scope} (h : BOk cf P n X sc) {i : Nat} {x : Str} {pos : Pos} (hi : cf.N[i]? = some x) (hv : isVis sc x = true) (hp : plainN x = true) : PE X (.Name x pos) (tVar i) := h.ok.nm hi hv hp
theorem itT {X : Cx} {sc : Scope} {it : Ex} {tg e : Expr} {R : Prop} (h : XOk cf P n X sc) (hE : okE cf it sc e = true → PE X e (tE cf.T X.K (ev (callO P n) it)) ∧ R) (hI : okIt cf it sc e = true → PI X tg e (tI cf.T X.K true (itF (callO P n) it))) (ok : (okIt cf it sc e || okE cf it sc e) = true) :
    PI X tg e (tI cf.T X.K true (ev (callO P n) it)) := by
  by_cases oi : okIt cf it sc e = true
  · have := hI oi
    have q : itF (callO P n) it = ev (callO P n) it := by
      cases it <;> first | rfl | (simp [okIt] at oi)
    rw [q] at this
    exact this
  · rw [Bool.or_eq_true] at ok
    rcases ok with ok | ok
    · exact absurd ok oi
    · exact pi_v (fz := true) (hE ok).1
mutual
theorem readS : ∀ (a : St) (X : Cx) (sc : Scope) (s : Stmt), BOk cf P n X sc → okS cf a sc s = true → PS X s (tS cf.T X.K (exec (callO P n) a))
  | .bad, X, sc, s, h, ok => sf_eq ps_bad (by funext env ws; simp only [exec])
  | .pass, X, sc, s, h, ok => by
    simp only [okS] at ok
    split at ok
    · exact sf_eq ps_pa (by funext env ws; simp only [exec])
    · cases ok
  | .set tg e, X, sc, s, h, ok => by
    simp only [okS] at ok
    split at ok
    · rw [Bool.and_eq_true, Bool.and_eq_true, Bool.and_eq_true] at ok
      exact sf_eq (ps_st (ps_asg (readE e X sc _ h.ok ok.1.1.2).1 (h.tg ok.1.1.1) (sole (sw_no ok.1.2 _ _ _)) (ss_nm ok.2 _) (es_one ok.1.1.1))) (by funext env ws; unfold setF; simp only [exec]; try rfl)
    · cases ok
  | .own i e, X, sc, s, h, ok => by
    simp only [okS] at ok
    split at ok
    · rw [Bool.and_eq_true, Bool.and_eq_true, Bool.and_eq_true, Bool.and_eq_true, decide_eq_true_eq, Bool.or_eq_true, Bool.or_eq_true, Bool.and_eq_true] at ok
      exact sf_eq (ps_ow (ownS h ok.1.1.1.1 ok.1.1.1.2 ok.1.1.2 ok.1.2 ok.2)) (by funext env ws; unfold ownF; simp only [exec]; try rfl)
    · cases ok
  | .par is es, X, sc, s, h, ok => by
    simp only [okS] at ok
    split at ok
    · rw [Bool.and_eq_true, Bool.and_eq_true, Bool.and_eq_true, Bool.and_eq_true] at ok
      exact sf_eq (parS h ok.1.1.1.1 ok.1.1.1.2 ok.1.1.2 ok.1.2 ok.2) (by funext env ws; unfold parF; simp only [exec]; try rfl)
    · cases ok
  | .aug i o e, X, sc, s, h, ok => by
    simp only [okS] at ok
    split at ok
    · rw [Bool.and_eq_true, Bool.and_eq_true, Bool.and_eq_true, decide_eq_true_eq, decide_eq_true_eq] at ok
      have o1 := ok.1.2
      subst o1
      exact sf_eq (ps_au h.ok.nd (h.at ok.1.1.1) (h.loc ok.1.1.2).1 (readE e X sc _ h.ok ok.2).1 (h.loc ok.1.1.2).2) (by funext env ws; unfold augF; simp only [exec]; try rfl)
    · cases ok
  | .dput i k e, X, sc, s, h, ok => by
    simp only [okS] at ok
    split at ok
    · rw [Bool.and_eq_true, Bool.and_eq_true, Bool.and_eq_true, Bool.and_eq_true, decide_eq_true_eq] at ok
      exact sf_eq (ps_dp h.ok.T (hu_of h.ok.room) (h.va ok.1.1.1.1 ok.1.1.1.2 ok.1.1.2) (readE k X sc _ h.ok ok.1.2).1 (readE e X sc _ h.ok ok.2).1) (by funext env ws; unfold dputF; simp only [exec]; try rfl)
    · cases ok
  | .waug i k o e, X, sc, s, h, ok => by
    simp only [okS] at ok
    split at ok
    · rw [Bool.and_eq_true, Bool.and_eq_true, Bool.and_eq_true, Bool.and_eq_true, Bool.and_eq_true, decide_eq_true_eq, decide_eq_true_eq, decide_eq_true_eq] at ok
      have o1 := ok.1.2
      subst o1
      have o2 := ok.1.1.2
      subst o2
      exact sf_eq (ps_wa h.ok.T (hu_of h.ok.room) (h.va ok.1.1.1.1.1 ok.1.1.1.1.2 ok.1.1.1.2) pe_str (readE e X sc _ h.ok ok.2).1 (fun _ _ _ => rfl)) (by funext env ws; unfold waugF; simp only [exec]; try rfl)
    · cases ok
  | .mkw i k l a b, X, sc, s, h, ok => by
    simp only [okS] at ok
    split at ok
    · rw [Bool.and_eq_true, Bool.and_eq_true, Bool.and_eq_true, Bool.and_eq_true, Bool.and_eq_true, decide_eq_true_eq, decide_eq_true_eq, decide_eq_true_eq] at ok
      have o1 := ok.1.1.1.2
      subst o1
      have o2 := ok.1.1.2
      subst o2
      refine sf_eq (ps_mw h.ok.T (ps_set h.ok.nd (h.at ok.1.1.1.1.1) (h.loc ok.1.1.1.1.2).1 (pe_disp (pps_cons pe_str (readE a X sc _ h.ok ok.1.2).1 (pps_cons pe_str (readE b X sc _ h.ok ok.2).1 pps_nil)) rfl rfl (by simp) (by simp)) (sw_no rfl _ _ _) (h.loc ok.1.1.1.1.2).2)) ?_
      funext env ws
      unfold mkwF
      simp only [exec]
      try rfl
    · cases ok
  | .app i e, X, sc, s, h, ok => by
    simp only [okS] at ok
    split at ok
    · rw [Bool.and_eq_true, Bool.and_eq_true, Bool.and_eq_true, Bool.and_eq_true, Bool.and_eq_true, Bool.and_eq_true, decide_eq_true_eq, decide_eq_true_eq] at ok
      have o1 := ok.1.1.1.1.1.1
      subst o1
      exact sf_eq (ps_ap (h.va ok.1.1.1.1.1.2 ok.1.1.1.1.2 ok.1.1.1.2) (readE e X sc _ h.ok ok.1.1.2).1 rfl ok.1.2 ok.2 (sw_no rfl _ _ _)) (by funext env ws; unfold appF; simp only [exec]; try rfl)
    · cases ok
  | .ext i e, X, sc, s, h, ok => by
    simp only [okS] at ok
    split at ok
    · rw [Bool.and_eq_true, Bool.and_eq_true, Bool.and_eq_true, Bool.and_eq_true, Bool.and_eq_true, Bool.and_eq_true, decide_eq_true_eq, decide_eq_true_eq] at ok
      have o1 := ok.1.1.1.1.1.1
      subst o1
      exact sf_eq (ps_ex (h.va ok.1.1.1.1.1.2 ok.1.1.1.1.2 ok.1.1.1.2) (readE e X sc _ h.ok ok.1.1.2).1 rfl ok.1.2 ok.2 (sw_no rfl _ _ _)) (by funext env ws; unfold extF; simp only [exec]; try rfl)
    · cases ok
  | .pop tg i, X, sc, s, h, ok => by
    simp only [okS] at ok
    split at ok
    · rw [Bool.and_eq_true, Bool.and_eq_true, Bool.and_eq_true, Bool.and_eq_true, Bool.and_eq_true, decide_eq_true_eq, decide_eq_true_eq] at ok
      have o1 := ok.1.1.1.1.2
      subst o1
      exact sf_eq (ps_po (ps_asg (pe_bm0 PySem.F.plainAttrs_list PySem.F.slot_list_pop PySem.F.type_list_pop mt_pop (h.va ok.1.1.1.2 ok.1.1.2 ok.1.2) (attr_plain rfl _ _ _) ok.2) (h.tg ok.1.1.1.1.1) (sole (sw_no rfl _ _ _)) (ss_nm (by rw [Bool.or_eq_true]; exact .inr rfl) _) (es_one ok.1.1.1.1.1))) (by funext env ws; unfold popF; simp only [exec]; try rfl)
    · cases ok
  | .drop e, X, sc, s, h, ok => by
    simp only [okS] at ok
    split at ok
    · rw [Bool.and_eq_true] at ok
      exact sf_eq (ps_dr (readE e X sc _ h.ok ok.1).1 (sw_no ok.2 _ _ _)) (by funext env ws; unfold dropF; simp only [exec]; try rfl)
    · cases ok
  | .ite c a b, X, sc, s, h, ok => by
    simp only [okS] at ok
    split at ok
    · rw [Bool.and_eq_true, Bool.and_eq_true] at ok
      exact sf_eq (ps_it (readT c X sc _ h.ok ok.1.1).1 (readSs a X sc _ h ok.1.2) (readSs b X sc _ h ok.2)) (by funext env ws; unfold iteF; simp only [exec]; try rfl)
    · cases ok
  | .whl c b, X, sc, s, h, ok => by
    simp only [okS] at ok
    split at ok
    · rw [Bool.and_eq_true] at ok
      exact sf_eq (ps_wh (n := fuel) h.own (readT c X sc _ h.ok ok.1).1 (readSs b X sc _ h ok.2)) (by funext env ws; simp only [exec])
    · cases ok
  | .for_ tg it b, X, sc, s, h, ok => by
    simp only [okS] at ok
    split at ok
    · rw [Bool.and_eq_true, Bool.and_eq_true, Bool.and_eq_true] at ok
      have hi := fun t => itT (tg := t) h.ok (readE it X sc _ h.ok) (readI it X sc t _ true h.ok) ok.1.1.2
      exact sf_eq (ps_fo h.own h.ok.calm (hi _) (h.tg ok.1.1.1) (readSs b X sc _ h ok.2) (fold_plain ok.1.2 _)) (by funext env ws; unfold forF; simp only [exec]; try rfl)
    · cases ok
  | .ret e, X, sc, s, h, ok => by
    simp only [okS] at ok
    split at ok
    · exact sf_eq (ps_re (readE e X sc _ h.ok ok).1) (by funext env ws; unfold retF; simp only [exec]; try rfl)
    · cases ok
  | .retN, X, sc, s, h, ok => by
    simp only [okS] at ok
    split at ok
    · exact sf_eq ps_rn (by funext env ws; simp only [exec])
    · cases ok
  | .brk, X, sc, s, h, ok => by
    simp only [okS] at ok
    split at ok
    · exact sf_eq ps_br (by funext env ws; simp only [exec])
    · cases ok
  | .cont, X, sc, s, h, ok => by
    simp only [okS] at ok
    split at ok
    · exact sf_eq ps_co (by funext env ws; simp only [exec])
    · cases ok
  | .frz i, X, sc, s, h, ok => by simp [okS] at ok
theorem readSs : ∀ (a : Sts) (X : Cx) (sc : Scope) (s : List Stmt), BOk cf P n X sc → okSs cf a sc s = true → PSs X s (tS cf.T X.K (execs (callO P n) a))
  | .nil, X, sc, s, h, ok => by
    simp only [okSs] at ok
    split at ok
    · exact sfs_eq pss_n (by funext env ws; simp only [execs])
    · cases ok
  | .cons a r, X, sc, ss, h, ok0 => by
    have ok := ok0
    clear ok0
    have key : ∀ (hf : ∀ i, a ≠ .frz i), ((match (generalizing := false) ss with
      | s' :: r' => okS cf a sc s' && okSs cf r sc r'
      | [] => false) : Bool) = true → PSs X ss (tS cf.T X.K (execs (callO P n) (.cons a r))) := by
      intro hf ok
      cases ss with
      | nil => cases ok
      | cons s' r' =>
        rw [Bool.and_eq_true] at ok
        refine sfs_eq (pss_c (readS a X sc _ h ok.1) (readSs r X sc _ h ok.2)) ?_
        funext env ws
        unfold seqF
        simp only [execs]
        try rfl
    by_cases hf : ∃ i, a = .frz i
    · obtain ⟨i, rfl⟩ := hf
      simp only [okSs] at ok
      refine sfs_eq (pss_frz (i := i) (readSs r X sc ss h ok)) ?_
      funext env ws
      unfold seqF
      simp only [execs, exec]
    · refine key (fun i e => hf ⟨i, e⟩) ?_
      cases a <;> first | exact absurd ⟨_, rfl⟩ hf | (simp only [okSs] at ok; exact ok)
end
end
end Pv

set_option Elab.async false
set_option linter.all false
set_option maxRecDepth 100000
set_option maxHeartbeats 8000000
/-! Pv21: every def keeps its promise. -/
namespace Pv
open PySem PySem.Spec PyProof.Rows L2
theorem eg_get : ∀ (env : Env) (i : Nat), eg env i = (env[i]?).getD .un
  | [], i => by simp [eg]
  | _ :: _, 0 => by simp [eg]
  | _ :: r, i + 1 => by simp [eg, eg_get r i]
theorem eg_mk {ds : List D} {n i : Nat} : eg (mkEnv ds n) i = match ds[i]? with
    | some d => .va d
    | none => .un := by
  rw [eg_get]
  unfold mkEnv
  rw [List.getElem?_append]
  split
  · rename_i h
    rw [List.length_map] at h
    rw [List.getElem?_map, List.getElem?_eq_getElem h]
    rfl
  · rename_i h
    rw [List.length_map] at h
    have : ds[i]? = none := List.getElem?_eq_none (by omega)
    rw [this, List.getElem?_replicate]
    split <;> rfl
section
variable {T : Nat → Str} {K : PySem.W.Frag} {O : Addr → Prop} {wa : Option Addr} {ws ws' : WS} {H : Hp} {ds : List D} {vs : List V} {N : List Str}
theorem start_ok (hO : ∀ a, O a → H a ≠ none) (w : WsR T K (hid (O2S O wa) H) H wa ws) (r : Reps T K wa (hid (O2S O wa) H) ds vs) (hl : ds.length ≤ N.length) : StR T K O wa (mkEnv ds N.length) (fun _ => none) ws (L2.start N vs) H := by
  have lr := r.len
  refine ⟨?_, fun i => ?_, fun i a q => (by cases q), fun i j a q => (by cases q), hO, w⟩
  · unfold L2.start mkEnv
    simp only [List.length_append, List.length_map, List.length_replicate]
    omega
  · rw [eg_mk]
    cases c : ds[i]? with
    | none => trivial
    | some d =>
      obtain ⟨v, h1, h2⟩ := r.get c
      refine ⟨v, ?_, h2⟩
      unfold L2.start
      have : i < vs.length := (List.getElem?_eq_some_iff.mp h1).1
      rw [List.getElem?_append_left (by rw [List.length_map]; exact this), List.getElem?_map, h1]
      rfl
theorem ws_none (h : WsR T K (hid (O2S O wa) H) H none ws) : ws = none := by
  cases ws with
  | none => rfl
  | some _ => exact h.elim
theorem wa_none {hH H : Hp} (h : WsR T K hH H wa none) : wa = none := by
  cases wa with
  | none => rfl
  | some _ => exact h.elim
theorem body_ok {f : SF} {n : Nat} {d : D} {Q : VK} (hO : ∀ a, O a → H a ≠ none) (w : WsR T K (hid (O2S O wa) H) H wa ws) (r : Reps T K wa (hid (O2S O wa) H) ds vs) (hl : ds.length ≤ N.length)
    (e : chk ws (fin (f (mkEnv ds N.length) ws)) = some (d, ws')) (k : ∀ v H', Stp wa H H' → WsR T K (hid (O2S O wa) H') H' wa ws' → Rep T K wa (hid (O2S O wa) H') d v → Q v H') :
    tS T K f { nx := fun _ H' => Q .non H', rt := Q } (L2.start N vs) H := by
  have st := start_ok hO w r hl
  have hf : ∃ fl env', f (mkEnv ds N.length) ws = some (fl, env', ws') ∧ (fl = .rt d ∨ (fl = .nx ∧ d = .non)) ∧ (ws = none → ws' = none) := by
    cases c : f (mkEnv ds N.length) ws with
    | none => rw [c] at e; simp only [fin] at e; cases ws <;> cases e
    | some o =>
      obtain ⟨fl, env', ws2⟩ := o
      rw [c] at e
      cases fl with
      | nx =>
        simp only [fin] at e
        cases ws with
        | none => cases ws2 with
          | none => simp only [chk] at e; cases e; exact ⟨_, _, rfl, .inr ⟨rfl, rfl⟩, fun _ => rfl⟩
          | some _ => simp [chk] at e
        | some _ => simp only [chk] at e; cases e; exact ⟨_, _, rfl, .inr ⟨rfl, rfl⟩, fun z => by cases z⟩
      | rt d' =>
        simp only [fin] at e
        cases ws with
        | none => cases ws2 with
          | none => simp only [chk] at e; cases e; exact ⟨_, _, rfl, .inl rfl, fun _ => rfl⟩
          | some _ => simp [chk] at e
        | some _ => simp only [chk] at e; cases e; exact ⟨_, _, rfl, .inl rfl, fun z => by cases z⟩
      | br => simp only [fin] at e; cases ws <;> cases e
      | ct => simp only [fin] at e; cases ws <;> cases e
  obtain ⟨fl, env', hf, hfl, hws⟩ := hf
  refine ⟨O, wa, _, _, ws, fl, env', ws', st, hf, ?_⟩
  have go : ∀ {ω' : Nat → Option Addr} {H' : Hp} {wa' : Option Addr} {v : V}, Evo (fun _ => none) wa H ω' wa' H' → WsR T K (hid (O2S O wa') H') H' wa' ws' → Rep T K wa' (hid (O2S O wa') H') d v → Q v H' := by
    intro ω' H' wa' v ev w' rv
    have ew : wa' = wa := by
      rcases ev.was with z | z
      · subst z
        have := hws (ws_none w)
        subst this
        exact wa_none w'
      · exact z
    subst ew
    exact k v H' (fun a o nw q => ev.keep a o nw (fun _ z => by cases z) q) w' rv
  rcases hfl with rfl | ⟨rfl, rfl⟩
  · exact fun v H' wa' ev w' rv => go ev w' rv
  · exact fun σ' H' wa' ω' st' ev => go ev st'.frz.wsr .non
end
def scOk (N ps : List Str) (sc : Scope) : Bool :=
  decide (sc.kind = .function) && !sc.isCoroutine && !sc.isGenerator && decide N.Nodup && decide (N.take ps.length = ps) && ps.all (isLoc sc) && sc.names.all fun y => !decide (y.2 = .free)
theorem scOk_ok {N ps : List Str} {sc : Scope} (h : scOk N ps sc = true) : FnScope N ps sc := by
  unfold scOk at h
  simp only [Bool.and_eq_true, Bool.not_eq_true', decide_eq_true_eq, List.all_eq_true, decide_eq_false_iff_not] at h
  obtain ⟨⟨⟨⟨⟨⟨g1, g2⟩, g3⟩, g4⟩, g5⟩, g6⟩, g7⟩ := h
  exact ⟨g1, g2, g3, g4, g5, fun x hx => isLoc_ok (g6 x hx), g7⟩
/-! ### all defs -/
structure DOk (T : Nat → Str) (fn : Nat → List Str) (co : Nat → Option (Str × D)) (K : PySem.W.Frag) (x : Str) (d : Def) (N ps : List Str) (st : Stmt) (fA : Addr) (fd : FuncData) : Prop where
  F : Fun K x x st fA fd
  B : Binds K fd ps []
  S : FnScope N ps (defScope st)
  np : d.np = ps.length
  nn : ps.length ≤ N.length
  ns : d.ns = N.length
  ok : okSs ⟨N, T, fn, co⟩ d.body (defScope st) (defBody st) = true
section
variable {prog : Program} {w : World} {K : PySem.W.Frag} {mg : Str → Option Value} {base : Heap} {T : Nat → Str} {fn : Nat → List Str} {co : Nat → Option (Str × D)} {P : Nat → Option Def}
theorem cx_ok {n : Nat} {cdv : Value} {A : Around} {outer : List PySem.Env} {s : Shared} {H : Hp} {E : XK} {x : Str} {N ps : List Str} {st : Stmt} {fA : Addr} (S : FnScope N ps (defScope st)) (hT : TOk T) (hb : ∀ y ∈ bNames, mg y = none)
    (hc : ∀ k y d, co k = some (y, d) → ∃ v u, mg y = some u ∧ RelV v u ∧ ∀ wa H, Rep T K wa H d v) (hr : Room n (A.deeper (envOfC x (defScope st) s.heap.objs.size fA cdv)))
    (ih : ∀ f y, y ∈ fn f → ∃ fA fd ps, FnOk prog w K mg base CX0 n fA fd ps (spO T K P n f) ∧ mg y = some (.ref fA) ∧ PySem.W.keepIn K (.ref fA) = true ∧ Binds K fd ps []) :
    BOk ⟨N, T, fn, co⟩ P n (cxOf CX0 prog w K mg base N x (defScope st) fA cdv A outer s H E).nox (defScope st) :=
  ⟨⟨rfl, rfl, S.nd, rfl, hr, hT, ih, hb, hc⟩, fun _ => rfl, S.kind, PassesOwn.never⟩
theorem all_ok (hT : TOk T) (hb : ∀ y ∈ bNames, mg y = none) (hc : ∀ k y d, co k = some (y, d) → ∃ v u, mg y = some u ∧ RelV v u ∧ ∀ wa H, Rep T K wa H d v)
    (hP : ∀ f y, y ∈ fn f → ∃ x d N ps st fA fd, P f = some d ∧ mg y = some (.ref fA) ∧ DOk T fn co K x d N ps st fA fd) :
    ∀ n f y, y ∈ fn f → ∃ fA fd ps, FnOk prog w K mg base CX0 n fA fd ps (spO T K P n f) ∧ mg y = some (.ref fA) ∧ PySem.W.keepIn K (.ref fA) = true ∧ Binds K fd ps []
  | 0, f, y, hf => by
    obtain ⟨x, d, N, ps, st, fA, fd, e, hm, D⟩ := hP f y hf
    refine ⟨fA, fd, ps, ⟨fun vs H Q E q => ?_, fun A outer s H args us vs Q E _ _ _ _ q => ?_⟩, hm, D.F.kp, D.B⟩
    · obtain ⟨O, wa, ws, ds, d, ws', _, _, _, z, _⟩ := q
      simp [callO] at z
    · obtain ⟨O, wa, ws, ds, d, ws', _, _, _, z, _⟩ := q
      simp [callO] at z
  | n + 1, f, y, hf => by
    obtain ⟨x, d, N, ps, st, fA, fd, e, hm, D⟩ := hP f y hf
    refine ⟨fA, fd, ps, D.F.ok D.S (fun vs H Q E q => ?_) (fun cdv A outer s H vs Q E hr q => ?_), hm, D.F.kp, D.B⟩
    · obtain ⟨O, wa, ws, ds, d', ws', _, _, r, z, _⟩ := q
      simp only [callO, e] at z
      split at z
      · rename_i hl
        rw [← r.len, hl, D.np]
      · cases z
    · obtain ⟨O, wa, ws, ds, d', ws', hO, hw, r, z, k⟩ := q
      simp only [callO, e] at z
      split at z
      · rename_i hl
        refine ⟨_, readSs d.body _ _ _ (cx_ok D.S hT hb hc hr (all_ok hT hb hc hP n)) D.ok, ?_⟩
        refine body_ok (n := n) hO hw r ?_ ?_ k
        · rw [hl, D.np]; exact D.nn
        · rw [← D.ns]; exact z
      · cases z
/-- what the law is to do -/
def spL (K : PySem.W.Frag) (P : Nat → Option Def) (n : Nat) (d : Def) : Sp := fun vs H Q _ => ∃ a ns, vs = [.ref a] ∧ SqL K H a (ns.map V.int) ∧ lawO P n d ns = some (.bl true) ∧ ∀ H', Q (.bl true) H'
theorem law_ok (hT : TOk T) (hb : ∀ y ∈ bNames, mg y = none) (hc : ∀ k y d, co k = some (y, d) → ∃ v u, mg y = some u ∧ RelV v u ∧ ∀ wa H, Rep T K wa H d v)
    (hP : ∀ f y, y ∈ fn f → ∃ x d N ps st fA fd, P f = some d ∧ mg y = some (.ref fA) ∧ DOk T fn co K x d N ps st fA fd)
    {x p : Str} {d : Def} {N : List Str} {st : Stmt} {fA : Addr} {fd : FuncData} (D : DOk T fn co K x d N [p] st fA fd) (n : Nat) : FnOk prog w K mg base CX0 (n + 1) fA fd [p] (spL K P n d) := by
  refine D.F.ok D.S (fun vs H Q E q => ?_) (fun cdv A outer s H vs Q E hr q => ?_)
  · obtain ⟨a, ns, rfl, _⟩ := q
    rfl
  · obtain ⟨a, ns, rfl, hs, hl, k⟩ := q
    refine ⟨_, readSs d.body _ _ _ (cx_ok D.S hT hb hc hr (all_ok hT hb hc hP n)) D.ok, ?_⟩
    unfold lawO at hl
    split at hl
    · rename_i r ws' e
      cases hl
      have same : Same H (hid (O2S (fun _ => False) none) H) := fun b o q => hid_of q fun z => by
        rcases z with z | ⟨i, z⟩ | z
        · exact z
        · cases z
        · cases z
      have rs : Reps T K none (hid (O2S (fun _ => False) none) H) [.scr ns] [.ref a] := .cons (.scr (same.seq hs)) .nil
      have st0 := start_ok (T := T) (K := K) (O := fun _ => False) (wa := none) (ws := none) (N := N) (fun a z => z.elim) trivial rs (by rw [List.length_singleton]; exact D.nn)
      rw [D.ns] at e
      cases c : execs (callO P n) d.body (mkEnv [.scr ns] N.length) none with
      | none => rw [c] at e; simp [fin] at e
      | some o =>
        obtain ⟨fl, env', ws2⟩ := o
        rw [c] at e
        refine ⟨_, _, _, _, _, fl, env', ws2, st0, c, ?_⟩
        cases fl with
        | nx => simp [fin] at e
        | br => simp [fin] at e
        | ct => simp [fin] at e
        | rt d' =>
          simp only [fin, Option.some.injEq, Prod.mk.injEq] at e
          obtain ⟨e1, e2⟩ := e
          subst e1
          intro v H' wa' _ _ rv
          cases rv
          exact k H'
    · cases hl
end
end Pv

set_option Elab.async false
set_option linter.all false
set_option maxRecDepth 100000
set_option maxHeartbeats 8000000
/-! Pv22: what the head's heap is asked. -/
namespace Pv
open PySem PySem.Spec PyProof.Rows L2
def Fct (K : PySem.W.Frag) (g x : Str) (st : Stmt) : Prop := ∃ (f : Addr) (fd : FuncData), PySem.W.nsIn K mainGlobals g = some (some (.ref f)) ∧
  (∀ y : Str, (∀ (kV doc pm : Value) (an : Option Addr) (cdv ct : Value) (v : Value), bindArgs (PySem.W.fnOf x x (defArgs st) (defBody st) (defScope st) .none kV doc pm an cdv ct) ⟨[v], []⟩ = pure [(y, v)]) → ∀ (s : Shared) (v : Value), BindsTo s fd ⟨[v], []⟩ [(y, v)]) ∧ Fun K x x st f fd
theorem fct_mk {K : PySem.W.Frag} {g x : Str} {st : Stmt} {f : Addr} {oc : Value} {od an : Option Addr} {osl : Array (Option Value)} {kV doc pm cdv ct : Value} (a : PySem.W.nsIn K mainGlobals g = some (some (.ref f)))
    (l : K.lookup f = some ⟨oc, od, .func (PySem.W.fnOf x x (defArgs st) (defBody st) (defScope st) .none kV doc pm an cdv ct), osl⟩) (c : PySem.W.codeIn K cdv x = true) (k : PySem.W.keepIn K (.ref f) = true) : Fct K g x st :=
  ⟨f, _, a, fun y h s v => .of_eq (h kV doc pm an cdv ct v), fun_mk l c k⟩
theorem blt_mk {K : PySem.W.Frag} (z1 : PySem.W.nsIn K mainGlobals "len" = some none) (z2 : PySem.W.nsIn K mainGlobals "abs" = some none) (z3 : PySem.W.nsIn K mainGlobals "int" = some none) (z4 : PySem.W.nsIn K mainGlobals "list" = some none)
    (z5 : PySem.W.nsIn K mainGlobals "tuple" = some none) (z6 : PySem.W.nsIn K mainGlobals "dict" = some none) (z7 : PySem.W.nsIn K mainGlobals "sorted" = some none) (z8 : PySem.W.nsIn K mainGlobals "set" = some none)
    (z9 : PySem.W.nsIn K mainGlobals "all" = some none) (z10 : PySem.W.nsIn K mainGlobals "any" = some none) (z11 : PySem.W.nsIn K mainGlobals "max" = some none) (z12 : PySem.W.nsIn K mainGlobals "min" = some none)
    (z13 : PySem.W.nsIn K mainGlobals "isinstance" = some none) (z14 : PySem.W.nsIn K mainGlobals "range" = some none) (z15 : PySem.W.nsIn K mainGlobals "bool" = some none) (z16 : PySem.W.nsIn K mainGlobals "str" = some none) (z17 : PySem.W.nsIn K mainGlobals "sum" = some none) :
    ∀ y ∈ bNames, PySem.W.nsIn K mainGlobals y = some none := by
  intro y hy
  unfold bNames at hy
  simp only [List.mem_cons, List.not_mem_nil, or_false] at hy
  rcases hy with rfl | rfl | rfl | rfl | rfl | rfl | rfl | rfl | rfl | rfl | rfl | rfl | rfl | rfl | rfl | rfl | rfl <;> assumption
/-- a tuple of two ints in the heap's written part -/
theorem con2_r {T : Nat → Str} {K : PySem.W.Frag} {a : Addr} {i j : Int} {t1 t2 n : Nat} {sl : Array (Option Value)} (h : K.lookup a = some ⟨.type "tuple", none, .seq #[.int i t1, .int j t2] n, sl⟩) :
    RelV (.ref a) (.ref a) ∧ ∀ wa H, Rep T K wa H (.tup [.int i, .int j]) (.ref a) :=
  ⟨rfl, fun wa H => .tup (vs := [.int i, .int j]) (.inr ⟨_, _, n, h, rfl, rfl, by show 2 ≤ sizeLine; decide, .cons ⟨t1, rfl⟩ (.cons ⟨t2, rfl⟩ .nil), rfl⟩) (.cons (.int i) (.cons (.int j) .nil))⟩
/-- the texts -/
def TT (l : List Str) (n : Nat) : Str := l.getD n ⟨#[1000 + n]⟩
theorem tOk_of {l : List Str} (h1 : l.Nodup) (h2 : (l.all fun s => s.cps.all (· < 1000)) = true) : TOk (TT l) := by
  have lo : ∀ n, n < l.length → TT l n = l.getD n "" ∧ TT l n ∈ l := fun n hn => by
    unfold TT
    rw [List.getD_eq_getElem?_getD, List.getD_eq_getElem?_getD, List.getElem?_eq_getElem hn]
    exact ⟨rfl, List.getElem_mem hn⟩
  have hi : ∀ n, ¬ n < l.length → TT l n = ⟨#[1000 + n]⟩ := fun n hn => by
    unfold TT
    rw [List.getD_eq_getElem?_getD, List.getElem?_eq_none (by omega)]
    rfl
  have ne : ∀ n m, n < l.length → ¬ m < l.length → TT l n ≠ TT l m := fun n m hn hm e => by
    have h := List.all_eq_true.mp h2 _ (lo n hn).2
    rw [e, hi m hm] at h
    simp at h
    omega
  refine ⟨fun n m hn hm e => ?_, fun n hn => ?_⟩
  · by_cases c : n < l.length
    · by_cases c2 : m < l.length
      · rw [(lo n c).1, (lo m c2).1, List.getD_eq_getElem?_getD, List.getD_eq_getElem?_getD, List.getElem?_eq_getElem c, List.getElem?_eq_getElem c2] at e
        have pw := List.pairwise_iff_getElem.mp h1
        have e : l[n] = l[m] := e
        rcases Nat.lt_trichotomy n m with q | q | q
        · exact absurd e (pw n m c c2 q)
        · exact q
        · exact absurd e.symm (pw m n c2 c q)
      · exact absurd e (ne n m c c2)
    · by_cases c2 : m < l.length
      · exact absurd e.symm (ne m n c2 c)
      · rw [hi n c, hi m c2] at e
        simp at e
        omega
  · by_cases c : n < l.length
    · have h := List.all_eq_true.mp h2 _ (lo n c).2
      unfold PyData.strOk
      rw [Array.all_eq_true] at h ⊢
      intro i hi
      have := h i hi
      simp at this ⊢
      omega
    · rw [hi n c]
      unfold PyData.strOk
      simp
      omega
end Pv

set_option Elab.async false
set_option linter.all false
set_option maxRecDepth 100000
set_option maxHeartbeats 8000000
/-! Pv23: the head by one run: defs, names, constants as one observation. -/
namespace Pv
open PySem PySem.Spec PyProof.Rows L2
/-! ### constants -/
def conB (T : Nat → Str) (K : PySem.W.Frag) : Nat → D → Value → Bool
  | _ + 1, .non, .none => true
  | _ + 1, .bl b, .bool c => b == c
  | _ + 1, .int i, .int j _ => decide (i = j)
  | _ + 1, .str n, .str y _ => decide (T n = y)
  | n + 1, .tup ds, .ref a => (match K.lookup a with
    | some ⟨.type c, none, .seq its _, _⟩ => decide (c = "tuple") && (decide (its.size ≤ sizeLine) && (decide (ds.length = its.toList.length) && (ds.zip its.toList).all fun p => conB T K n p.1 p.2))
    | _ => false)
  | _, _, _ => false
theorem conB_ok {T : Nat → Str} {K : PySem.W.Frag} : ∀ {n : Nat} {d : D} {u : Value}, conB T K n d u = true → ∃ v, RelV v u ∧ ∀ wa H, Rep T K wa H d v := by
  intro n
  induction n with
  | zero => intro d u h; simp [conB] at h
  | succ n ih =>
    intro d u h
    have all : ∀ (ds : List D) (us : List Value), ds.length = us.length → ((ds.zip us).all fun p => conB T K n p.1 p.2) = true → ∃ vs, Vals vs us ∧ ∀ wa H, Reps T K wa H ds vs := by
      intro ds
      induction ds with
      | nil =>
        intro us e _
        cases us with
        | nil => exact ⟨[], .nil, fun _ _ => .nil⟩
        | cons u us => simp at e
      | cons d ds ih2 =>
        intro us e q
        cases us with
        | nil => simp at e
        | cons u us =>
          simp only [List.zip_cons_cons, List.all_cons, Bool.and_eq_true] at q
          obtain ⟨v, r1, r2⟩ := ih q.1
          obtain ⟨vs, r3, r4⟩ := ih2 us (by simpa using e) q.2
          exact ⟨v :: vs, .cons r1 r3, fun wa H => .cons (r2 wa H) (r4 wa H)⟩
    cases d with
    | non => cases u with
      | none => exact ⟨.non, rfl, fun _ _ => .non⟩
      | _ => simp [conB] at h
    | bl b => cases u with
      | bool c =>
        have e : b = c := eq_of_beq (show (b == c) = true from h)
        subst e
        exact ⟨.bl b, rfl, fun _ _ => .bl b⟩
      | _ => simp [conB] at h
    | int i => cases u with
      | int j t =>
        have e : i = j := of_decide_eq_true h
        subst e
        exact ⟨.int i, ⟨t, rfl⟩, fun _ _ => .int i⟩
      | _ => simp [conB] at h
    | str m => cases u with
      | str y t =>
        have e : T m = y := of_decide_eq_true h
        subst e
        exact ⟨.str (T m), ⟨t, rfl⟩, fun _ _ => .str m⟩
      | _ => simp [conB] at h
    | tup ds => cases u with
      | ref a =>
        simp only [conB] at h
        split at h
        · rename_i c its m sl q
          simp only [Bool.and_eq_true, decide_eq_true_eq] at h
          obtain ⟨h1, h2, h3, h4⟩ := h
          obtain ⟨vs, r3, r4⟩ := all ds its.toList h3 h4
          subst h1
          exact ⟨.ref a, rfl, fun wa H => .tup (.inr ⟨_, its, m, q, rfl, rfl, h2, r3, rfl⟩) (r4 wa H)⟩
        · cases h
      | _ => simp [conB] at h
    | _ => cases u <;> simp [conB] at h
/-! ### the hook -/
/-- a def: the global's name, its own name, its statement -/
def dd (g x : Str) (st : Stmt) : He.DefD := ⟨(g, none), x, x, defArgs st, defBody st, defScope st, [], []⟩
abbrev AlP : Type := Bool × He.AlD
def conA (T : Nat → Str) (cs : List (Str × D)) (K : PySem.W.Frag) : Bool := cs.all fun c => match PySem.W.nsIn K mainGlobals c.1 with
  | some (some u) => conB T K 8 c.2 u
  | _ => false
def obsP (fa : List He.Fa) (fn : List He.DefD) (T : Nat → Str) (cs : List (Str × D)) (K : PySem.W.Frag) : AlP := (conA T cs K, He.obsD fa fn K)
def SaysP (fa : List He.Fa) (fn : List He.DefD) (T : Nat → Str) (cs : List (Str × D)) (K : PySem.W.Frag) : Prop := obsP fa fn T cs K = (true, He.valD fn)
def obsPG (n : Nat) (fa : List He.Fa) (fn : List He.DefD) (T : Nat → Str) (cs : List (Str × D)) (g : Addr → Option Obj) : AlP := obsP fa fn T cs (He.frG g (He.asD g n))
def hookP (n : Nat) (fa : List He.Fa) (fn : List He.DefD) (T : Nat → Str) (cs : List (Str × D)) : PySem.W.Hook where
  α := AlP
  obs := fun s => obsPG n fa fn T cs s.heap.get?
  val := fun _ => (true, He.valD fn)
  says := fun _ h => ∃ K : PySem.W.Frag, K.In h ∧ SaysP fa fn T cs K
  of := fun _ _ e => ⟨_, He.frG_in, e⟩
  keeps := fun _ _ _ ⟨K, hK, c⟩ k => ⟨K, PySem.W.Frag.In.keeps hK k, c⟩
theorem obsPG_eq {n : Nat} {fa : List He.Fa} {fn : List He.DefD} {T : Nat → Str} {cs : List (Str × D)} {g : Addr → Option Obj} {s : Shared} (h : ∀ a, g a = s.heap.get? a) : obsPG n fa fn T cs g = (hookP n fa fn T cs).obs s := by
  have e : g = s.heap.get? := funext h
  rw [e] <;> rfl
section
variable {fa : List He.Fa} {fn : List He.DefD} {T : Nat → Str} {cs : List (Str × D)} {K : PySem.W.Frag}
theorem SaysP.d (c : SaysP fa fn T cs K) : He.SaysD fa fn K := congrArg Prod.snd c
theorem SaysP.con (c : SaysP fa fn T cs K) {y : Str} {d : D} (h : (y, d) ∈ cs) : ∃ v u, PySem.W.nsIn K mainGlobals y = some (some u) ∧ RelV v u ∧ ∀ wa H, Rep T K wa H d v := by
  have c1 : conA T cs K = true := congrArg Prod.fst c
  have c2 := List.all_eq_true.mp c1 _ h
  simp only at c2
  split at c2
  · rename_i u e
    obtain ⟨v, r1, r2⟩ := conB_ok c2
    exact ⟨v, u, e, r1, r2⟩
  · cases c2
theorem SaysP.glo (c : SaysP fa fn T cs K) (i : Nat) {g : Str} (h : fa[i]? = some (.glo g)) : PySem.W.nsIn K mainGlobals g = some (some (.ref (He.ga K g))) := He.eqO_ok (c.d.fact i h)
theorem SaysP.free (c : SaysP fa fn T cs K) (i : Nat) {g : Str} (h : fa[i]? = some (.free g)) : PySem.W.nsIn K mainGlobals g = some none := He.eqO_ok (c.d.fact i h)
/-- the i-th def -/
theorem SaysP.fct (c : SaysP fa fn T cs K) (i : Nat) {g x : Str} {st : Stmt} (h1 : fa[i]? = some (.glo g)) (h2 : fn[i]? = some (dd g x st)) : Fct K g x st := by
  obtain ⟨fd, F⟩ := c.d.def_ i h2
  have F2 : Fun K x x st (He.ga K g) fd := by
    obtain ⟨oc, od, dV, kV, doc, pm, an, cdv, ct, osl, e, l, c, hd, _⟩ := F.ex
    rcases hd with ⟨_, e2⟩ | ⟨e2, _⟩
    · subst e2
      exact ⟨⟨oc, od, kV, doc, pm, an, cdv, ct, osl, e, l, c⟩, F.kp⟩
    · exact absurd rfl e2
  refine ⟨He.ga K g, fd, c.glo i h1, fun y h s v => ?_, F2⟩
  obtain ⟨oc, od, kV, doc, pm, an, cdv, ct, osl, rfl, l, cd⟩ := F2.ex
  exact .of_eq (h kV doc pm an cdv ct v)
end
end Pv

set_option maxHeartbeats 8000000
namespace Pv.K44
open PySem L2
def b_is_number : Sts :=
 (.cons (.ret (.andv (.isi .int (.var 0)) (.one (.notv (.isi .bool (.var 0))))))
 .nil)
def N_is_number : List Str := ["thing"]
def ps_is_number : List Str := ["thing"]
def d_is_number : Def := ⟨1, 1, b_is_number⟩
def b_is_from : Sts :=
 (.cons (.ret (.andv (.call 102 (.cons (.var 0) .nil)) (.one (.cmp .ge (.var 0) (.var 1)))))
 .nil)
def N_is_from : List Str := ["thing", "least"]
def ps_is_from : List Str := ["thing", "least"]
def d_is_from : Def := ⟨2, 2, b_is_from⟩
def t_bits_of_0 : Tx := (.cmp .gt (.bin .shr (.var 0) (.var 1)) (.num 0))
def l_bits_of_1 : Sts := (.cons (.aug 1 .add (.num 1))
 .nil)
def b_bits_of : Sts :=
 (.cons (.set (.nm 1) (.num 0))
 (.cons (.whl t_bits_of_0 l_bits_of_1)
 (.cons (.ret (.var 1))
 .nil)))
def N_bits_of : List Str := ["number", "found"]
def ps_bits_of : List Str := ["number"]
def d_bits_of : Def := ⟨1, 2, b_bits_of⟩
def t_common_0 : Tx := (.cmp .gt (.var 1) (.num 0))
def l_common_1 : Sts := (.cons (.par [(0, false), (1, false)] (.cons (.var 1) (.cons (.bin .mod (.var 0) (.var 1)) .nil)))
 .nil)
def b_common : Sts :=
 (.cons (.par [(0, false), (1, false)] (.cons (.b1 .abs (.var 0)) (.cons (.b1 .abs (.var 1)) .nil)))
 (.cons (.whl t_common_0 l_common_1)
 (.cons (.ret (.var 0))
 .nil)))
def N_common : List Str := ["a", "b"]
def ps_common : List Str := ["a", "b"]
def d_common : Def := ⟨2, 2, b_common⟩
def b_fraction : Sts :=
 (.cons (.set (.nm 2) (.ite (.cmp .gt (.var 1) (.num 0)) (.call 1 (.cons (.var 0) (.cons (.var 1) .nil))) (.neg (.call 1 (.cons (.var 0) (.cons (.var 1) .nil))))))
 (.cons (.ret (.tup (.cons (.bin .fdiv (.var 0) (.var 2)) (.cons (.bin .fdiv (.var 1) (.var 2)) .nil))))
 .nil))
def N_fraction : List Str := ["upper", "lower", "d"]
def ps_fraction : List Str := ["upper", "lower"]
def d_fraction : Def := ⟨2, 3, b_fraction⟩
def b_added : Sts :=
 (.cons (.ret (.call 2 (.cons (.bin .add (.bin .mul (.ix (.var 0) (.num 0)) (.ix (.var 1) (.num 1))) (.bin .mul (.ix (.var 1) (.num 0)) (.ix (.var 0) (.num 1)))) (.cons (.bin .mul (.ix (.var 0) (.num 1)) (.ix (.var 1) (.num 1))) .nil))))
 .nil)
def N_added : List Str := ["one", "other"]
def ps_added : List Str := ["one", "other"]
def d_added : Def := ⟨2, 2, b_added⟩
def b_times : Sts :=
 (.cons (.ret (.call 2 (.cons (.bin .mul (.ix (.var 0) (.num 0)) (.ix (.var 1) (.num 0))) (.cons (.bin .mul (.ix (.var 0) (.num 1)) (.ix (.var 1) (.num 1))) .nil))))
 .nil)
def N_times : List Str := ["one", "other"]
def ps_times : List Str := ["one", "other"]
def d_times : Def := ⟨2, 2, b_times⟩
def b_size : Sts :=
 (.cons (.ret (.tup (.cons (.b1 .abs (.ix (.var 0) (.num 0))) (.cons (.ix (.var 0) (.num 1)) .nil))))
 .nil)
def N_size : List Str := ["one"]
def ps_size : List Str := ["one"]
def d_size : Def := ⟨1, 1, b_size⟩
def b_is_less : Sts :=
 (.cons (.ret (.cmp .lt (.bin .mul (.ix (.var 0) (.num 0)) (.ix (.var 1) (.num 1))) (.bin .mul (.ix (.var 1) (.num 0)) (.ix (.var 0) (.num 1)))))
 .nil)
def N_is_less : List Str := ["one", "other"]
def ps_is_less : List Str := ["one", "other"]
def d_is_less : Def := ⟨2, 2, b_is_less⟩
def b_is_most : Sts :=
 (.cons (.ret (.cmp .le (.bin .mul (.ix (.var 0) (.num 0)) (.ix (.var 1) (.num 1))) (.bin .mul (.ix (.var 1) (.num 0)) (.ix (.var 0) (.num 1)))))
 .nil)
def N_is_most : List Str := ["one", "other"]
def ps_is_most : List Str := ["one", "other"]
def d_is_most : Def := ⟨2, 2, b_is_most⟩
def b_two_to : Sts :=
 (.cons (.ret (.ite (.cmp .ge (.var 0) (.num 0)) (.tup (.cons (.bin .shl (.num 1) (.var 0)) (.cons (.num 1) .nil))) (.tup (.cons (.num 1) (.cons (.bin .shl (.num 1) (.neg (.var 0))) .nil)))))
 .nil)
def N_two_to : List Str := ["by"]
def ps_two_to : List Str := ["by"]
def d_two_to : Def := ⟨1, 1, b_two_to⟩
def b_shifted : Sts :=
 (.cons (.ret (.call 6 (.cons (.var 0) (.cons (.call 13 (.cons (.var 1) .nil)) .nil))))
 .nil)
def N_shifted : List Str := ["one", "by"]
def ps_shifted : List Str := ["one", "by"]
def d_shifted : Def := ⟨2, 2, b_shifted⟩
def b_exponent_of : Sts :=
 (.cons (.par [(2, false), (3, false)] (.cons (.b1 .abs (.ix (.var 0) (.num 0))) (.cons (.ix (.var 0) (.num 1)) .nil)))
 (.cons (.set (.nm 1) (.bin .sub (.call 0 (.cons (.var 2) .nil)) (.call 0 (.cons (.var 3) .nil))))
 (.cons (.ret (.ite (.val (.call 10 (.cons (.call 13 (.cons (.var 1) .nil)) (.cons (.tup (.cons (.var 2) (.cons (.var 3) .nil))) .nil)))) (.var 1) (.bin .sub (.var 1) (.num 1))))
 .nil)))
def N_exponent_of : List Str := ["one", "found", "upper", "lower"]
def ps_exponent_of : List Str := ["one"]
def d_exponent_of : Def := ⟨1, 4, b_exponent_of⟩
def b_is_of : Sts :=
 (.cons (.ite (.or2 (.not (.val (.isi .tuple (.var 1)))) (.or2 (.cmp .eq (.var 1) (.tup .nil)) (.one (.not (.val (.isi .str (.ix (.var 1) (.num 0)))))))) (.cons (.ret (.tt false))
 .nil) .nil)
 (.cons (.ite (.cmp .eq (.ix (.var 1) (.num 0)) (.txt 27)) (.cons (.ret (.cmp .eq (.b1 .len (.var 1)) (.num 1)))
 .nil) .nil)
 (.cons (.ite (.cmp .isin (.ix (.var 1) (.num 0)) (.tup (.cons (.txt 0) (.cons (.txt 10) .nil)))) (.cons (.ret (.andv (.cmp .eq (.b1 .len (.var 1)) (.num 2)) (.one (.call 105 (.cons (.ix (.var 1) (.num 1)) .nil)))))
 .nil) .nil)
 (.cons (.ite (.or2 (.cmp .ne (.ix (.var 1) (.num 0)) (.txt 1)) (.or2 (.cmp .ne (.b1 .len (.var 1)) (.num 4)) (.one (.not (.val (.call 105 (.cons (.ix (.var 1) (.num 1)) .nil))))))) (.cons (.ret (.tt false))
 .nil) .nil)
 (.cons (.set (.tp [2, 3, 4]) (.var 0))
 (.cons (.ite (.or2 (.not (.val (.call 103 (.cons (.ix (.var 1) (.num 2)) (.cons (.num 1) .nil))))) (.or2 (.not (.val (.call 102 (.cons (.ix (.var 1) (.num 3)) .nil)))) (.one (.not (.chain .le .le (.var 3) (.ix (.var 1) (.num 3)) (.var 4)))))) (.cons (.ret (.tt false))
 .nil) .nil)
 (.cons (.ret (.andv (.cmp .lt (.ix (.var 1) (.num 2)) (.bin .shl (.num 1) (.var 2))) (.one (.orv (.cmp .ge (.ix (.var 1) (.num 2)) (.bin .shl (.num 1) (.bin .sub (.var 2) (.num 1)))) (.one (.cmp .eq (.ix (.var 1) (.num 3)) (.var 3)))))))
 .nil)))))))
def N_is_of : List Str := ["form", "thing", "digits", "least", "greatest"]
def ps_is_of : List Str := ["form", "thing"]
def d_is_of : Def := ⟨2, 5, b_is_of⟩
def b_is_sign : Sts :=
 (.cons (.ret (.andv (.call 102 (.cons (.var 0) .nil)) (.one (.cmp .isin (.var 0) (.tup (.cons (.num 0) (.cons (.num 1) .nil)))))))
 .nil)
def N_is_sign : List Str := ["thing"]
def ps_is_sign : List Str := ["thing"]
def d_is_sign : Def := ⟨1, 1, b_is_sign⟩
def b_value_of : Sts :=
 (.cons (.ite (.cmp .eq (.ix (.var 0) (.num 0)) (.txt 0)) (.cons (.ret (.con 0 (.tup [(.int 0), (.int 1)])))
 .nil) .nil)
 (.cons (.set (.nm 1) (.call 14 (.cons (.tup (.cons (.ix (.var 0) (.num 2)) (.cons (.num 1) .nil))) (.cons (.ix (.var 0) (.num 3)) .nil))))
 (.cons (.ret (.ite (.cmp .eq (.ix (.var 0) (.num 1)) (.num 1)) (.tup (.cons (.neg (.ix (.var 1) (.num 0))) (.cons (.ix (.var 1) (.num 1)) .nil))) (.var 1)))
 .nil)))
def N_value_of : List Str := ["number", "own"]
def ps_value_of : List Str := ["number"]
def d_value_of : Def := ⟨1, 2, b_value_of⟩
def b_is_finite : Sts :=
 (.cons (.ret (.cmp .isin (.ix (.var 0) (.num 0)) (.tup (.cons (.txt 1) (.cons (.txt 0) .nil)))))
 .nil)
def N_is_finite : List Str := ["number"]
def ps_is_finite : List Str := ["number"]
def d_is_finite : Def := ⟨1, 1, b_is_finite⟩
def b_greatest_of : Sts :=
 (.cons (.ret (.tup (.cons (.txt 1) (.cons (.num 0) (.cons (.bin .sub (.bin .shl (.num 1) (.ix (.var 0) (.num 0))) (.num 1)) (.cons (.ix (.var 0) (.num 2)) .nil))))))
 .nil)
def N_greatest_of : List Str := ["form"]
def ps_greatest_of : List Str := ["form"]
def d_greatest_of : Def := ⟨1, 1, b_greatest_of⟩
def b_least_full : Sts :=
 (.cons (.ret (.tup (.cons (.txt 1) (.cons (.num 0) (.cons (.bin .shl (.num 1) (.bin .sub (.ix (.var 0) (.num 0)) (.num 1))) (.cons (.ix (.var 0) (.num 1)) .nil))))))
 .nil)
def N_least_full : List Str := ["form"]
def ps_least_full : List Str := ["form"]
def d_least_full : Def := ⟨1, 1, b_least_full⟩
def b_turned : Sts :=
 (.cons (.ite (.cmp .eq (.ix (.var 0) (.num 0)) (.txt 27)) (.cons (.ret (.var 0))
 .nil) .nil)
 (.cons (.ret (.bin .add (.bin .add (.sl (.var 0) .non (.num 1)) (.tup (.cons (.bin .sub (.num 1) (.ix (.var 0) (.num 1))) .nil))) (.sl (.var 0) (.num 2) .non)))
 .nil))
def N_turned : List Str := ["number"]
def ps_turned : List Str := ["number"]
def d_turned : Def := ⟨1, 1, b_turned⟩
def b_unit_at : Sts :=
 (.cons (.ret (.ite (.cmp .ne (.ix (.var 1) (.num 0)) (.num 0)) (.b2 .max (.ix (.var 0) (.num 1)) (.bin .add (.bin .sub (.call 15 (.cons (.var 1) .nil)) (.ix (.var 0) (.num 0))) (.num 1))) (.ix (.var 0) (.num 1))))
 .nil)
def N_unit_at : List Str := ["form", "one"]
def ps_unit_at : List Str := ["form", "one"]
def d_unit_at : Def := ⟨2, 2, b_unit_at⟩
def b_is_raised : Sts :=
 (.cons (.ite (.cmp .eq (.var 0) (.txt 2)) (.cons (.ret (.tt false))
 .nil) .nil)
 (.cons (.ite (.cmp .eq (.var 0) (.txt 3)) (.cons (.ret (.cmp .eq (.var 1) (.num 0)))
 .nil) .nil)
 (.cons (.ite (.cmp .eq (.var 0) (.txt 4)) (.cons (.ret (.cmp .eq (.var 1) (.num 1)))
 .nil) .nil)
 (.cons (.set (.nm 4) (.bin .mul (.num 2) (.ix (.var 3) (.num 0))))
 (.cons (.ite (.cmp .ne (.var 4) (.ix (.var 3) (.num 1))) (.cons (.ret (.cmp .gt (.var 4) (.ix (.var 3) (.num 1))))
 .nil) .nil)
 (.cons (.ret (.orv (.cmp .eq (.var 0) (.txt 5)) (.one (.cmp .eq (.bin .mod (.var 2) (.num 2)) (.num 1)))))
 .nil))))))
def N_is_raised : List Str := ["way", "sign", "whole", "rest", "twice"]
def ps_is_raised : List Str := ["way", "sign", "whole", "rest"]
def d_is_raised : Def := ⟨4, 5, b_is_raised⟩
def b_rounded : Sts :=
 (.cons (.ite (.cmp .eq (.ix (.var 2) (.num 0)) (.num 0)) (.cons (.ret (.tup (.cons (.tup (.cons (.txt 0) (.cons (.var 3) .nil))) (.cons (.tup .nil) .nil))))
 .nil) .nil)
 (.cons (.set (.nm 4) (.b1 .int (.cmp .lt (.ix (.var 2) (.num 0)) (.num 0))))
 (.cons (.set (.nm 5) (.call 20 (.cons (.var 0) (.cons (.var 2) .nil))))
 (.cons (.set (.tp [7, 8]) (.call 8 (.cons (.call 14 (.cons (.var 2) (.cons (.neg (.var 5)) .nil))) .nil)))
 (.cons (.par [(9, false), (10, false)] (.cons (.bin .fdiv (.var 7) (.var 8)) (.cons (.bin .mod (.var 7) (.var 8)) .nil)))
 (.cons (.set (.nm 6) (.call 23 (.cons (.var 0) (.cons (.var 2) (.cons (.var 10) .nil)))))
 (.cons (.ite (.and2 (.cmp .gt (.var 10) (.num 0)) (.one (.val (.call 21 (.cons (.var 1) (.cons (.var 4) (.cons (.var 9) (.cons (.tup (.cons (.var 10) (.cons (.var 8) .nil))) .nil)))))))) (.cons (.aug 9 .add (.num 1))
 .nil) .nil)
 (.cons (.ite (.cmp .eq (.var 9) (.bin .shl (.num 1) (.ix (.var 0) (.num 0)))) (.cons (.par [(9, false), (5, false)] (.cons (.bin .fdiv (.var 9) (.num 2)) (.cons (.bin .add (.var 5) (.num 1)) .nil)))
 .nil) .nil)
 (.cons (.ite (.cmp .gt (.var 5) (.ix (.var 0) (.num 2))) (.cons (.ret (.tup (.cons (.call 24 (.cons (.var 0) (.cons (.var 1) (.cons (.var 4) .nil)))) (.cons (.tup (.cons (.txt 7) (.cons (.txt 6) .nil))) .nil))))
 .nil) .nil)
 (.cons (.ite (.cmp .eq (.var 9) (.num 0)) (.cons (.ret (.tup (.cons (.tup (.cons (.txt 0) (.cons (.var 4) .nil))) (.cons (.var 6) .nil))))
 .nil) .nil)
 (.cons (.ret (.tup (.cons (.tup (.cons (.txt 1) (.cons (.var 4) (.cons (.var 9) (.cons (.var 5) .nil))))) (.cons (.var 6) .nil))))
 .nil)))))))))))
def N_rounded : List Str := ["form", "way", "one", "sign", "own", "power", "marks", "upper", "lower", "whole", "rest"]
def ps_rounded : List Str := ["form", "way", "one", "sign"]
def d_rounded : Def := ⟨4, 11, b_rounded⟩
def b_marks_of : Sts :=
 (.cons (.ite (.cmp .eq (.var 2) (.num 0)) (.cons (.ret (.tup .nil))
 .nil) .nil)
 (.cons (.set (.nm 3) (.call 9 (.cons (.call 8 (.cons (.var 1) .nil)) (.cons (.call 16 (.cons (.call 19 (.cons (.var 0) .nil)) .nil)) .nil))))
 (.cons (.ret (.ite (.val (.var 3)) (.tup (.cons (.txt 7) (.cons (.txt 8) .nil))) (.tup (.cons (.txt 7) .nil))))
 .nil)))
def N_marks_of : List Str := ["form", "one", "rest", "is_small"]
def ps_marks_of : List Str := ["form", "one", "rest"]
def d_marks_of : Def := ⟨3, 4, b_marks_of⟩
def b_beyond : Sts :=
 (.cons (.ite (.or2 (.cmp .isin (.var 1) (.tup (.cons (.txt 9) (.cons (.txt 5) .nil)))) (.or2 (.and2 (.cmp .eq (.var 1) (.txt 3)) (.one (.cmp .eq (.var 2) (.num 0)))) (.one (.and2 (.cmp .eq (.var 1) (.txt 4)) (.one (.cmp .eq (.var 2) (.num 1))))))) (.cons (.ret (.tup (.cons (.txt 10) (.cons (.var 2) .nil))))
 .nil) .nil)
 (.cons (.ret (.bin .add (.bin .add (.sl (.call 18 (.cons (.var 0) .nil)) .non (.num 1)) (.tup (.cons (.var 2) .nil))) (.sl (.call 18 (.cons (.var 0) .nil)) (.num 2) .non)))
 .nil))
def N_beyond : List Str := ["form", "way", "sign"]
def ps_beyond : List Str := ["form", "way", "sign"]
def d_beyond : Def := ⟨3, 3, b_beyond⟩
def b_sign_when_nothing : Sts :=
 (.cons (.ite (.cmp .eq (.var 1) (.var 2)) (.cons (.ret (.var 1))
 .nil) .nil)
 (.cons (.ret (.b1 .int (.cmp .eq (.var 0) (.txt 4))))
 .nil))
def N_sign_when_nothing : List Str := ["way", "one", "other"]
def ps_sign_when_nothing : List Str := ["way", "one", "other"]
def d_sign_when_nothing : Def := ⟨3, 3, b_sign_when_nothing⟩
def b_plus : Sts :=
 (.cons (.ite (.or2 (.cmp .eq (.var 2) (.con 1 (.tup [(.str 27)]))) (.one (.cmp .eq (.var 3) (.con 1 (.tup [(.str 27)]))))) (.cons (.ret (.tup (.cons (.con 1 (.tup [(.str 27)])) (.cons (.tup .nil) .nil))))
 .nil) .nil)
 (.cons (.ite (.or2 (.cmp .eq (.ix (.var 2) (.num 0)) (.txt 10)) (.one (.cmp .eq (.ix (.var 3) (.num 0)) (.txt 10)))) (.cons (.ite (.cmp .eq (.ix (.var 2) (.num 0)) (.ix (.var 3) (.num 0))) (.cons (.ret (.ite (.cmp .eq (.ix (.var 2) (.num 1)) (.ix (.var 3) (.num 1))) (.tup (.cons (.var 2) (.cons (.tup .nil) .nil))) (.con 2 (.tup [(.tup [(.str 27)]), (.tup [(.str 28)])]))))
 .nil) .nil)
 (.cons (.ret (.tup (.cons (.ite (.cmp .eq (.ix (.var 2) (.num 0)) (.txt 10)) (.var 2) (.var 3)) (.cons (.tup .nil) .nil))))
 .nil)) .nil)
 (.cons (.set (.nm 4) (.call 3 (.cons (.call 16 (.cons (.var 2) .nil)) (.cons (.call 16 (.cons (.var 3) .nil)) .nil))))
 (.cons (.ret (.call 22 (.cons (.var 0) (.cons (.var 1) (.cons (.var 4) (.cons (.call 107 (.cons (.var 1) (.cons (.ix (.var 2) (.num 1)) (.cons (.ix (.var 3) (.num 1)) .nil)))) .nil))))))
 .nil))))
def N_plus : List Str := ["form", "way", "one", "other", "both"]
def ps_plus : List Str := ["form", "way", "one", "other"]
def d_plus : Def := ⟨4, 5, b_plus⟩
def b_minus : Sts :=
 (.cons (.ret (.call 108 (.cons (.var 0) (.cons (.var 1) (.cons (.var 2) (.cons (.call 106 (.cons (.var 3) .nil)) .nil))))))
 .nil)
def N_minus : List Str := ["form", "way", "one", "other"]
def ps_minus : List Str := ["form", "way", "one", "other"]
def d_minus : Def := ⟨4, 4, b_minus⟩
def b_product : Sts :=
 (.cons (.ite (.or2 (.cmp .eq (.var 2) (.con 1 (.tup [(.str 27)]))) (.one (.cmp .eq (.var 3) (.con 1 (.tup [(.str 27)]))))) (.cons (.ret (.tup (.cons (.con 1 (.tup [(.str 27)])) (.cons (.tup .nil) .nil))))
 .nil) .nil)
 (.cons (.set (.nm 4) (.bin .mod (.bin .add (.ix (.var 2) (.num 1)) (.ix (.var 3) (.num 1))) (.num 2)))
 (.cons (.ite (.or2 (.cmp .eq (.ix (.var 2) (.num 0)) (.txt 10)) (.one (.cmp .eq (.ix (.var 3) (.num 0)) (.txt 10)))) (.cons (.ret (.ite (.cmp .isin (.txt 0) (.tup (.cons (.ix (.var 2) (.num 0)) (.cons (.ix (.var 3) (.num 0)) .nil)))) (.con 2 (.tup [(.tup [(.str 27)]), (.tup [(.str 28)])])) (.tup (.cons (.tup (.cons (.txt 10) (.cons (.var 4) .nil))) (.cons (.tup .nil) .nil)))))
 .nil) .nil)
 (.cons (.ret (.call 22 (.cons (.var 0) (.cons (.var 1) (.cons (.call 6 (.cons (.call 16 (.cons (.var 2) .nil)) (.cons (.call 16 (.cons (.var 3) .nil)) .nil))) (.cons (.var 4) .nil))))))
 .nil))))
def N_product : List Str := ["form", "way", "one", "other", "sign"]
def ps_product : List Str := ["form", "way", "one", "other"]
def d_product : Def := ⟨4, 5, b_product⟩
def b_joined : Sts :=
 (.cons (.ite (.cmp .isin (.con 1 (.tup [(.str 27)])) (.tup (.cons (.var 2) (.cons (.var 3) (.cons (.var 4) .nil))))) (.cons (.ret (.tup (.cons (.con 1 (.tup [(.str 27)])) (.cons (.tup .nil) .nil))))
 .nil) .nil)
 (.cons (.set (.nm 5) (.bin .mod (.bin .add (.ix (.var 2) (.num 1)) (.ix (.var 3) (.num 1))) (.num 2)))
 (.cons (.ite (.or2 (.cmp .eq (.ix (.var 2) (.num 0)) (.txt 10)) (.one (.cmp .eq (.ix (.var 3) (.num 0)) (.txt 10)))) (.cons (.ite (.or2 (.cmp .isin (.txt 0) (.tup (.cons (.ix (.var 2) (.num 0)) (.cons (.ix (.var 3) (.num 0)) .nil)))) (.one (.cmp .eq (.var 4) (.tup (.cons (.txt 10) (.cons (.bin .sub (.num 1) (.var 5)) .nil)))))) (.cons (.ret (.con 2 (.tup [(.tup [(.str 27)]), (.tup [(.str 28)])])))
 .nil) .nil)
 (.cons (.ret (.tup (.cons (.tup (.cons (.txt 10) (.cons (.var 5) .nil))) (.cons (.tup .nil) .nil))))
 .nil)) .nil)
 (.cons (.ite (.cmp .eq (.ix (.var 4) (.num 0)) (.txt 10)) (.cons (.ret (.tup (.cons (.var 4) (.cons (.tup .nil) .nil))))
 .nil) .nil)
 (.cons (.set (.nm 6) (.call 3 (.cons (.call 6 (.cons (.call 16 (.cons (.var 2) .nil)) (.cons (.call 16 (.cons (.var 3) .nil)) .nil))) (.cons (.call 16 (.cons (.var 4) .nil)) .nil))))
 (.cons (.ret (.call 22 (.cons (.var 0) (.cons (.var 1) (.cons (.var 6) (.cons (.call 107 (.cons (.var 1) (.cons (.var 5) (.cons (.ix (.var 4) (.num 1)) .nil)))) .nil))))))
 .nil))))))
def N_joined : List Str := ["form", "way", "one", "other", "third", "sign", "both"]
def ps_joined : List Str := ["form", "way", "one", "other", "third"]
def d_joined : Def := ⟨5, 7, b_joined⟩
def b_two_sum : Sts :=
 (.cons (.set (.nm 3) (.ix (.call 108 (.cons (.var 0) (.cons (.con 3 (.str 9)) (.cons (.var 1) (.cons (.var 2) .nil))))) (.num 0)))
 (.cons (.set (.nm 4) (.ix (.call 109 (.cons (.var 0) (.cons (.con 3 (.str 9)) (.cons (.var 3) (.cons (.var 1) .nil))))) (.num 0)))
 (.cons (.set (.nm 5) (.ix (.call 109 (.cons (.var 0) (.cons (.con 3 (.str 9)) (.cons (.var 1) (.cons (.ix (.call 109 (.cons (.var 0) (.cons (.con 3 (.str 9)) (.cons (.var 3) (.cons (.var 4) .nil))))) (.num 0)) .nil))))) (.num 0)))
 (.cons (.set (.nm 6) (.ix (.call 109 (.cons (.var 0) (.cons (.con 3 (.str 9)) (.cons (.var 2) (.cons (.var 4) .nil))))) (.num 0)))
 (.cons (.ret (.tup (.cons (.var 3) (.cons (.ix (.call 108 (.cons (.var 0) (.cons (.con 3 (.str 9)) (.cons (.var 5) (.cons (.var 6) .nil))))) (.num 0)) .nil))))
 .nil)))))
def N_two_sum : List Str := ["form", "one", "other", "whole", "part", "first", "second"]
def ps_two_sum : List Str := ["form", "one", "other"]
def d_two_sum : Def := ⟨3, 7, b_two_sum⟩
def b_quick_two_sum : Sts :=
 (.cons (.set (.nm 3) (.ix (.call 108 (.cons (.var 0) (.cons (.con 3 (.str 9)) (.cons (.var 1) (.cons (.var 2) .nil))))) (.num 0)))
 (.cons (.ret (.tup (.cons (.var 3) (.cons (.ix (.call 109 (.cons (.var 0) (.cons (.con 3 (.str 9)) (.cons (.var 2) (.cons (.ix (.call 109 (.cons (.var 0) (.cons (.con 3 (.str 9)) (.cons (.var 3) (.cons (.var 1) .nil))))) (.num 0)) .nil))))) (.num 0)) .nil))))
 .nil))
def N_quick_two_sum : List Str := ["form", "one", "other", "whole"]
def ps_quick_two_sum : List Str := ["form", "one", "other"]
def d_quick_two_sum : Def := ⟨3, 4, b_quick_two_sum⟩
def b_two_product : Sts :=
 (.cons (.set (.nm 3) (.ix (.call 110 (.cons (.var 0) (.cons (.con 3 (.str 9)) (.cons (.var 1) (.cons (.var 2) .nil))))) (.num 0)))
 (.cons (.ret (.tup (.cons (.var 3) (.cons (.ix (.call 111 (.cons (.var 0) (.cons (.con 3 (.str 9)) (.cons (.var 1) (.cons (.var 2) (.cons (.call 106 (.cons (.var 3) .nil)) .nil)))))) (.num 0)) .nil))))
 .nil))
def N_two_product : List Str := ["form", "one", "other", "whole"]
def ps_two_product : List Str := ["form", "one", "other"]
def d_two_product : Def := ⟨3, 4, b_two_product⟩
def l_grown_0 : Sts := (.cons (.set (.tp [5, 6]) (.call 112 (.cons (.var 0) (.cons (.var 5) (.cons (.var 3) .nil)))))
 (.cons (.ite (.cmp .ne (.ix (.var 6) (.num 0)) (.txt 0)) (.cons (.app 4 (.var 6))
 .nil) .nil)
 .nil))
def b_grown : Sts :=
 (.cons (.par [(4, true), (5, false)] (.cons (.lst .nil) (.cons (.var 2) .nil)))
 (.cons (.for_ (.nm 3) (.var 1) l_grown_0)
 (.cons (.ite (.or2 (.cmp .ne (.ix (.var 5) (.num 0)) (.txt 0)) (.one (.cmp .eq (.var 4) (.lst .nil)))) (.cons (.app 4 (.var 5))
 .nil) .nil)
 (.cons (.ret (.b1 .tupOf (.var 4)))
 .nil))))
def N_grown : List Str := ["form", "parts", "number", "part", "found", "carry", "lost"]
def ps_grown : List Str := ["form", "parts", "number"]
def d_grown : Def := ⟨3, 7, b_grown⟩
def l_parts_of_sum_0 : Sts := (.cons (.set (.nm 2) (.call 115 (.cons (.var 0) (.cons (.var 2) (.cons (.var 3) .nil)))))
 .nil)
def b_parts_of_sum : Sts :=
 (.cons (.set (.nm 2) (.tup .nil))
 (.cons (.for_ (.nm 3) (.var 1) l_parts_of_sum_0)
 (.cons (.ret (.var 2))
 .nil)))
def N_parts_of_sum : List Str := ["form", "numbers", "found", "number"]
def ps_parts_of_sum : List Str := ["form", "numbers"]
def d_parts_of_sum : Def := ⟨2, 4, b_parts_of_sum⟩
def l_exact_sum_0 : Sts := (.cons (.set (.nm 1) (.call 3 (.cons (.var 1) (.cons (.call 16 (.cons (.var 2) .nil)) .nil))))
 .nil)
def b_exact_sum : Sts :=
 (.cons (.set (.nm 1) (.con 0 (.tup [(.int 0), (.int 1)])))
 (.cons (.for_ (.nm 2) (.var 0) l_exact_sum_0)
 (.cons (.ret (.var 1))
 .nil)))
def N_exact_sum : List Str := ["numbers", "found", "number"]
def ps_exact_sum : List Str := ["numbers"]
def d_exact_sum : Def := ⟨1, 3, b_exact_sum⟩
def b_rounded_sum : Sts :=
 (.cons (.ret (.ix (.call 22 (.cons (.var 0) (.cons (.var 1) (.cons (.call 117 (.cons (.var 2) .nil)) (.cons (.num 0) .nil))))) (.num 0)))
 .nil)
def N_rounded_sum : List Str := ["form", "way", "numbers"]
def ps_rounded_sum : List Str := ["form", "way", "numbers"]
def d_rounded_sum : Def := ⟨3, 3, b_rounded_sum⟩
def l_plain_sum_0 : Sts := (.cons (.set (.nm 3) (.ix (.call 108 (.cons (.var 0) (.cons (.var 1) (.cons (.var 3) (.cons (.var 4) .nil))))) (.num 0)))
 .nil)
def b_plain_sum : Sts :=
 (.cons (.set (.nm 3) (.tup (.cons (.txt 0) (.cons (.num 0) .nil))))
 (.cons (.for_ (.nm 4) (.var 2) l_plain_sum_0)
 (.cons (.ret (.var 3))
 .nil)))
def N_plain_sum : List Str := ["form", "way", "numbers", "found", "number"]
def ps_plain_sum : List Str := ["form", "way", "numbers"]
def d_plain_sum : Def := ⟨3, 5, b_plain_sum⟩
def l_kept_sum_0 : Sts := (.cons (.set (.nm 5) (.ix (.call 108 (.cons (.var 0) (.cons (.con 3 (.str 9)) (.cons (.var 2) (.cons (.var 4) .nil))))) (.num 0)))
 (.cons (.set (.tp [3, 4]) (.call 112 (.cons (.var 0) (.cons (.var 3) (.cons (.var 5) .nil)))))
 .nil))
def b_kept_sum : Sts :=
 (.cons (.par [(3, false), (4, false)] (.cons (.tup (.cons (.txt 0) (.cons (.num 0) .nil))) (.cons (.tup (.cons (.txt 0) (.cons (.num 0) .nil))) .nil)))
 (.cons (.for_ (.nm 2) (.var 1) l_kept_sum_0)
 (.cons (.ret (.ix (.call 108 (.cons (.var 0) (.cons (.con 3 (.str 9)) (.cons (.var 3) (.cons (.var 4) .nil))))) (.num 0)))
 .nil)))
def N_kept_sum : List Str := ["form", "numbers", "number", "whole", "lost", "more"]
def ps_kept_sum : List Str := ["form", "numbers"]
def d_kept_sum : Def := ⟨2, 6, b_kept_sum⟩
def b_by_halves : Sts :=
 (.cons (.ite (.cmp .lt (.b1 .len (.var 2)) (.num 2)) (.cons (.ret (.ite (.cmp .eq (.b1 .len (.var 2)) (.num 1)) (.ix (.var 2) (.num 0)) (.tup (.cons (.txt 0) (.cons (.num 0) .nil)))))
 .nil) .nil)
 (.cons (.set (.nm 3) (.bin .fdiv (.b1 .len (.var 2)) (.num 2)))
 (.cons (.par [(4, false), (5, false)] (.cons (.call 121 (.cons (.var 0) (.cons (.var 1) (.cons (.sl (.var 2) .non (.var 3)) .nil)))) (.cons (.call 121 (.cons (.var 0) (.cons (.var 1) (.cons (.sl (.var 2) (.var 3) .non) .nil)))) .nil)))
 (.cons (.ret (.ix (.call 108 (.cons (.var 0) (.cons (.var 1) (.cons (.var 4) (.cons (.var 5) .nil))))) (.num 0)))
 .nil))))
def N_by_halves : List Str := ["form", "way", "numbers", "middle", "one", "other"]
def ps_by_halves : List Str := ["form", "way", "numbers"]
def d_by_halves : Def := ⟨3, 6, b_by_halves⟩
def l_kept_product_0 : Sts := (.cons (.set (.tp [6, 7]) (.call 114 (.cons (.var 0) (.cons (.var 4) (.cons (.var 5) .nil)))))
 (.cons (.set (.nm 3) (.call 115 (.cons (.var 0) (.cons (.call 115 (.cons (.var 0) (.cons (.var 3) (.cons (.var 7) .nil)))) (.cons (.var 6) .nil)))))
 .nil))
def l_kept_product_1 : Sts := (.cons (.for_ (.nm 5) (.var 2) l_kept_product_0)
 .nil)
def b_kept_product : Sts :=
 (.cons (.set (.nm 3) (.tup .nil))
 (.cons (.for_ (.nm 4) (.var 1) l_kept_product_1)
 (.cons (.ret (.var 3))
 .nil)))
def N_kept_product : List Str := ["form", "one", "other", "found", "a", "b", "whole", "lost"]
def ps_kept_product : List Str := ["form", "one", "other"]
def d_kept_product : Def := ⟨3, 8, b_kept_product⟩
def t_are_parts_0 : Tx := (.cmp .ne (.ix (.var 4) (.num 0)) (.txt 0))
def x_are_parts_1 : Ex := (.var 4)
def x_are_parts_2 : Ex := (.call 17 (.cons (.var 4) .nil))
def t_are_parts_3 : Tx := (.cmp .eq (.bin .mod (.var 5) (.num 2)) (.num 0))
def l_are_parts_4 : Sts := (.cons (.par [(5, false), (6, false)] (.cons (.bin .fdiv (.var 5) (.num 2)) (.cons (.bin .add (.var 6) (.num 1)) .nil)))
 .nil)
def l_are_parts_5 : Sts := (.cons (.par [(5, false), (6, false)] (.cons (.ix (.ix (.var 1) (.var 2)) (.num 2)) (.cons (.ix (.ix (.var 1) (.var 2)) (.num 3)) .nil)))
 (.cons (.whl t_are_parts_3 l_are_parts_4)
 (.cons (.set (.nm 3) (.call 8 (.cons (.call 16 (.cons (.ix (.var 1) (.bin .sub (.var 2) (.num 1))) .nil)) .nil)))
 (.cons (.ite (.or2 (.and2 (.cmp .ge (.var 6) (.num 0)) (.one (.cmp .ge (.ix (.var 3) (.num 0)) (.bin .shl (.ix (.var 3) (.num 1)) (.var 6))))) (.one (.and2 (.cmp .lt (.var 6) (.num 0)) (.one (.cmp .ge (.bin .shl (.ix (.var 3) (.num 0)) (.neg (.var 6))) (.ix (.var 3) (.num 1))))))) (.cons (.ret (.tt false))
 .nil) .nil)
 .nil))))
def b_are_parts : Sts :=
 (.cons (.own 1 (.compIf (.nm 4) (.var 0) t_are_parts_0 x_are_parts_1))
 (.cons (.frz 1)
 (.cons (.ite (.not (.val (.b1 .all (.comp (.nm 4) (.var 1) x_are_parts_2)))) (.cons (.ret (.tt false))
 .nil) .nil)
 (.cons (.for_ (.nm 2) (.rng2 (.num 1) (.b1 .len (.var 1))) l_are_parts_5)
 (.cons (.ret (.tt true))
 .nil)))))
def N_are_parts : List Str := ["numbers", "rows", "k", "below", "own", "whole", "power"]
def ps_are_parts : List Str := ["numbers"]
def d_are_parts : Def := ⟨1, 7, b_are_parts⟩
def l__law_draws_0 : Sts := (.cons (.ite (.cmp .gt (.var 6) (.num 0)) (.cons (.app 2 (.bin .mod (.b1 .int (.var 6)) (.num 997)))
 (.cons (.set (.nm 6) (.bin .fdiv (.var 6) (.num 997)))
 .nil)) .nil)
 .nil)
def l__law_draws_1 : Sts := (.cons (.set (.nm 5) (.b1 .abs (.b1 .int (.ix (.var 0) (.var 4)))))
 (.cons (.set (.nm 3) (.bin .mod (.b1 .int (.bin .add (.bin .add (.bin .mul (.var 3) (.num 48271)) (.bin .mod (.var 5) (.num 1000003))) (.var 4))) (.num 65537)))
 (.cons (.set (.nm 6) (.num 0))
 (.cons (.ite (.cmp .ge (.var 5) (.bin .pow (.num 10) (.num 18))) (.cons (.set (.nm 6) (.var 5))
 .nil) (.cons (.app 2 (.bin .mod (.b1 .int (.var 5)) (.num 997)))
 (.cons (.app 2 (.bin .mod (.bin .mod (.b1 .int (.bin .add (.bin .mul (.var 3) (.num 69621)) (.num 5))) (.num 65521)) (.num 997)))
 .nil)))
 (.cons (.for_ (.nm 7) (.rng (.num 60)) l__law_draws_0)
 .nil)))))
def l__law_draws_2 : Sts := (.cons (.set (.nm 3) (.bin .mod (.b1 .int (.bin .add (.bin .add (.bin .mul (.var 3) (.num 16807)) (.var 4)) (.num 1))) (.num 65537)))
 (.cons (.app 2 (.bin .mod (.b1 .int (.var 3)) (.num 997)))
 .nil))
def b__law_draws : Sts :=
 (.cons (.own 2 (.lst .nil))
 (.cons (.set (.nm 3) (.num 7))
 (.cons (.for_ (.nm 4) (.rng (.b1 .len (.var 0))) l__law_draws_1)
 (.cons (.for_ (.nm 4) (.rng (.var 1)) l__law_draws_2)
 (.cons (.ret (.sl (.var 2) .non (.var 1)))
 .nil)))))
def N__law_draws : List Str := ["script", "many", "draws", "mixed", "k", "cell", "rest", "turn"]
def ps__law_draws : List Str := ["script", "many"]
def d__law_draws : Def := ⟨2, 8, b__law_draws⟩
def b__law_next : Sts :=
 (.cons (.waug 0 24 .add (.num 1))
 (.cons (.ite (.cmp .gt (.ix (.var 0) (.txt 24)) (.b1 .len (.ix (.var 0) (.txt 25)))) (.cons (.ret (.num 0))
 .nil) .nil)
 (.cons (.ret (.bin .mod (.b1 .int (.ix (.ix (.var 0) (.txt 25)) (.bin .sub (.ix (.var 0) (.txt 24)) (.num 1)))) (.var 1)))
 .nil)))
def N__law_next : List Str := ["w", "many"]
def ps__law_next : List Str := ["w", "many"]
def d__law_next : Def := ⟨2, 2, b__law_next⟩
def t__law_same_0 : Tx := (.cmp .ne (.var 2) (.lst .nil))
def t__law_same_1 : Tx := (.cmp .notin (.var 6) (.var 3))
def x__law_same_2 : Ex := (.var 6)
def x__law_same_3 : Ex := (.tup (.cons (.var 6) (.cons (.var 6) .nil)))
def x__law_same_4 : Ex := (.tup (.cons (.ix (.var 3) (.var 6)) (.cons (.ix (.var 4) (.var 6)) .nil)))
def x__law_same_5 : Ex := (.tup (.cons (.ix (.var 5) (.var 6)) (.cons (.var 6) .nil)))
def x__law_same_6 : Ex := (.tup (.cons (.ix (.var 3) (.var 7)) (.cons (.ix (.var 4) (.var 7)) .nil)))
def l__law_same_7 : Sts := (.cons (.pop (.tp [3, 4]) 2)
 (.cons (.ite (.val (.isi .dict (.var 4))) (.cons (.ite (.or2 (.not (.val (.isi .dict (.var 3)))) (.or2 (.cmp .ne (.b1 .len (.var 3)) (.b1 .len (.var 4))) (.one (.cmp .ne (.compIf (.nm 6) (.var 4) t__law_same_1 x__law_same_2) (.lst .nil))))) (.cons (.ret (.tt false))
 .nil) .nil)
 (.cons (.set (.nm 5) (.b1 .dictOf (.comp (.nm 6) (.var 3) x__law_same_3)))
 (.cons (.ext 2 (.bin .add (.comp (.nm 6) (.var 4) x__law_same_4) (.comp (.nm 6) (.var 4) x__law_same_5)))
 .nil))) (.cons (.ite (.or2 (.val (.isi .tuple (.var 4))) (.one (.val (.isi .list (.var 4))))) (.cons (.ite (.or2 (.cmp .ne (.isi .tuple (.var 3)) (.isi .tuple (.var 4))) (.or2 (.cmp .ne (.isi .list (.var 3)) (.isi .list (.var 4))) (.one (.cmp .ne (.b1 .len (.var 3)) (.b1 .len (.var 4)))))) (.cons (.ret (.tt false))
 .nil) .nil)
 (.cons (.ext 2 (.comp (.nm 7) (.rng (.b1 .len (.var 4))) x__law_same_6))
 .nil)) (.cons (.ite (.or2 (.cmp .ne (.isi .bool (.var 3)) (.isi .bool (.var 4))) (.or2 (.cmp .ne (.isi .int (.var 3)) (.isi .int (.var 4))) (.or2 (.cmp .ne (.isi .str (.var 3)) (.isi .str (.var 4))) (.one (.cmp .ne (.var 3) (.var 4)))))) (.cons (.ret (.tt false))
 .nil) .nil)
 .nil))
 .nil))
 .nil))
def b__law_same : Sts :=
 (.cons (.own 2 (.lst (.cons (.tup (.cons (.var 0) (.cons (.var 1) .nil))) .nil)))
 (.cons (.whl t__law_same_0 l__law_same_7)
 (.cons (.ret (.tt true))
 .nil)))
def N__law_same : List Str := ["seen", "due", "waiting", "one", "other", "keys", "key", "k"]
def ps__law_same : List Str := ["seen", "due"]
def d__law_same : Def := ⟨2, 8, b__law_same⟩
def t__law_least_0 : Tx := (.cmp .gt (.var 3) (.num 0))
def l__law_least_1 : Sts := (.cons (.par [(2, false), (3, false)] (.cons (.var 3) (.cons (.bin .mod (.b1 .int (.var 2)) (.var 3)) .nil)))
 .nil)
def b__law_least : Sts :=
 (.cons (.par [(2, false), (3, false)] (.cons (.b1 .abs (.var 0)) (.cons (.b1 .abs (.var 1)) .nil)))
 (.cons (.whl t__law_least_0 l__law_least_1)
 (.cons (.set (.nm 2) (.ite (.cmp .gt (.var 1) (.num 0)) (.var 2) (.bin .sub (.num 0) (.var 2))))
 (.cons (.ret (.tup (.cons (.bin .fdiv (.var 0) (.var 2)) (.cons (.bin .fdiv (.var 1) (.var 2)) .nil))))
 .nil))))
def N__law_least : List Str := ["a", "b", "one", "other"]
def ps__law_least : List Str := ["a", "b"]
def d__law_least : Def := ⟨2, 4, b__law_least⟩
def l__law_sum_2_0 : Sts := (.cons (.set (.tp [1, 2]) (.call 65 (.cons (.bin .add (.bin .mul (.var 1) (.var 4)) (.bin .mul (.var 3) (.var 2))) (.cons (.bin .mul (.var 2) (.var 4)) .nil))))
 .nil)
def b__law_sum_2 : Sts :=
 (.cons (.par [(1, false), (2, false)] (.cons (.num 0) (.cons (.num 1) .nil)))
 (.cons (.for_ (.tp [3, 4]) (.var 0) l__law_sum_2_0)
 (.cons (.ret (.tup (.cons (.var 1) (.cons (.var 2) .nil))))
 .nil)))
def N__law_sum_2 : List Str := ["rows", "upper", "lower", "a", "b"]
def ps__law_sum_2 : List Str := ["rows"]
def d__law_sum_2 : Def := ⟨1, 5, b__law_sum_2⟩
def b__law_val_2 : Sts :=
 (.cons (.ite (.cmp .eq (.ix (.var 0) (.num 0)) (.txt 0)) (.cons (.ret (.tup (.cons (.num 0) (.cons (.num 1) .nil))))
 .nil) .nil)
 (.cons (.set (.nm 1) (.bin .sub (.num 1) (.bin .mul (.num 2) (.ix (.var 0) (.num 1)))))
 (.cons (.ret (.ite (.cmp .ge (.ix (.var 0) (.num 3)) (.num 0)) (.call 65 (.cons (.bin .shl (.bin .mul (.var 1) (.ix (.var 0) (.num 2))) (.ix (.var 0) (.num 3))) (.cons (.num 1) .nil))) (.call 65 (.cons (.bin .mul (.var 1) (.ix (.var 0) (.num 2))) (.cons (.bin .shl (.num 1) (.bin .sub (.num 0) (.ix (.var 0) (.num 3)))) .nil)))))
 .nil)))
def N__law_val_2 : List Str := ["number", "sign"]
def ps__law_val_2 : List Str := ["number"]
def d__law_val_2 : Def := ⟨1, 2, b__law_val_2⟩
def b__law_less : Sts :=
 (.cons (.ret (.cmp .lt (.bin .mul (.ix (.var 0) (.num 0)) (.ix (.var 1) (.num 1))) (.bin .mul (.ix (.var 1) (.num 0)) (.ix (.var 0) (.num 1)))))
 .nil)
def N__law_less : List Str := ["one", "other"]
def ps__law_less : List Str := ["one", "other"]
def d__law_less : Def := ⟨2, 2, b__law_less⟩
def b__law_mul_2 : Sts :=
 (.cons (.ret (.call 65 (.cons (.bin .mul (.ix (.var 0) (.num 0)) (.ix (.var 1) (.num 0))) (.cons (.bin .mul (.ix (.var 0) (.num 1)) (.ix (.var 1) (.num 1))) .nil))))
 .nil)
def N__law_mul_2 : List Str := ["one", "other"]
def ps__law_mul_2 : List Str := ["one", "other"]
def d__law_mul_2 : Def := ⟨2, 2, b__law_mul_2⟩
def b__law_off : Sts :=
 (.cons (.ret (.tup (.cons (.bin .sub (.num 0) (.ix (.var 0) (.num 0))) (.cons (.ix (.var 0) (.num 1)) .nil))))
 .nil)
def N__law_off : List Str := ["one"]
def ps__law_off : List Str := ["one"]
def d__law_off : Def := ⟨1, 1, b__law_off⟩
def b__law_size : Sts :=
 (.cons (.ret (.tup (.cons (.b2 .max (.ix (.var 0) (.num 0)) (.bin .sub (.num 0) (.ix (.var 0) (.num 0)))) (.cons (.ix (.var 0) (.num 1)) .nil))))
 .nil)
def N__law_size : List Str := ["one"]
def ps__law_size : List Str := ["one"]
def d__law_size : Def := ⟨1, 1, b__law_size⟩
def b__law_two : Sts :=
 (.cons (.ret (.ite (.cmp .ge (.var 0) (.num 0)) (.tup (.cons (.bin .shl (.num 1) (.var 0)) (.cons (.num 1) .nil))) (.tup (.cons (.num 1) (.cons (.bin .shl (.num 1) (.bin .sub (.num 0) (.var 0))) .nil)))))
 .nil)
def N__law_two : List Str := ["by"]
def ps__law_two : List Str := ["by"]
def d__law_two : Def := ⟨1, 1, b__law_two⟩
def b__law_drawn : Sts :=
 (.cons (.ite (.cmp .eq (.call 62 (.cons (.var 0) (.cons (.num 7) .nil))) (.num 0)) (.cons (.ret (.tup (.cons (.txt 0) (.cons (.call 62 (.cons (.var 0) (.cons (.num 2) .nil))) .nil))))
 .nil) .nil)
 (.cons (.set (.nm 2) (.bin .add (.bin .shl (.num 1) (.bin .sub (.ix (.var 1) (.num 0)) (.num 1))) (.call 62 (.cons (.var 0) (.cons (.bin .shl (.num 1) (.bin .sub (.ix (.var 1) (.num 0)) (.num 1))) .nil)))))
 (.cons (.ret (.tup (.cons (.txt 1) (.cons (.call 62 (.cons (.var 0) (.cons (.num 2) .nil))) (.cons (.var 2) (.cons (.bin .add (.bin .sub (.num 0) (.num 4)) (.call 62 (.cons (.var 0) (.cons (.num 9) .nil)))) .nil))))))
 .nil)))
def N__law_drawn : List Str := ["w", "form", "whole"]
def ps__law_drawn : List Str := ["w", "form"]
def d__law_drawn : Def := ⟨2, 3, b__law_drawn⟩
def l__law_plainly_0 : Sts := (.cons (.set (.nm 2) (.ix (.call 108 (.cons (.var 0) (.cons (.txt 9) (.cons (.var 2) (.cons (.var 3) .nil))))) (.num 0)))
 .nil)
def b__law_plainly : Sts :=
 (.cons (.set (.nm 2) (.tup (.cons (.txt 0) (.cons (.num 0) .nil))))
 (.cons (.for_ (.nm 3) (.var 1) l__law_plainly_0)
 (.cons (.ret (.var 2))
 .nil)))
def N__law_plainly : List Str := ["form", "numbers", "found", "own"]
def ps__law_plainly : List Str := ["form", "numbers"]
def d__law_plainly : Def := ⟨2, 4, b__law_plainly⟩
def b__law_halved : Sts :=
 (.cons (.ite (.cmp .eq (.b1 .len (.var 1)) (.num 1)) (.cons (.ret (.ix (.var 1) (.num 0)))
 .nil) .nil)
 (.cons (.set (.nm 2) (.bin .fdiv (.b1 .len (.var 1)) (.num 2)))
 (.cons (.ret (.ix (.call 108 (.cons (.var 0) (.cons (.txt 9) (.cons (.call 129 (.cons (.var 0) (.cons (.sl (.var 1) .non (.var 2)) .nil))) (.cons (.call 129 (.cons (.var 0) (.cons (.sl (.var 1) (.var 2) .non) .nil))) .nil))))) (.num 0)))
 .nil)))
def N__law_halved : List Str := ["form", "numbers", "middle"]
def ps__law_halved : List Str := ["form", "numbers"]
def d__law_halved : Def := ⟨2, 3, b__law_halved⟩
def x__law_all_0 : Ex := (.call 125 (.cons (.var 1) .nil))
def b__law_all : Sts :=
 (.cons (.ret (.call 124 (.cons (.comp (.nm 1) (.var 0) x__law_all_0) .nil)))
 .nil)
def N__law_all : List Str := ["numbers", "own"]
def ps__law_all : List Str := ["numbers"]
def d__law_all : Def := ⟨1, 2, b__law_all⟩
def l__law_kept_sum_0 : Sts := (.cons (.set (.nm 5) (.ix (.call 108 (.cons (.var 0) (.cons (.txt 9) (.cons (.var 2) (.cons (.var 4) .nil))))) (.num 0)))
 (.cons (.set (.nm 6) (.ix (.call 108 (.cons (.var 0) (.cons (.txt 9) (.cons (.var 3) (.cons (.var 5) .nil))))) (.num 0)))
 (.cons (.set (.nm 7) (.call 124 (.cons (.lst (.cons (.call 125 (.cons (.var 3) .nil)) (.cons (.call 125 (.cons (.var 5) .nil)) (.cons (.call 72 (.cons (.call 125 (.cons (.var 6) .nil)) .nil)) .nil)))) .nil)))
 (.cons (.par [(3, false), (4, false)] (.cons (.var 6) (.cons (.ix (.call 22 (.cons (.var 0) (.cons (.txt 9) (.cons (.var 7) (.cons (.num 0) .nil))))) (.num 0)) .nil)))
 .nil))))
def b__law_kept_sum : Sts :=
 (.cons (.par [(3, false), (4, false)] (.cons (.tup (.cons (.txt 0) (.cons (.num 0) .nil))) (.cons (.tup (.cons (.txt 0) (.cons (.num 0) .nil))) .nil)))
 (.cons (.for_ (.nm 2) (.var 1) l__law_kept_sum_0)
 (.cons (.ret (.ix (.call 108 (.cons (.var 0) (.cons (.txt 9) (.cons (.var 3) (.cons (.var 4) .nil))))) (.num 0)))
 .nil)))
def N__law_kept_sum : List Str := ["form", "numbers", "own", "whole", "lost", "more", "later", "rest"]
def ps__law_kept_sum : List Str := ["form", "numbers"]
def d__law_kept_sum : Def := ⟨2, 8, b__law_kept_sum⟩
def t__law_apart_0 : Tx := (.cmp .ne (.ix (.var 3) (.num 0)) (.txt 0))
def x__law_apart_1 : Ex := (.var 3)
def t__law_apart_2 : Tx := (.cmp .eq (.bin .mod (.b1 .int (.var 4)) (.num 2)) (.num 0))
def l__law_apart_3 : Sts := (.cons (.par [(4, false), (5, false)] (.cons (.bin .fdiv (.var 4) (.num 2)) (.cons (.bin .add (.var 5) (.num 1)) .nil)))
 .nil)
def l__law_apart_4 : Sts := (.cons (.par [(4, false), (5, false)] (.cons (.ix (.ix (.var 1) (.var 2)) (.num 2)) (.cons (.ix (.ix (.var 1) (.var 2)) (.num 3)) .nil)))
 (.cons (.whl t__law_apart_2 l__law_apart_3)
 (.cons (.ite (.not (.val (.call 69 (.cons (.call 73 (.cons (.call 125 (.cons (.ix (.var 1) (.bin .sub (.var 2) (.num 1))) .nil)) .nil)) (.cons (.call 76 (.cons (.var 5) .nil)) .nil))))) (.cons (.ret (.tt false))
 .nil) .nil)
 .nil)))
def b__law_apart : Sts :=
 (.cons (.own 1 (.compIf (.nm 3) (.var 0) t__law_apart_0 x__law_apart_1))
 (.cons (.frz 1)
 (.cons (.for_ (.nm 2) (.rng2 (.num 1) (.b1 .len (.var 1))) l__law_apart_4)
 (.cons (.ret (.tt true))
 .nil))))
def N__law_apart : List Str := ["numbers", "rows", "k", "own", "whole", "power"]
def ps__law_apart : List Str := ["numbers"]
def d__law_apart : Def := ⟨1, 6, b__law_apart⟩
def t__law_good_0 : Tx := (.or2 (.not (.val (.isi .tuple (.var 3)))) (.or2 (.cmp .notB (.call 104 (.cons (.var 0) (.cons (.var 3) .nil))) (.tt true)) (.one (.cmp .notin (.ix (.var 3) (.num 0)) (.tup (.cons (.txt 1) (.cons (.txt 0) .nil)))))))
def x__law_good_1 : Ex := (.var 3)
def t__law_good_2 : Tx := (.cmp .eq (.ix (.var 3) (.num 0)) (.txt 0))
def x__law_good_3 : Ex := (.var 3)
def b__law_good : Sts :=
 (.cons (.ite (.or2 (.not (.val (.isi .tuple (.var 1)))) (.one (.cmp .ne (.compIf (.nm 3) (.var 1) t__law_good_0 x__law_good_1) (.lst .nil)))) (.cons (.ret (.tt false))
 .nil) .nil)
 (.cons (.ret (.andv (.cmp .eq (.call 130 (.cons (.var 1) .nil)) (.var 2)) (.one (.orv (.cmp .eq (.compIf (.nm 3) (.var 1) t__law_good_2 x__law_good_3) (.lst .nil)) (.one (.andv (.cmp .eq (.var 2) (.tup (.cons (.num 0) (.cons (.num 1) .nil)))) (.one (.cmp .eq (.b1 .len (.var 1)) (.num 1)))))))))
 .nil))
def N__law_good : List Str := ["form", "numbers", "due", "own"]
def ps__law_good : List Str := ["form", "numbers", "due"]
def d__law_good : Def := ⟨3, 4, b__law_good⟩
def l_law_2_0 : Sts := (.cons (.ite (.or2 (.not (.val (.isi .tuple (.var 10)))) (.or2 (.cmp .ne (.b1 .len (.var 10)) (.num 2)) (.or2 (.not (.val (.call 64 (.cons (.ix (.var 10) (.num 0)) (.cons (.var 11) .nil))))) (.or2 (.cmp .notB (.call 104 (.cons (.var 3) (.cons (.ix (.var 10) (.num 1)) .nil))) (.tt true)) (.one (.cmp .ne (.call 130 (.cons (.var 10) .nil)) (.var 12))))))) (.cons (.ret (.tt false))
 .nil) .nil)
 .nil)
def x_law_2_1 : Ex := (.call 127 (.cons (.var 1) (.cons (.var 3) .nil)))
def x_law_2_2 : Ex := (.call 127 (.cons (.var 1) (.cons (.var 3) .nil)))
def l_law_2_3 : Sts := (.cons (.set (.nm 3) (.tup (.cons (.bin .add (.num 3) (.call 62 (.cons (.var 1) (.cons (.num 6) .nil)))) (.cons (.neg (.num 30)) (.cons (.num 30) .nil)))))
 (.cons (.par [(7, false), (8, false)] (.cons (.call 127 (.cons (.var 1) (.cons (.var 3) .nil))) (.cons (.call 127 (.cons (.var 1) (.cons (.var 3) .nil))) .nil)))
 (.cons (.par [(4, false), (9, false)] (.cons (.call 112 (.cons (.var 3) (.cons (.var 7) (.cons (.var 8) .nil)))) (.cons (.call 114 (.cons (.var 3) (.cons (.var 7) (.cons (.var 8) .nil)))) .nil)))
 (.cons (.for_ (.tp [10, 11, 12]) (.tup (.cons (.tup (.cons (.var 4) (.cons (.ix (.call 108 (.cons (.var 3) (.cons (.txt 9) (.cons (.var 7) (.cons (.var 8) .nil))))) (.num 0)) (.cons (.call 130 (.cons (.lst (.cons (.var 7) (.cons (.var 8) .nil))) .nil)) .nil)))) (.cons (.tup (.cons (.var 9) (.cons (.ix (.call 110 (.cons (.var 3) (.cons (.txt 9) (.cons (.var 7) (.cons (.var 8) .nil))))) (.num 0)) (.cons (.call 126 (.cons (.call 125 (.cons (.var 7) .nil)) (.cons (.call 125 (.cons (.var 8) .nil)) .nil))) .nil)))) .nil))) l_law_2_0)
 (.cons (.set (.tp [13, 14]) (.ite (.val (.call 69 (.cons (.call 73 (.cons (.call 125 (.cons (.var 7) .nil)) .nil)) (.cons (.call 73 (.cons (.call 125 (.cons (.var 8) .nil)) .nil)) .nil)))) (.tup (.cons (.var 8) (.cons (.var 7) .nil))) (.tup (.cons (.var 7) (.cons (.var 8) .nil)))))
 (.cons (.set (.nm 4) (.call 113 (.cons (.var 3) (.cons (.var 13) (.cons (.var 14) .nil)))))
 (.cons (.ite (.or2 (.not (.val (.call 64 (.cons (.ix (.var 4) (.num 0)) (.cons (.ix (.call 108 (.cons (.var 3) (.cons (.txt 9) (.cons (.var 13) (.cons (.var 14) .nil))))) (.num 0)) .nil))))) (.or2 (.cmp .notB (.call 104 (.cons (.var 3) (.cons (.ix (.var 4) (.num 1)) .nil))) (.tt true)) (.one (.cmp .ne (.call 130 (.cons (.var 4) .nil)) (.call 130 (.cons (.lst (.cons (.var 7) (.cons (.var 8) .nil))) .nil)))))) (.cons (.ret (.tt false))
 .nil) .nil)
 (.cons (.set (.nm 5) (.b1 .tupOf (.comp (.nm 18) (.rng (.bin .add (.num 1) (.call 62 (.cons (.var 1) (.cons (.num 7) .nil))))) x_law_2_1)))
 (.cons (.par [(15, false), (12, false)] (.cons (.call 116 (.cons (.var 3) (.cons (.var 5) .nil))) (.cons (.call 130 (.cons (.var 5) .nil)) .nil)))
 (.cons (.ite (.or2 (.not (.val (.call 133 (.cons (.var 3) (.cons (.var 15) (.cons (.var 12) .nil)))))) (.one (.not (.val (.call 64 (.cons (.call 117 (.cons (.var 5) .nil)) (.cons (.var 12) .nil))))))) (.cons (.ret (.tt false))
 .nil) .nil)
 (.cons (.ite (.not (.val (.call 133 (.cons (.var 3) (.cons (.call 115 (.cons (.var 3) (.cons (.var 15) (.cons (.var 7) .nil)))) (.cons (.call 124 (.cons (.lst (.cons (.var 12) (.cons (.call 125 (.cons (.var 7) .nil)) .nil))) .nil)) .nil)))))) (.cons (.ret (.tt false))
 .nil) .nil)
 (.cons (.set (.nm 6) (.b1 .tupOf (.comp (.nm 18) (.rng (.bin .add (.num 1) (.call 62 (.cons (.var 1) (.cons (.num 2) .nil))))) x_law_2_2)))
 (.cons (.ite (.not (.val (.call 133 (.cons (.var 3) (.cons (.call 122 (.cons (.var 3) (.cons (.sl (.var 5) .non (.num 2)) (.cons (.var 6) .nil)))) (.cons (.call 126 (.cons (.call 130 (.cons (.sl (.var 5) .non (.num 2)) .nil)) (.cons (.call 130 (.cons (.var 6) .nil)) .nil))) .nil)))))) (.cons (.ret (.tt false))
 .nil) .nil)
 (.cons (.ite (.or2 (.not (.val (.call 64 (.cons (.call 119 (.cons (.var 3) (.cons (.txt 9) (.cons (.var 5) .nil)))) (.cons (.call 128 (.cons (.var 3) (.cons (.var 5) .nil))) .nil))))) (.one (.not (.val (.call 64 (.cons (.call 121 (.cons (.var 3) (.cons (.txt 9) (.cons (.var 5) .nil)))) (.cons (.call 129 (.cons (.var 3) (.cons (.var 5) .nil))) .nil))))))) (.cons (.ret (.tt false))
 .nil) .nil)
 (.cons (.ite (.not (.val (.call 64 (.cons (.call 118 (.cons (.var 3) (.cons (.txt 9) (.cons (.var 5) .nil)))) (.cons (.ix (.call 22 (.cons (.var 3) (.cons (.txt 9) (.cons (.var 12) (.cons (.num 0) .nil))))) (.num 0)) .nil))))) (.cons (.ret (.tt false))
 .nil) .nil)
 (.cons (.par [(16, false), (17, false)] (.cons (.call 120 (.cons (.var 3) (.cons (.var 5) .nil))) (.cons (.call 131 (.cons (.var 3) (.cons (.var 5) .nil))) .nil)))
 (.cons (.ite (.or2 (.cmp .notin (.ix (.var 16) (.num 0)) (.tup (.cons (.txt 1) (.cons (.txt 0) .nil)))) (.or2 (.cmp .ne (.call 125 (.cons (.var 16) .nil)) (.call 125 (.cons (.var 17) .nil))) (.or2 (.not (.val (.call 64 (.cons (.call 123 (.cons (.var 5) .nil)) (.cons (.call 132 (.cons (.var 5) .nil)) .nil))))) (.one (.not (.val (.call 64 (.cons (.call 123 (.cons (.var 15) .nil)) (.cons (.call 132 (.cons (.var 15) .nil)) .nil))))))))) (.cons (.ret (.tt false))
 .nil) .nil)
 .nil)))))))))))))))))
def b_law_2 : Sts :=
 (.cons (.mkw 1 25 24 (.call 61 (.cons (.var 0) (.cons (.num 320) .nil))) (.num 0))
 (.cons (.for_ (.nm 2) (.rng (.num 4)) l_law_2_3)
 (.cons (.ret (.tt true))
 .nil)))
def N_law_2 : List Str := ["script", "w", "time", "form", "told", "numbers", "some", "one", "other", "more", "own", "whole", "due", "large", "small", "parts", "kept", "mine", "k"]
def ps_law_2 : List Str := ["script"]
def d_law_2 : Def := ⟨1, 19, b_law_2⟩
def P : Nat → Option Def
  | 102 => some d_is_number
  | 103 => some d_is_from
  | 0 => some d_bits_of
  | 1 => some d_common
  | 2 => some d_fraction
  | 3 => some d_added
  | 6 => some d_times
  | 8 => some d_size
  | 9 => some d_is_less
  | 10 => some d_is_most
  | 13 => some d_two_to
  | 14 => some d_shifted
  | 15 => some d_exponent_of
  | 104 => some d_is_of
  | 105 => some d_is_sign
  | 16 => some d_value_of
  | 17 => some d_is_finite
  | 18 => some d_greatest_of
  | 19 => some d_least_full
  | 106 => some d_turned
  | 20 => some d_unit_at
  | 21 => some d_is_raised
  | 22 => some d_rounded
  | 23 => some d_marks_of
  | 24 => some d_beyond
  | 107 => some d_sign_when_nothing
  | 108 => some d_plus
  | 109 => some d_minus
  | 110 => some d_product
  | 111 => some d_joined
  | 112 => some d_two_sum
  | 113 => some d_quick_two_sum
  | 114 => some d_two_product
  | 115 => some d_grown
  | 116 => some d_parts_of_sum
  | 117 => some d_exact_sum
  | 118 => some d_rounded_sum
  | 119 => some d_plain_sum
  | 120 => some d_kept_sum
  | 121 => some d_by_halves
  | 122 => some d_kept_product
  | 123 => some d_are_parts
  | 61 => some d__law_draws
  | 62 => some d__law_next
  | 64 => some d__law_same
  | 65 => some d__law_least
  | 124 => some d__law_sum_2
  | 125 => some d__law_val_2
  | 69 => some d__law_less
  | 126 => some d__law_mul_2
  | 72 => some d__law_off
  | 73 => some d__law_size
  | 76 => some d__law_two
  | 127 => some d__law_drawn
  | 128 => some d__law_plainly
  | 129 => some d__law_halved
  | 130 => some d__law_all
  | 131 => some d__law_kept_sum
  | 132 => some d__law_apart
  | 133 => some d__law_good
  | _ => none
def fn : Nat → List Str
  | 102 => ["is_number"]
  | 103 => ["is_from"]
  | 0 => ["bits_of"]
  | 1 => ["common"]
  | 2 => ["fraction"]
  | 3 => ["added"]
  | 6 => ["times"]
  | 8 => ["size"]
  | 9 => ["is_less"]
  | 10 => ["is_most"]
  | 13 => ["two_to"]
  | 14 => ["shifted"]
  | 15 => ["exponent_of"]
  | 104 => ["is_of"]
  | 105 => ["is_sign"]
  | 16 => ["value_of"]
  | 17 => ["is_finite"]
  | 18 => ["greatest_of"]
  | 19 => ["least_full"]
  | 106 => ["turned"]
  | 20 => ["unit_at"]
  | 21 => ["is_raised"]
  | 22 => ["rounded"]
  | 23 => ["marks_of"]
  | 24 => ["beyond"]
  | 107 => ["sign_when_nothing"]
  | 108 => ["plus"]
  | 109 => ["minus"]
  | 110 => ["product"]
  | 111 => ["joined"]
  | 112 => ["two_sum"]
  | 113 => ["quick_two_sum"]
  | 114 => ["two_product"]
  | 115 => ["grown"]
  | 116 => ["parts_of_sum"]
  | 117 => ["exact_sum"]
  | 118 => ["rounded_sum"]
  | 119 => ["plain_sum"]
  | 120 => ["kept_sum"]
  | 121 => ["by_halves"]
  | 122 => ["kept_product"]
  | 123 => ["are_parts"]
  | 61 => ["_law_draws"]
  | 62 => ["_law_next"]
  | 64 => ["_law_same"]
  | 65 => ["_law_least"]
  | 124 => ["_law_sum"]
  | 125 => ["_law_val"]
  | 69 => ["_law_less"]
  | 126 => ["_law_mul"]
  | 72 => ["_law_off"]
  | 73 => ["_law_size"]
  | 76 => ["_law_two"]
  | 127 => ["_law_drawn"]
  | 128 => ["_law_plainly"]
  | 129 => ["_law_halved"]
  | 130 => ["_law_all"]
  | 131 => ["_law_kept_sum"]
  | 132 => ["_law_apart"]
  | 133 => ["_law_good"]
  | _ => []
def co : Nat → Option (Str × D)
  | 0 => some ("NOTHING", (.tup [(.int 0), (.int 1)]))
  | 1 => some ("NONE", (.tup [(.str 27)]))
  | 2 => some ("WRONG", (.tup [(.tup [(.str 27)]), (.tup [(.str 28)])]))
  | 3 => some ("WAY", (.str 9))
  | _ => none
def Tl : List Str := ["nothing", "number", "cut", "up", "down", "away", "overflow", "inexact", "underflow", "even", "endless", "%11", "%12", "%13", "%14", "%15", "%16", "%17", "%18", "%19", "%20", "%21", "%22", "%23", "at", "draws", "%26", "none", "invalid"]
def T : Nat → Str := TT Tl
def at_ (i : Nat) : Stmt := PySem.Challenge.pw_roundedwithin_k44_whole_parts_of_sums_in.main.body.getD i (.Pass ⟨0, 0, 0, 0⟩)
theorem ok_is_number : okSs ⟨N_is_number, T, fn, co⟩ b_is_number (defScope (at_ 1)) (defBody (at_ 1)) = true := by decide +kernel
theorem ok_is_from : okSs ⟨N_is_from, T, fn, co⟩ b_is_from (defScope (at_ 2)) (defBody (at_ 2)) = true := by decide +kernel
theorem ok_bits_of : okSs ⟨N_bits_of, T, fn, co⟩ b_bits_of (defScope (at_ 3)) (defBody (at_ 3)) = true := by decide +kernel
theorem ok_common : okSs ⟨N_common, T, fn, co⟩ b_common (defScope (at_ 6)) (defBody (at_ 6)) = true := by decide +kernel
theorem ok_fraction : okSs ⟨N_fraction, T, fn, co⟩ b_fraction (defScope (at_ 7)) (defBody (at_ 7)) = true := by decide +kernel
theorem ok_added : okSs ⟨N_added, T, fn, co⟩ b_added (defScope (at_ 8)) (defBody (at_ 8)) = true := by decide +kernel
theorem ok_times : okSs ⟨N_times, T, fn, co⟩ b_times (defScope (at_ 9)) (defBody (at_ 9)) = true := by decide +kernel
theorem ok_size : okSs ⟨N_size, T, fn, co⟩ b_size (defScope (at_ 10)) (defBody (at_ 10)) = true := by decide +kernel
theorem ok_is_less : okSs ⟨N_is_less, T, fn, co⟩ b_is_less (defScope (at_ 11)) (defBody (at_ 11)) = true := by decide +kernel
theorem ok_is_most : okSs ⟨N_is_most, T, fn, co⟩ b_is_most (defScope (at_ 12)) (defBody (at_ 12)) = true := by decide +kernel
theorem ok_two_to : okSs ⟨N_two_to, T, fn, co⟩ b_two_to (defScope (at_ 13)) (defBody (at_ 13)) = true := by decide +kernel
theorem ok_shifted : okSs ⟨N_shifted, T, fn, co⟩ b_shifted (defScope (at_ 14)) (defBody (at_ 14)) = true := by decide +kernel
theorem ok_exponent_of : okSs ⟨N_exponent_of, T, fn, co⟩ b_exponent_of (defScope (at_ 15)) (defBody (at_ 15)) = true := by decide +kernel
theorem ok_is_of : okSs ⟨N_is_of, T, fn, co⟩ b_is_of (defScope (at_ 17)) (defBody (at_ 17)) = true := by decide +kernel
theorem ok_is_sign : okSs ⟨N_is_sign, T, fn, co⟩ b_is_sign (defScope (at_ 18)) (defBody (at_ 18)) = true := by decide +kernel
theorem ok_value_of : okSs ⟨N_value_of, T, fn, co⟩ b_value_of (defScope (at_ 19)) (defBody (at_ 19)) = true := by decide +kernel
theorem ok_is_finite : okSs ⟨N_is_finite, T, fn, co⟩ b_is_finite (defScope (at_ 20)) (defBody (at_ 20)) = true := by decide +kernel
theorem ok_greatest_of : okSs ⟨N_greatest_of, T, fn, co⟩ b_greatest_of (defScope (at_ 21)) (defBody (at_ 21)) = true := by decide +kernel
theorem ok_least_full : okSs ⟨N_least_full, T, fn, co⟩ b_least_full (defScope (at_ 22)) (defBody (at_ 22)) = true := by decide +kernel
theorem ok_turned : okSs ⟨N_turned, T, fn, co⟩ b_turned (defScope (at_ 23)) (defBody (at_ 23)) = true := by decide +kernel
theorem ok_unit_at : okSs ⟨N_unit_at, T, fn, co⟩ b_unit_at (defScope (at_ 24)) (defBody (at_ 24)) = true := by decide +kernel
theorem ok_is_raised : okSs ⟨N_is_raised, T, fn, co⟩ b_is_raised (defScope (at_ 26)) (defBody (at_ 26)) = true := by decide +kernel
theorem ok_rounded : okSs ⟨N_rounded, T, fn, co⟩ b_rounded (defScope (at_ 27)) (defBody (at_ 27)) = true := by decide +kernel
theorem ok_marks_of : okSs ⟨N_marks_of, T, fn, co⟩ b_marks_of (defScope (at_ 28)) (defBody (at_ 28)) = true := by decide +kernel
theorem ok_beyond : okSs ⟨N_beyond, T, fn, co⟩ b_beyond (defScope (at_ 29)) (defBody (at_ 29)) = true := by decide +kernel
theorem ok_sign_when_nothing : okSs ⟨N_sign_when_nothing, T, fn, co⟩ b_sign_when_nothing (defScope (at_ 33)) (defBody (at_ 33)) = true := by decide +kernel
theorem ok_plus : okSs ⟨N_plus, T, fn, co⟩ b_plus (defScope (at_ 34)) (defBody (at_ 34)) = true := by decide +kernel
theorem ok_minus : okSs ⟨N_minus, T, fn, co⟩ b_minus (defScope (at_ 35)) (defBody (at_ 35)) = true := by decide +kernel
theorem ok_product : okSs ⟨N_product, T, fn, co⟩ b_product (defScope (at_ 36)) (defBody (at_ 36)) = true := by decide +kernel
theorem ok_joined : okSs ⟨N_joined, T, fn, co⟩ b_joined (defScope (at_ 37)) (defBody (at_ 37)) = true := by decide +kernel
theorem ok_two_sum : okSs ⟨N_two_sum, T, fn, co⟩ b_two_sum (defScope (at_ 40)) (defBody (at_ 40)) = true := by decide +kernel
theorem ok_quick_two_sum : okSs ⟨N_quick_two_sum, T, fn, co⟩ b_quick_two_sum (defScope (at_ 41)) (defBody (at_ 41)) = true := by decide +kernel
theorem ok_two_product : okSs ⟨N_two_product, T, fn, co⟩ b_two_product (defScope (at_ 42)) (defBody (at_ 42)) = true := by decide +kernel
theorem ok_grown : okSs ⟨N_grown, T, fn, co⟩ b_grown (defScope (at_ 43)) (defBody (at_ 43)) = true := by decide +kernel
theorem ok_parts_of_sum : okSs ⟨N_parts_of_sum, T, fn, co⟩ b_parts_of_sum (defScope (at_ 44)) (defBody (at_ 44)) = true := by decide +kernel
theorem ok_exact_sum : okSs ⟨N_exact_sum, T, fn, co⟩ b_exact_sum (defScope (at_ 45)) (defBody (at_ 45)) = true := by decide +kernel
theorem ok_rounded_sum : okSs ⟨N_rounded_sum, T, fn, co⟩ b_rounded_sum (defScope (at_ 46)) (defBody (at_ 46)) = true := by decide +kernel
theorem ok_plain_sum : okSs ⟨N_plain_sum, T, fn, co⟩ b_plain_sum (defScope (at_ 47)) (defBody (at_ 47)) = true := by decide +kernel
theorem ok_kept_sum : okSs ⟨N_kept_sum, T, fn, co⟩ b_kept_sum (defScope (at_ 48)) (defBody (at_ 48)) = true := by decide +kernel
theorem ok_by_halves : okSs ⟨N_by_halves, T, fn, co⟩ b_by_halves (defScope (at_ 49)) (defBody (at_ 49)) = true := by decide +kernel
theorem ok_kept_product : okSs ⟨N_kept_product, T, fn, co⟩ b_kept_product (defScope (at_ 50)) (defBody (at_ 50)) = true := by decide +kernel
theorem ok_are_parts : okSs ⟨N_are_parts, T, fn, co⟩ b_are_parts (defScope (at_ 51)) (defBody (at_ 51)) = true := by decide +kernel
theorem ok__law_draws : okSs ⟨N__law_draws, T, fn, co⟩ b__law_draws (defScope (at_ 53)) (defBody (at_ 53)) = true := by decide +kernel
theorem ok__law_next : okSs ⟨N__law_next, T, fn, co⟩ b__law_next (defScope (at_ 54)) (defBody (at_ 54)) = true := by decide +kernel
theorem ok__law_same : okSs ⟨N__law_same, T, fn, co⟩ b__law_same (defScope (at_ 55)) (defBody (at_ 55)) = true := by decide +kernel
theorem ok__law_least : okSs ⟨N__law_least, T, fn, co⟩ b__law_least (defScope (at_ 56)) (defBody (at_ 56)) = true := by decide +kernel
theorem ok__law_sum_2 : okSs ⟨N__law_sum_2, T, fn, co⟩ b__law_sum_2 (defScope (at_ 57)) (defBody (at_ 57)) = true := by decide +kernel
theorem ok__law_val_2 : okSs ⟨N__law_val_2, T, fn, co⟩ b__law_val_2 (defScope (at_ 58)) (defBody (at_ 58)) = true := by decide +kernel
theorem ok__law_less : okSs ⟨N__law_less, T, fn, co⟩ b__law_less (defScope (at_ 59)) (defBody (at_ 59)) = true := by decide +kernel
theorem ok__law_mul_2 : okSs ⟨N__law_mul_2, T, fn, co⟩ b__law_mul_2 (defScope (at_ 60)) (defBody (at_ 60)) = true := by decide +kernel
theorem ok__law_off : okSs ⟨N__law_off, T, fn, co⟩ b__law_off (defScope (at_ 61)) (defBody (at_ 61)) = true := by decide +kernel
theorem ok__law_size : okSs ⟨N__law_size, T, fn, co⟩ b__law_size (defScope (at_ 62)) (defBody (at_ 62)) = true := by decide +kernel
theorem ok__law_two : okSs ⟨N__law_two, T, fn, co⟩ b__law_two (defScope (at_ 63)) (defBody (at_ 63)) = true := by decide +kernel
theorem ok__law_drawn : okSs ⟨N__law_drawn, T, fn, co⟩ b__law_drawn (defScope (at_ 64)) (defBody (at_ 64)) = true := by decide +kernel
theorem ok__law_plainly : okSs ⟨N__law_plainly, T, fn, co⟩ b__law_plainly (defScope (at_ 65)) (defBody (at_ 65)) = true := by decide +kernel
theorem ok__law_halved : okSs ⟨N__law_halved, T, fn, co⟩ b__law_halved (defScope (at_ 66)) (defBody (at_ 66)) = true := by decide +kernel
theorem ok__law_all : okSs ⟨N__law_all, T, fn, co⟩ b__law_all (defScope (at_ 67)) (defBody (at_ 67)) = true := by decide +kernel
theorem ok__law_kept_sum : okSs ⟨N__law_kept_sum, T, fn, co⟩ b__law_kept_sum (defScope (at_ 68)) (defBody (at_ 68)) = true := by decide +kernel
theorem ok__law_apart : okSs ⟨N__law_apart, T, fn, co⟩ b__law_apart (defScope (at_ 69)) (defBody (at_ 69)) = true := by decide +kernel
theorem ok__law_good : okSs ⟨N__law_good, T, fn, co⟩ b__law_good (defScope (at_ 70)) (defBody (at_ 70)) = true := by decide +kernel
theorem ok_law_2 : okSs ⟨N_law_2, T, fn, co⟩ b_law_2 (defScope (at_ 71)) (defBody (at_ 71)) = true := by decide +kernel
theorem sc_is_number : scOk N_is_number ps_is_number (defScope (at_ 1)) = true := by decide +kernel
theorem sc_is_from : scOk N_is_from ps_is_from (defScope (at_ 2)) = true := by decide +kernel
theorem sc_bits_of : scOk N_bits_of ps_bits_of (defScope (at_ 3)) = true := by decide +kernel
theorem sc_common : scOk N_common ps_common (defScope (at_ 6)) = true := by decide +kernel
theorem sc_fraction : scOk N_fraction ps_fraction (defScope (at_ 7)) = true := by decide +kernel
theorem sc_added : scOk N_added ps_added (defScope (at_ 8)) = true := by decide +kernel
theorem sc_times : scOk N_times ps_times (defScope (at_ 9)) = true := by decide +kernel
theorem sc_size : scOk N_size ps_size (defScope (at_ 10)) = true := by decide +kernel
theorem sc_is_less : scOk N_is_less ps_is_less (defScope (at_ 11)) = true := by decide +kernel
theorem sc_is_most : scOk N_is_most ps_is_most (defScope (at_ 12)) = true := by decide +kernel
theorem sc_two_to : scOk N_two_to ps_two_to (defScope (at_ 13)) = true := by decide +kernel
theorem sc_shifted : scOk N_shifted ps_shifted (defScope (at_ 14)) = true := by decide +kernel
theorem sc_exponent_of : scOk N_exponent_of ps_exponent_of (defScope (at_ 15)) = true := by decide +kernel
theorem sc_is_of : scOk N_is_of ps_is_of (defScope (at_ 17)) = true := by decide +kernel
theorem sc_is_sign : scOk N_is_sign ps_is_sign (defScope (at_ 18)) = true := by decide +kernel
theorem sc_value_of : scOk N_value_of ps_value_of (defScope (at_ 19)) = true := by decide +kernel
theorem sc_is_finite : scOk N_is_finite ps_is_finite (defScope (at_ 20)) = true := by decide +kernel
theorem sc_greatest_of : scOk N_greatest_of ps_greatest_of (defScope (at_ 21)) = true := by decide +kernel
theorem sc_least_full : scOk N_least_full ps_least_full (defScope (at_ 22)) = true := by decide +kernel
theorem sc_turned : scOk N_turned ps_turned (defScope (at_ 23)) = true := by decide +kernel
theorem sc_unit_at : scOk N_unit_at ps_unit_at (defScope (at_ 24)) = true := by decide +kernel
theorem sc_is_raised : scOk N_is_raised ps_is_raised (defScope (at_ 26)) = true := by decide +kernel
theorem sc_rounded : scOk N_rounded ps_rounded (defScope (at_ 27)) = true := by decide +kernel
theorem sc_marks_of : scOk N_marks_of ps_marks_of (defScope (at_ 28)) = true := by decide +kernel
theorem sc_beyond : scOk N_beyond ps_beyond (defScope (at_ 29)) = true := by decide +kernel
theorem sc_sign_when_nothing : scOk N_sign_when_nothing ps_sign_when_nothing (defScope (at_ 33)) = true := by decide +kernel
theorem sc_plus : scOk N_plus ps_plus (defScope (at_ 34)) = true := by decide +kernel
theorem sc_minus : scOk N_minus ps_minus (defScope (at_ 35)) = true := by decide +kernel
theorem sc_product : scOk N_product ps_product (defScope (at_ 36)) = true := by decide +kernel
theorem sc_joined : scOk N_joined ps_joined (defScope (at_ 37)) = true := by decide +kernel
theorem sc_two_sum : scOk N_two_sum ps_two_sum (defScope (at_ 40)) = true := by decide +kernel
theorem sc_quick_two_sum : scOk N_quick_two_sum ps_quick_two_sum (defScope (at_ 41)) = true := by decide +kernel
theorem sc_two_product : scOk N_two_product ps_two_product (defScope (at_ 42)) = true := by decide +kernel
theorem sc_grown : scOk N_grown ps_grown (defScope (at_ 43)) = true := by decide +kernel
theorem sc_parts_of_sum : scOk N_parts_of_sum ps_parts_of_sum (defScope (at_ 44)) = true := by decide +kernel
theorem sc_exact_sum : scOk N_exact_sum ps_exact_sum (defScope (at_ 45)) = true := by decide +kernel
theorem sc_rounded_sum : scOk N_rounded_sum ps_rounded_sum (defScope (at_ 46)) = true := by decide +kernel
theorem sc_plain_sum : scOk N_plain_sum ps_plain_sum (defScope (at_ 47)) = true := by decide +kernel
theorem sc_kept_sum : scOk N_kept_sum ps_kept_sum (defScope (at_ 48)) = true := by decide +kernel
theorem sc_by_halves : scOk N_by_halves ps_by_halves (defScope (at_ 49)) = true := by decide +kernel
theorem sc_kept_product : scOk N_kept_product ps_kept_product (defScope (at_ 50)) = true := by decide +kernel
theorem sc_are_parts : scOk N_are_parts ps_are_parts (defScope (at_ 51)) = true := by decide +kernel
theorem sc__law_draws : scOk N__law_draws ps__law_draws (defScope (at_ 53)) = true := by decide +kernel
theorem sc__law_next : scOk N__law_next ps__law_next (defScope (at_ 54)) = true := by decide +kernel
theorem sc__law_same : scOk N__law_same ps__law_same (defScope (at_ 55)) = true := by decide +kernel
theorem sc__law_least : scOk N__law_least ps__law_least (defScope (at_ 56)) = true := by decide +kernel
theorem sc__law_sum_2 : scOk N__law_sum_2 ps__law_sum_2 (defScope (at_ 57)) = true := by decide +kernel
theorem sc__law_val_2 : scOk N__law_val_2 ps__law_val_2 (defScope (at_ 58)) = true := by decide +kernel
theorem sc__law_less : scOk N__law_less ps__law_less (defScope (at_ 59)) = true := by decide +kernel
theorem sc__law_mul_2 : scOk N__law_mul_2 ps__law_mul_2 (defScope (at_ 60)) = true := by decide +kernel
theorem sc__law_off : scOk N__law_off ps__law_off (defScope (at_ 61)) = true := by decide +kernel
theorem sc__law_size : scOk N__law_size ps__law_size (defScope (at_ 62)) = true := by decide +kernel
theorem sc__law_two : scOk N__law_two ps__law_two (defScope (at_ 63)) = true := by decide +kernel
theorem sc__law_drawn : scOk N__law_drawn ps__law_drawn (defScope (at_ 64)) = true := by decide +kernel
theorem sc__law_plainly : scOk N__law_plainly ps__law_plainly (defScope (at_ 65)) = true := by decide +kernel
theorem sc__law_halved : scOk N__law_halved ps__law_halved (defScope (at_ 66)) = true := by decide +kernel
theorem sc__law_all : scOk N__law_all ps__law_all (defScope (at_ 67)) = true := by decide +kernel
theorem sc__law_kept_sum : scOk N__law_kept_sum ps__law_kept_sum (defScope (at_ 68)) = true := by decide +kernel
theorem sc__law_apart : scOk N__law_apart ps__law_apart (defScope (at_ 69)) = true := by decide +kernel
theorem sc__law_good : scOk N__law_good ps__law_good (defScope (at_ 70)) = true := by decide +kernel
theorem sc_law_2 : scOk N_law_2 ps_law_2 (defScope (at_ 71)) = true := by decide +kernel
end Pv.K44

set_option Elab.async false
set_option linter.all false
set_option maxRecDepth 100000
set_option exponentiation.threshold 20
/-! L0: steps of the evaluator. -/
namespace Pv.K44
open Pv
theorem call_at {P : Nat → Option Def} {n f : Nat} {d : Def} {ds : List D} {ws : WS} (h : P f = some d) (hl : ds.length = d.np) : callO P (n + 1) f ds ws = chk ws (fin (execs (callO P n) d.body (mkEnv ds d.ns) ws)) := by
  simp only [callO, h, hl, if_true]
theorem chk_own (ws : WS) (d : D) : chk ws (some (d, ws)) = some (d, ws) := by cases ws <;> rfl
theorem chk_some (kvs : List (Nat × D)) (r : Option (D × WS)) : chk (some kvs) r = r := rfl
/-! statement by statement -/
theorem run_ex {Φ : Fns} {b : Sts} {env : Env} {ws ws2 : WS} {d : D} (hc : ∀ r : Option (D × WS), r = some (d, ws2) → chk ws r = some (d, ws2)) (h : ∃ env', execs Φ b env ws = some (.rt d, env', ws2)) : chk ws (fin (execs Φ b env ws)) = some (d, ws2) := by
  obtain ⟨env', e⟩ := h
  rw [e]
  exact hc _ rfl
theorem chk_ok (ws : WS) (d : D) : ∀ r : Option (D × WS), r = some (d, ws) → chk ws r = some (d, ws) := fun r h => by rw [h]; cases ws <;> rfl
theorem step_nx {Φ : Fns} {s : St} {r : Sts} {env : Env} {ws ws2 : WS} {d : D} (env1 : Env) (ws1 : WS) (h : exec Φ s env ws = some (.nx, env1, ws1)) (k : ∃ env', execs Φ r env1 ws1 = some (.rt d, env', ws2)) : ∃ env', execs Φ (.cons s r) env ws = some (.rt d, env', ws2) := by
  simp only [execs, h]
  exact k
theorem step_eq {Φ : Fns} {s : St} {r : Sts} {env : Env} {ws : WS} {out : Out} (env1 : Env) (ws1 : WS) (h : exec Φ s env ws = some (.nx, env1, ws1)) (k : execs Φ r env1 ws1 = out) : execs Φ (.cons s r) env ws = out := by
  simp only [execs, h]
  exact k
theorem step_rt {Φ : Fns} {s : St} {r : Sts} {env env1 : Env} {ws ws2 : WS} {d : D} (h : exec Φ s env ws = some (.rt d, env1, ws2)) : ∃ env', execs Φ (.cons s r) env ws = some (.rt d, env', ws2) := by
  simp only [execs, h]
  exact ⟨_, rfl⟩
/-! loops -/
def whlX (Φ : Fns) (c : Tx) (b : Sts) (n : Nat) (env : Env) (ws : WS) : Out := whlN (fun env ws => evT Φ c env ws) (fun env ws => execs Φ b env ws) n env ws
def forX (Φ : Fns) (tg : Tg) (b : Sts) (ds : List D) (env : Env) (ws : WS) : Out := forL (fun env ws => execs Φ b env ws) tg ds env ws
def cmpX (Φ : Fns) (tg : Tg) (elt : Ex) (env : Env) (ds : List D) (ws : WS) : Option (List D × WS) := compL (fun _ ws => some (true, ws)) (fun env ws => ev Φ elt env ws) tg env ds ws
def cmpY (Φ : Fns) (tg : Tg) (c : Tx) (elt : Ex) (env : Env) (ds : List D) (ws : WS) : Option (List D × WS) := compL (fun env ws => evT Φ c env ws) (fun env ws => ev Φ elt env ws) tg env ds ws
section
variable {Φ : Fns} {c : Tx} {b : Sts} {tg : Tg} {it elt : Ex} {env : Env} {ws : WS}
theorem x_whl : exec Φ (.whl c b) env ws = whlX Φ c b fuel env ws := by simp only [exec, whlX]
theorem x_for : exec Φ (.for_ tg it b) env ws = match ev Φ it env ws with
    | none => none
    | some (x, ws1) => match itemsOf x with
      | none => none
      | some ds => forX Φ tg b ds env ws1 := by simp only [exec, forX]; try rfl
theorem x_comp : ev Φ (.comp tg it elt) env ws = match bor (vi it) env ws (ev Φ it env ws) with
    | none => none
    | some (x, ws1) => match itemsOf x with
      | none => none
      | some ds => if okLen ds.length then match cmpX Φ tg elt (wipeE env (tgs tg)) ds ws1 with
        | none => none
        | some (r, ws2) => some (.lst r, ws2) else none := by simp only [ev, cmpX]; try rfl
theorem x_compIf : ev Φ (.compIf tg it c elt) env ws = match bor (vi it) env ws (ev Φ it env ws) with
    | none => none
    | some (x, ws1) => match itemsOf x with
      | none => none
      | some ds => if okLen ds.length then match cmpY Φ tg c elt (wipeE env (tgs tg)) ds ws1 with
        | none => none
        | some (r, ws2) => some (.lst r, ws2) else none := by simp only [ev, cmpY]; try rfl
theorem x_comp2 {tg2 : Tg} {it2 : Ex} : ev Φ (.comp2 tg it tg2 it2 elt) env ws = match bor (vi it) env ws (ev Φ it env ws) with
    | none => none
    | some (x, ws1) => match itemsOf x with
      | none => none
      | some ds => match compL2 (fun env ws => ev Φ it2 env ws) (fun _ ws => some (true, ws)) (fun env ws => ev Φ elt env ws) tg tg2 (wipeE env (tgs tg ++ tgs tg2)) ds ws1 with
        | none => none
        | some (r, ws2) => if okLen r.length then some (.lst r, ws2) else none := by simp only [ev]; try rfl
theorem x_comp2If {tg2 : Tg} {it2 : Ex} : ev Φ (.comp2If tg it tg2 it2 c elt) env ws = match bor (vi it) env ws (ev Φ it env ws) with
    | none => none
    | some (x, ws1) => match itemsOf x with
      | none => none
      | some ds => match compL2 (fun env ws => ev Φ it2 env ws) (fun env ws => evT Φ c env ws) (fun env ws => ev Φ elt env ws) tg tg2 (wipeE env (tgs tg ++ tgs tg2)) ds ws1 with
        | none => none
        | some (r, ws2) => if okLen r.length then some (.lst r, ws2) else none := by simp only [ev]; try rfl
theorem for_nil : forX Φ tg b [] env ws = some (.nx, env, ws) := rfl
theorem for_cons {d : D} {ds : List D} : forX Φ tg b (d :: ds) env ws = match bindT env tg d with
    | none => none
    | some env1 => match execs Φ b env1 ws with
      | none => none
      | some (.nx, env2, ws2) => forX Φ tg b ds env2 ws2
      | some (.ct, env2, ws2) => forX Φ tg b ds env2 ws2
      | some (.br, env2, ws2) => some (.nx, env2, ws2)
      | some (.rt v, env2, ws2) => some (.rt v, env2, ws2) := rfl
theorem cmp_nil : cmpX Φ tg elt env [] ws = some ([], ws) := rfl
theorem cmp_cons {d : D} {ds : List D} : cmpX Φ tg elt env (d :: ds) ws = match bindT env tg d with
    | none => none
    | some env1 => match ev Φ elt env1 ws with
        | none => none
        | some (y, ws2) => match cmpX Φ tg elt env ds ws2 with
          | none => none
          | some (r, ws3) => some (y :: r, ws3) := rfl
theorem cmpY_nil : cmpY Φ tg c elt env [] ws = some ([], ws) := rfl
theorem cmpY_cons {d : D} {ds : List D} : cmpY Φ tg c elt env (d :: ds) ws = match bindT env tg d with
    | none => none
    | some env1 => match evT Φ c env1 ws with
      | none => none
      | some (false, ws1) => cmpY Φ tg c elt env ds ws1
      | some (true, ws1) => match ev Φ elt env1 ws1 with
        | none => none
        | some (y, ws2) => match cmpY Φ tg c elt env ds ws2 with
          | none => none
          | some (r, ws3) => some (y :: r, ws3) := rfl
theorem whl_stop {n : Nat} {ws1 : WS} (h : evT Φ c env ws = some (false, ws1)) : whlX Φ c b (n + 1) env ws = some (.nx, env, ws1) := by
  unfold whlX
  simp only [whlN, h]
theorem whl_go {n : Nat} {ws1 ws2 : WS} {env2 : Env} (h : evT Φ c env ws = some (true, ws1)) (h2 : execs Φ b env ws1 = some (.nx, env2, ws2)) : whlX Φ c b (n + 1) env ws = whlX Φ c b n env2 ws2 := by
  unfold whlX
  simp only [whlN, h, h2]
/-- a walk over a list, each member read by rep -/
theorem for_ind {α β : Type} {I : α → Env → WS → Prop} {rep : β → D} {f : α → β → α} : ∀ {xs : List β} {s : α} {env : Env} {ws : WS},
    (∀ s x env ws, x ∈ xs → I s env ws → ∃ env1 env2 ws2, bindT env tg (rep x) = some env1 ∧ execs Φ b env1 ws = some (.nx, env2, ws2) ∧ I (f s x) env2 ws2) → I s env ws →
    ∃ env2 ws2, forX Φ tg b (xs.map rep) env ws = some (.nx, env2, ws2) ∧ I (xs.foldl f s) env2 ws2
  | [], s, env, ws, _, h => ⟨env, ws, rfl, h⟩
  | x :: xs, s, env, ws, st, h => by
    obtain ⟨env1, env2, ws2, h1, h2, h3⟩ := st s x env ws List.mem_cons_self h
    obtain ⟨env3, ws3, g1, g2⟩ := for_ind (fun s x env ws hx => st s x env ws (List.mem_cons_of_mem _ hx)) h3
    refine ⟨env3, ws3, ?_, g2⟩
    rw [List.map_cons, for_cons, h1]
    dsimp only
    rw [h2]
    exact g1
theorem cmp_map {β : Type} {rep g : β → D} : ∀ {xs : List β}, (∀ x ∈ xs, ∃ env1, bindT env tg (rep x) = some env1 ∧ ev Φ elt env1 ws = some (g x, ws)) → cmpX Φ tg elt env (xs.map rep) ws = some (xs.map g, ws)
  | [], _ => rfl
  | x :: xs, h => by
    obtain ⟨env1, h1, h2⟩ := h x List.mem_cons_self
    rw [List.map_cons, cmp_cons, h1]
    dsimp only
    rw [h2]
    dsimp only
    rw [cmp_map fun y hy => h y (List.mem_cons_of_mem _ hy)]
    rfl
theorem cmpY_map {β : Type} {rep g : β → D} {p : β → Bool} : ∀ {xs : List β}, (∀ x ∈ xs, ∃ env1, bindT env tg (rep x) = some env1 ∧ evT Φ c env1 ws = some (p x, ws) ∧ (p x = true → ev Φ elt env1 ws = some (g x, ws))) →
    cmpY Φ tg c elt env (xs.map rep) ws = some ((xs.filter p).map g, ws)
  | [], _ => rfl
  | x :: xs, h => by
    obtain ⟨env1, h1, h2, h3⟩ := h x List.mem_cons_self
    have ih := cmpY_map fun y hy => h y (List.mem_cons_of_mem _ hy)
    rw [List.map_cons, cmpY_cons, h1]
    dsimp only
    rw [h2]
    cases hp : p x with
    | false =>
      dsimp only
      rw [ih, List.filter_cons_of_neg (by rw [hp]; decide)]
    | true =>
      dsimp only
      rw [h3 hp]
      dsimp only
      rw [ih, List.filter_cons_of_pos hp]
      rfl
end
/-! values -/
section
variable {i j : Int} {a b : Bool} {xs ys : List D} {x y : D} {ws : WS}
theorem b_add : bop .add (.int i) (.int j) = some (.int (i + j)) := rfl
theorem b_sub : bop .sub (.int i) (.int j) = some (.int (i - j)) := rfl
theorem b_mul : bop .mul (.int i) (.int j) = if okI i && okI j then some (.int (i * j)) else none := rfl
theorem b_fdiv : bop .fdiv (.int i) (.int j) = if decide (0 < j) && okI j then some (.int (i / j)) else if decide (j < 0) && okI j then some (.int (i.fdiv j)) else none := rfl
theorem b_mod : bop .mod (.int i) (.int j) = if decide (0 < j) then some (.int (i % j)) else none := rfl
theorem b_shl : bop .shl (.int i) (.int j) = if decide (0 ≤ j) && decide (j ≤ 100000) && decide (i.natAbs < 18446744073709551616) then some (.int (i * 2 ^ j.toNat)) else none := rfl
theorem b_shr : bop .shr (.int i) (.int j) = if decide (0 ≤ j) then some (.int (i / 2 ^ j.toNat)) else none := rfl
theorem b_pow : bop .pow (.int i) (.int j) = if decide (0 ≤ j) && decide (j ≤ 1000) && decide (i.natAbs < 18446744073709551616) then some (.int (i ^ j.toNat)) else none := rfl
theorem b_tup : bop .add (.tup xs) (.tup ys) = if okLen (xs.length + ys.length) then some (.tup (xs ++ ys)) else none := rfl
theorem b_lst : bop .add (.lst xs) (.lst ys) = if okLen (xs.length + ys.length) then some (.lst (xs ++ ys)) else none := rfl
theorem o_lt : cop .lt (.int i) (.int j) = some (decide (i < j)) := rfl
theorem o_le : cop .le (.int i) (.int j) = some (decide (i ≤ j)) := rfl
theorem o_gt : cop .gt (.int i) (.int j) = some (decide (j < i)) := rfl
theorem o_ge : cop .ge (.int i) (.int j) = some (decide (j ≤ i)) := rfl
theorem o_eqi : cop .eq (.int i) (.int j) = some (decide (i = j)) := rfl
theorem o_nei : cop .ne (.int i) (.int j) = some (!decide (i = j)) := rfl
theorem o_neb : cop .ne (.bl a) (.bl b) = some (!(a == b)) := rfl
theorem o_isb : cop .isB (.bl a) (.bl b) = some (decide (a = b)) := rfl
theorem o_eqs {a b : Nat} : cop .eq (.str a) (.str b) = if (decide (a < 512) && decide (b < 512)) = true then some (decide (a = b)) else none := by simp only [cop, okq, deq]; rfl
theorem o_nes {a b : Nat} : cop .ne (.str a) (.str b) = if (decide (a < 512) && decide (b < 512)) = true then some (!decide (a = b)) else none := by simp only [cop, okq, deq]; rfl
theorem o_int : cop .isin x (.tup xs) = if (isFlat x && xs.all isFlat) = true then some (xs.any fun y => deq y x) else if (okq x 64 && okqs xs 63) = true then some (xs.any fun y => deq y x) else none := rfl
theorem o_nit : cop .notin x (.tup xs) = if (isFlat x && xs.all isFlat) = true then some (!xs.any fun y => deq y x) else if (okq x 64 && okqs xs 63) = true then some (!xs.any fun y => deq y x) else none := rfl
theorem isF_s {k : Nat} : isFlat (.str k) = decide (k < 512) := rfl
theorem isF_i : isFlat (.int i) = true := rfl
theorem deq_ss {a b : Nat} : deq (.str a) (.str b) = decide (a = b) := by simp only [deq]
theorem deq_ii : deq (.int i) (.int j) = decide (i = j) := by simp only [deq]
theorem u_len1 : bf1 .len (.tup xs) = some (.int xs.length) := rfl
theorem u_len2 : bf1 .len (.lst xs) = some (.int xs.length) := rfl
theorem u_len3 {ns : List Int} : bf1 .len (.scr ns) = some (.int ns.length) := rfl
theorem u_abs : bf1 .abs (.int i) = some (.int (if i < 0 then -i else i)) := rfl
theorem u_int : bf1 .int (.int i) = some (.int i) := rfl
theorem u_intb : bf1 .int (.bl a) = some (.int (if a then 1 else 0)) := rfl
theorem u_lst1 : bf1 .lstOf (.tup xs) = some (.lst xs) := rfl
theorem u_lst2 {ks vs : List D} : bf1 .lstOf (.dic ks vs) = some (.lst ks) := rfl
theorem u_lst3 : bf1 .lstOf (.lst xs) = some (.lst xs) := rfl
theorem u_tup : bf1 .tupOf (.lst xs) = some (.tup xs) := rfl
theorem u_max : bf2 .max (.int i) (.int j) = some (.int (if j > i then j else i)) := rfl
theorem u_minL2 : bf1 .minL (.lst [.int i, .int j]) = some (.int (if j < i then j else i)) := rfl
theorem u_min : bf2 .min (.int i) (.int j) = some (.int (if j < i then j else i)) := rfl
theorem s_int {t : Ty} : isiD t (.int i) = some (match t with | .int => true | _ => false) := by cases t <;> rfl
theorem s_bl {t : Ty} : isiD t (.bl a) = some (match t with | .int => true | .bool => true | _ => false) := by cases t <;> rfl
theorem s_tup {t : Ty} : isiD t (.tup xs) = some (match t with | .tuple => true | _ => false) := by cases t <;> rfl
theorem s_lst {t : Ty} : isiD t (.lst xs) = some (match t with | .list => true | _ => false) := by cases t <;> rfl
theorem s_non {t : Ty} : isiD t .non = some false := by cases t <;> rfl
theorem s_str {t : Ty} {k : Nat} : isiD t (.str k) = some (match t with | .str => true | _ => false) := by cases t <;> rfl
theorem a_add : aop .add i j = some (i + j) := rfl
theorem a_sub : aop .sub i j = some (i - j) := rfl
theorem i_tup : itemsOf (.tup xs) = some xs := rfl
theorem i_lst : itemsOf (.lst xs) = some xs := rfl
theorem r_bl : truth (.bl a) = some a := rfl
theorem r_int : truth (.int i) = some (i != 0) := rfl
theorem sl_a : slD (.tup (x :: xs)) none (some 1) = some (.tup [x]) := by
  have : cutD (x :: xs) none (some 1) = [x] := by
    unfold cutD
    rw [show HT.sIx (x :: xs).length 0 none = 0 from rfl, show HT.sIx (x :: xs).length (x :: xs).length (some 1) = min 1 (xs.length + 1) from HT.sIx_nat _ _ 1, show min 1 (xs.length + 1) = 1 by omega]
    rfl
  simp only [slD, this]
theorem sl_bl : slD (.lst (x :: xs)) (some 1) none = some (.lst xs) := by
  have : cutD (x :: xs) (some 1) none = xs := by
    unfold cutD
    rw [show HT.sIx (x :: xs).length 0 (some 1) = min 1 (xs.length + 1) from HT.sIx_nat _ _ 1, show min 1 (xs.length + 1) = 1 by omega, HT.sIx_none]
    simp
  simp only [slD, this]
theorem sl_b : slD (.tup (x :: xs)) (some 1) none = some (.tup xs) := by
  have : cutD (x :: xs) (some 1) none = xs := by
    unfold cutD
    rw [show HT.sIx (x :: xs).length 0 (some 1) = min 1 (xs.length + 1) from HT.sIx_nat _ _ 1, show min 1 (xs.length + 1) = 1 by omega, HT.sIx_none]
    simp
  simp only [slD, this]
theorem sl_c : slD (.tup (x :: y :: xs)) (some 2) none = some (.tup xs) := by
  have : cutD (x :: y :: xs) (some 2) none = xs := by
    unfold cutD
    rw [show HT.sIx (x :: y :: xs).length 0 (some 2) = min 2 (xs.length + 2) from HT.sIx_nat _ _ 2, show min 2 (xs.length + 2) = 2 by omega, HT.sIx_none]
    simp
  simp only [slD, this]
end
/-! reading -/
theorem wg_1 (x y : D) : wg [(25, x), (24, y)] 25 = some x := rfl
theorem wg_0 (x y : D) : wg [(25, x), (24, y)] 24 = some y := rfl
theorem wp_0 (x y e : D) : wp [(25, x), (24, y)] 24 e = [(25, x), (24, e)] := rfl
theorem bn (env : Env) (i : Nat) (d : D) : bindT env (.nm i) d = some (es env i (.va d)) := rfl
theorem bt (env : Env) (is : List Nat) (ds : List D) : bindT env (.tp is) (.tup ds) = setAll env is ds := rfl
theorem btl (env : Env) (is : List Nat) (ds : List D) : bindT env (.tp is) (.lst ds) = setAll env is ds := rfl
theorem bq (env : Env) (is : List (List Nat)) (ds : List D) : bindT env (.tq is) (.tup ds) = setAllT env is ds := rfl
theorem ixN_lt {n : Nat} {i : Int} {j : Nat} (h : i = (j : Int)) (hj : j < n) : L2.ixN n i = some j := by
  subst h
  unfold L2.ixN
  rw [if_pos (by omega), if_pos (by omega)]
  rfl
theorem atI_of {α : Type} {xs : List α} {j : Nat} {i : Int} {x : α} (hi : i = (j : Int)) (h : xs[j]? = some x) : L2.atI xs i = some x := by
  unfold L2.atI
  rw [ixN_lt hi (List.getElem?_eq_some_iff.mp h).1]
  exact h
theorem ixW_0 (ws : WS) (x : D) (xs : List D) : ixW ws (.tup (x :: xs)) (.int 0) = some x := atI_of (j := 0) rfl rfl
theorem ixW_1 (ws : WS) (x y : D) (xs : List D) : ixW ws (.tup (x :: y :: xs)) (.int 1) = some y := atI_of (j := 1) rfl rfl
theorem ixW_2 (ws : WS) (x y z : D) (xs : List D) : ixW ws (.tup (x :: y :: z :: xs)) (.int 2) = some z := atI_of (j := 2) rfl rfl
theorem ixW_3 (ws : WS) (x y z u : D) (xs : List D) : ixW ws (.tup (x :: y :: z :: u :: xs)) (.int 3) = some u := atI_of (j := 3) rfl rfl
theorem ixL_0 (ws : WS) (x : D) (xs : List D) : ixW ws (.lst (x :: xs)) (.int 0) = some x := atI_of (j := 0) rfl rfl
theorem ixL_1 (ws : WS) (x y : D) (xs : List D) : ixW ws (.lst (x :: y :: xs)) (.int 1) = some y := atI_of (j := 1) rfl rfl
theorem ixL_2 (ws : WS) (x y z : D) (xs : List D) : ixW ws (.lst (x :: y :: z :: xs)) (.int 2) = some z := atI_of (j := 2) rfl rfl
theorem ixL_3 (ws : WS) (x y z u : D) (xs : List D) : ixW ws (.lst (x :: y :: z :: u :: xs)) (.int 3) = some u := atI_of (j := 3) rfl rfl
theorem ixL_n1 (ws : WS) (x : D) : ixW ws (.lst [x]) (.int (-1)) = some x := rfl
theorem ixL_n2 (ws : WS) (x y : D) : ixW ws (.lst [x, y]) (.int (-1)) = some y := rfl
theorem ixD_1 (ws : WS) (k : Nat) (v : D) (h : k < 512) : ixW ws (.dic [.str k] [v]) (.str k) = some v := by
  show (if isK (.str k) = true then dget [.str k] [v] (.str k) else none) = _
  unfold isK dget keq
  simp [h]
theorem ixW_w (kvs : List (Nat × D)) (k : Nat) : ixW (some kvs) .wd (.str k) = wg kvs k := rfl
theorem iN_non : isNone .non = true := rfl
theorem iN_int (i : Int) : isNone (.int i) = false := rfl
theorem iN_bl (i : Bool) : isNone (.bl i) = false := rfl
theorem iN_str (i : Nat) : isNone (.str i) = false := rfl
theorem iN_tup (i : List D) : isNone (.tup i) = false := rfl
theorem iN_lst (i : List D) : isNone (.lst i) = false := rfl
def F (q : Rat) : D := .tup [.int q.num, .int q.den]
theorem iN_F (q : Rat) : isNone (F q) = false := rfl
theorem F_0 (ws : WS) (q : Rat) : ixW ws (F q) (.int 0) = some (.int q.num) := ixW_0 _ _ _
theorem F_1 (ws : WS) (q : Rat) : ixW ws (F q) (.int 1) = some (.int q.den) := ixW_1 _ _ _ _
theorem bind_F (env : Env) (i j : Nat) (q : Rat) : bindT env (.tp [i, j]) (F q) = some (es (es env i (.va (.int q.num))) j (.va (.int q.den))) := rfl
theorem big_lt : 2 ^ 8000 < big := by
  unfold big
  exact Nat.pow_lt_pow_right (by decide) (by decide)
theorem okI_of {i : Int} (h : i.natAbs < 2 ^ 8000) : okI i = true := by
  unfold okI
  rw [decide_eq_true_eq]
  exact Nat.lt_trans h big_lt
theorem okI_s {i : Int} (h : i.natAbs < 1048576) : okI i = true := okI_of (Nat.lt_trans h (by rw [show (1048576 : Nat) = 2 ^ 20 by decide]; exact Nat.pow_lt_pow_right (by decide) (by decide)))
theorem mk_env (ds : List D) (n : Nat) : mkEnv ds n = ds.map .va ++ List.replicate (n - ds.length) .un := rfl
end Pv.K44


set_option Elab.async false
set_option linter.all false
set_option maxRecDepth 100000
set_option exponentiation.threshold 20
/-! L1: gcd and fractions. -/
namespace Pv.K44
open Pv
local macro_rules
  | `(tactic| simp! only [$xs,*]) => `(tactic| simp only [ev.eq_1, ev.eq_2, ev.eq_3, ev.eq_4, ev.eq_5, ev.eq_6, ev.eq_7, ev.eq_8, ev.eq_9, ev.eq_10, ev.eq_11, ev.eq_12, ev.eq_13, ev.eq_14, ev.eq_15, ev.eq_16, ev.eq_17, ev.eq_18, ev.eq_19, ev.eq_20, ev.eq_21, ev.eq_22, ev.eq_23, ev.eq_24, ev.eq_25, ev.eq_26, ev.eq_27, ev.eq_28, ev.eq_29, ev.eq_30, ev.eq_35, evs, evT, exec.eq_1, exec.eq_2, exec.eq_3, exec.eq_4, exec.eq_5, exec.eq_6, exec.eq_7, exec.eq_8, exec.eq_9, exec.eq_10, exec.eq_11, exec.eq_12, exec.eq_13, exec.eq_14, exec.eq_15, exec.eq_16, exec.eq_19, exec.eq_20, exec.eq_21, exec.eq_22, exec.eq_23, execs, x_whl, x_for, x_comp, x_compIf, x_comp2, x_comp2If, bor, vi, mkEnv, eg, es, frzA, frzS, bn, bt, bq, bind_F, setAll, setAllT, bind1, setPar, wipeE, tgs, b_add, b_sub, b_mul, b_fdiv, b_mod, b_shl, b_shr, b_pow, b_tup, b_lst, o_lt, o_le, o_gt, o_ge, o_eqi, o_nei, o_neb, sl_a, sl_b, sl_bl, sl_c, cmp_nil, cmp_cons, cmpY_nil, cmpY_cons, ixW_3, ixL_0, ixL_1, ixL_2, ixL_3, btl, o_isb, o_eqs, o_nes, o_int, o_nit, isF_s, isF_i, deq_ss, deq_ii, List.all_cons, List.all_nil, List.any_cons, List.any_nil, Nat.reduceEqDiff, Int.reduceEq, u_len1, u_len2, u_len3, u_abs, u_int, u_intb, u_lst1, u_lst2, u_lst3, u_tup, u_max, u_min, s_int, s_bl, s_tup, s_lst, s_non, s_str, a_add, a_sub, i_tup, i_lst, r_bl, r_int, fin, chk_own, chk_some, isN, bnd, iN_non, iN_int, iN_bl, iN_str, iN_tup, iN_lst, iN_F, ixW_0, ixW_1, ixW_2, F_0, F_1, ixW_w, wg_1, wg_0, wp_0, List.map, List.length, List.replicate, List.cons_append, List.nil_append, List.append_nil, Nat.reduceSub, Nat.reduceAdd, Nat.sub_self, Nat.sub_zero, if_true, Bool.false_eq_true, if_false, reduceIte, ite_true, ite_false, Bool.and_self, Bool.and_true, Bool.true_and, Bool.not_true, Bool.not_false, Nat.reduceLT, Nat.reduceLeDiff, decide_true, decide_false, Int.reduceLT, Int.reduceLE, Int.reduceAdd, Int.reduceSub, Int.reduceNeg, Bool.or_true, Bool.or_false, Bool.true_or, Bool.false_or, Bool.and_false, Bool.false_and, $xs,*])
  | `(tactic| simp! only) => `(tactic| simp only [ev.eq_1, ev.eq_2, ev.eq_3, ev.eq_4, ev.eq_5, ev.eq_6, ev.eq_7, ev.eq_8, ev.eq_9, ev.eq_10, ev.eq_11, ev.eq_12, ev.eq_13, ev.eq_14, ev.eq_15, ev.eq_16, ev.eq_17, ev.eq_18, ev.eq_19, ev.eq_20, ev.eq_21, ev.eq_22, ev.eq_23, ev.eq_24, ev.eq_25, ev.eq_26, ev.eq_27, ev.eq_28, ev.eq_29, ev.eq_30, ev.eq_35, evs, evT, exec.eq_1, exec.eq_2, exec.eq_3, exec.eq_4, exec.eq_5, exec.eq_6, exec.eq_7, exec.eq_8, exec.eq_9, exec.eq_10, exec.eq_11, exec.eq_12, exec.eq_13, exec.eq_14, exec.eq_15, exec.eq_16, exec.eq_19, exec.eq_20, exec.eq_21, exec.eq_22, exec.eq_23, execs, x_whl, x_for, x_comp, x_compIf, x_comp2, x_comp2If, bor, vi, mkEnv, eg, es, frzA, frzS, bn, bt, bq, bind_F, setAll, setAllT, bind1, setPar, wipeE, tgs, b_add, b_sub, b_mul, b_fdiv, b_mod, b_shl, b_shr, b_pow, b_tup, b_lst, o_lt, o_le, o_gt, o_ge, o_eqi, o_nei, o_neb, sl_a, sl_b, sl_bl, sl_c, cmp_nil, cmp_cons, cmpY_nil, cmpY_cons, ixW_3, ixL_0, ixL_1, ixL_2, ixL_3, btl, o_isb, o_eqs, o_nes, o_int, o_nit, isF_s, isF_i, deq_ss, deq_ii, List.all_cons, List.all_nil, List.any_cons, List.any_nil, Nat.reduceEqDiff, Int.reduceEq, u_len1, u_len2, u_len3, u_abs, u_int, u_intb, u_lst1, u_lst2, u_lst3, u_tup, u_max, u_min, s_int, s_bl, s_tup, s_lst, s_non, s_str, a_add, a_sub, i_tup, i_lst, r_bl, r_int, fin, chk_own, chk_some, isN, bnd, iN_non, iN_int, iN_bl, iN_str, iN_tup, iN_lst, iN_F, ixW_0, ixW_1, ixW_2, F_0, F_1, ixW_w, wg_1, wg_0, wp_0, List.map, List.length, List.replicate, List.cons_append, List.nil_append, List.append_nil, Nat.reduceSub, Nat.reduceAdd, Nat.sub_self, Nat.sub_zero, if_true, Bool.false_eq_true, if_false, reduceIte, ite_true, ite_false, Bool.and_self, Bool.and_true, Bool.true_and, Bool.not_true, Bool.not_false, Nat.reduceLT, Nat.reduceLeDiff, decide_true, decide_false, Int.reduceLT, Int.reduceLE, Int.reduceAdd, Int.reduceSub, Int.reduceNeg, Bool.or_true, Bool.or_false, Bool.true_or, Bool.false_or, Bool.and_false, Bool.false_and])
/-! Euclid -/
theorem gcd_step {x y : Int} (hx : 0 ≤ x) (hy : 0 < y) : Int.gcd y (x % y) = Int.gcd x y := by
  unfold Int.gcd
  have : (x % y).natAbs = x.natAbs % y.natAbs := by
    obtain ⟨a, rfl⟩ := Int.eq_ofNat_of_zero_le hx
    obtain ⟨b, rfl⟩ := Int.eq_ofNat_of_zero_le (Int.le_of_lt hy)
    show ((a : Int) % (b : Int)).natAbs = a % b
    rw [← Int.natCast_emod]
    exact Int.natAbs_natCast _
  rw [this, Nat.gcd_comm, ← Nat.gcd_rec, Nat.gcd_comm]

theorem euclid {c : Env → WS → Option (Bool × WS)} {b : Env → WS → Out} {ws : WS} (E : Int → Int → Env)
    (hc : ∀ x y, c (E x y) ws = some (decide (0 < y), ws)) (hb : ∀ x y, 0 < y → b (E x y) ws = some (.nx, E y (x % y), ws)) :
    ∀ (k : Nat) (x y : Int) (n : Nat), 0 ≤ x → 0 ≤ y → y < 2 ^ k → 2 * k + 1 ≤ n → whlN c b n (E x y) ws = some (.nx, E (Int.gcd x y) 0, ws) := by
  intro k
  induction k with
  | zero =>
    intro x y n hx hy hk hn
    have : y = 0 := by simp at hk; omega
    subst this
    obtain ⟨n, rfl⟩ : ∃ m, n = m + 1 := ⟨n - 1, by omega⟩
    simp only [whlN, hc]
    simp
    rw [Int.natAbs_of_nonneg hx]
  | succ k ih =>
    intro x y n hx hy hk hn
    obtain ⟨n, rfl⟩ : ∃ m, n = m + 2 := ⟨n - 2, by omega⟩
    by_cases h0 : 0 < y
    · simp only [whlN, hc, hb _ _ h0, decide_eq_true h0]
      have hz : 0 ≤ x % y := Int.emod_nonneg _ (by omega)
      have hz2 : x % y < y := Int.emod_lt_of_pos _ h0
      by_cases h1 : 0 < x % y
      · simp only [hb _ _ h1, decide_eq_true h1]
        have hw : 0 ≤ y % (x % y) := Int.emod_nonneg _ (by omega)
        have hw2 : y % (x % y) < x % y := Int.emod_lt_of_pos _ h1
        have hw3 : y % (x % y) < 2 ^ k := by
          rw [Int.pow_succ] at hk
          by_cases q : x % y < 2 ^ k
          · omega
          · have e : y % (x % y) = y - (x % y) * (y / (x % y)) := Int.emod_def _ _
            have : 1 ≤ y / (x % y) := by
              rw [Int.le_ediv_iff_mul_le h1]; omega
            have : (x % y) * 1 ≤ (x % y) * (y / (x % y)) := Int.mul_le_mul_of_nonneg_left this hz
            omega
        rw [ih (x % y) (y % (x % y)) n hz hw hw3 (by omega)]
        rw [gcd_step (Int.le_of_lt h0) h1, gcd_step hx h0]
      · have h2 : x % y = 0 := by omega
        simp only [h2]
        simp
        have : Int.gcd x y = y.natAbs := by
          rw [← gcd_step hx h0, h2]
          simp
        rw [this, Int.natAbs_of_nonneg hy]
    · have : y = 0 := by omega
      subst this
      simp only [whlN, hc]
      simp
      rw [Int.natAbs_of_nonneg hx]

theorem absI (x : Int) : (if x < 0 then -x else x) = (x.natAbs : Int) := by split <;> omega
theorem pow3 {x : Int} (h : x.natAbs < 2 ^ 8000) : ((x.natAbs : Nat) : Int) < 2 ^ 8000 := by
  have : ((x.natAbs : Nat) : Int) < ((2 ^ 8000 : Nat) : Int) := Int.ofNat_lt.mpr h
  rw [Int.natCast_pow] at this
  exact this
theorem c_common (n : Nat) (a b : Int) (ws : WS) (hb : b.natAbs < 2 ^ 8000) : callO P (n + 1) 1 [.int a, .int b] ws = some (.int (Int.gcd a b), ws) := by
  have := euclid (ws := ws) (c := fun env ws => evT (callO P n) t_common_0 env ws) (b := fun env ws => execs (callO P n) l_common_1 env ws)
    (fun x y => [.va (.int x), .va (.int y)]) (fun x y => by simp! only [t_common_0]) (fun x y h => by simp! only [l_common_1, decide_eq_true h])
    8000 a.natAbs b.natAbs fuel (by omega) (by omega) (pow3 hb) (by unfold fuel; omega)
  have e : Int.gcd (a.natAbs : Int) (b.natAbs : Int) = Int.gcd a b := by simp [Int.gcd]
  rw [e] at this
  change whlX (callO P n) _ _ fuel _ _ = _ at this
  rw [call_at (d := d_common) rfl rfl]
  simp! only [d_common, b_common, absI, this]
theorem gcd_lt {a b : Int} {k : Nat} (h : b ≠ 0) (hb : b.natAbs < k) : ((Int.gcd a b : Int)).natAbs < k := by
  rw [Int.natAbs_natCast]
  refine Nat.lt_of_le_of_lt (Nat.le_of_dvd (by omega) ?_) hb
  exact Int.gcd_dvd_natAbs_right a b
theorem mkF {a b : Int} (hb : 0 < b) : D.tup [.int (a / (Int.gcd a b : Int)), .int (b / (Int.gcd a b : Int))] = F (Rat.divInt a b) := by
  unfold F
  rw [Rat.num_divInt, Rat.den_divInt, if_neg (by omega), Int.sign_eq_one_of_pos hb, Int.one_mul, Int.gcd_comm b a, Int.natCast_ediv, Int.natAbs_of_nonneg (by omega)]
theorem c__law_least (n : Nat) (a b : Int) (ws : WS) (hb : 0 < b) (hb2 : b.natAbs < 2 ^ 8000) : callO P (n + 1) 65 [.int a, .int b] ws = some (F (Rat.divInt a b), ws) := by
  have := euclid (ws := ws) (c := fun env ws => evT (callO P n) t__law_least_0 env ws) (b := fun env ws => execs (callO P n) l__law_least_1 env ws)
    (fun x y => [.va (.int a), .va (.int b), .va (.int x), .va (.int y)]) (fun x y => by simp! only [t__law_least_0]) (fun x y h => by simp! only [l__law_least_1, decide_eq_true h])
    8000 a.natAbs b.natAbs fuel (by omega) (by omega) (pow3 hb2) (by unfold fuel; omega)
  have e : Int.gcd (a.natAbs : Int) (b.natAbs : Int) = Int.gcd a b := by simp [Int.gcd]
  rw [e] at this
  change whlX (callO P n) _ _ fuel _ _ = _ at this
  have g0 : 0 < (Int.gcd a b : Int) := by
    have : Int.gcd a b ≠ 0 := fun z => by rw [Int.gcd_eq_zero_iff] at z; omega
    omega
  have g1 := okI_of (i := (Int.gcd a b : Int)) (gcd_lt (by omega) hb2)
  rw [call_at (d := d__law_least) rfl rfl]
  simp! only [d__law_least, b__law_least, absI, this, decide_eq_true hb, decide_eq_true g0, g1]
  rw [mkF hb]
theorem c_fraction (n : Nat) (a b : Int) (ws : WS) (hb : 0 < b) (hb2 : b.natAbs < 2 ^ 8000) : callO P (n + 2) 2 [.int a, .int b] ws = some (F (Rat.divInt a b), ws) := by
  have g0 : 0 < (Int.gcd a b : Int) := by
    have : Int.gcd a b ≠ 0 := fun z => by rw [Int.gcd_eq_zero_iff] at z; omega
    omega
  have g1 := okI_of (i := (Int.gcd a b : Int)) (gcd_lt (by omega) hb2)
  rw [call_at (d := d_fraction) rfl rfl]
  simp! only [d_fraction, b_fraction, c_common n a b ws hb2, decide_eq_true hb, decide_eq_true g0, g1]
  rw [mkF hb]
/-! sizes -/
def Z (k : Nat) (q : Rat) : Prop := q.num.natAbs < 2 ^ k ∧ q.den < 2 ^ k
theorem Z.mono {j k : Nat} {q : Rat} (h : Z j q) (e : j ≤ k) : Z k q := ⟨Nat.lt_of_lt_of_le h.1 (Nat.pow_le_pow_right (by decide) e), Nat.lt_of_lt_of_le h.2 (Nat.pow_le_pow_right (by decide) e)⟩
theorem div_le {u l : Int} (hl : 0 < l) : (Rat.divInt u l).num.natAbs ≤ u.natAbs ∧ (Rat.divInt u l).den ≤ l.natAbs := by
  rw [Rat.num_divInt, Rat.den_divInt, if_neg (by omega), Int.sign_eq_one_of_pos hl, Int.one_mul]
  refine ⟨?_, Nat.div_le_self _ _⟩
  have := Int.natAbs_ediv_le_natAbs u (l.gcd u)
  exact this
theorem Z_div {u l : Int} {k : Nat} (hl : 0 < l) (h1 : u.natAbs < 2 ^ k) (h2 : l.natAbs < 2 ^ k) : Z k (Rat.divInt u l) := ⟨Nat.lt_of_le_of_lt (div_le hl).1 h1, Nat.lt_of_le_of_lt (div_le hl).2 h2⟩
theorem den_pos (q : Rat) : (0 : Int) < q.den := by have := q.den_pos; omega
theorem mul_lt {a b : Int} {i j : Nat} (h1 : a.natAbs < 2 ^ i) (h2 : b.natAbs < 2 ^ j) : (a * b).natAbs < 2 ^ (i + j) := by
  rw [Int.natAbs_mul, Nat.pow_add]
  exact Nat.mul_lt_mul'' h1 h2
theorem add_eq (p q : Rat) : p + q = Rat.divInt (p.num * q.den + q.num * p.den) (p.den * q.den) := by
  have := Rat.divInt_add_divInt p.num q.num (d₁ := p.den) (d₂ := q.den) (by have := den_pos p; omega) (by have := den_pos q; omega)
  rw [Rat.num_divInt_den, Rat.num_divInt_den] at this
  exact this
theorem mul_eq (p q : Rat) : p * q = Rat.divInt (p.num * q.num) (p.den * q.den) := by
  have := Rat.divInt_mul_divInt p.num q.num (d₁ := p.den) (d₂ := q.den)
  rw [Rat.num_divInt_den, Rat.num_divInt_den] at this
  exact this
theorem den_lt {q : Rat} {k : Nat} (h : Z k q) : ((q.den : Int)).natAbs < 2 ^ k := by rw [Int.natAbs_natCast]; exact h.2
theorem den_mul (p q : Rat) : (0 : Int) < p.den * q.den := Int.mul_pos (den_pos p) (den_pos q)
theorem num_lt {p q : Rat} {i j : Nat} (hp : Z i p) (hq : Z j q) : (p.num * q.den + q.num * p.den).natAbs < 2 ^ (i + j + 1) := by
  have h1 := mul_lt hp.1 (den_lt hq)
  have h2 := mul_lt hq.1 (den_lt hp)
  rw [Nat.add_comm j i] at h2
  rw [Nat.pow_succ]
  omega
theorem Z_add {p q : Rat} {i j : Nat} (hp : Z i p) (hq : Z j q) : Z (i + j + 1) (p + q) := by
  rw [add_eq]
  exact Z_div (den_mul p q) (num_lt hp hq) (Nat.lt_of_lt_of_le (mul_lt (den_lt hp) (den_lt hq)) (Nat.pow_le_pow_right (by decide) (by omega)))
theorem Z_mul {p q : Rat} {i j : Nat} (hp : Z i p) (hq : Z j q) : Z (i + j) (p * q) := by
  rw [mul_eq]
  exact Z_div (den_mul p q) (mul_lt hp.1 hq.1) (mul_lt (den_lt hp) (den_lt hq))
theorem Z_neg {p : Rat} {i : Nat} (hp : Z i p) : Z i (-p) := ⟨by rw [Rat.neg_num, Int.natAbs_neg]; exact hp.1, by rw [Rat.neg_den]; exact hp.2⟩
theorem Z_sub {p q : Rat} {i j : Nat} (hp : Z i p) (hq : Z j q) : Z (i + j + 1) (p - q) := by
  rw [Rat.sub_eq_add_neg]
  exact Z_add hp (Z_neg hq)
def ab (q : Rat) : Rat := if q.num < 0 then -q else q
theorem Z_ab {p : Rat} {i : Nat} (hp : Z i p) : Z i (ab p) := by
  unfold ab
  split
  · exact Z_neg hp
  · exact hp
theorem p3 {i k : Nat} {x : Int} (h : x.natAbs < 2 ^ i) (e : i ≤ 8000 := by omega) : x.natAbs < 2 ^ 8000 := Nat.lt_of_lt_of_le h (Nat.pow_le_pow_right (by decide) e)
end Pv.K44


set_option Elab.async false
set_option linter.all false
set_option maxRecDepth 100000
set_option exponentiation.threshold 20
/-! L2: the fractions' defs. -/
namespace Pv.K44
open Pv
local macro_rules
  | `(tactic| simp! only [$xs,*]) => `(tactic| simp only [ev.eq_1, ev.eq_2, ev.eq_3, ev.eq_4, ev.eq_5, ev.eq_6, ev.eq_7, ev.eq_8, ev.eq_9, ev.eq_10, ev.eq_11, ev.eq_12, ev.eq_13, ev.eq_14, ev.eq_15, ev.eq_16, ev.eq_17, ev.eq_18, ev.eq_19, ev.eq_20, ev.eq_21, ev.eq_22, ev.eq_23, ev.eq_24, ev.eq_25, ev.eq_26, ev.eq_27, ev.eq_28, ev.eq_29, ev.eq_30, ev.eq_35, evs, evT, exec.eq_1, exec.eq_2, exec.eq_3, exec.eq_4, exec.eq_5, exec.eq_6, exec.eq_7, exec.eq_8, exec.eq_9, exec.eq_10, exec.eq_11, exec.eq_12, exec.eq_13, exec.eq_14, exec.eq_15, exec.eq_16, exec.eq_19, exec.eq_20, exec.eq_21, exec.eq_22, exec.eq_23, execs, x_whl, x_for, x_comp, x_compIf, x_comp2, x_comp2If, bor, vi, mkEnv, eg, es, frzA, frzS, bn, bt, bq, bind_F, setAll, setAllT, bind1, setPar, wipeE, tgs, b_add, b_sub, b_mul, b_fdiv, b_mod, b_shl, b_shr, b_pow, b_tup, b_lst, o_lt, o_le, o_gt, o_ge, o_eqi, o_nei, o_neb, sl_a, sl_b, sl_bl, sl_c, cmp_nil, cmp_cons, cmpY_nil, cmpY_cons, ixW_3, ixL_0, ixL_1, ixL_2, ixL_3, btl, o_isb, o_eqs, o_nes, o_int, o_nit, isF_s, isF_i, deq_ss, deq_ii, List.all_cons, List.all_nil, List.any_cons, List.any_nil, Nat.reduceEqDiff, Int.reduceEq, u_len1, u_len2, u_len3, u_abs, u_int, u_intb, u_lst1, u_lst2, u_lst3, u_tup, u_max, u_min, s_int, s_bl, s_tup, s_lst, s_non, s_str, a_add, a_sub, i_tup, i_lst, r_bl, r_int, fin, chk_own, chk_some, isN, bnd, iN_non, iN_int, iN_bl, iN_str, iN_tup, iN_lst, iN_F, ixW_0, ixW_1, ixW_2, F_0, F_1, ixW_w, wg_1, wg_0, wp_0, List.map, List.length, List.replicate, List.cons_append, List.nil_append, List.append_nil, Nat.reduceSub, Nat.reduceAdd, Nat.sub_self, Nat.sub_zero, if_true, Bool.false_eq_true, if_false, reduceIte, ite_true, ite_false, Bool.and_self, Bool.and_true, Bool.true_and, Bool.not_true, Bool.not_false, Nat.reduceLT, Nat.reduceLeDiff, decide_true, decide_false, Int.reduceLT, Int.reduceLE, Int.reduceAdd, Int.reduceSub, Int.reduceNeg, Bool.or_true, Bool.or_false, Bool.true_or, Bool.false_or, Bool.and_false, Bool.false_and, $xs,*])
  | `(tactic| simp! only) => `(tactic| simp only [ev.eq_1, ev.eq_2, ev.eq_3, ev.eq_4, ev.eq_5, ev.eq_6, ev.eq_7, ev.eq_8, ev.eq_9, ev.eq_10, ev.eq_11, ev.eq_12, ev.eq_13, ev.eq_14, ev.eq_15, ev.eq_16, ev.eq_17, ev.eq_18, ev.eq_19, ev.eq_20, ev.eq_21, ev.eq_22, ev.eq_23, ev.eq_24, ev.eq_25, ev.eq_26, ev.eq_27, ev.eq_28, ev.eq_29, ev.eq_30, ev.eq_35, evs, evT, exec.eq_1, exec.eq_2, exec.eq_3, exec.eq_4, exec.eq_5, exec.eq_6, exec.eq_7, exec.eq_8, exec.eq_9, exec.eq_10, exec.eq_11, exec.eq_12, exec.eq_13, exec.eq_14, exec.eq_15, exec.eq_16, exec.eq_19, exec.eq_20, exec.eq_21, exec.eq_22, exec.eq_23, execs, x_whl, x_for, x_comp, x_compIf, x_comp2, x_comp2If, bor, vi, mkEnv, eg, es, frzA, frzS, bn, bt, bq, bind_F, setAll, setAllT, bind1, setPar, wipeE, tgs, b_add, b_sub, b_mul, b_fdiv, b_mod, b_shl, b_shr, b_pow, b_tup, b_lst, o_lt, o_le, o_gt, o_ge, o_eqi, o_nei, o_neb, sl_a, sl_b, sl_bl, sl_c, cmp_nil, cmp_cons, cmpY_nil, cmpY_cons, ixW_3, ixL_0, ixL_1, ixL_2, ixL_3, btl, o_isb, o_eqs, o_nes, o_int, o_nit, isF_s, isF_i, deq_ss, deq_ii, List.all_cons, List.all_nil, List.any_cons, List.any_nil, Nat.reduceEqDiff, Int.reduceEq, u_len1, u_len2, u_len3, u_abs, u_int, u_intb, u_lst1, u_lst2, u_lst3, u_tup, u_max, u_min, s_int, s_bl, s_tup, s_lst, s_non, s_str, a_add, a_sub, i_tup, i_lst, r_bl, r_int, fin, chk_own, chk_some, isN, bnd, iN_non, iN_int, iN_bl, iN_str, iN_tup, iN_lst, iN_F, ixW_0, ixW_1, ixW_2, F_0, F_1, ixW_w, wg_1, wg_0, wp_0, List.map, List.length, List.replicate, List.cons_append, List.nil_append, List.append_nil, Nat.reduceSub, Nat.reduceAdd, Nat.sub_self, Nat.sub_zero, if_true, Bool.false_eq_true, if_false, reduceIte, ite_true, ite_false, Bool.and_self, Bool.and_true, Bool.true_and, Bool.not_true, Bool.not_false, Nat.reduceLT, Nat.reduceLeDiff, decide_true, decide_false, Int.reduceLT, Int.reduceLE, Int.reduceAdd, Int.reduceSub, Int.reduceNeg, Bool.or_true, Bool.or_false, Bool.true_or, Bool.false_or, Bool.and_false, Bool.false_and])
variable (n : Nat) (ws : WS)
theorem okZ1 {q : Rat} (h : Z 4000 q) : okI q.num = true := okI_of (p3 (k := 0) h.1)
theorem okZ2 {q : Rat} (h : Z 4000 q) : okI (q.den : Int) = true := okI_of (p3 (k := 0) (den_lt h))
theorem F_ab (q : Rat) : D.tup [.int (if q.num < 0 then -q.num else q.num), .int q.den] = F (ab q) := by
  unfold ab F
  split
  · rw [Rat.neg_num, Rat.neg_den]
  · rfl
theorem c_added {p q : Rat} (hp : Z 4000 p) (hq : Z 4000 q) : callO P (n + 3) 3 [F p, F q] ws = some (F (p + q), ws) := by
  rw [call_at (d := d_added) rfl rfl]
  simp! only [d_added, b_added, okZ1 hp, okZ1 hq, okZ2 hp, okZ2 hq]
  rw [c_fraction n _ _ ws (den_mul p q) (p3 (k := 0) (mul_lt (den_lt hp) (den_lt hq))), ← add_eq]
  simp! only
theorem c_times {p q : Rat} (hp : Z 4000 p) (hq : Z 4000 q) : callO P (n + 3) 6 [F p, F q] ws = some (F (p * q), ws) := by
  rw [call_at (d := d_times) rfl rfl]
  simp! only [d_times, b_times, okZ1 hp, okZ1 hq, okZ2 hp, okZ2 hq]
  rw [c_fraction n _ _ ws (den_mul p q) (p3 (k := 0) (mul_lt (den_lt hp) (den_lt hq))), ← mul_eq]
  simp! only
theorem c_size (q : Rat) : callO P (n + 1) 8 [F q] ws = some (F (ab q), ws) := by
  rw [call_at (d := d_size) rfl rfl]
  simp! only [d_size, b_size, F_ab]
theorem c_is_most {p q : Rat} (hp : Z 4000 p) (hq : Z 4000 q) : callO P (n + 1) 10 [F p, F q] ws = some (.bl (decide (p ≤ q)), ws) := by
  rw [call_at (d := d_is_most) rfl rfl]
  simp! only [d_is_most, b_is_most, okZ1 hp, okZ1 hq, okZ2 hp, okZ2 hq, Rat.le_iff]
theorem c__law_less {p q : Rat} (hp : Z 4000 p) (hq : Z 4000 q) : callO P (n + 1) 69 [F p, F q] ws = some (.bl (decide (p < q)), ws) := by
  rw [call_at (d := d__law_less) rfl rfl]
  simp! only [d__law_less, b__law_less, okZ1 hp, okZ1 hq, okZ2 hp, okZ2 hq, Rat.lt_iff]
theorem c__law_off (q : Rat) : callO P (n + 1) 72 [F q] ws = some (F (-q), ws) := by
  rw [call_at (d := d__law_off) rfl rfl]
  simp! only [d__law_off, b__law_off]
  rw [F, Rat.neg_num, Rat.neg_den, Int.zero_sub]
theorem c__law_size (q : Rat) : callO P (n + 1) 73 [F q] ws = some (F (ab q), ws) := by
  rw [call_at (d := d__law_size) rfl rfl]
  simp! only [d__law_size, b__law_size]
  rw [← F_ab]
  congr 4
  · split <;> split <;> first | rfl | omega | (congr 1; omega) | (exfalso; omega)
/-- 2 to by -/
def pw (e : Int) : Rat := if 0 ≤ e then Rat.divInt (2 ^ e.toNat) 1 else Rat.divInt 1 (2 ^ (-e).toNat)
theorem pos2 (k : Nat) : (0 : Int) < 2 ^ k := Int.pow_pos (by decide)
theorem F_pw (e : Int) : F (pw e) = if 0 ≤ e then .tup [.int (2 ^ e.toNat), .int 1] else .tup [.int 1, .int (2 ^ (-e).toNat)] := by
  unfold pw
  split
  · rw [← mkF (by decide)]
    simp
  · rw [← mkF (pos2 _)]
    simp
theorem c_two_to {e : Int} (h1 : -3000 ≤ e) (h2 : e ≤ 3000) : callO P (n + 1) 13 [.int e] ws = some (F (pw e), ws) := by
  rw [call_at (d := d_two_to) rfl rfl, F_pw]
  by_cases h : 0 ≤ e
  · have : e ≤ 100000 := by omega
    simp! only [d_two_to, b_two_to, h, this, decide_true, Int.one_mul, Int.natAbs_one]
    done
  · have g1 : 0 ≤ -e := by omega
    have g2 : -e ≤ 100000 := by omega
    simp! only [d_two_to, b_two_to, h, g1, g2, decide_true, decide_false, Int.one_mul, Int.natAbs_one]
    done
theorem c__law_two {e : Int} (h1 : -3000 ≤ e) (h2 : e ≤ 3000) : callO P (n + 1) 76 [.int e] ws = some (F (pw e), ws) := by
  rw [call_at (d := d__law_two) rfl rfl, F_pw]
  by_cases h : 0 ≤ e
  · have : e ≤ 100000 := by omega
    simp! only [d__law_two, b__law_two, h, this, decide_true, Int.one_mul, Int.natAbs_one]
    done
  · have g1 : 0 ≤ -e := by omega
    have g2 : -e ≤ 100000 := by omega
    simp! only [d__law_two, b__law_two, h, g1, g2, decide_true, decide_false, Int.one_mul, Int.natAbs_one, Int.zero_sub]
    done
end Pv.K44


set_option Elab.async false
set_option linter.all false
set_option maxRecDepth 100000
set_option exponentiation.threshold 20
/-! L3: quotients, comparisons, powers of 2, exponents. -/
namespace Pv.K44
open Pv
local macro_rules
  | `(tactic| simp! only [$xs,*]) => `(tactic| simp only [ev.eq_1, ev.eq_2, ev.eq_3, ev.eq_4, ev.eq_5, ev.eq_6, ev.eq_7, ev.eq_8, ev.eq_9, ev.eq_10, ev.eq_11, ev.eq_12, ev.eq_13, ev.eq_14, ev.eq_15, ev.eq_16, ev.eq_17, ev.eq_18, ev.eq_19, ev.eq_20, ev.eq_21, ev.eq_22, ev.eq_23, ev.eq_24, ev.eq_25, ev.eq_26, ev.eq_27, ev.eq_28, ev.eq_29, ev.eq_30, ev.eq_35, evs, evT, exec.eq_1, exec.eq_2, exec.eq_3, exec.eq_4, exec.eq_5, exec.eq_6, exec.eq_7, exec.eq_8, exec.eq_9, exec.eq_10, exec.eq_11, exec.eq_12, exec.eq_13, exec.eq_14, exec.eq_15, exec.eq_16, exec.eq_19, exec.eq_20, exec.eq_21, exec.eq_22, exec.eq_23, execs, x_whl, x_for, x_comp, x_compIf, x_comp2, x_comp2If, bor, vi, mkEnv, eg, es, frzA, frzS, bn, bt, bq, bind_F, setAll, setAllT, bind1, setPar, wipeE, tgs, b_add, b_sub, b_mul, b_fdiv, b_mod, b_shl, b_shr, b_pow, b_tup, b_lst, o_lt, o_le, o_gt, o_ge, o_eqi, o_nei, o_neb, sl_a, sl_b, sl_bl, sl_c, cmp_nil, cmp_cons, cmpY_nil, cmpY_cons, ixW_3, ixL_0, ixL_1, ixL_2, ixL_3, btl, o_isb, o_eqs, o_nes, o_int, o_nit, isF_s, isF_i, deq_ss, deq_ii, List.all_cons, List.all_nil, List.any_cons, List.any_nil, Nat.reduceEqDiff, Int.reduceEq, u_len1, u_len2, u_len3, u_abs, u_int, u_intb, u_lst1, u_lst2, u_lst3, u_tup, u_max, u_min, s_int, s_bl, s_tup, s_lst, s_non, s_str, a_add, a_sub, i_tup, i_lst, r_bl, r_int, fin, chk_own, chk_some, isN, bnd, iN_non, iN_int, iN_bl, iN_str, iN_tup, iN_lst, iN_F, ixW_0, ixW_1, ixW_2, F_0, F_1, ixW_w, wg_1, wg_0, wp_0, List.map, List.length, List.replicate, List.cons_append, List.nil_append, List.append_nil, Nat.reduceSub, Nat.reduceAdd, Nat.sub_self, Nat.sub_zero, if_true, Bool.false_eq_true, if_false, reduceIte, ite_true, ite_false, Bool.and_self, Bool.and_true, Bool.true_and, Bool.not_true, Bool.not_false, Nat.reduceLT, Nat.reduceLeDiff, decide_true, decide_false, Int.reduceLT, Int.reduceLE, Int.reduceAdd, Int.reduceSub, Int.reduceNeg, Bool.or_true, Bool.or_false, Bool.true_or, Bool.false_or, Bool.and_false, Bool.false_and, $xs,*])
  | `(tactic| simp! only) => `(tactic| simp only [ev.eq_1, ev.eq_2, ev.eq_3, ev.eq_4, ev.eq_5, ev.eq_6, ev.eq_7, ev.eq_8, ev.eq_9, ev.eq_10, ev.eq_11, ev.eq_12, ev.eq_13, ev.eq_14, ev.eq_15, ev.eq_16, ev.eq_17, ev.eq_18, ev.eq_19, ev.eq_20, ev.eq_21, ev.eq_22, ev.eq_23, ev.eq_24, ev.eq_25, ev.eq_26, ev.eq_27, ev.eq_28, ev.eq_29, ev.eq_30, ev.eq_35, evs, evT, exec.eq_1, exec.eq_2, exec.eq_3, exec.eq_4, exec.eq_5, exec.eq_6, exec.eq_7, exec.eq_8, exec.eq_9, exec.eq_10, exec.eq_11, exec.eq_12, exec.eq_13, exec.eq_14, exec.eq_15, exec.eq_16, exec.eq_19, exec.eq_20, exec.eq_21, exec.eq_22, exec.eq_23, execs, x_whl, x_for, x_comp, x_compIf, x_comp2, x_comp2If, bor, vi, mkEnv, eg, es, frzA, frzS, bn, bt, bq, bind_F, setAll, setAllT, bind1, setPar, wipeE, tgs, b_add, b_sub, b_mul, b_fdiv, b_mod, b_shl, b_shr, b_pow, b_tup, b_lst, o_lt, o_le, o_gt, o_ge, o_eqi, o_nei, o_neb, sl_a, sl_b, sl_bl, sl_c, cmp_nil, cmp_cons, cmpY_nil, cmpY_cons, ixW_3, ixL_0, ixL_1, ixL_2, ixL_3, btl, o_isb, o_eqs, o_nes, o_int, o_nit, isF_s, isF_i, deq_ss, deq_ii, List.all_cons, List.all_nil, List.any_cons, List.any_nil, Nat.reduceEqDiff, Int.reduceEq, u_len1, u_len2, u_len3, u_abs, u_int, u_intb, u_lst1, u_lst2, u_lst3, u_tup, u_max, u_min, s_int, s_bl, s_tup, s_lst, s_non, s_str, a_add, a_sub, i_tup, i_lst, r_bl, r_int, fin, chk_own, chk_some, isN, bnd, iN_non, iN_int, iN_bl, iN_str, iN_tup, iN_lst, iN_F, ixW_0, ixW_1, ixW_2, F_0, F_1, ixW_w, wg_1, wg_0, wp_0, List.map, List.length, List.replicate, List.cons_append, List.nil_append, List.append_nil, Nat.reduceSub, Nat.reduceAdd, Nat.sub_self, Nat.sub_zero, if_true, Bool.false_eq_true, if_false, reduceIte, ite_true, ite_false, Bool.and_self, Bool.and_true, Bool.true_and, Bool.not_true, Bool.not_false, Nat.reduceLT, Nat.reduceLeDiff, decide_true, decide_false, Int.reduceLT, Int.reduceLE, Int.reduceAdd, Int.reduceSub, Int.reduceNeg, Bool.or_true, Bool.or_false, Bool.true_or, Bool.false_or, Bool.and_false, Bool.false_and])
variable (n : Nat) (ws : WS)
/-! a divisor below 0 -/
theorem fdiv_neg {a g : Int} (hg : 0 < g) (h : g ∣ a) : a.fdiv (-g) = -a / g := by
  obtain ⟨c, rfl⟩ := h
  rw [show g * c = (-g) * (-c) by grind, Int.mul_fdiv_cancel_left _ (by omega), show -(-g * -c) = g * (-c) by grind, Int.mul_ediv_cancel_left _ (by omega)]
theorem mkFn {a b : Int} (hb : b < 0) : D.tup [.int (a.fdiv (-(Int.gcd a b : Int))), .int (b.fdiv (-(Int.gcd a b : Int)))] = F (Rat.divInt a b) := by
  have g0 : 0 < (Int.gcd a b : Int) := by
    have : Int.gcd a b ≠ 0 := fun z => by rw [Int.gcd_eq_zero_iff] at z; omega
    omega
  rw [fdiv_neg g0 (Int.gcd_dvd_left ..), fdiv_neg g0 (Int.gcd_dvd_right ..)]
  have e : Int.gcd a b = Int.gcd (-a) (-b) := by rw [Int.gcd_neg, Int.neg_gcd]
  rw [e, mkF (by omega), Rat.neg_divInt_neg]
theorem c_fraction_n (a b : Int) (hb : b < 0) (hb2 : b.natAbs < 2 ^ 8000) : callO P (n + 2) 2 [.int a, .int b] ws = some (F (Rat.divInt a b), ws) := by
  have g0 : 0 < (Int.gcd a b : Int) := by
    have : Int.gcd a b ≠ 0 := fun z => by rw [Int.gcd_eq_zero_iff] at z; omega
    omega
  have g1 := okI_of (i := -(Int.gcd a b : Int)) (by rw [Int.natAbs_neg]; exact gcd_lt (by omega) hb2)
  have c1 : ¬ 0 < b := by omega
  have c2 : ¬ 0 < -(Int.gcd a b : Int) := by omega
  have c3 : -(Int.gcd a b : Int) < 0 := by omega
  rw [call_at (d := d_fraction) rfl rfl]
  simp! only [d_fraction, b_fraction, c_common n a b ws hb2, decide_eq_false c1, decide_eq_false c2, decide_eq_true c3, g1]
  rw [mkFn hb]
theorem c__law_least_n (a b : Int) (hb : b < 0) (hb2 : b.natAbs < 2 ^ 8000) : callO P (n + 1) 65 [.int a, .int b] ws = some (F (Rat.divInt a b), ws) := by
  have := euclid (ws := ws) (c := fun env ws => evT (callO P n) t__law_least_0 env ws) (b := fun env ws => execs (callO P n) l__law_least_1 env ws)
    (fun x y => [.va (.int a), .va (.int b), .va (.int x), .va (.int y)]) (fun x y => by simp! only [t__law_least_0]) (fun x y h => by simp! only [l__law_least_1, decide_eq_true h])
    8000 a.natAbs b.natAbs fuel (by omega) (by omega) (pow3 hb2) (by unfold fuel; omega)
  have e : Int.gcd (a.natAbs : Int) (b.natAbs : Int) = Int.gcd a b := by simp [Int.gcd]
  rw [e] at this
  change whlX (callO P n) _ _ fuel _ _ = _ at this
  have g0 : 0 < (Int.gcd a b : Int) := by
    have : Int.gcd a b ≠ 0 := fun z => by rw [Int.gcd_eq_zero_iff] at z; omega
    omega
  have g1 := okI_of (i := -(Int.gcd a b : Int)) (by rw [Int.natAbs_neg]; exact gcd_lt (by omega) hb2)
  have c1 : ¬ 0 < b := by omega
  have c2 : ¬ 0 < -(Int.gcd a b : Int) := by omega
  have c3 : -(Int.gcd a b : Int) < 0 := by omega
  rw [call_at (d := d__law_least) rfl rfl]
  simp! only [d__law_least, b__law_least, absI, this, Int.zero_sub, decide_eq_false c1, decide_eq_false c2, decide_eq_true c3, g1]
  rw [mkFn hb]
theorem div_eq {p q : Rat} (h : q.num ≠ 0) : p / q = Rat.divInt (p.num * q.den) (p.den * q.num) := by
  rw [Rat.div_def, Rat.inv_def]
  have := Rat.divInt_mul_divInt p.num q.den (d₁ := p.den) (d₂ := q.num)
  rw [Rat.num_divInt_den] at this
  exact this
theorem Z_divn {u l : Int} {k : Nat} (hl : l ≠ 0) (h1 : u.natAbs < 2 ^ k) (h2 : l.natAbs < 2 ^ k) : Z k (Rat.divInt u l) := by
  by_cases h : 0 < l
  · exact Z_div h h1 h2
  · have e : Rat.divInt u l = Rat.divInt (-u) (-l) := (Rat.neg_divInt_neg _ _).symm
    rw [e]
    exact Z_div (by omega) (by rw [Int.natAbs_neg]; exact h1) (by rw [Int.natAbs_neg]; exact h2)
theorem Z_quo {p q : Rat} {i j : Nat} (hp : Z i p) (hq : Z j q) (h : q.num ≠ 0) : Z (i + j) (p / q) := by
  rw [div_eq h]
  exact Z_divn (Int.mul_ne_zero (by have := den_pos p; omega) h) (mul_lt hp.1 (den_lt hq)) (mul_lt (den_lt hp) hq.1)
theorem dn_ne {p q : Rat} (h : q.num ≠ 0) : (p.den : Int) * q.num ≠ 0 := Int.mul_ne_zero (by have := den_pos p; omega) h
/-! comparisons -/
/-- the lesser, the greater -/
def mn (p q : Rat) : Rat := if q < p then q else p
def mx (p q : Rat) : Rat := if p < q then q else p
theorem Z_mn {p q : Rat} {k : Nat} (hp : Z k p) (hq : Z k q) : Z k (mn p q) := by unfold mn; split <;> assumption
theorem Z_mx {p q : Rat} {k : Nat} (hp : Z k p) (hq : Z k q) : Z k (mx p q) := by unfold mx; split <;> assumption
theorem F_if {c : Prop} [Decidable c] {p q : Rat} : (if c then F p else F q) = F (if c then p else q) := by split <;> rfl
theorem c_is_less {p q : Rat} (hp : Z 4000 p) (hq : Z 4000 q) : callO P (n + 1) 9 [F p, F q] ws = some (.bl (decide (p < q)), ws) := by
  rw [call_at (d := d_is_less) rfl rfl]
  simp! only [d_is_less, b_is_less, okZ1 hp, okZ1 hq, okZ2 hp, okZ2 hq, Rat.lt_iff]
/-! powers of 2 -/
theorem F_inj {q : Rat} {a b : Int} (h : F q = .tup [.int a, .int b]) : q.num = a ∧ (q.den : Int) = b := by
  unfold F at h
  simp only [D.tup.injEq, List.cons.injEq, D.int.injEq, and_true] at h
  exact h
theorem pw_nn {e : Int} (h : 0 ≤ e) : (pw e).num = 2 ^ e.toNat ∧ ((pw e).den : Int) = 1 := F_inj (by rw [F_pw, if_pos h])
theorem pw_ng {e : Int} (h : ¬ 0 ≤ e) : (pw e).num = 1 ∧ ((pw e).den : Int) = 2 ^ (-e).toNat := F_inj (by rw [F_pw, if_neg h])
theorem pw_le {e : Int} {a b : Nat} (h : e = (a : Int) - b) (q : Rat) : pw e ≤ q ↔ 2 ^ a * (q.den : Int) ≤ q.num * 2 ^ b := by
  rw [Rat.le_iff]
  by_cases h0 : 0 ≤ e
  · rw [(pw_nn h0).1, (pw_nn h0).2, Int.mul_one]
    have : a = e.toNat + b := by omega
    rw [this, Int.pow_add, Int.mul_right_comm]
    exact ⟨fun z => Int.mul_le_mul_of_nonneg_right z (Int.le_of_lt (pos2 b)), fun z => Int.le_of_mul_le_mul_right z (pos2 b)⟩
  · rw [(pw_ng h0).1, (pw_ng h0).2, Int.one_mul]
    have : b = a + (-e).toNat := by omega
    rw [this, Int.pow_add, ← Int.mul_assoc, Int.mul_right_comm q.num, Int.mul_comm (2 ^ a)]
    exact ⟨fun z => Int.mul_le_mul_of_nonneg_right z (Int.le_of_lt (pos2 a)), fun z => Int.le_of_mul_le_mul_right z (pos2 a)⟩
theorem lt_pw {e : Int} {a b : Nat} (h : e = (a : Int) - b) (q : Rat) : q < pw e ↔ q.num * 2 ^ b < 2 ^ a * (q.den : Int) := by
  rw [← Rat.not_le, pw_le h, Int.not_le]
theorem pw_pos (e : Int) : (0 : Rat) < pw e := by
  rw [Rat.lt_iff]
  have h1 : (0 : Rat).num = 0 := rfl
  have h2 : (((0 : Rat).den : Nat) : Int) = 1 := rfl
  rw [h1, h2, Int.zero_mul, Int.mul_one]
  by_cases h0 : 0 ≤ e
  · rw [(pw_nn h0).1]; exact pos2 _
  · rw [(pw_ng h0).1]; decide
theorem p2m {a b : Nat} (h : a ≤ b) : (2 : Int) ^ a ≤ 2 ^ b := by
  have := Int.ofNat_le.mpr (Nat.pow_le_pow_right (show 0 < 2 by decide) h)
  rw [Int.natCast_pow, Int.natCast_pow] at this
  exact this
theorem pw_mono {e f : Int} (h : e ≤ f) : pw e ≤ pw f := by
  have ea : e = ((e + (e.natAbs + f.natAbs : Nat)).toNat : Int) - ((e.natAbs + f.natAbs : Nat) : Int) := by omega
  rw [pw_le ea]
  by_cases h0 : 0 ≤ f
  · rw [(pw_nn h0).1, (pw_nn h0).2, Int.mul_one, ← Int.pow_add]
    exact p2m (by omega)
  · rw [(pw_ng h0).1, (pw_ng h0).2, Int.one_mul, ← Int.pow_add]
    exact p2m (by omega)
theorem pw_inv (e : Int) : pw e * pw (-e) = 1 := by
  have key : ∀ k : Nat, Rat.divInt (2 ^ k) 1 * Rat.divInt 1 (2 ^ k) = 1 := fun k => by
    rw [Rat.divInt_mul_divInt, Int.mul_one, Int.one_mul]
    have := Rat.divInt_self' (n := (2 : Int) ^ k) (by have := pos2 k; omega)
    exact this
  unfold pw
  by_cases h0 : 0 ≤ e
  · by_cases h1 : 0 ≤ -e
    · have : e = 0 := by omega
      subst this
      rw [if_pos h0, if_pos h1]
      simpa using key 0
    · rw [if_pos h0, if_neg h1, Int.neg_neg]
      exact key _
  · rw [if_neg h0, if_pos (by omega), Rat.mul_comm]
    exact key _
theorem two_lt {k : Nat} {e : Int} {m : Nat} (h1 : e.toNat ≤ m) : (2 ^ e.toNat : Int).natAbs < 2 ^ (m + 1) := by
  rw [Int.natAbs_pow]
  exact Nat.pow_lt_pow_right (by decide) (by omega)
theorem Z_pw {e : Int} {m : Nat} (h1 : -(m : Int) ≤ e) (h2 : e ≤ m) : Z (m + 1) (pw e) := by
  have o : (1 : Int).natAbs < 2 ^ (m + 1) := Nat.one_lt_two_pow (by omega)
  unfold pw
  split
  · exact Z_div (by decide) (two_lt (k := 0) (by omega)) o
  · exact Z_div (pos2 _) o (two_lt (k := 0) (by omega))
/-- the exponent of q -/
def isE (q : Rat) (e : Int) : Prop := pw e ≤ ab q ∧ ab q < pw (e + 1)
theorem isE_one {q : Rat} {e f : Int} (h1 : isE q e) (h2 : isE q f) : e = f := by
  have key : ∀ {e f : Int}, isE q e → isE q f → ¬ e < f := fun {e f} h1 h2 h => by
    have := pw_mono (show e + 1 ≤ f by omega)
    have a := h1.2
    have b := h2.1
    grind
  have := key h1 h2
  have := key h2 h1
  omega
open Classical in
noncomputable def ex (q : Rat) : Int := if h : ∃ e, isE q e then Classical.choose h else 0
theorem ex_of {q : Rat} {e : Int} (h : isE q e) : ex q = e := by
  unfold ex
  rw [dif_pos ⟨e, h⟩]
  exact isE_one (Classical.choose_spec _) h
theorem pw_z (e : Int) : pw e = (2 : Rat) ^ e := by
  have key : ∀ k : Nat, Rat.divInt (2 ^ k) 1 = (2 : Rat) ^ k := fun k => by
    induction k with
    | zero => rfl
    | succ k ih =>
      rw [Rat.pow_succ, ← ih, Int.pow_succ]
      have := Rat.divInt_mul_divInt (2 ^ k) 2 (d₁ := 1) (d₂ := 1)
      rw [show (2 : Rat) = Rat.divInt 2 1 from rfl, this]
      rfl
  have nn : ∀ e : Int, 0 ≤ e → pw e = (2 : Rat) ^ e := fun e h => by
    obtain ⟨k, rfl⟩ := Int.eq_ofNat_of_zero_le h
    unfold pw
    rw [if_pos h, Int.toNat_natCast, key, Rat.zpow_natCast]
  by_cases h : 0 ≤ e
  · exact nn e h
  · have h1 := pw_inv e
    rw [nn (-e) (by omega), Rat.zpow_neg] at h1
    have h2 : (2 : Rat) ^ e ≠ 0 := by
      have : (0 : Rat) < 2 ^ e := Rat.zpow_pos (by decide)
      grind
    grind
theorem pw_add (a b : Int) : pw (a + b) = pw a * pw b := by
  rw [pw_z, pw_z, pw_z, Rat.zpow_add (by decide)]
theorem pw_one : pw 1 = 2 := rfl
theorem pw_zero : pw 0 = 1 := rfl
theorem pw_succ (a : Int) : pw (a + 1) = pw a * 2 := by rw [pw_add, pw_one]
theorem pw_lt {e f : Int} (h : e < f) : pw e < pw f := by
  have h1 := pw_mono (show e + 1 ≤ f by omega)
  have h2 := pw_pos e
  rw [pw_succ] at h1
  grind
theorem pw_lt_iff {e f : Int} : pw e < pw f ↔ e < f := ⟨fun h => by
  by_cases c : e < f
  · exact c
  · have := pw_mono (show f ≤ e by omega)
    grind, pw_lt⟩
theorem pw_le_iff {e f : Int} : pw e ≤ pw f ↔ e ≤ f := ⟨fun h => by
  by_cases c : e ≤ f
  · exact c
  · have := pw_lt (show f < e by omega)
    grind, pw_mono⟩
theorem ab_num (q : Rat) : (ab q).num = q.num.natAbs := by
  unfold ab
  split
  · rw [Rat.neg_num]; omega
  · omega
theorem ab_den (q : Rat) : (ab q).den = q.den := by
  unfold ab
  split
  · rw [Rat.neg_den]
  · rfl
/-! bits -/
theorem bits_loop : ∀ (j k m : Nat) (x : Int), 0 ≤ x → x < 2 ^ (k + j) → j + 1 ≤ m → (k = 0 ∨ 2 ^ (k - 1) ≤ x) →
    ∃ r : Nat, k ≤ r ∧ r ≤ k + j ∧ whlX (callO P n) t_bits_of_0 l_bits_of_1 m [.va (.int x), .va (.int k)] ws = some (.nx, [.va (.int x), .va (.int r)], ws) ∧ x < 2 ^ r ∧ (r = 0 ∨ 2 ^ (r - 1) ≤ x)
  | j, k, m, x, hx, hk, hm, hp => by
    obtain ⟨m, rfl⟩ : ∃ i, m = i + 1 := ⟨m - 1, by omega⟩
    have p0 := pos2 k
    have k0 : (0 : Int) ≤ k := by omega
    by_cases h : x < 2 ^ k
    · refine ⟨k, Nat.le_refl _, by omega, whl_stop ?_, h, hp⟩
      have : ¬ 0 < x / 2 ^ k := by rw [Int.ediv_eq_zero_of_lt hx h]; decide
      simp! only [t_bits_of_0, decide_eq_true k0, Int.toNat_natCast, decide_eq_false this]
    · cases j with
      | zero => exact absurd hk h
      | succ j =>
        have : 0 < x / 2 ^ k := by have := (Int.le_ediv_iff_mul_le (a := 1) (b := x) p0).mpr (by omega); omega
        obtain ⟨r, h1, h2, h3, h4⟩ := bits_loop j (k + 1) m x hx (by rw [show k + 1 + j = k + (j + 1) by omega]; exact hk) (by omega) (.inr (by simpa using h))
        refine ⟨r, by omega, by omega, ?_, h4⟩
        rw [whl_go (ws1 := ws) (ws2 := ws) (env2 := [.va (.int x), .va (.int ((k + 1 : Nat) : Int))])]
        · exact h3
        · simp! only [t_bits_of_0, decide_eq_true k0, Int.toNat_natCast, decide_eq_true this]
        · simp! only [l_bits_of_1]
          rfl
theorem c_bits_of {x : Int} (hx : 0 < x) (hl : x.natAbs < 2 ^ 4000) : ∃ r : Nat, r ≤ 4000 ∧ 1 ≤ r ∧ callO P (n + 1) 0 [.int x] ws = some (.int r, ws) ∧ x < 2 ^ r ∧ 2 ^ (r - 1) ≤ x := by
  have hx2 : x < 2 ^ (0 + 4000) := by
    have : ((x.natAbs : Nat) : Int) < ((2 ^ 4000 : Nat) : Int) := Int.ofNat_lt.mpr hl
    rw [Int.natCast_pow] at this
    rw [Nat.zero_add]
    have e : (x.natAbs : Int) = x := by omega
    rw [e] at this
    exact this
  obtain ⟨r, _, h2, h3, h4, h5⟩ := bits_loop n ws 4000 0 fuel x (by omega) hx2 (by unfold fuel; omega) (.inl rfl)
  have r1 : 1 ≤ r := by
    rcases Nat.eq_zero_or_pos r with z | z
    · subst z; simp at h4; omega
    · exact z
  refine ⟨r, by omega, r1, ?_, h4, h5.resolve_left (by omega)⟩
  have h3' : whlX (callO P n) t_bits_of_0 l_bits_of_1 fuel [.va (.int x), .va (.int 0)] ws = some (.nx, [.va (.int x), .va (.int r)], ws) := h3
  rw [call_at (d := d_bits_of) rfl rfl]
  simp! only [d_bits_of, b_bits_of, h3']
theorem c_shifted {q : Rat} {e : Int} (hq : Z 4000 q) (h1 : -2999 ≤ e) (h2 : e ≤ 2999) : callO P (n + 4) 14 [F q, .int e] ws = some (F (q * pw e), ws) := by
  rw [call_at (d := d_shifted) rfl rfl]
  simp! only [d_shifted, b_shifted, c_two_to (n + 2) ws (e := e) (by omega) (by omega), c_times n ws hq ((Z_pw (m := 2999) (by omega) (by omega)).mono (by decide))]
theorem lt_of_pow {x : Int} {r b : Nat} (h1 : 2 ^ (r - 1) ≤ x) (h2 : x.natAbs < 2 ^ b) : r ≤ b := by
  by_cases h : r ≤ b
  · exact h
  · exfalso
    have := p2m (show b ≤ r - 1 by omega)
    have h3 : ((x.natAbs : Nat) : Int) < ((2 ^ b : Nat) : Int) := Int.ofNat_lt.mpr h2
    rw [Int.natCast_pow] at h3
    have e : ((2 : Nat) : Int) ^ b = 2 ^ b := rfl
    omega
theorem c_exponent_of {q : Rat} {b : Nat} (hq : Z b q) (hb : b ≤ 2900) (h0 : q.num ≠ 0) : ∃ e : Int, isE q e ∧ -(b : Int) ≤ e ∧ e ≤ b ∧ callO P (n + 2) 15 [F q] ws = some (.int e, ws) := by
  have hu : (0 : Int) < q.num.natAbs := by omega
  have z := hq.mono (show b ≤ 4000 by omega)
  obtain ⟨u, _, u1, u2, u3, u4⟩ := c_bits_of n ws hu (by rw [Int.natAbs_natCast]; exact z.1)
  obtain ⟨l, _, l1, l2, l3, l4⟩ := c_bits_of n ws (den_pos q) (den_lt z)
  have ub := lt_of_pow u4 (by rw [Int.natAbs_natCast]; exact hq.1)
  have lb := lt_of_pow l4 (den_lt hq)
  have zf : Z 4000 (pw ((u : Int) - l)) := (Z_pw (m := 2900) (by omega) (by omega)).mono (by decide)
  have eF : D.tup [.int (if q.num < 0 then -q.num else q.num), .int q.den] = F (ab q) := F_ab q
  rw [absI] at eF
  have e14 := c_two_to n ws (e := (u : Int) - l) (by omega) (by omega)
  have e13 := c_is_most n ws zf (Z_ab z)
  have e2 : (q.num.natAbs : Int) < 2 ^ u := u3
  by_cases hc : pw ((u : Int) - l) ≤ ab q
  · refine ⟨(u : Int) - l, ⟨hc, ?_⟩, by omega, by omega, ?_⟩
    · rw [lt_pw (a := u) (b := l - 1) (by omega), ab_num, ab_den]
      exact Int.lt_of_lt_of_le (Int.mul_lt_mul_of_pos_right u3 (pos2 _)) (Int.mul_le_mul_of_nonneg_left l4 (Int.le_of_lt (pos2 _)))
    · rw [call_at (d := d_exponent_of) rfl rfl]
      simp! only [d_exponent_of, b_exponent_of, absI, u2, l2, e14, eF, e13, decide_eq_true hc]
  · refine ⟨(u : Int) - l - 1, ⟨?_, ?_⟩, by omega, by omega, ?_⟩
    · rw [pw_le (a := u - 1) (b := l) (by omega), ab_num, ab_den]
      exact Int.mul_le_mul u4 (Int.le_of_lt l3) (Int.le_of_lt (den_pos q)) (Int.natCast_nonneg _)
    · rw [Int.sub_add_cancel]
      exact Rat.not_le.mp hc
    · rw [call_at (d := d_exponent_of) rfl rfl]
      simp! only [d_exponent_of, b_exponent_of, absI, u2, l2, e14, eF, e13, decide_eq_false hc]
def rI (w : Int) : Rat := Rat.divInt w 1
theorem F_rI (w : Int) : D.tup [.int w, .int 1] = F (rI w) := by rw [rI, ← mkF (by decide)]; simp
end Pv.K44


set_option Elab.async false
set_option linter.all false
set_option maxRecDepth 100000
set_option exponentiation.threshold 20
/-! L4: formats and rounding: what the program's defs do. -/
namespace Pv.K44
open Pv
local macro_rules
  | `(tactic| simp! only [$xs,*]) => `(tactic| simp only [ev.eq_1, ev.eq_2, ev.eq_3, ev.eq_4, ev.eq_5, ev.eq_6, ev.eq_7, ev.eq_8, ev.eq_9, ev.eq_10, ev.eq_11, ev.eq_12, ev.eq_13, ev.eq_14, ev.eq_15, ev.eq_16, ev.eq_17, ev.eq_18, ev.eq_19, ev.eq_20, ev.eq_21, ev.eq_22, ev.eq_23, ev.eq_24, ev.eq_25, ev.eq_26, ev.eq_27, ev.eq_28, ev.eq_29, ev.eq_30, ev.eq_35, evs, evT, exec.eq_1, exec.eq_2, exec.eq_3, exec.eq_4, exec.eq_5, exec.eq_6, exec.eq_7, exec.eq_8, exec.eq_9, exec.eq_10, exec.eq_11, exec.eq_12, exec.eq_13, exec.eq_14, exec.eq_15, exec.eq_16, exec.eq_19, exec.eq_20, exec.eq_21, exec.eq_22, exec.eq_23, execs, x_whl, x_for, x_comp, x_compIf, x_comp2, x_comp2If, bor, vi, mkEnv, eg, es, frzA, frzS, bn, bt, bq, bind_F, setAll, setAllT, bind1, setPar, wipeE, tgs, b_add, b_sub, b_mul, b_fdiv, b_mod, b_shl, b_shr, b_pow, b_tup, b_lst, o_lt, o_le, o_gt, o_ge, o_eqi, o_nei, o_neb, sl_a, sl_b, sl_bl, sl_c, cmp_nil, cmp_cons, cmpY_nil, cmpY_cons, ixW_3, ixL_0, ixL_1, ixL_2, ixL_3, btl, o_isb, o_eqs, o_nes, o_int, o_nit, isF_s, isF_i, deq_ss, deq_ii, List.all_cons, List.all_nil, List.any_cons, List.any_nil, Nat.reduceEqDiff, Int.reduceEq, u_len1, u_len2, u_len3, u_abs, u_int, u_intb, u_lst1, u_lst2, u_lst3, u_tup, u_max, u_min, s_int, s_bl, s_tup, s_lst, s_non, s_str, a_add, a_sub, i_tup, i_lst, r_bl, r_int, fin, chk_own, chk_some, isN, bnd, iN_non, iN_int, iN_bl, iN_str, iN_tup, iN_lst, iN_F, ixW_0, ixW_1, ixW_2, F_0, F_1, ixW_w, wg_1, wg_0, wp_0, List.map, List.length, List.replicate, List.cons_append, List.nil_append, List.append_nil, Nat.reduceSub, Nat.reduceAdd, Nat.sub_self, Nat.sub_zero, if_true, Bool.false_eq_true, if_false, reduceIte, ite_true, ite_false, Bool.and_self, Bool.and_true, Bool.true_and, Bool.not_true, Bool.not_false, Nat.reduceLT, Nat.reduceLeDiff, decide_true, decide_false, Int.reduceLT, Int.reduceLE, Int.reduceAdd, Int.reduceSub, Int.reduceNeg, Bool.or_true, Bool.or_false, Bool.true_or, Bool.false_or, Bool.and_false, Bool.false_and, $xs,*])
  | `(tactic| simp! only) => `(tactic| simp only [ev.eq_1, ev.eq_2, ev.eq_3, ev.eq_4, ev.eq_5, ev.eq_6, ev.eq_7, ev.eq_8, ev.eq_9, ev.eq_10, ev.eq_11, ev.eq_12, ev.eq_13, ev.eq_14, ev.eq_15, ev.eq_16, ev.eq_17, ev.eq_18, ev.eq_19, ev.eq_20, ev.eq_21, ev.eq_22, ev.eq_23, ev.eq_24, ev.eq_25, ev.eq_26, ev.eq_27, ev.eq_28, ev.eq_29, ev.eq_30, ev.eq_35, evs, evT, exec.eq_1, exec.eq_2, exec.eq_3, exec.eq_4, exec.eq_5, exec.eq_6, exec.eq_7, exec.eq_8, exec.eq_9, exec.eq_10, exec.eq_11, exec.eq_12, exec.eq_13, exec.eq_14, exec.eq_15, exec.eq_16, exec.eq_19, exec.eq_20, exec.eq_21, exec.eq_22, exec.eq_23, execs, x_whl, x_for, x_comp, x_compIf, x_comp2, x_comp2If, bor, vi, mkEnv, eg, es, frzA, frzS, bn, bt, bq, bind_F, setAll, setAllT, bind1, setPar, wipeE, tgs, b_add, b_sub, b_mul, b_fdiv, b_mod, b_shl, b_shr, b_pow, b_tup, b_lst, o_lt, o_le, o_gt, o_ge, o_eqi, o_nei, o_neb, sl_a, sl_b, sl_bl, sl_c, cmp_nil, cmp_cons, cmpY_nil, cmpY_cons, ixW_3, ixL_0, ixL_1, ixL_2, ixL_3, btl, o_isb, o_eqs, o_nes, o_int, o_nit, isF_s, isF_i, deq_ss, deq_ii, List.all_cons, List.all_nil, List.any_cons, List.any_nil, Nat.reduceEqDiff, Int.reduceEq, u_len1, u_len2, u_len3, u_abs, u_int, u_intb, u_lst1, u_lst2, u_lst3, u_tup, u_max, u_min, s_int, s_bl, s_tup, s_lst, s_non, s_str, a_add, a_sub, i_tup, i_lst, r_bl, r_int, fin, chk_own, chk_some, isN, bnd, iN_non, iN_int, iN_bl, iN_str, iN_tup, iN_lst, iN_F, ixW_0, ixW_1, ixW_2, F_0, F_1, ixW_w, wg_1, wg_0, wp_0, List.map, List.length, List.replicate, List.cons_append, List.nil_append, List.append_nil, Nat.reduceSub, Nat.reduceAdd, Nat.sub_self, Nat.sub_zero, if_true, Bool.false_eq_true, if_false, reduceIte, ite_true, ite_false, Bool.and_self, Bool.and_true, Bool.true_and, Bool.not_true, Bool.not_false, Nat.reduceLT, Nat.reduceLeDiff, decide_true, decide_false, Int.reduceLT, Int.reduceLE, Int.reduceAdd, Int.reduceSub, Int.reduceNeg, Bool.or_true, Bool.or_false, Bool.true_or, Bool.false_or, Bool.and_false, Bool.false_and])
variable (n : Nat) (ws : WS)
/-! numbers and formats -/
abbrev nO (s : Int) : D := .tup [.str 0, .int s]
abbrev nE (s : Int) : D := .tup [.str 10, .int s]
abbrev nN (s w p : Int) : D := .tup [.str 1, .int s, .int w, .int p]
structure Fo where
  d : Int
  f : Int
  g : Int
abbrev FO (x : Fo) : D := .tup [.int x.d, .int x.f, .int x.g]
/-- a format of bounded size -/
structure OkFo (x : Fo) : Prop where
  d1 : 2 ≤ x.d
  d2 : x.d ≤ 150
  f1 : -1000 ≤ x.f
  fg : x.f < x.g
  g2 : x.g ≤ 1000
def isWay (y : Nat) : Prop := y = 9 ∨ y = 5 ∨ y = 3 ∨ y = 4 ∨ y = 2
def near (y : Nat) : Bool := decide (y = 9 ∨ y = 5)
/-- the value of a number -/
def vN (s w p : Int) : Rat := if s = 1 then -(rI w * pw p) else rI w * pw p
theorem Z_rI {w : Int} {k : Nat} (h : w.natAbs < 2 ^ k) (hk : 1 ≤ k) : Z k (rI w) := Z_div (by decide) h (Nat.one_lt_two_pow (by omega))
theorem F_0' : D.tup [.int 0, .int 1] = F 0 := rfl
theorem F_neg (q : Rat) : D.tup [.int (-q.num), .int q.den] = F (-q) := by rw [F, Rat.neg_num, Rat.neg_den]
theorem c_value_of_o (s : Int) : callO P (n + 1) 16 [nO s] ws = some (F 0, ws) := by
  rw [call_at (d := d_value_of) rfl rfl]
  simp! only [d_value_of, b_value_of, F_0']
theorem c_value_of {s w p : Int} {k : Nat} (hw : w.natAbs < 2 ^ k) (hk : 1 ≤ k) (hk2 : k ≤ 4000) (h1 : -2999 ≤ p) (h2 : p ≤ 2999) : callO P (n + 5) 16 [nN s w p] ws = some (F (vN s w p), ws) := by
  rw [call_at (d := d_value_of) rfl rfl]
  by_cases h : s = 1
  · simp! only [d_value_of, b_value_of, F_rI, c_shifted n ws ((Z_rI hw hk).mono hk2) h1 h2, h, F_neg, vN, if_true]
  · simp! only [d_value_of, b_value_of, F_rI, c_shifted n ws ((Z_rI hw hk).mono hk2) h1 h2, decide_eq_false h, F_neg, vN, if_neg h]
theorem big2 {k : Int} (h0 : 0 ≤ k) : (0 : Int) < 2 ^ k.toNat := pos2 _
theorem Z_pow2 {d : Int} {k : Nat} (h : d.toNat < k) : ((2 : Int) ^ d.toNat).natAbs < 2 ^ k := by
  rw [Int.natAbs_pow]; exact Nat.pow_lt_pow_right (by decide) h
def fullW (x : Fo) : Int := 2 ^ x.d.toNat - 1
def halfW (x : Fo) : Int := 2 ^ (x.d - 1).toNat
theorem fullW_pos {x : Fo} (h : OkFo x) : 3 ≤ fullW x := by
  have : (2 : Int) ^ 2 ≤ 2 ^ x.d.toNat := p2m (by have := h.d1; omega)
  unfold fullW
  omega
theorem fullW_lt {x : Fo} (h : OkFo x) : (fullW x).natAbs < 2 ^ 201 := by
  have h1 := fullW_pos h
  have h2 := Z_pow2 (d := x.d) (k := 201) (by have := h.d2; omega)
  have := pos2 x.d.toNat
  unfold fullW at h1 ⊢
  omega
theorem halfW_lt {x : Fo} (h : OkFo x) : (halfW x).natAbs < 2 ^ 201 := Z_pow2 (by have := h.d2; have := h.d1; omega)
theorem half_full {x : Fo} (h : OkFo x) : fullW x = 2 * halfW x - 1 := by
  unfold fullW halfW
  have : x.d.toNat = (x.d - 1).toNat + 1 := by have := h.d1; omega
  rw [this, Int.pow_succ]
  omega
theorem c_greatest_of {x : Fo} (h : OkFo x) : callO P (n + 1) 18 [FO x] ws = some (nN 0 (fullW x) x.g, ws) := by
  have d0 : 0 ≤ x.d := by have := h.d1; omega
  have d2 : x.d ≤ 100000 := by have := h.d2; omega
  rw [call_at (d := d_greatest_of) rfl rfl]
  simp! only [d_greatest_of, b_greatest_of, decide_eq_true d0, decide_eq_true d2, Int.natAbs_one, Int.one_mul, fullW]
theorem c_least_full {x : Fo} (h : OkFo x) : callO P (n + 1) 19 [FO x] ws = some (nN 0 (halfW x) x.f, ws) := by
  have d0 : 0 ≤ x.d - 1 := by have := h.d1; omega
  have d2 : x.d - 1 ≤ 100000 := by have := h.d2; omega
  rw [call_at (d := d_least_full) rfl rfl]
  simp! only [d_least_full, b_least_full, decide_eq_true d0, decide_eq_true d2, Int.natAbs_one, Int.one_mul, halfW]
/-- the exponent of the last digit -/
noncomputable def un (x : Fo) (q : Rat) : Int := if q.num = 0 then x.f else if ex q - x.d + 1 > x.f then ex q - x.d + 1 else x.f
theorem ex_bd {q : Rat} {b : Nat} (hq : Z b q) (h0 : q.num ≠ 0) : isE q (ex q) ∧ -(b : Int) ≤ ex q ∧ ex q ≤ b := by
  have hu : (0 : Int) < q.num.natAbs := by omega
  -- by the bits
  have key : ∃ e : Int, isE q e ∧ -(b : Int) ≤ e ∧ e ≤ b := by
    let u : Nat := Nat.log2 q.num.natAbs
    let l : Nat := Nat.log2 q.den
    have dn : q.den ≠ 0 := by have := den_pos q; omega
    have n0 : q.num.natAbs ≠ 0 := by omega
    have u1 : 2 ^ u ≤ q.num.natAbs := Nat.log2_self_le n0
    have u2 : q.num.natAbs < 2 ^ (u + 1) := Nat.lt_log2_self
    have l1 : 2 ^ l ≤ q.den := Nat.log2_self_le dn
    have l2 : q.den < 2 ^ (l + 1) := Nat.lt_log2_self
    have ub : u < b := (Nat.pow_lt_pow_iff_right (by decide : 1 < 2)).mp (Nat.lt_of_le_of_lt u1 hq.1)
    have lb : l < b := (Nat.pow_lt_pow_iff_right (by decide : 1 < 2)).mp (Nat.lt_of_le_of_lt l1 hq.2)
    have c : ∀ {a c : Nat}, a ≤ 2 ^ c → (a : Int) ≤ 2 ^ c := fun h => by have := Int.ofNat_le.mpr h; rw [Int.natCast_pow] at this; exact this
    have c' : ∀ {a c : Nat}, 2 ^ c ≤ a → (2 : Int) ^ c ≤ (a : Int) := fun h => by have := Int.ofNat_le.mpr h; rw [Int.natCast_pow] at this; exact this
    have c2 : ∀ {a c : Nat}, a < 2 ^ c → (a : Int) < 2 ^ c := fun h => by have := Int.ofNat_lt.mpr h; rw [Int.natCast_pow] at this; exact this
    by_cases hc : pw ((u : Int) - l) ≤ ab q
    · refine ⟨(u : Int) - l, ⟨hc, ?_⟩, by omega, by omega⟩
      rw [lt_pw (a := u + 1) (b := l) (by omega), ab_num, ab_den]
      exact Int.lt_of_lt_of_le (Int.mul_lt_mul_of_pos_right (c2 u2) (pos2 _)) (Int.mul_le_mul_of_nonneg_left (c' l1) (Int.le_of_lt (pos2 _)))
    · refine ⟨(u : Int) - l - 1, ⟨?_, ?_⟩, by omega, by omega⟩
      · rw [pw_le (a := u) (b := l + 1) (by omega), ab_num, ab_den]
        exact Int.mul_le_mul (c' u1) (Int.le_of_lt (c2 l2)) (Int.le_of_lt (den_pos q)) (Int.natCast_nonneg _)
      · rw [Int.sub_add_cancel]
        exact Rat.not_le.mp hc
  obtain ⟨e, h1, h2, h3⟩ := key
  rw [ex_of h1]
  exact ⟨h1, h2, h3⟩
theorem c_exponent_ex {q : Rat} {b : Nat} (hq : Z b q) (hb : b ≤ 2900) (h0 : q.num ≠ 0) : callO P (n + 2) 15 [F q] ws = some (.int (ex q), ws) := by
  obtain ⟨e, h1, _, _, h4⟩ := c_exponent_of n ws hq hb h0
  rw [ex_of h1]
  exact h4
theorem un_bd {x : Fo} (h : OkFo x) {q : Rat} {b : Nat} (hq : Z b q) : -1000 ≤ un x q ∧ un x q ≤ b + 1000 ∧ x.f ≤ un x q := by
  have := h.d1
  have := h.f1
  have := h.fg
  have := h.g2
  unfold un
  split
  · omega
  · rename_i h0
    have := ex_bd hq h0
    split <;> omega
theorem c_unit_at {x : Fo} {q : Rat} {b : Nat} (hq : Z b q) (hb : b ≤ 2900) : callO P (n + 3) 20 [FO x, F q] ws = some (.int (un x q), ws) := by
  rw [call_at (d := d_unit_at) rfl rfl]
  by_cases h0 : q.num = 0
  · simp! only [d_unit_at, b_unit_at, decide_eq_true h0, un, if_pos h0]
  · simp! only [d_unit_at, b_unit_at, decide_eq_false h0, c_exponent_ex n ws hq hb h0, un, if_neg h0]
/-- whether what is left makes one more -/
def rz (y : Nat) (s w r l : Int) : Bool :=
  if y = 2 then false else if y = 3 then decide (s = 0) else if y = 4 then decide (s = 1) else if 2 * r = l then (decide (y = 5) || decide (w % 2 = 1)) else decide (l < 2 * r)
theorem c_is_raised {y : Nat} (hy : isWay y) {s w r l : Int} (hr : okI r = true) : callO P (n + 1) 21 [.str y, .int s, .int w, .tup [.int r, .int l]] ws = some (.bl (rz y s w r l), ws) := by
  have o2 : okI 2 = true := okI_s (by decide)
  rw [call_at (d := d_is_raised) rfl rfl]
  rcases hy with rfl | rfl | rfl | rfl | rfl
  · by_cases h : 2 * r = l
    · simp! only [d_is_raised, b_is_raised, o2, hr, decide_eq_true h, rz, if_pos h]
    · simp! only [d_is_raised, b_is_raised, o2, hr, decide_eq_false h, rz, if_neg h]
  · by_cases h : 2 * r = l
    · simp! only [d_is_raised, b_is_raised, o2, hr, decide_eq_true h, rz, if_pos h]
    · simp! only [d_is_raised, b_is_raised, o2, hr, decide_eq_false h, rz, if_neg h]
  · simp! only [d_is_raised, b_is_raised, rz]
  · simp! only [d_is_raised, b_is_raised, rz]
  · simp! only [d_is_raised, b_is_raised, rz]
/-- the marks of what is rounded -/
def mks (x : Fo) (q : Rat) (r : Int) : D := if r = 0 then .tup [] else if ab q < vN 0 (halfW x) x.f then .tup [.str 7, .str 8] else .tup [.str 7]
theorem Z_vN {s w p : Int} {k m : Nat} (hw : w.natAbs < 2 ^ k) (hk : 1 ≤ k) (h1 : -(m : Int) ≤ p) (h2 : p ≤ m) : Z (k + (m + 1)) (vN s w p) := by
  have := Z_mul (Z_rI hw hk) (Z_pw h1 h2)
  unfold vN
  split
  · exact Z_neg this
  · exact this
theorem Z_half {x : Fo} (h : OkFo x) : Z 1300 (vN 0 (halfW x) x.f) := (Z_vN (halfW_lt h) (by decide) (m := 1000) (by have := h.f1; omega) (by have := h.fg; have := h.g2; omega)).mono (by decide)
theorem Z_full {x : Fo} (h : OkFo x) : Z 1300 (vN 0 (fullW x) x.g) := (Z_vN (fullW_lt h) (by decide) (m := 1000) (by have := h.f1; have := h.fg; omega) (by have := h.g2; omega)).mono (by decide)
theorem c_marks_of {x : Fo} (h : OkFo x) {q : Rat} (hq : Z 4000 q) (r : Int) : callO P (n + 6) 23 [FO x, F q, .int r] ws = some (mks x q r, ws) := by
  rw [call_at (d := d_marks_of) rfl rfl]
  by_cases h0 : r = 0
  · simp! only [d_marks_of, b_marks_of, h0, mks]
  · have e1 := c_least_full (n + 4) ws h
    have e2 := c_value_of n ws (s := 0) (w := halfW x) (p := x.f) (halfW_lt h) (by decide) (by decide) (by have := h.f1; omega) (by have := h.fg; have := h.g2; omega)
    have e3 := c_is_less (n + 4) ws (Z_ab hq) ((Z_half h).mono (by decide))
    by_cases hl : ab q < vN 0 (halfW x) x.f
    · simp! only [d_marks_of, b_marks_of, decide_eq_false h0, c_size (n + 4) ws, e1, e2, e3, mks, if_neg h0, decide_eq_true hl, if_pos hl]
    · simp! only [d_marks_of, b_marks_of, decide_eq_false h0, c_size (n + 4) ws, e1, e2, e3, mks, if_neg h0, decide_eq_false hl, if_neg hl]
/-- beyond the greatest -/
def byd (x : Fo) (y : Nat) (s : Int) : D := if y = 9 ∨ y = 5 ∨ (y = 3 ∧ s = 0) ∨ (y = 4 ∧ s = 1) then nE s else nN s (fullW x) x.g
theorem okLen_of {k : Nat} (h : k ≤ 1000) : okLen k = true := decide_eq_true (by omega)
theorem c_beyond {x : Fo} (h : OkFo x) {y : Nat} (hy : isWay y) (s : Int) : callO P (n + 2) 24 [FO x, .str y, .int s] ws = some (byd x y s, ws) := by
  have o2 : okLen 2 = true := okLen_of (by decide)
  have o4 : okLen 4 = true := okLen_of (by decide)
  have e1 := c_greatest_of n ws h
  rw [call_at (d := d_beyond) rfl rfl]
  rcases hy with rfl | rfl | rfl | rfl | rfl
  · simp! only [d_beyond, b_beyond, byd, true_or]
  · simp! only [d_beyond, b_beyond, byd, true_or, or_true]
  · by_cases g : s = 0
    · simp! only [d_beyond, b_beyond, byd, decide_eq_true g, g, and_self, true_or, or_true, false_or, false_and]
    · simp! only [d_beyond, b_beyond, byd, decide_eq_false g, g, and_false, false_or, false_and, e1, o2, o4]
  · by_cases g : s = 1
    · simp! only [d_beyond, b_beyond, byd, decide_eq_true g, g, and_self, true_or, or_true, false_or, false_and]
    · simp! only [d_beyond, b_beyond, byd, decide_eq_false g, g, and_false, false_or, false_and, e1, o2, o4]
  · simp! only [d_beyond, b_beyond, byd, false_or, false_and, e1, o2, o4]
/-- the program's rounding -/
noncomputable def rdX (x : Fo) (q : Rat) : Rat := ab (q * pw (-un x q))
noncomputable def rdW (x : Fo) (q : Rat) : Int := (rdX x q).num / (rdX x q).den
noncomputable def rdR (x : Fo) (q : Rat) : Int := (rdX x q).num % (rdX x q).den
def sg (q : Rat) : Int := if q.num < 0 then 1 else 0
noncomputable def rdV (x : Fo) (y : Nat) (q : Rat) : Int := if 0 < rdR x q ∧ rz y (sg q) (rdW x q) (rdR x q) (rdX x q).den = true then rdW x q + 1 else rdW x q
noncomputable def rdN (x : Fo) (y : Nat) (q : Rat) (s : Int) : D :=
  if q.num = 0 then nO s else
  if rdV x y q = 2 ^ x.d.toNat then (if x.g < un x q + 1 then byd x y (sg q) else if rdV x y q / 2 = 0 then nO (sg q) else nN (sg q) (rdV x y q / 2) (un x q + 1)) else
  if x.g < un x q then byd x y (sg q) else if rdV x y q = 0 then nO (sg q) else nN (sg q) (rdV x y q) (un x q)
noncomputable def rdM (x : Fo) (y : Nat) (q : Rat) : D :=
  if q.num = 0 then .tup [] else
  if x.g < (if rdV x y q = 2 ^ x.d.toNat then un x q + 1 else un x q) then .tup [.str 7, .str 6] else mks x q (rdR x q)
end Pv.K44


set_option Elab.async false
set_option linter.all false
set_option maxRecDepth 100000
set_option exponentiation.threshold 20
/-! L5: rounded, as the program does it. -/
namespace Pv.K44
open Pv
local macro_rules
  | `(tactic| simp! only [$xs,*]) => `(tactic| simp only [ev.eq_1, ev.eq_2, ev.eq_3, ev.eq_4, ev.eq_5, ev.eq_6, ev.eq_7, ev.eq_8, ev.eq_9, ev.eq_10, ev.eq_11, ev.eq_12, ev.eq_13, ev.eq_14, ev.eq_15, ev.eq_16, ev.eq_17, ev.eq_18, ev.eq_19, ev.eq_20, ev.eq_21, ev.eq_22, ev.eq_23, ev.eq_24, ev.eq_25, ev.eq_26, ev.eq_27, ev.eq_28, ev.eq_29, ev.eq_30, ev.eq_35, evs, evT, exec.eq_1, exec.eq_2, exec.eq_3, exec.eq_4, exec.eq_5, exec.eq_6, exec.eq_7, exec.eq_8, exec.eq_9, exec.eq_10, exec.eq_11, exec.eq_12, exec.eq_13, exec.eq_14, exec.eq_15, exec.eq_16, exec.eq_19, exec.eq_20, exec.eq_21, exec.eq_22, exec.eq_23, execs, x_whl, x_for, x_comp, x_compIf, x_comp2, x_comp2If, bor, vi, mkEnv, eg, es, frzA, frzS, bn, bt, bq, bind_F, setAll, setAllT, bind1, setPar, wipeE, tgs, b_add, b_sub, b_mul, b_fdiv, b_mod, b_shl, b_shr, b_pow, b_tup, b_lst, o_lt, o_le, o_gt, o_ge, o_eqi, o_nei, o_neb, sl_a, sl_b, sl_bl, sl_c, cmp_nil, cmp_cons, cmpY_nil, cmpY_cons, ixW_3, ixL_0, ixL_1, ixL_2, ixL_3, btl, o_isb, o_eqs, o_nes, o_int, o_nit, isF_s, isF_i, deq_ss, deq_ii, List.all_cons, List.all_nil, List.any_cons, List.any_nil, Nat.reduceEqDiff, Int.reduceEq, u_len1, u_len2, u_len3, u_abs, u_int, u_intb, u_lst1, u_lst2, u_lst3, u_tup, u_max, u_min, s_int, s_bl, s_tup, s_lst, s_non, s_str, a_add, a_sub, i_tup, i_lst, r_bl, r_int, fin, chk_own, chk_some, isN, bnd, iN_non, iN_int, iN_bl, iN_str, iN_tup, iN_lst, iN_F, ixW_0, ixW_1, ixW_2, F_0, F_1, ixW_w, wg_1, wg_0, wp_0, List.map, List.length, List.replicate, List.cons_append, List.nil_append, List.append_nil, Nat.reduceSub, Nat.reduceAdd, Nat.sub_self, Nat.sub_zero, if_true, Bool.false_eq_true, if_false, reduceIte, ite_true, ite_false, Bool.and_self, Bool.and_true, Bool.true_and, Bool.not_true, Bool.not_false, Nat.reduceLT, Nat.reduceLeDiff, decide_true, decide_false, Int.reduceLT, Int.reduceLE, Int.reduceAdd, Int.reduceSub, Int.reduceNeg, Bool.or_true, Bool.or_false, Bool.true_or, Bool.false_or, Bool.and_false, Bool.false_and, $xs,*])
  | `(tactic| simp! only) => `(tactic| simp only [ev.eq_1, ev.eq_2, ev.eq_3, ev.eq_4, ev.eq_5, ev.eq_6, ev.eq_7, ev.eq_8, ev.eq_9, ev.eq_10, ev.eq_11, ev.eq_12, ev.eq_13, ev.eq_14, ev.eq_15, ev.eq_16, ev.eq_17, ev.eq_18, ev.eq_19, ev.eq_20, ev.eq_21, ev.eq_22, ev.eq_23, ev.eq_24, ev.eq_25, ev.eq_26, ev.eq_27, ev.eq_28, ev.eq_29, ev.eq_30, ev.eq_35, evs, evT, exec.eq_1, exec.eq_2, exec.eq_3, exec.eq_4, exec.eq_5, exec.eq_6, exec.eq_7, exec.eq_8, exec.eq_9, exec.eq_10, exec.eq_11, exec.eq_12, exec.eq_13, exec.eq_14, exec.eq_15, exec.eq_16, exec.eq_19, exec.eq_20, exec.eq_21, exec.eq_22, exec.eq_23, execs, x_whl, x_for, x_comp, x_compIf, x_comp2, x_comp2If, bor, vi, mkEnv, eg, es, frzA, frzS, bn, bt, bq, bind_F, setAll, setAllT, bind1, setPar, wipeE, tgs, b_add, b_sub, b_mul, b_fdiv, b_mod, b_shl, b_shr, b_pow, b_tup, b_lst, o_lt, o_le, o_gt, o_ge, o_eqi, o_nei, o_neb, sl_a, sl_b, sl_bl, sl_c, cmp_nil, cmp_cons, cmpY_nil, cmpY_cons, ixW_3, ixL_0, ixL_1, ixL_2, ixL_3, btl, o_isb, o_eqs, o_nes, o_int, o_nit, isF_s, isF_i, deq_ss, deq_ii, List.all_cons, List.all_nil, List.any_cons, List.any_nil, Nat.reduceEqDiff, Int.reduceEq, u_len1, u_len2, u_len3, u_abs, u_int, u_intb, u_lst1, u_lst2, u_lst3, u_tup, u_max, u_min, s_int, s_bl, s_tup, s_lst, s_non, s_str, a_add, a_sub, i_tup, i_lst, r_bl, r_int, fin, chk_own, chk_some, isN, bnd, iN_non, iN_int, iN_bl, iN_str, iN_tup, iN_lst, iN_F, ixW_0, ixW_1, ixW_2, F_0, F_1, ixW_w, wg_1, wg_0, wp_0, List.map, List.length, List.replicate, List.cons_append, List.nil_append, List.append_nil, Nat.reduceSub, Nat.reduceAdd, Nat.sub_self, Nat.sub_zero, if_true, Bool.false_eq_true, if_false, reduceIte, ite_true, ite_false, Bool.and_self, Bool.and_true, Bool.true_and, Bool.not_true, Bool.not_false, Nat.reduceLT, Nat.reduceLeDiff, decide_true, decide_false, Int.reduceLT, Int.reduceLE, Int.reduceAdd, Int.reduceSub, Int.reduceNeg, Bool.or_true, Bool.or_false, Bool.true_or, Bool.false_or, Bool.and_false, Bool.false_and])
variable (n : Nat) (ws : WS)
theorem Z_rdX {x : Fo} (h : OkFo x) {q : Rat} {b : Nat} (hq : Z b q) (hb : b ≤ 1400) : Z 3900 (rdX x q) := by
  have u := un_bd h hq
  exact Z_ab ((Z_mul hq (Z_pw (m := b + 1000) (by omega) (by omega))).mono (by omega))
theorem sg_i (q : Rat) : (if decide (q.num < 0) = true then (1 : Int) else 0) = sg q := by
  unfold sg
  by_cases h : q.num < 0 <;> simp [h]
theorem rdR_nn (x : Fo) (q : Rat) : 0 ≤ rdR x q := Int.emod_nonneg _ (by have := den_pos (rdX x q); omega)
theorem rdR_lt (x : Fo) (q : Rat) : rdR x q < (rdX x q).den := Int.emod_lt_of_pos _ (den_pos _)
theorem c_rounded {x : Fo} (h : OkFo x) {y : Nat} (hy : isWay y) {q : Rat} {b : Nat} (hq : Z b q) (hb : b ≤ 1400) (s : Int) :
    callO P (n + 7) 22 [FO x, .str y, F q, .int s] ws = some (.tup [rdN x y q s, rdM x y q], ws) := by
  rw [call_at (d := d_rounded) rfl rfl]
  by_cases h0 : q.num = 0
  · simp! only [d_rounded, b_rounded, decide_eq_true h0, rdN, rdM, if_pos h0]
  have u := un_bd h hq
  have e1 := c_unit_at (n + 3) ws (x := x) hq (by omega)
  have e2 := c_shifted (n + 2) ws (q := q) (e := -un x q) (hq.mono (by omega)) (by omega) (by omega)
  have e3 := c_size (n + 5) ws (q * pw (-un x q))
  have zx := Z_rdX h hq hb
  have e4 := c_marks_of n ws h (hq.mono (show b ≤ 4000 by omega)) (rdR x q)
  have eX : ab (q * pw (-un x q)) = rdX x q := rfl
  rw [eX] at e3
  have okd : okI ((rdX x q).den : Int) = true := okI_of (p3 (k := 0) (den_lt zx))
  have dp := den_pos (rdX x q)
  have eW : (rdX x q).num / ((rdX x q).den : Int) = rdW x q := rfl
  have eR : (rdX x q).num % ((rdX x q).den : Int) = rdR x q := rfl
  have r0 := rdR_nn x q
  have r1 := rdR_lt x q
  have okr : okI (rdR x q) = true := okI_of (Nat.lt_of_lt_of_le (show (rdR x q).natAbs < 2 ^ 3900 by have := den_lt zx; omega) (Nat.pow_le_pow_right (by decide) (by decide)))
  have e5 := c_is_raised (n + 5) ws hy (s := sg q) (w := rdW x q) (l := ((rdX x q).den : Int)) okr
  have e6 := c_beyond (n + 4) ws h hy (sg q)
  have d0 : 0 ≤ x.d := by have := h.d1; omega
  have d2 : x.d ≤ 100000 := by have := h.d2; omega
  have ok2 : okI 2 = true := okI_s (by decide)
  -- behind the step that makes one more
  have fin_ : ∀ V : Int, rdV x y q = V → (∀ m : D, m = mks x q (rdR x q) →
    (if V = 2 ^ x.d.toNat then (if x.g < un x q + 1 then D.tup [byd x y (sg q), .tup [.str 7, .str 6]] else if V / 2 = 0 then .tup [nO (sg q), m] else .tup [nN (sg q) (V / 2) (un x q + 1), m]) else
      if x.g < un x q then .tup [byd x y (sg q), .tup [.str 7, .str 6]] else if V = 0 then .tup [nO (sg q), m] else .tup [nN (sg q) V (un x q), m]) = .tup [rdN x y q s, rdM x y q]) := by
    intro V hV m hm
    subst hm
    unfold rdN rdM
    rw [if_neg h0, if_neg h0, hV]
    by_cases c1 : V = 2 ^ x.d.toNat
    · rw [if_pos c1, if_pos c1, if_pos c1]
      by_cases c2 : x.g < un x q + 1
      · rw [if_pos c2, if_pos c2, if_pos c2]
      · rw [if_neg c2, if_neg c2, if_neg c2]
        by_cases c3 : V / 2 = 0
        · rw [if_pos c3, if_pos c3]
        · rw [if_neg c3, if_neg c3]
    · rw [if_neg c1, if_neg c1, if_neg c1]
      by_cases c2 : x.g < un x q
      · rw [if_pos c2, if_pos c2, if_pos c2]
      · rw [if_neg c2, if_neg c2, if_neg c2]
        by_cases c3 : V = 0
        · rw [if_pos c3, if_pos c3]
        · rw [if_neg c3, if_neg c3]
  by_cases hr : 0 < rdR x q
  · by_cases hz : rz y (sg q) (rdW x q) (rdR x q) ((rdX x q).den : Int) = true
    · have hV : rdV x y q = rdW x q + 1 := by unfold rdV; rw [if_pos ⟨hr, hz⟩]
      rw [← fin_ _ hV _ rfl]
      by_cases c1 : rdW x q + 1 = 2 ^ x.d.toNat
      · by_cases c2 : x.g < un x q + 1
        · simp! only [d_rounded, b_rounded, decide_eq_false h0, sg_i, e1, e2, e3, eW, eR, decide_eq_true dp, okd, e4, decide_eq_true hr, e5, hz, decide_eq_true d0, decide_eq_true d2, Int.natAbs_one, Int.one_mul, decide_eq_true c1, ok2, decide_eq_true c2, e6, if_pos c1, if_pos c2]
        · by_cases c3 : (rdW x q + 1) / 2 = 0
          · simp! only [d_rounded, b_rounded, decide_eq_false h0, sg_i, e1, e2, e3, eW, eR, decide_eq_true dp, okd, e4, decide_eq_true hr, e5, hz, decide_eq_true d0, decide_eq_true d2, Int.natAbs_one, Int.one_mul, decide_eq_true c1, ok2, decide_eq_false c2, decide_eq_true c3, if_pos c1, if_neg c2, if_pos c3]
          · simp! only [d_rounded, b_rounded, decide_eq_false h0, sg_i, e1, e2, e3, eW, eR, decide_eq_true dp, okd, e4, decide_eq_true hr, e5, hz, decide_eq_true d0, decide_eq_true d2, Int.natAbs_one, Int.one_mul, decide_eq_true c1, ok2, decide_eq_false c2, decide_eq_false c3, if_pos c1, if_neg c2, if_neg c3]
      · by_cases c2 : x.g < un x q
        · simp! only [d_rounded, b_rounded, decide_eq_false h0, sg_i, e1, e2, e3, eW, eR, decide_eq_true dp, okd, e4, decide_eq_true hr, e5, hz, decide_eq_true d0, decide_eq_true d2, Int.natAbs_one, Int.one_mul, decide_eq_false c1, decide_eq_true c2, e6, if_neg c1, if_pos c2]
        · by_cases c3 : rdW x q + 1 = 0
          · simp! only [d_rounded, b_rounded, decide_eq_false h0, sg_i, e1, e2, e3, eW, eR, decide_eq_true dp, okd, e4, decide_eq_true hr, e5, hz, decide_eq_true d0, decide_eq_true d2, Int.natAbs_one, Int.one_mul, decide_eq_false c1, decide_eq_false c2, decide_eq_true c3, if_neg c1, if_neg c2, if_pos c3]
          · simp! only [d_rounded, b_rounded, decide_eq_false h0, sg_i, e1, e2, e3, eW, eR, decide_eq_true dp, okd, e4, decide_eq_true hr, e5, hz, decide_eq_true d0, decide_eq_true d2, Int.natAbs_one, Int.one_mul, decide_eq_false c1, decide_eq_false c2, decide_eq_false c3, if_neg c1, if_neg c2, if_neg c3]
    · have hV : rdV x y q = rdW x q := by unfold rdV; rw [if_neg fun z => hz z.2]
      have hz : rz y (sg q) (rdW x q) (rdR x q) ((rdX x q).den : Int) = false := by simpa using hz
      rw [← fin_ _ hV _ rfl]
      by_cases c1 : rdW x q = 2 ^ x.d.toNat
      · by_cases c2 : x.g < un x q + 1
        · simp! only [d_rounded, b_rounded, decide_eq_false h0, sg_i, e1, e2, e3, eW, eR, decide_eq_true dp, okd, e4, decide_eq_true hr, e5, hz, decide_eq_true d0, decide_eq_true d2, Int.natAbs_one, Int.one_mul, decide_eq_true c1, ok2, decide_eq_true c2, e6, if_pos c1, if_pos c2]
        · by_cases c3 : rdW x q / 2 = 0
          · simp! only [d_rounded, b_rounded, decide_eq_false h0, sg_i, e1, e2, e3, eW, eR, decide_eq_true dp, okd, e4, decide_eq_true hr, e5, hz, decide_eq_true d0, decide_eq_true d2, Int.natAbs_one, Int.one_mul, decide_eq_true c1, ok2, decide_eq_false c2, decide_eq_true c3, if_pos c1, if_neg c2, if_pos c3]
          · simp! only [d_rounded, b_rounded, decide_eq_false h0, sg_i, e1, e2, e3, eW, eR, decide_eq_true dp, okd, e4, decide_eq_true hr, e5, hz, decide_eq_true d0, decide_eq_true d2, Int.natAbs_one, Int.one_mul, decide_eq_true c1, ok2, decide_eq_false c2, decide_eq_false c3, if_pos c1, if_neg c2, if_neg c3]
      · by_cases c2 : x.g < un x q
        · simp! only [d_rounded, b_rounded, decide_eq_false h0, sg_i, e1, e2, e3, eW, eR, decide_eq_true dp, okd, e4, decide_eq_true hr, e5, hz, decide_eq_true d0, decide_eq_true d2, Int.natAbs_one, Int.one_mul, decide_eq_false c1, decide_eq_true c2, e6, if_neg c1, if_pos c2]
        · by_cases c3 : rdW x q = 0
          · simp! only [d_rounded, b_rounded, decide_eq_false h0, sg_i, e1, e2, e3, eW, eR, decide_eq_true dp, okd, e4, decide_eq_true hr, e5, hz, decide_eq_true d0, decide_eq_true d2, Int.natAbs_one, Int.one_mul, decide_eq_false c1, decide_eq_false c2, decide_eq_true c3, if_neg c1, if_neg c2, if_pos c3]
          · simp! only [d_rounded, b_rounded, decide_eq_false h0, sg_i, e1, e2, e3, eW, eR, decide_eq_true dp, okd, e4, decide_eq_true hr, e5, hz, decide_eq_true d0, decide_eq_true d2, Int.natAbs_one, Int.one_mul, decide_eq_false c1, decide_eq_false c2, decide_eq_false c3, if_neg c1, if_neg c2, if_neg c3]
  · have hV : rdV x y q = rdW x q := by unfold rdV; rw [if_neg fun z => hr z.1]
    rw [← fin_ _ hV _ rfl]
    by_cases c1 : rdW x q = 2 ^ x.d.toNat
    · by_cases c2 : x.g < un x q + 1
      · simp! only [d_rounded, b_rounded, decide_eq_false h0, sg_i, e1, e2, e3, eW, eR, decide_eq_true dp, okd, e4, decide_eq_false hr, decide_eq_true d0, decide_eq_true d2, Int.natAbs_one, Int.one_mul, decide_eq_true c1, ok2, decide_eq_true c2, e6, if_pos c1, if_pos c2]
      · by_cases c3 : rdW x q / 2 = 0
        · simp! only [d_rounded, b_rounded, decide_eq_false h0, sg_i, e1, e2, e3, eW, eR, decide_eq_true dp, okd, e4, decide_eq_false hr, decide_eq_true d0, decide_eq_true d2, Int.natAbs_one, Int.one_mul, decide_eq_true c1, ok2, decide_eq_false c2, decide_eq_true c3, if_pos c1, if_neg c2, if_pos c3]
        · simp! only [d_rounded, b_rounded, decide_eq_false h0, sg_i, e1, e2, e3, eW, eR, decide_eq_true dp, okd, e4, decide_eq_false hr, decide_eq_true d0, decide_eq_true d2, Int.natAbs_one, Int.one_mul, decide_eq_true c1, ok2, decide_eq_false c2, decide_eq_false c3, if_pos c1, if_neg c2, if_neg c3]
    · by_cases c2 : x.g < un x q
      · simp! only [d_rounded, b_rounded, decide_eq_false h0, sg_i, e1, e2, e3, eW, eR, decide_eq_true dp, okd, e4, decide_eq_false hr, decide_eq_true d0, decide_eq_true d2, Int.natAbs_one, Int.one_mul, decide_eq_false c1, decide_eq_true c2, e6, if_neg c1, if_pos c2]
      · by_cases c3 : rdW x q = 0
        · simp! only [d_rounded, b_rounded, decide_eq_false h0, sg_i, e1, e2, e3, eW, eR, decide_eq_true dp, okd, e4, decide_eq_false hr, decide_eq_true d0, decide_eq_true d2, Int.natAbs_one, Int.one_mul, decide_eq_false c1, decide_eq_false c2, decide_eq_true c3, if_neg c1, if_neg c2, if_pos c3]
        · simp! only [d_rounded, b_rounded, decide_eq_false h0, sg_i, e1, e2, e3, eW, eR, decide_eq_true dp, okd, e4, decide_eq_false hr, decide_eq_true d0, decide_eq_true d2, Int.natAbs_one, Int.one_mul, decide_eq_false c1, decide_eq_false c2, decide_eq_false c3, if_neg c1, if_neg c2, if_neg c3]
/-- the size of a half unit, or a unit -/
noncomputable def ebd (x : Fo) (y : Nat) (q : Rat) : Rat := (if near y = true then Rat.divInt 1 2 else 1) * pw (un x q)
theorem F_12 : D.tup [.int 1, .int 2] = F (Rat.divInt 1 2) := by rw [← mkF (by decide)]; rfl
theorem F_one : D.tup [.int 1, .int 1] = F 1 := rfl
theorem Z_12 : Z 2 (Rat.divInt 1 2) := Z_div (by decide) (by decide) (by decide)
theorem Z_one : Z 1 1 := ⟨by decide, by decide⟩
theorem Z_zero : Z 1 0 := ⟨by decide, by decide⟩
theorem Z_ebd {x : Fo} (h : OkFo x) {q : Rat} {b : Nat} (hq : Z b q) (y : Nat) : Z (b + 1003) (ebd x y q) := by
  have u := un_bd h hq
  have z := Z_pw (e := un x q) (m := b + 1000) (by omega) (by omega)
  unfold ebd
  split
  · exact (Z_mul Z_12 z).mono (by omega)
  · exact (Z_mul Z_one z).mono (by omega)
/-- the greatest value -/
def top (x : Fo) : Rat := vN 0 (fullW x) x.g
end Pv.K44


set_option Elab.async false
set_option linter.all false
set_option maxRecDepth 100000
set_option exponentiation.threshold 20
/-! L6: spans. -/
namespace Pv.K44
open Pv
local macro_rules
  | `(tactic| simp! only [$xs,*]) => `(tactic| simp only [ev.eq_1, ev.eq_2, ev.eq_3, ev.eq_4, ev.eq_5, ev.eq_6, ev.eq_7, ev.eq_8, ev.eq_9, ev.eq_10, ev.eq_11, ev.eq_12, ev.eq_13, ev.eq_14, ev.eq_15, ev.eq_16, ev.eq_17, ev.eq_18, ev.eq_19, ev.eq_20, ev.eq_21, ev.eq_22, ev.eq_23, ev.eq_24, ev.eq_25, ev.eq_26, ev.eq_27, ev.eq_28, ev.eq_29, ev.eq_30, ev.eq_35, evs, evT, exec.eq_1, exec.eq_2, exec.eq_3, exec.eq_4, exec.eq_5, exec.eq_6, exec.eq_7, exec.eq_8, exec.eq_9, exec.eq_10, exec.eq_11, exec.eq_12, exec.eq_13, exec.eq_14, exec.eq_15, exec.eq_16, exec.eq_19, exec.eq_20, exec.eq_21, exec.eq_22, exec.eq_23, execs, x_whl, x_for, x_comp, x_compIf, x_comp2, x_comp2If, bor, vi, mkEnv, eg, es, frzA, frzS, bn, bt, bq, bind_F, setAll, setAllT, bind1, setPar, wipeE, tgs, b_add, b_sub, b_mul, b_fdiv, b_mod, b_shl, b_shr, b_pow, b_tup, b_lst, o_lt, o_le, o_gt, o_ge, o_eqi, o_nei, o_neb, sl_a, sl_b, sl_bl, sl_c, cmp_nil, cmp_cons, cmpY_nil, cmpY_cons, ixW_3, ixL_0, ixL_1, ixL_2, ixL_3, btl, o_isb, o_eqs, o_nes, o_int, o_nit, isF_s, isF_i, deq_ss, deq_ii, List.all_cons, List.all_nil, List.any_cons, List.any_nil, Nat.reduceEqDiff, Int.reduceEq, u_len1, u_len2, u_len3, u_abs, u_int, u_intb, u_lst1, u_lst2, u_lst3, u_tup, u_max, u_min, s_int, s_bl, s_tup, s_lst, s_non, s_str, a_add, a_sub, i_tup, i_lst, r_bl, r_int, fin, chk_own, chk_some, isN, bnd, iN_non, iN_int, iN_bl, iN_str, iN_tup, iN_lst, iN_F, ixW_0, ixW_1, ixW_2, F_0, F_1, ixW_w, wg_1, wg_0, wp_0, List.map, List.length, List.replicate, List.cons_append, List.nil_append, List.append_nil, Nat.reduceSub, Nat.reduceAdd, Nat.sub_self, Nat.sub_zero, if_true, Bool.false_eq_true, if_false, reduceIte, ite_true, ite_false, Bool.and_self, Bool.and_true, Bool.true_and, Bool.not_true, Bool.not_false, Nat.reduceLT, Nat.reduceLeDiff, decide_true, decide_false, Int.reduceLT, Int.reduceLE, Int.reduceAdd, Int.reduceSub, Int.reduceNeg, Bool.or_true, Bool.or_false, Bool.true_or, Bool.false_or, Bool.and_false, Bool.false_and, $xs,*])
  | `(tactic| simp! only) => `(tactic| simp only [ev.eq_1, ev.eq_2, ev.eq_3, ev.eq_4, ev.eq_5, ev.eq_6, ev.eq_7, ev.eq_8, ev.eq_9, ev.eq_10, ev.eq_11, ev.eq_12, ev.eq_13, ev.eq_14, ev.eq_15, ev.eq_16, ev.eq_17, ev.eq_18, ev.eq_19, ev.eq_20, ev.eq_21, ev.eq_22, ev.eq_23, ev.eq_24, ev.eq_25, ev.eq_26, ev.eq_27, ev.eq_28, ev.eq_29, ev.eq_30, ev.eq_35, evs, evT, exec.eq_1, exec.eq_2, exec.eq_3, exec.eq_4, exec.eq_5, exec.eq_6, exec.eq_7, exec.eq_8, exec.eq_9, exec.eq_10, exec.eq_11, exec.eq_12, exec.eq_13, exec.eq_14, exec.eq_15, exec.eq_16, exec.eq_19, exec.eq_20, exec.eq_21, exec.eq_22, exec.eq_23, execs, x_whl, x_for, x_comp, x_compIf, x_comp2, x_comp2If, bor, vi, mkEnv, eg, es, frzA, frzS, bn, bt, bq, bind_F, setAll, setAllT, bind1, setPar, wipeE, tgs, b_add, b_sub, b_mul, b_fdiv, b_mod, b_shl, b_shr, b_pow, b_tup, b_lst, o_lt, o_le, o_gt, o_ge, o_eqi, o_nei, o_neb, sl_a, sl_b, sl_bl, sl_c, cmp_nil, cmp_cons, cmpY_nil, cmpY_cons, ixW_3, ixL_0, ixL_1, ixL_2, ixL_3, btl, o_isb, o_eqs, o_nes, o_int, o_nit, isF_s, isF_i, deq_ss, deq_ii, List.all_cons, List.all_nil, List.any_cons, List.any_nil, Nat.reduceEqDiff, Int.reduceEq, u_len1, u_len2, u_len3, u_abs, u_int, u_intb, u_lst1, u_lst2, u_lst3, u_tup, u_max, u_min, s_int, s_bl, s_tup, s_lst, s_non, s_str, a_add, a_sub, i_tup, i_lst, r_bl, r_int, fin, chk_own, chk_some, isN, bnd, iN_non, iN_int, iN_bl, iN_str, iN_tup, iN_lst, iN_F, ixW_0, ixW_1, ixW_2, F_0, F_1, ixW_w, wg_1, wg_0, wp_0, List.map, List.length, List.replicate, List.cons_append, List.nil_append, List.append_nil, Nat.reduceSub, Nat.reduceAdd, Nat.sub_self, Nat.sub_zero, if_true, Bool.false_eq_true, if_false, reduceIte, ite_true, ite_false, Bool.and_self, Bool.and_true, Bool.true_and, Bool.not_true, Bool.not_false, Nat.reduceLT, Nat.reduceLeDiff, decide_true, decide_false, Int.reduceLT, Int.reduceLE, Int.reduceAdd, Int.reduceSub, Int.reduceNeg, Bool.or_true, Bool.or_false, Bool.true_or, Bool.false_or, Bool.and_false, Bool.false_and])
variable (n : Nat) (ws : WS)
structure Sn where
  l : Rat
  h : Rat
abbrev SD (s : Sn) : D := .tup [F s.l, F s.h]
structure ZS (k : Nat) (s : Sn) : Prop where
  l : Z k s.l
  h : Z k s.h
theorem ZS.mono {j k : Nat} {s : Sn} (h : ZS j s) (e : j ≤ k) : ZS k s := ⟨h.l.mono e, h.h.mono e⟩
def addS (a b : Sn) : Sn := ⟨a.l + b.l, a.h + b.h⟩
def negS (a : Sn) : Sn := ⟨-a.h, -a.l⟩
def hullL (q : Rat) (qs : List Rat) : Sn := qs.foldl (fun s q => ⟨mn s.l q, mx s.h q⟩) ⟨q, q⟩
def mulL (a b : Sn) : List Rat := [a.l * b.h, a.h * b.l, a.h * b.h]
def mulS (a b : Sn) : Sn := hullL (a.l * b.l) (mulL a b)
def quoL (a b : Sn) : List Rat := [a.l / b.h, a.h / b.l, a.h / b.h]
def quoS (a b : Sn) : Sn := hullL (a.l / b.l) (quoL a b)
def has0 (a : Sn) : Bool := decide (a.l.num ≤ 0) && decide (0 ≤ a.h.num)
def bigS (a : Sn) : Rat := mx (ab a.l) (ab a.h)
def smlS (a : Sn) : Rat := if has0 a = true then 0 else mn (ab a.l) (ab a.h)
def sizS (a : Sn) : Sn := ⟨smlS a, bigS a⟩
def leaS (a b : Sn) : Sn := ⟨mn a.l b.l, mn a.h b.h⟩
def mosS (a b : Sn) : Sn := ⟨mx a.l b.l, mx a.h b.h⟩
def hulS (a b : Sn) : Sn := ⟨mn a.l b.l, mx a.h b.h⟩
def widS (a : Sn) (e : Rat) : Sn := ⟨a.l - e, a.h + e⟩
theorem ZS_add {a b : Sn} {i j : Nat} (ha : ZS i a) (hb : ZS j b) : ZS (i + j + 1) (addS a b) := ⟨Z_add ha.l hb.l, Z_add ha.h hb.h⟩
theorem ZS_neg {a : Sn} {i : Nat} (ha : ZS i a) : ZS i (negS a) := ⟨Z_neg ha.h, Z_neg ha.l⟩
theorem ZS_hull {k : Nat} : ∀ {qs : List Rat} {s : Sn}, ZS k s → (∀ q ∈ qs, Z k q) → ZS k (qs.foldl (fun s q => ⟨mn s.l q, mx s.h q⟩) s)
  | [], s, h, _ => h
  | q :: qs, s, h, hq => ZS_hull (qs := qs) ⟨Z_mn h.l (hq q List.mem_cons_self), Z_mx h.h (hq q List.mem_cons_self)⟩ fun p hp => hq p (List.mem_cons_of_mem _ hp)
theorem ZS_mul {a b : Sn} {i j : Nat} (ha : ZS i a) (hb : ZS j b) : ZS (i + j) (mulS a b) :=
  ZS_hull ⟨Z_mul ha.l hb.l, Z_mul ha.l hb.l⟩ fun q hq => by
    simp only [mulL, List.mem_cons, List.not_mem_nil, or_false] at hq
    rcases hq with rfl | rfl | rfl
    · exact Z_mul ha.l hb.h
    · exact Z_mul ha.h hb.l
    · exact Z_mul ha.h hb.h
theorem num_ne {b : Sn} (hb : has0 b = false) (o : b.l ≤ b.h) : b.l.num ≠ 0 ∧ b.h.num ≠ 0 := by
  unfold has0 at hb
  rw [Bool.and_eq_false_iff, decide_eq_false_iff_not, decide_eq_false_iff_not] at hb
  have k : b.l.num = 0 → ¬ b.h.num < 0 := fun h z => by
    have : b.l = 0 := Rat.num_eq_zero.mp h
    rw [this] at o
    have := Rat.num_nonneg.mpr o
    omega
  have k2 : b.h.num = 0 → ¬ 0 < b.l.num := fun h z => by
    have : b.h = 0 := Rat.num_eq_zero.mp h
    rw [this] at o
    have : (0 : Rat) < b.l := by rw [Rat.lt_iff]; simpa using z
    grind
  constructor <;> intro z <;> rcases hb with q | q <;> first | omega | (have := k z; omega) | (have := k2 z; omega)
theorem ZS_quo {a b : Sn} {i j : Nat} (ha : ZS i a) (hb : ZS j b) (h : b.l.num ≠ 0 ∧ b.h.num ≠ 0) : ZS (i + j) (quoS a b) :=
  ZS_hull ⟨Z_quo ha.l hb.l h.1, Z_quo ha.l hb.l h.1⟩ fun q hq => by
    simp only [quoL, List.mem_cons, List.not_mem_nil, or_false] at hq
    rcases hq with rfl | rfl | rfl
    · exact Z_quo ha.l hb.h h.2
    · exact Z_quo ha.h hb.l h.1
    · exact Z_quo ha.h hb.h h.2
theorem Z_big {a : Sn} {k : Nat} (ha : ZS k a) : Z k (bigS a) := Z_mx (Z_ab ha.l) (Z_ab ha.h)
theorem Z_0 {k : Nat} (h : 1 ≤ k) : Z k 0 := Z_zero.mono h
theorem Z_sml {a : Sn} {k : Nat} (ha : ZS k a) (h : 1 ≤ k) : Z k (smlS a) := by
  unfold smlS
  split
  · exact Z_0 h
  · exact Z_mn (Z_ab ha.l) (Z_ab ha.h)
theorem ZS_siz {a : Sn} {k : Nat} (ha : ZS k a) (h : 1 ≤ k) : ZS k (sizS a) := ⟨Z_sml ha h, Z_big ha⟩
theorem ZS_lea {a b : Sn} {k : Nat} (ha : ZS k a) (hb : ZS k b) : ZS k (leaS a b) := ⟨Z_mn ha.l hb.l, Z_mn ha.h hb.h⟩
theorem ZS_mos {a b : Sn} {k : Nat} (ha : ZS k a) (hb : ZS k b) : ZS k (mosS a b) := ⟨Z_mx ha.l hb.l, Z_mx ha.h hb.h⟩
theorem ZS_hul {a b : Sn} {k : Nat} (ha : ZS k a) (hb : ZS k b) : ZS k (hulS a b) := ⟨Z_mn ha.l hb.l, Z_mx ha.h hb.h⟩
theorem ZS_wid {a : Sn} {e : Rat} {i j : Nat} (ha : ZS i a) (he : Z j e) : ZS (i + j + 1) (widS a e) := ⟨Z_sub ha.l he, Z_add ha.h he⟩
theorem F_eqv (p q : Rat) : deq (F p) (F q) = decide (p = q) := by
  unfold F
  simp only [deq, deqs, Bool.and_true]
  by_cases h : p = q
  · subst h; simp
  · have : ¬ (p.num = q.num ∧ p.den = q.den) := fun z => h (Rat.ext z.1 z.2)
    rw [decide_eq_false h]
    by_cases a : p.num = q.num
    · have b : ¬ ((p.den : Int) = q.den) := fun z => this ⟨a, by omega⟩
      rw [decide_eq_false b, Bool.and_false]
    · rw [decide_eq_false a, Bool.false_and]
theorem o_eqF (p q : Rat) : cop .eq (F p) (F q) = some (decide (p = q)) := by
  show (if (okq (F p) 64 && okq (F q) 64) = true then some (deq (F p) (F q)) else none) = _
  rw [show okq (F p) 64 = true from rfl, show okq (F q) 64 = true from rfl, F_eqv]
  rfl
def OD : Option Sn → D
  | none => .non
  | some s => SD s
def ovrS (a b : Sn) : Option Sn := if has0 b = true then none else some (quoS a b)
theorem hull_2 (p q : Rat) : hullL p [q] = ⟨mn p q, mx p q⟩ := rfl
/-- how two spans compare: le tells the sign <= -/
def sure (le : Bool) (a b : Sn) : Option Bool := if a.h < b.l ∨ (le = true ∧ a.h ≤ b.l) then some true else if b.h < a.l ∨ (le = false ∧ b.h ≤ a.l) then some false else none
def OB : Option Bool → D
  | none => .non
  | some b => .bl b
abbrev sgD (le : Bool) : D := if le = true then .str 11 else .str 12
/-! the span of a step -/
inductive Kd where
  | negate | size | joined | add | less | times | over | least | most
abbrev Kd.s : Kd → Nat
  | .negate => 13 | .size => 14 | .joined => 15 | .add => 16 | .less => 17 | .times => 18 | .over => 19 | .least => 20 | .most => 21
/-- of one, two or three spans (those not needed are not looked at) -/
def spanK (k : Kd) (a b c : Sn) : Option Sn := match k with
  | .negate => some (negS a)
  | .size => some (sizS a)
  | .joined => some (addS (mulS a b) c)
  | .add => some (addS a b)
  | .less => some (addS a (negS b))
  | .times => some (mulS a b)
  | .over => ovrS a b
  | .least => some (leaS a b)
  | .most => some (mosS a b)
/-- the parts that a kind has -/
def pts {α : Type} (k : Kd) (a b c : α) : List α := match k with
  | .negate | .size => [a]
  | .joined => [a, b, c]
  | _ => [a, b]
theorem nin1 (a : Sn) : cop .isin .non (.lst [SD a]) = some false := rfl
theorem nin2 (a b : Sn) : cop .isin .non (.lst [SD a, SD b]) = some false := rfl
theorem nin3 (a b c : Sn) : cop .isin .non (.lst [SD a, SD b, SD c]) = some false := rfl
end Pv.K44


set_option Elab.async false
set_option linter.all false
set_option maxRecDepth 100000
set_option exponentiation.threshold 20
/-! L7: rows. -/
namespace Pv.K44
open Pv
local macro_rules
  | `(tactic| simp! only [$xs,*]) => `(tactic| simp only [ev.eq_1, ev.eq_2, ev.eq_3, ev.eq_4, ev.eq_5, ev.eq_6, ev.eq_7, ev.eq_8, ev.eq_9, ev.eq_10, ev.eq_11, ev.eq_12, ev.eq_13, ev.eq_14, ev.eq_15, ev.eq_16, ev.eq_17, ev.eq_18, ev.eq_19, ev.eq_20, ev.eq_21, ev.eq_22, ev.eq_23, ev.eq_24, ev.eq_25, ev.eq_26, ev.eq_27, ev.eq_28, ev.eq_29, ev.eq_30, ev.eq_35, evs, evT, exec.eq_1, exec.eq_2, exec.eq_3, exec.eq_4, exec.eq_5, exec.eq_6, exec.eq_7, exec.eq_8, exec.eq_9, exec.eq_10, exec.eq_11, exec.eq_12, exec.eq_13, exec.eq_14, exec.eq_15, exec.eq_16, exec.eq_19, exec.eq_20, exec.eq_21, exec.eq_22, exec.eq_23, execs, x_whl, x_for, x_comp, x_compIf, x_comp2, x_comp2If, bor, vi, mkEnv, eg, es, frzA, frzS, bn, bt, bq, bind_F, setAll, setAllT, bind1, setPar, wipeE, tgs, b_add, b_sub, b_mul, b_fdiv, b_mod, b_shl, b_shr, b_pow, b_tup, b_lst, o_lt, o_le, o_gt, o_ge, o_eqi, o_nei, o_neb, sl_a, sl_b, sl_bl, sl_c, cmp_nil, cmp_cons, cmpY_nil, cmpY_cons, ixW_3, ixL_0, ixL_1, ixL_2, ixL_3, btl, o_isb, o_eqs, o_nes, o_int, o_nit, isF_s, isF_i, deq_ss, deq_ii, List.all_cons, List.all_nil, List.any_cons, List.any_nil, Nat.reduceEqDiff, Int.reduceEq, u_len1, u_len2, u_len3, u_abs, u_int, u_intb, u_lst1, u_lst2, u_lst3, u_tup, u_max, u_min, s_int, s_bl, s_tup, s_lst, s_non, s_str, a_add, a_sub, i_tup, i_lst, r_bl, r_int, fin, chk_own, chk_some, isN, bnd, iN_non, iN_int, iN_bl, iN_str, iN_tup, iN_lst, iN_F, ixW_0, ixW_1, ixW_2, F_0, F_1, ixW_w, wg_1, wg_0, wp_0, List.map, List.length, List.replicate, List.cons_append, List.nil_append, List.append_nil, Nat.reduceSub, Nat.reduceAdd, Nat.sub_self, Nat.sub_zero, if_true, Bool.false_eq_true, if_false, reduceIte, ite_true, ite_false, Bool.and_self, Bool.and_true, Bool.true_and, Bool.not_true, Bool.not_false, Nat.reduceLT, Nat.reduceLeDiff, decide_true, decide_false, Int.reduceLT, Int.reduceLE, Int.reduceAdd, Int.reduceSub, Int.reduceNeg, Bool.or_true, Bool.or_false, Bool.true_or, Bool.false_or, Bool.and_false, Bool.false_and, $xs,*])
  | `(tactic| simp! only) => `(tactic| simp only [ev.eq_1, ev.eq_2, ev.eq_3, ev.eq_4, ev.eq_5, ev.eq_6, ev.eq_7, ev.eq_8, ev.eq_9, ev.eq_10, ev.eq_11, ev.eq_12, ev.eq_13, ev.eq_14, ev.eq_15, ev.eq_16, ev.eq_17, ev.eq_18, ev.eq_19, ev.eq_20, ev.eq_21, ev.eq_22, ev.eq_23, ev.eq_24, ev.eq_25, ev.eq_26, ev.eq_27, ev.eq_28, ev.eq_29, ev.eq_30, ev.eq_35, evs, evT, exec.eq_1, exec.eq_2, exec.eq_3, exec.eq_4, exec.eq_5, exec.eq_6, exec.eq_7, exec.eq_8, exec.eq_9, exec.eq_10, exec.eq_11, exec.eq_12, exec.eq_13, exec.eq_14, exec.eq_15, exec.eq_16, exec.eq_19, exec.eq_20, exec.eq_21, exec.eq_22, exec.eq_23, execs, x_whl, x_for, x_comp, x_compIf, x_comp2, x_comp2If, bor, vi, mkEnv, eg, es, frzA, frzS, bn, bt, bq, bind_F, setAll, setAllT, bind1, setPar, wipeE, tgs, b_add, b_sub, b_mul, b_fdiv, b_mod, b_shl, b_shr, b_pow, b_tup, b_lst, o_lt, o_le, o_gt, o_ge, o_eqi, o_nei, o_neb, sl_a, sl_b, sl_bl, sl_c, cmp_nil, cmp_cons, cmpY_nil, cmpY_cons, ixW_3, ixL_0, ixL_1, ixL_2, ixL_3, btl, o_isb, o_eqs, o_nes, o_int, o_nit, isF_s, isF_i, deq_ss, deq_ii, List.all_cons, List.all_nil, List.any_cons, List.any_nil, Nat.reduceEqDiff, Int.reduceEq, u_len1, u_len2, u_len3, u_abs, u_int, u_intb, u_lst1, u_lst2, u_lst3, u_tup, u_max, u_min, s_int, s_bl, s_tup, s_lst, s_non, s_str, a_add, a_sub, i_tup, i_lst, r_bl, r_int, fin, chk_own, chk_some, isN, bnd, iN_non, iN_int, iN_bl, iN_str, iN_tup, iN_lst, iN_F, ixW_0, ixW_1, ixW_2, F_0, F_1, ixW_w, wg_1, wg_0, wp_0, List.map, List.length, List.replicate, List.cons_append, List.nil_append, List.append_nil, Nat.reduceSub, Nat.reduceAdd, Nat.sub_self, Nat.sub_zero, if_true, Bool.false_eq_true, if_false, reduceIte, ite_true, ite_false, Bool.and_self, Bool.and_true, Bool.true_and, Bool.not_true, Bool.not_false, Nat.reduceLT, Nat.reduceLeDiff, decide_true, decide_false, Int.reduceLT, Int.reduceLE, Int.reduceAdd, Int.reduceSub, Int.reduceNeg, Bool.or_true, Bool.or_false, Bool.true_or, Bool.false_or, Bool.and_false, Bool.false_and])
variable (n : Nat) (ws : WS)
structure Rw where
  s : Sn
  e : Rat
  g : Int
abbrev RD (r : Rw) : D := .tup [SD r.s, F r.e, .int r.g]
structure ZR (k : Nat) (r : Rw) : Prop where
  s : ZS k r.s
  e : Z k r.e
  o : r.s.l ≤ r.s.h
  e0 : 0 ≤ r.e
  g1 : -1400 ≤ r.g
  g2 : r.g ≤ 1400
theorem ZR.mono {j k : Nat} {r : Rw} (h : ZR j r) (e : j ≤ k) : ZR k r := ⟨h.s.mono e, h.e.mono e, h.o, h.e0, h.g1, h.g2⟩
def wideR (r : Rw) : Sn := widS r.s r.e
theorem ZS_wide {r : Rw} {k : Nat} (h : ZR k r) : ZS (k + k + 1) (wideR r) := ZS_wid h.s h.e
def reachR (r : Rw) : Rat := bigS r.s + r.e
/-! kinds that are rounded -/
inductive isRd : Kd → Prop
  | add : isRd .add
  | less : isRd .less
  | times : isRd .times
  | over : isRd .over
  | joined : isRd .joined
/-- by how much an operation of rounded values is off ahead of its rounding -/
def passK (k : Kd) (a b c : Rw) (s : Sn) : Option Rat := match k with
  | .add | .less => some (a.e + b.e)
  | .times => some (bigS a.s * b.e + (bigS b.s + b.e) * a.e)
  | .joined => some (bigS a.s * b.e + (bigS b.s + b.e) * a.e + c.e)
  | .over => if (smlS b.s - b.e).num ≤ 0 then none else some ((a.e + bigS s * b.e) / (smlS b.s - b.e))
  | _ => none
def OQ : Option Rat → D
  | none => .non
  | some q => F q
theorem Z_pass {k : Kd} {a b c : Rw} {s : Sn} {i j : Nat} {q : Rat} (ha : ZR i a) (hb : ZR i b) (hc : ZR i c) (hs : ZS j s) (hi : 1 ≤ i) (h : passK k a b c s = some q) : Z (7 * i + j + 10) q := by
  cases k <;> simp only [passK, Option.some.injEq, reduceCtorEq] at h
  · subst h
    exact (Z_add (Z_add (Z_mul (Z_big ha.s) hb.e) (Z_mul (Z_add (Z_big hb.s) hb.e) ha.e)) hc.e).mono (by omega)
  · subst h; exact (Z_add ha.e hb.e).mono (by omega)
  · subst h; exact (Z_add ha.e hb.e).mono (by omega)
  · subst h
    exact (Z_add (Z_mul (Z_big ha.s) hb.e) (Z_mul (Z_add (Z_big hb.s) hb.e) ha.e)).mono (by omega)
  · split at h
    · cases h
    · rename_i hn
      simp only [Option.some.injEq] at h
      subst h
      exact (Z_quo (Z_add ha.e (Z_mul (Z_big hs) hb.e)) (Z_sub (Z_sml hb.s hi) hb.e) (by omega)).mono (by omega)
def mnI (i j : Int) : Int := if j < i then j else i
def mxI (i j : Int) : Int := if j > i then j else i
/-- the grid ahead of rounding -/
def rawK (k : Kd) (a b c : Rw) : Option Int := match k with
  | .add | .less => some (mnI a.g b.g)
  | .times => some (a.g + b.g)
  | .joined => some (mnI (a.g + b.g) c.g)
  | _ => none
def OI : Option Int → D
  | none => .non
  | some i => .int i
theorem raw_bd {k : Kd} {a b c : Rw} {i : Nat} {r : Int} (ha : ZR i a) (hb : ZR i b) (hc : ZR i c) (h : rawK k a b c = some r) : -2800 ≤ r ∧ r ≤ 2800 := by
  have := ha.g1; have := ha.g2; have := hb.g1; have := hb.g2; have := hc.g1; have := hc.g2
  cases k <;> simp only [rawK, Option.some.injEq, reduceCtorEq, mnI] at h <;> (subst h; first | omega | (split <;> omega))
/-- the grid behind rounding -/
def grdK (x : Fo) (k : Kd) (a b c : Rw) : Int := match rawK k a b c with
  | none => x.f
  | some r => mxI x.f r
/-- whether two spans are near -/
def nearS (a b : Sn) : Bool := if has0 a = true ∨ has0 b = true ∨ decide (0 < a.l.num) ≠ decide (0 < b.l.num) then false else decide (bigS a ≤ 2 * smlS b) && decide (bigS b ≤ 2 * smlS a)
theorem F_two : D.tup [.int 2, .int 1] = F 2 := rfl
theorem Z_two : Z 2 2 := ⟨by decide, by decide⟩
/-- whether an operation is never rounded -/
def onGrid (x : Fo) (k : Kd) (a b c : Rw) (q : Rat) : Bool := match rawK k a b c with
  | none => false
  | some r => decide (x.f ≤ r) && decide (q ≤ pw (x.d + r))
def keepK (x : Fo) (k : Kd) (a b c : Rw) (q : Rat) : Bool := if onGrid x k a b c q = true then true else match k with
  | .less => nearS (wideR a) (wideR b)
  | .add => nearS (wideR a) (negS (wideR b))
  | _ => false
/-- the row of an operation -/
noncomputable def opRow (x : Fo) (y : Nat) (k : Kd) (a b c : Rw) : Option Rw := match spanK k a.s b.s c.s with
  | none => none
  | some s => match k with
    | .negate | .size => some ⟨s, a.e, a.g⟩
    | .least | .most => some ⟨s, mx a.e b.e, mnI a.g b.g⟩
    | _ => match passK k a b c s with
      | none => none
      | some p => if bigS s + p ≤ top x then some ⟨s, p + (if keepK x k a b c (bigS s + p) = true then 0 else ebd x y (bigS s + p)), grdK x k a b c⟩ else none
def OR : Option Rw → D
  | none => .non
  | some r => RD r
theorem ZS_span {k : Kd} {a b c s : Sn} {i : Nat} (ha : ZS i a) (hb : ZS i b) (hc : ZS i c) (hi : 1 ≤ i) (o : b.l ≤ b.h) (h : spanK k a b c = some s) : ZS (3 * i + 1) s := by
  cases k <;> simp only [spanK, Option.some.injEq] at h
  · subst h; exact (ZS_neg ha).mono (by omega)
  · subst h; exact (ZS_siz ha hi).mono (by omega)
  · subst h; exact (ZS_add (ZS_mul ha hb) hc).mono (by omega)
  · subst h; exact (ZS_add ha hb).mono (by omega)
  · subst h; exact (ZS_add ha (ZS_neg hb)).mono (by omega)
  · subst h; exact (ZS_mul ha hb).mono (by omega)
  · unfold ovrS at h
    split at h
    · cases h
    · rename_i h0
      cases h
      exact (ZS_quo ha hb (num_ne (by simpa using h0) o)).mono (by omega)
  · subst h; exact (ZS_lea ha hb).mono (by omega)
  · subst h; exact (ZS_mos ha hb).mono (by omega)
theorem pts_map {α β : Type} (f : α → β) (k : Kd) (a b c : α) : (pts k a b c).map f = pts k (f a) (f b) (f c) := by cases k <;> rfl
end Pv.K44


set_option Elab.async false
set_option linter.all false
set_option maxRecDepth 100000
set_option exponentiation.threshold 20
/-! L8: choices, numbers, what follows. -/
namespace Pv.K44
open Pv
local macro_rules
  | `(tactic| simp! only [$xs,*]) => `(tactic| simp only [ev.eq_1, ev.eq_2, ev.eq_3, ev.eq_4, ev.eq_5, ev.eq_6, ev.eq_7, ev.eq_8, ev.eq_9, ev.eq_10, ev.eq_11, ev.eq_12, ev.eq_13, ev.eq_14, ev.eq_15, ev.eq_16, ev.eq_17, ev.eq_18, ev.eq_19, ev.eq_20, ev.eq_21, ev.eq_22, ev.eq_23, ev.eq_24, ev.eq_25, ev.eq_26, ev.eq_27, ev.eq_28, ev.eq_29, ev.eq_30, ev.eq_35, evs, evT, exec.eq_1, exec.eq_2, exec.eq_3, exec.eq_4, exec.eq_5, exec.eq_6, exec.eq_7, exec.eq_8, exec.eq_9, exec.eq_10, exec.eq_11, exec.eq_12, exec.eq_13, exec.eq_14, exec.eq_15, exec.eq_16, exec.eq_19, exec.eq_20, exec.eq_21, exec.eq_22, exec.eq_23, execs, x_whl, x_for, x_comp, x_compIf, x_comp2, x_comp2If, bor, vi, mkEnv, eg, es, frzA, frzS, bn, bt, bq, bind_F, setAll, setAllT, bind1, setPar, wipeE, tgs, b_add, b_sub, b_mul, b_fdiv, b_mod, b_shl, b_shr, b_pow, b_tup, b_lst, o_lt, o_le, o_gt, o_ge, o_eqi, o_nei, o_neb, sl_a, sl_b, sl_bl, sl_c, cmp_nil, cmp_cons, cmpY_nil, cmpY_cons, ixW_3, ixL_0, ixL_1, ixL_2, ixL_3, btl, o_isb, o_eqs, o_nes, o_int, o_nit, isF_s, isF_i, deq_ss, deq_ii, List.all_cons, List.all_nil, List.any_cons, List.any_nil, Nat.reduceEqDiff, Int.reduceEq, u_len1, u_len2, u_len3, u_abs, u_int, u_intb, u_lst1, u_lst2, u_lst3, u_tup, u_max, u_min, s_int, s_bl, s_tup, s_lst, s_non, s_str, a_add, a_sub, i_tup, i_lst, r_bl, r_int, fin, chk_own, chk_some, isN, bnd, iN_non, iN_int, iN_bl, iN_str, iN_tup, iN_lst, iN_F, ixW_0, ixW_1, ixW_2, F_0, F_1, ixW_w, wg_1, wg_0, wp_0, List.map, List.length, List.replicate, List.cons_append, List.nil_append, List.append_nil, Nat.reduceSub, Nat.reduceAdd, Nat.sub_self, Nat.sub_zero, if_true, Bool.false_eq_true, if_false, reduceIte, ite_true, ite_false, Bool.and_self, Bool.and_true, Bool.true_and, Bool.not_true, Bool.not_false, Nat.reduceLT, Nat.reduceLeDiff, decide_true, decide_false, Int.reduceLT, Int.reduceLE, Int.reduceAdd, Int.reduceSub, Int.reduceNeg, Bool.or_true, Bool.or_false, Bool.true_or, Bool.false_or, Bool.and_false, Bool.false_and, $xs,*])
  | `(tactic| simp! only) => `(tactic| simp only [ev.eq_1, ev.eq_2, ev.eq_3, ev.eq_4, ev.eq_5, ev.eq_6, ev.eq_7, ev.eq_8, ev.eq_9, ev.eq_10, ev.eq_11, ev.eq_12, ev.eq_13, ev.eq_14, ev.eq_15, ev.eq_16, ev.eq_17, ev.eq_18, ev.eq_19, ev.eq_20, ev.eq_21, ev.eq_22, ev.eq_23, ev.eq_24, ev.eq_25, ev.eq_26, ev.eq_27, ev.eq_28, ev.eq_29, ev.eq_30, ev.eq_35, evs, evT, exec.eq_1, exec.eq_2, exec.eq_3, exec.eq_4, exec.eq_5, exec.eq_6, exec.eq_7, exec.eq_8, exec.eq_9, exec.eq_10, exec.eq_11, exec.eq_12, exec.eq_13, exec.eq_14, exec.eq_15, exec.eq_16, exec.eq_19, exec.eq_20, exec.eq_21, exec.eq_22, exec.eq_23, execs, x_whl, x_for, x_comp, x_compIf, x_comp2, x_comp2If, bor, vi, mkEnv, eg, es, frzA, frzS, bn, bt, bq, bind_F, setAll, setAllT, bind1, setPar, wipeE, tgs, b_add, b_sub, b_mul, b_fdiv, b_mod, b_shl, b_shr, b_pow, b_tup, b_lst, o_lt, o_le, o_gt, o_ge, o_eqi, o_nei, o_neb, sl_a, sl_b, sl_bl, sl_c, cmp_nil, cmp_cons, cmpY_nil, cmpY_cons, ixW_3, ixL_0, ixL_1, ixL_2, ixL_3, btl, o_isb, o_eqs, o_nes, o_int, o_nit, isF_s, isF_i, deq_ss, deq_ii, List.all_cons, List.all_nil, List.any_cons, List.any_nil, Nat.reduceEqDiff, Int.reduceEq, u_len1, u_len2, u_len3, u_abs, u_int, u_intb, u_lst1, u_lst2, u_lst3, u_tup, u_max, u_min, s_int, s_bl, s_tup, s_lst, s_non, s_str, a_add, a_sub, i_tup, i_lst, r_bl, r_int, fin, chk_own, chk_some, isN, bnd, iN_non, iN_int, iN_bl, iN_str, iN_tup, iN_lst, iN_F, ixW_0, ixW_1, ixW_2, F_0, F_1, ixW_w, wg_1, wg_0, wp_0, List.map, List.length, List.replicate, List.cons_append, List.nil_append, List.append_nil, Nat.reduceSub, Nat.reduceAdd, Nat.sub_self, Nat.sub_zero, if_true, Bool.false_eq_true, if_false, reduceIte, ite_true, ite_false, Bool.and_self, Bool.and_true, Bool.true_and, Bool.not_true, Bool.not_false, Nat.reduceLT, Nat.reduceLeDiff, decide_true, decide_false, Int.reduceLT, Int.reduceLE, Int.reduceAdd, Int.reduceSub, Int.reduceNeg, Bool.or_true, Bool.or_false, Bool.true_or, Bool.false_or, Bool.and_false, Bool.false_and])
variable (n : Nat) (ws : WS)
/-! numbers -/
inductive Nm where
  | o (s : Int)
  | n (s w p : Int)
  | e (s : Int)
def ND : Nm → D
  | .o s => nO s
  | .n s w p => nN s w p
  | .e s => nE s
def bydM (x : Fo) (y : Nat) (s : Int) : Nm := if y = 9 ∨ y = 5 ∨ (y = 3 ∧ s = 0) ∨ (y = 4 ∧ s = 1) then .e s else .n s (fullW x) x.g
theorem byd_nm (x : Fo) (y : Nat) (s : Int) : byd x y s = ND (bydM x y s) := by unfold byd bydM; split <;> rfl
noncomputable def rdNm (x : Fo) (y : Nat) (q : Rat) (s : Int) : Nm :=
  if q.num = 0 then .o s else
  if rdV x y q = 2 ^ x.d.toNat then (if x.g < un x q + 1 then bydM x y (sg q) else if rdV x y q / 2 = 0 then .o (sg q) else .n (sg q) (rdV x y q / 2) (un x q + 1)) else
  if x.g < un x q then bydM x y (sg q) else if rdV x y q = 0 then .o (sg q) else .n (sg q) (rdV x y q) (un x q)
theorem rdN_nm (x : Fo) (y : Nat) (q : Rat) (s : Int) : rdN x y q s = ND (rdNm x y q s) := by
  unfold rdN rdNm
  split
  · rfl
  split
  · split
    · exact byd_nm _ _ _
    · split <;> rfl
  · split
    · exact byd_nm _ _ _
    · split <;> rfl
/-- a number of a format -/
def okNm (x : Fo) : Nm → Prop
  | .o _ => True
  | .n _ w p => 0 < w ∧ w ≤ fullW x ∧ x.f ≤ p ∧ p ≤ x.g
  | .e _ => True
/-! what is rounded -/
theorem num_neg (q : Rat) : q.num < 0 ↔ q < 0 := by
  have := Rat.num_nonneg (q := q)
  constructor
  · intro h
    rw [← Rat.not_le]
    exact fun z => by have := this.mpr z; omega
  · intro h
    have : ¬ 0 ≤ q.num := fun z => by have := this.mp z; grind
    omega
theorem num_z (q : Rat) : q.num = 0 ↔ q = 0 := Rat.num_eq_zero
theorem ab_def (q : Rat) : ab q = if q < 0 then -q else q := by
  unfold ab
  by_cases h : q < 0
  · rw [if_pos h, if_pos ((num_neg q).mpr h)]
  · rw [if_neg h, if_neg fun z => h ((num_neg q).mp z)]
theorem ab_nn (q : Rat) : 0 ≤ ab q := by rw [ab_def]; split <;> grind
theorem ab_of {q : Rat} (h : 0 ≤ q) : ab q = q := by rw [ab_def, if_neg (by grind)]
theorem sca (q : Rat) (p : Int) : ab (q * pw p) = ab q * pw p := by
  have hp := pw_pos p
  rw [ab_def, ab_def]
  by_cases h : q < 0
  · have : q * pw p < 0 := by
      have := Rat.mul_pos (show 0 < -q by grind) hp
      grind
    rw [if_pos h, if_pos this, Rat.neg_mul]
  · have : 0 ≤ q * pw p := Rat.mul_nonneg (by grind) (Rat.le_of_lt hp)
    rw [if_neg h, if_neg (by grind)]
theorem rI_c (w : Int) : rI w = (w : Rat) := by
  unfold rI
  have := Rat.num_divInt_den (w : Rat)
  rw [Rat.num_intCast, Rat.den_intCast] at this
  exact this
theorem mul_den (q : Rat) : q * (((q.den : Int)) : Rat) = ((q.num : Int) : Rat) := by
  have e := Rat.num_divInt_den q
  have h : (q.den : Int) ≠ 0 := by have := den_pos q; omega
  have h2 := Rat.divInt_mul_divInt q.num q.den (d₁ := q.den) (d₂ := 1)
  rw [e, ← rI, rI_c, Int.mul_one] at h2
  rw [h2, ← rI_c, rI]
  have h3 := Rat.divInt_mul_right (n := q.num) (d := 1) (a := (q.den : Int)) h
  rw [Int.one_mul] at h3
  exact h3
theorem pw_nat (d : Int) (h : 0 ≤ d) : pw d = ((2 ^ d.toNat : Int) : Rat) := by
  unfold pw
  rw [if_pos h]
  exact rI_c _
theorem pw_nc (p : Int) : pw p * pw (-p) = 1 := pw_inv p
theorem pw_cn (p : Int) : pw (-p) * pw p = 1 := by rw [Rat.mul_comm]; exact pw_inv p
theorem mul_lt_iff {a b : Rat} (p : Int) : a * pw p < b * pw p ↔ a < b := ⟨fun h => Rat.lt_of_mul_lt_mul_right h (Rat.le_of_lt (pw_pos p)), fun h => Rat.mul_lt_mul_of_pos_right h (pw_pos p)⟩
theorem mul_le_iff {a b : Rat} (p : Int) : a * pw p ≤ b * pw p ↔ a ≤ b := by
  rw [← Rat.not_lt, mul_lt_iff, Rat.not_lt]
section
variable {x : Fo} {q : Rat}
theorem un_hi (h0 : q.num ≠ 0) : ab q < pw (x.d + un x q) ∧ (un x q = x.f ∨ pw (x.d + un x q - 1) ≤ ab q) ∧ x.f ≤ un x q := by
  have hz : ∃ b, Z b q := ⟨max q.num.natAbs q.den, Nat.lt_of_le_of_lt (Nat.le_max_left _ _) Nat.lt_two_pow_self, Nat.lt_of_le_of_lt (Nat.le_max_right _ _) Nat.lt_two_pow_self⟩
  obtain ⟨b, hb⟩ := hz
  obtain ⟨e, _, _⟩ := ex_bd hb h0
  have u : un x q = if ex q - x.d + 1 > x.f then ex q - x.d + 1 else x.f := by unfold un; rw [if_neg h0]
  refine ⟨?_, ?_, ?_⟩
  · have := pw_mono (show ex q + 1 ≤ x.d + un x q by rw [u]; split <;> omega)
    have := e.2
    grind
  · by_cases c : ex q - x.d + 1 > x.f
    · right
      rw [u, if_pos c, show x.d + (ex q - x.d + 1) - 1 = ex q by omega]
      exact e.1
    · left
      rw [u, if_neg c]
  · rw [u]; split <;> omega
theorem rdX_eq : rdX x q = ab q * pw (-un x q) := sca _ _
theorem rdX_mul : rdX x q * pw (un x q) = ab q := by
  rw [rdX_eq, Rat.mul_assoc, pw_cn, Rat.mul_one]
theorem rdX_nn : 0 ≤ rdX x q := ab_nn _
theorem rdW_fl : rdW x q = (rdX x q).floor := (Rat.floor_def _).symm
theorem rdW_le : ((rdW x q : Int) : Rat) ≤ rdX x q := by rw [rdW_fl]; exact Rat.floor_le _
theorem lt_rdW : rdX x q < ((rdW x q : Int) : Rat) + 1 := by
  have := Rat.lt_floor_add_one (rdX x q)
  rw [← rdW_fl, Rat.intCast_add] at this
  exact this
theorem rdW_nn : 0 ≤ rdW x q := by
  rw [rdW_fl, Rat.le_floor_iff]
  exact rdX_nn
theorem rdR_eq : (rdR x q : Rat) = (rdX x q - (rdW x q : Int)) * (((rdX x q).den : Int) : Rat) := by
  have e : rdR x q = (rdX x q).num - (rdW x q) * ((rdX x q).den : Int) := by
    unfold rdR rdW
    rw [Int.emod_def, Int.mul_comm]
  have h : (((rdX x q).num : Int) : Rat) = rdX x q * (((rdX x q).den : Int) : Rat) := by
    exact (mul_den _).symm
  rw [e, Rat.intCast_sub, Rat.intCast_mul, h]
  grind
theorem den_p (q : Rat) : (0 : Rat) < ((q.den : Int) : Rat) := by
  have := Rat.intCast_lt_intCast.mpr (den_pos q)
  simpa using this
theorem rdR_z : rdR x q = 0 ↔ rdX x q = (rdW x q : Int) := by
  have h1 := rdR_eq (x := x) (q := q)
  have h2 := den_p (rdX x q)
  constructor
  · intro h
    rw [h] at h1
    have h1 : (0 : Rat) = (rdX x q - (rdW x q : Int)) * (((rdX x q).den : Int) : Rat) := h1
    have := (Rat.mul_eq_zero (a := rdX x q - (rdW x q : Int)) (b := (((rdX x q).den : Int) : Rat))).mp h1.symm
    grind
  · intro h
    rw [h] at h1
    have : ((rdR x q : Int) : Rat) = ((0 : Int) : Rat) := by
      rw [h1]
      have : (0 : Rat) = ((0 : Int) : Rat) := rfl
      grind
    exact Rat.intCast_inj.mp this
theorem rdR_c (c : Int) : (((c : Int) : Rat) * ((rdX x q).den : Int) < 2 * (rdR x q : Int) ↔ (c : Rat) < 2 * (rdX x q - (rdW x q : Int))) := by
  have h2 := den_p (rdX x q)
  rw [rdR_eq]
  constructor
  · intro h
    refine Rat.lt_of_mul_lt_mul_right (c := (((rdX x q).den : Int) : Rat)) ?_ (Rat.le_of_lt h2)
    grind
  · intro h
    have := Rat.mul_lt_mul_of_pos_right h h2
    grind
end
end Pv.K44


set_option Elab.async false
set_option linter.all false
set_option maxRecDepth 100000
set_option exponentiation.threshold 20
/-! Ls: the same. -/
namespace Pv.K44
open Pv
local macro_rules
  | `(tactic| simp! only [$xs,*]) => `(tactic| simp only [ev.eq_1, ev.eq_2, ev.eq_3, ev.eq_4, ev.eq_5, ev.eq_6, ev.eq_7, ev.eq_8, ev.eq_9, ev.eq_10, ev.eq_11, ev.eq_12, ev.eq_13, ev.eq_14, ev.eq_15, ev.eq_16, ev.eq_17, ev.eq_18, ev.eq_19, ev.eq_20, ev.eq_21, ev.eq_22, ev.eq_23, ev.eq_24, ev.eq_25, ev.eq_26, ev.eq_27, ev.eq_28, ev.eq_29, ev.eq_30, ev.eq_35, evs, evT, exec.eq_1, exec.eq_2, exec.eq_3, exec.eq_4, exec.eq_5, exec.eq_6, exec.eq_7, exec.eq_8, exec.eq_9, exec.eq_10, exec.eq_11, exec.eq_12, exec.eq_13, exec.eq_14, exec.eq_15, exec.eq_16, exec.eq_19, exec.eq_20, exec.eq_21, exec.eq_22, exec.eq_23, execs, x_whl, x_for, x_comp, x_compIf, x_comp2, x_comp2If, bor, vi, mkEnv, eg, es, frzA, frzS, bn, bt, bq, bind_F, setAll, setAllT, bind1, setPar, wipeE, tgs, b_add, b_sub, b_mul, b_fdiv, b_mod, b_shl, b_shr, b_pow, b_tup, b_lst, o_lt, o_le, o_gt, o_ge, o_eqi, o_nei, o_neb, sl_a, sl_b, sl_bl, sl_c, cmp_nil, cmp_cons, cmpY_nil, cmpY_cons, ixW_3, ixL_0, ixL_1, ixL_2, ixL_3, btl, o_isb, o_eqs, o_nes, o_int, o_nit, isF_s, isF_i, deq_ss, deq_ii, List.all_cons, List.all_nil, List.any_cons, List.any_nil, Nat.reduceEqDiff, Int.reduceEq, u_len1, u_len2, u_len3, u_abs, u_int, u_intb, u_lst1, u_lst2, u_lst3, u_tup, u_max, u_min, s_int, s_bl, s_tup, s_lst, s_non, s_str, a_add, a_sub, i_tup, i_lst, r_bl, r_int, fin, chk_own, chk_some, isN, bnd, iN_non, iN_int, iN_bl, iN_str, iN_tup, iN_lst, iN_F, ixW_0, ixW_1, ixW_2, F_0, F_1, ixW_w, wg_1, wg_0, wp_0, List.map, List.length, List.replicate, List.cons_append, List.nil_append, List.append_nil, Nat.reduceSub, Nat.reduceAdd, Nat.sub_self, Nat.sub_zero, if_true, Bool.false_eq_true, if_false, reduceIte, ite_true, ite_false, Bool.and_self, Bool.and_true, Bool.true_and, Bool.not_true, Bool.not_false, Nat.reduceLT, Nat.reduceLeDiff, decide_true, decide_false, Int.reduceLT, Int.reduceLE, Int.reduceAdd, Int.reduceSub, Int.reduceNeg, Bool.or_true, Bool.or_false, Bool.true_or, Bool.false_or, Bool.and_false, Bool.false_and, $xs,*])
  | `(tactic| simp! only) => `(tactic| simp only [ev.eq_1, ev.eq_2, ev.eq_3, ev.eq_4, ev.eq_5, ev.eq_6, ev.eq_7, ev.eq_8, ev.eq_9, ev.eq_10, ev.eq_11, ev.eq_12, ev.eq_13, ev.eq_14, ev.eq_15, ev.eq_16, ev.eq_17, ev.eq_18, ev.eq_19, ev.eq_20, ev.eq_21, ev.eq_22, ev.eq_23, ev.eq_24, ev.eq_25, ev.eq_26, ev.eq_27, ev.eq_28, ev.eq_29, ev.eq_30, ev.eq_35, evs, evT, exec.eq_1, exec.eq_2, exec.eq_3, exec.eq_4, exec.eq_5, exec.eq_6, exec.eq_7, exec.eq_8, exec.eq_9, exec.eq_10, exec.eq_11, exec.eq_12, exec.eq_13, exec.eq_14, exec.eq_15, exec.eq_16, exec.eq_19, exec.eq_20, exec.eq_21, exec.eq_22, exec.eq_23, execs, x_whl, x_for, x_comp, x_compIf, x_comp2, x_comp2If, bor, vi, mkEnv, eg, es, frzA, frzS, bn, bt, bq, bind_F, setAll, setAllT, bind1, setPar, wipeE, tgs, b_add, b_sub, b_mul, b_fdiv, b_mod, b_shl, b_shr, b_pow, b_tup, b_lst, o_lt, o_le, o_gt, o_ge, o_eqi, o_nei, o_neb, sl_a, sl_b, sl_bl, sl_c, cmp_nil, cmp_cons, cmpY_nil, cmpY_cons, ixW_3, ixL_0, ixL_1, ixL_2, ixL_3, btl, o_isb, o_eqs, o_nes, o_int, o_nit, isF_s, isF_i, deq_ss, deq_ii, List.all_cons, List.all_nil, List.any_cons, List.any_nil, Nat.reduceEqDiff, Int.reduceEq, u_len1, u_len2, u_len3, u_abs, u_int, u_intb, u_lst1, u_lst2, u_lst3, u_tup, u_max, u_min, s_int, s_bl, s_tup, s_lst, s_non, s_str, a_add, a_sub, i_tup, i_lst, r_bl, r_int, fin, chk_own, chk_some, isN, bnd, iN_non, iN_int, iN_bl, iN_str, iN_tup, iN_lst, iN_F, ixW_0, ixW_1, ixW_2, F_0, F_1, ixW_w, wg_1, wg_0, wp_0, List.map, List.length, List.replicate, List.cons_append, List.nil_append, List.append_nil, Nat.reduceSub, Nat.reduceAdd, Nat.sub_self, Nat.sub_zero, if_true, Bool.false_eq_true, if_false, reduceIte, ite_true, ite_false, Bool.and_self, Bool.and_true, Bool.true_and, Bool.not_true, Bool.not_false, Nat.reduceLT, Nat.reduceLeDiff, decide_true, decide_false, Int.reduceLT, Int.reduceLE, Int.reduceAdd, Int.reduceSub, Int.reduceNeg, Bool.or_true, Bool.or_false, Bool.true_or, Bool.false_or, Bool.and_false, Bool.false_and])
variable (n : Nat) (ws : WS)
mutual
def pln : D → Bool
  | .int _ => true
  | .bl _ => true
  | .str _ => true
  | .non => true
  | .tup xs => plns xs
  | .lst xs => plns xs
  | _ => false
def plns : List D → Bool
  | [] => true
  | x :: xs => pln x && plns xs
end
mutual
def wt : D → Nat
  | .tup xs => 1 + wts xs
  | .lst xs => 1 + wts xs
  | _ => 1
def wts : List D → Nat
  | [] => 0
  | x :: xs => wt x + wts xs
end
mutual
theorem okq_up : ∀ {d : D} {k : Nat}, okq d k = true → okq d (k + 1) = true
  | .non, _, _ => by simp [okq]
  | .bl _, _, _ => by simp [okq]
  | .int _, _, _ => by simp [okq]
  | .str j, _, h => by simpa [okq] using h
  | .tup xs, 0, h => by simp [okq] at h
  | .tup xs, k + 1, h => by
    simp only [okq] at h ⊢
    exact okqs_up h
  | .lst xs, 0, h => by simp [okq] at h
  | .lst xs, k + 1, h => by
    simp only [okq] at h ⊢
    exact okqs_up h
  | .dic _ _, _, h => by simp [okq] at h
  | .scr _, _, h => by simp [okq] at h
  | .wd, _, h => by simp [okq] at h
theorem okqs_up : ∀ {d : List D} {k : Nat}, okqs d k = true → okqs d (k + 1) = true
  | [], _, _ => by simp [okqs]
  | x :: xs, k, h => by
    simp only [okqs, Bool.and_eq_true] at h ⊢
    exact ⟨okq_up h.1, okqs_up h.2⟩
end
theorem okqs_of : ∀ {ds : List D} {k : Nat}, (∀ d ∈ ds, okq d k = true) → okqs ds k = true
  | [], _, _ => by simp [okqs]
  | d :: ds, k, h => by
    simp only [okqs, Bool.and_eq_true]
    exact ⟨h d List.mem_cons_self, okqs_of fun x hx => h x (List.mem_cons_of_mem _ hx)⟩
theorem okqs_all : ∀ {ds : List D} {k : Nat}, okqs ds k = true → ∀ d ∈ ds, okq d k = true
  | d :: ds, k, h, x, hx => by
    simp only [okqs, Bool.and_eq_true] at h
    rcases List.mem_cons.mp hx with rfl | hx
    · exact h.1
    · exact okqs_all h.2 x hx
theorem plns_all : ∀ {ds : List D}, plns ds = true → ∀ d ∈ ds, pln d = true
  | d :: ds, h, x, hx => by
    simp only [plns, Bool.and_eq_true] at h
    rcases List.mem_cons.mp hx with rfl | hx
    · exact h.1
    · exact plns_all h.2 x hx
theorem wts_app : ∀ (a b : List D), wts (a ++ b) = wts a + wts b
  | [], b => by simp [wts]
  | x :: a, b => by simp only [List.cons_append, wts, wts_app a b]; omega
theorem wt_pos : ∀ d : D, 1 ≤ wt d
  | .tup xs => by simp only [wt]; omega
  | .lst xs => by simp only [wt]; omega
  | .non | .bl _ | .int _ | .str _ | .dic _ _ | .scr _ | .wd => by simp [wt]
theorem len_wts : ∀ ds : List D, ds.length ≤ wts ds
  | [] => Nat.le_refl _
  | x :: ds => by
    have := wt_pos x
    have := len_wts ds
    simp only [List.length_cons, wts]; omega
def pr (d : D) : D := .tup [d, d]
theorem ne_nil {st : List D} (h : ∀ d ∈ st, okq d 60 = true) : cop .ne (.lst (st.map pr)) (.lst []) = some (!st.isEmpty) := by
  have h1 : okq (.lst (st.map pr)) 64 = true := by
    simp only [okq]
    refine okqs_of fun d hd => ?_
    obtain ⟨x, hx, rfl⟩ := List.mem_map.mp hd
    simp only [pr, okq, okqs, Bool.and_eq_true, and_true]
    exact ⟨okq_up (okq_up (h x hx)), okq_up (okq_up (h x hx))⟩
  have h2 : okq (.lst []) 64 = true := rfl
  show (if (okq (.lst (st.map pr)) 64 && okq (.lst []) 64) = true then some (!deq (.lst (st.map pr)) (.lst [])) else none) = _
  rw [h1, h2]
  cases st <;> rfl
theorem range_map {f : D → D} : ∀ (xs : List D), (List.range xs.length).map (fun k => f (xs.getD k .non)) = xs.map f := by
  intro xs
  apply List.ext_getElem
  · simp
  · intro i h1 h2
    simp at h1
    simp [List.getD_eq_getElem?_getD, List.getElem?_eq_getElem h1]
theorem ix_at {xs : List D} {k : Nat} (h : k < xs.length) : ixW ws (.tup xs) (.int (0 + (k : Int))) = some (xs.getD k .non) := by
  show L2.atI xs (0 + (k : Int)) = _
  refine atI_of (j := k) (by omega) ?_
  rw [List.getD_eq_getElem?_getD, List.getElem?_eq_getElem h]
  rfl
theorem ix_atl {xs : List D} {k : Nat} (h : k < xs.length) : ixW ws (.lst xs) (.int (0 + (k : Int))) = some (xs.getD k .non) := ix_at ws h
theorem o_nenn : cop .ne .non .non = some false := rfl
theorem pops (st : List D) (d : D) : ((st ++ [d]).map pr).getLast? = some (.tup [d, d]) ∧ ((st ++ [d]).map pr).dropLast = st.map pr := by
  rw [List.map_append]
  simp [pr]
theorem same_loop {a b : D} : ∀ (m : Nat) (st : List D) (t3 t4 t5 t6 t7 : Slot), wts st < m → wts st ≤ 10000 → (∀ d ∈ st, pln d = true ∧ okq d 60 = true) →
    ∃ u3 u4 u5 u6 u7, whlX (callO P n) t__law_same_0 l__law_same_7 m [.va a, .va b, .ow (.lst (st.map pr)), t3, t4, t5, t6, t7] ws = some (.nx, [.va a, .va b, .ow (.lst []), u3, u4, u5, u6, u7], ws)
  | 0, _, _, _, _, _, _, h, _, _ => absurd h (by omega)
  | m + 1, st, t3, t4, t5, t6, t7, hm, hw, hp => by
    have hne := ne_nil fun d hd => (hp d hd).2
    rcases List.eq_nil_or_concat st with rfl | ⟨st, d, rfl⟩
    · refine ⟨t3, t4, t5, t6, t7, whl_stop ?_⟩
      simp! only [t__law_same_0, hne]
      rfl
    · rw [List.concat_eq_append] at *
      have e1 : (st ++ [d]).isEmpty = false := by cases st <;> rfl
      rw [e1] at hne
      obtain ⟨g1, g2⟩ := pops st d
      rw [wts_app] at hm hw
      have hd := hp d (by simp)
      have hst : ∀ x ∈ st, pln x = true ∧ okq x 60 = true := fun x hx => hp x (by simp [hx])
      have w1 : wts [d] = wt d := by simp [wts]
      rw [w1] at hm hw
      cases d with
      | int i =>
        have w2 := wt_pos (.int i)
        obtain ⟨u3, u4, u5, u6, u7, e⟩ := same_loop m st (.va (.int i)) (.va (.int i)) t5 t6 t7 (by omega) (by omega) hst
        refine ⟨u3, u4, u5, u6, u7, ?_⟩
        rw [whl_go (ws1 := ws) (ws2 := ws) (env2 := [.va a, .va b, .ow (.lst (st.map pr)), .va (.int i), .va (.int i), t5, t6, t7])]
        · exact e
        · simp! only [t__law_same_0, hne]
        · simp! only [l__law_same_7, g1, g2, beq_self_eq_true]
      | bl i =>
        have w2 := wt_pos (.bl i)
        obtain ⟨u3, u4, u5, u6, u7, e⟩ := same_loop m st (.va (.bl i)) (.va (.bl i)) t5 t6 t7 (by omega) (by omega) hst
        refine ⟨u3, u4, u5, u6, u7, ?_⟩
        rw [whl_go (ws1 := ws) (ws2 := ws) (env2 := [.va a, .va b, .ow (.lst (st.map pr)), .va (.bl i), .va (.bl i), t5, t6, t7])]
        · exact e
        · simp! only [t__law_same_0, hne]
        · simp! only [l__law_same_7, g1, g2, beq_self_eq_true]
      | tup xs =>
        simp only [wt] at hm hw
        have hx1 := plns_all (by simpa only [pln] using hd.1)
        have hx2 := okqs_all (by simpa only [okq] using hd.2)
        obtain ⟨u3, u4, u5, u6, u7, e⟩ := same_loop m (st ++ xs) (.va (.tup xs)) (.va (.tup xs)) t5 t6 t7 (by rw [wts_app]; omega) (by rw [wts_app]; omega) (fun x hx => (List.mem_append.mp hx).elim (hst x) fun q => ⟨hx1 x q, okq_up (hx2 x q)⟩)
        refine ⟨u3, u4, u5, u6, u7, ?_⟩
        rw [List.map_append] at e
        have l1 := len_wts xs
        have l2 := len_wts st
        have c := cmp_map (Φ := callO P n) (tg := .nm 7) (elt := x__law_same_6) (env := [.va a, .va b, .ow (.lst (st.map pr)), .va (.tup xs), .va (.tup xs), t5, t6, .un]) (ws := ws) (xs := List.range xs.length) (rep := fun k : Nat => D.int (0 + (k : Int))) (g := fun k => pr (xs.getD k .non)) fun k hk => by
          refine ⟨[.va a, .va b, .ow (.lst (st.map pr)), .va (.tup xs), .va (.tup xs), t5, t6, .va (.int (0 + (k : Int)))], rfl, ?_⟩
          have := ix_at ws (xs := xs) (List.mem_range.mp hk)
          simp! only [x__law_same_6, this, pr]
        rw [range_map] at c
        have o1 : okLen xs.length = true := decide_eq_true (by omega)
        have o2 : okLen (st.length + xs.length) = true := decide_eq_true (by omega)
        have o3 : (-100000 : Int) ≤ xs.length := by omega
        have o4 : (xs.length : Int) ≤ 100000 := by omega
        rw [whl_go (ws1 := ws) (ws2 := ws) (env2 := [.va a, .va b, .ow (.lst (st.map pr ++ xs.map pr)), .va (.tup xs), .va (.tup xs), t5, t6, t7])]
        · exact e
        · simp! only [t__law_same_0, hne]
        · simp! only [l__law_same_7, g1, g2, beq_self_eq_true, decide_eq_true o3, decide_eq_true o4, Int.toNat_natCast, List.length_map, List.length_range, o1, c, o2]
      | lst xs =>
        simp only [wt] at hm hw
        have hx1 := plns_all (by simpa only [pln] using hd.1)
        have hx2 := okqs_all (by simpa only [okq] using hd.2)
        obtain ⟨u3, u4, u5, u6, u7, e⟩ := same_loop m (st ++ xs) (.va (.lst xs)) (.va (.lst xs)) t5 t6 t7 (by rw [wts_app]; omega) (by rw [wts_app]; omega) (fun x hx => (List.mem_append.mp hx).elim (hst x) fun q => ⟨hx1 x q, okq_up (hx2 x q)⟩)
        refine ⟨u3, u4, u5, u6, u7, ?_⟩
        rw [List.map_append] at e
        have l1 := len_wts xs
        have l2 := len_wts st
        have c := cmp_map (Φ := callO P n) (tg := .nm 7) (elt := x__law_same_6) (env := [.va a, .va b, .ow (.lst (st.map pr)), .va (.lst xs), .va (.lst xs), t5, t6, .un]) (ws := ws) (xs := List.range xs.length) (rep := fun k : Nat => D.int (0 + (k : Int))) (g := fun k => pr (xs.getD k .non)) fun k hk => by
          refine ⟨[.va a, .va b, .ow (.lst (st.map pr)), .va (.lst xs), .va (.lst xs), t5, t6, .va (.int (0 + (k : Int)))], rfl, ?_⟩
          have := ix_atl ws (xs := xs) (List.mem_range.mp hk)
          simp! only [x__law_same_6, this, pr]
        rw [range_map] at c
        have o1 : okLen xs.length = true := decide_eq_true (by omega)
        have o2 : okLen (st.length + xs.length) = true := decide_eq_true (by omega)
        have o3 : (-100000 : Int) ≤ xs.length := by omega
        have o4 : (xs.length : Int) ≤ 100000 := by omega
        rw [whl_go (ws1 := ws) (ws2 := ws) (env2 := [.va a, .va b, .ow (.lst (st.map pr ++ xs.map pr)), .va (.lst xs), .va (.lst xs), t5, t6, t7])]
        · exact e
        · simp! only [t__law_same_0, hne]
        · simp! only [l__law_same_7, g1, g2, beq_self_eq_true, decide_eq_true o3, decide_eq_true o4, Int.toNat_natCast, List.length_map, List.length_range, o1, c, o2]
      | str i =>
        have w2 := wt_pos (.str i)
        have i5 : i < 512 := by simpa [okq] using hd.2
        obtain ⟨u3, u4, u5, u6, u7, e⟩ := same_loop m st (.va (.str i)) (.va (.str i)) t5 t6 t7 (by omega) (by omega) hst
        refine ⟨u3, u4, u5, u6, u7, ?_⟩
        rw [whl_go (ws1 := ws) (ws2 := ws) (env2 := [.va a, .va b, .ow (.lst (st.map pr)), .va (.str i), .va (.str i), t5, t6, t7])]
        · exact e
        · simp! only [t__law_same_0, hne]
        · simp! only [l__law_same_7, g1, g2, beq_self_eq_true, decide_eq_true i5]
      | non =>
        have w2 := wt_pos .non
        obtain ⟨u3, u4, u5, u6, u7, e⟩ := same_loop m st (.va .non) (.va .non) t5 t6 t7 (by omega) (by omega) hst
        refine ⟨u3, u4, u5, u6, u7, ?_⟩
        rw [whl_go (ws1 := ws) (ws2 := ws) (env2 := [.va a, .va b, .ow (.lst (st.map pr)), .va .non, .va .non, t5, t6, t7])]
        · exact e
        · simp! only [t__law_same_0, hne]
        · simp! only [l__law_same_7, g1, g2, beq_self_eq_true, o_nenn]
      | dic _ _ => simp [pln] at hd
      | scr _ => simp [pln] at hd
      | wd => simp [pln] at hd
structure Good (d : D) : Prop where
  p : pln d = true
  q : okq d 60 = true
  w : wt d ≤ 10000
theorem c__law_same {d : D} (h : Good d) : callO P (n + 1) 64 [d, d] ws = some (.bl true, ws) := by
  have hw := h.w
  obtain ⟨u3, u4, u5, u6, u7, e⟩ := same_loop n ws (a := d) (b := d) fuel [d] .un .un .un .un .un (by simp only [wts]; unfold fuel; omega) (by simp only [wts]; omega) (by simp [h.p, h.q])
  have e' : whlX (callO P n) t__law_same_0 l__law_same_7 fuel [.va d, .va d, .ow (.lst [.tup [d, d]]), .un, .un, .un, .un, .un] ws = _ := e
  rw [call_at (d := d__law_same) rfl rfl]
  simp! only [d__law_same, b__law_same, e']
theorem good_bl (b : Bool) : Good (.bl b) := ⟨rfl, rfl, by simp [wt]⟩
theorem good_int (b : Int) : Good (.int b) := ⟨rfl, rfl, by simp [wt]⟩
theorem good_non : Good .non := ⟨rfl, rfl, by simp [wt]⟩
theorem good_F (q : Rat) : Good (F q) := ⟨rfl, rfl, by simp [F, wt, wts]⟩
theorem good_SD (s : Sn) : Good (SD s) := ⟨rfl, rfl, by simp [F, wt, wts]⟩
theorem good_RD (r : Rw) : Good (RD r) := ⟨rfl, rfl, by simp [F, wt, wts]⟩
theorem good_OR (r : Option Rw) : Good (OR r) := by cases r; exact good_non; exact good_RD _
theorem good_OQ (r : Option Rat) : Good (OQ r) := by cases r; exact good_non; exact good_F _
theorem good_OB (r : Option Bool) : Good (OB r) := by cases r; exact good_non; exact good_bl _
end Pv.K44


set_option Elab.async false
set_option linter.all false
set_option maxRecDepth 100000
set_option exponentiation.threshold 20
/-! Ld: what is drawn. -/
namespace Pv.K44
open Pv
local macro_rules
  | `(tactic| simp! only [$xs,*]) => `(tactic| simp only [ev.eq_1, ev.eq_2, ev.eq_3, ev.eq_4, ev.eq_5, ev.eq_6, ev.eq_7, ev.eq_8, ev.eq_9, ev.eq_10, ev.eq_11, ev.eq_12, ev.eq_13, ev.eq_14, ev.eq_15, ev.eq_16, ev.eq_17, ev.eq_18, ev.eq_19, ev.eq_20, ev.eq_21, ev.eq_22, ev.eq_23, ev.eq_24, ev.eq_25, ev.eq_26, ev.eq_27, ev.eq_28, ev.eq_29, ev.eq_30, ev.eq_35, evs, evT, exec.eq_1, exec.eq_2, exec.eq_3, exec.eq_4, exec.eq_5, exec.eq_6, exec.eq_7, exec.eq_8, exec.eq_9, exec.eq_10, exec.eq_11, exec.eq_12, exec.eq_13, exec.eq_14, exec.eq_15, exec.eq_16, exec.eq_19, exec.eq_20, exec.eq_21, exec.eq_22, exec.eq_23, execs, x_whl, x_for, x_comp, x_compIf, x_comp2, x_comp2If, bor, vi, mkEnv, eg, es, frzA, frzS, bn, bt, bq, bind_F, setAll, setAllT, bind1, setPar, wipeE, tgs, b_add, b_sub, b_mul, b_fdiv, b_mod, b_shl, b_shr, b_pow, b_tup, b_lst, o_lt, o_le, o_gt, o_ge, o_eqi, o_nei, o_neb, sl_a, sl_b, sl_bl, sl_c, cmp_nil, cmp_cons, cmpY_nil, cmpY_cons, ixW_3, ixL_0, ixL_1, ixL_2, ixL_3, btl, o_isb, o_eqs, o_nes, o_int, o_nit, isF_s, isF_i, deq_ss, deq_ii, List.all_cons, List.all_nil, List.any_cons, List.any_nil, Nat.reduceEqDiff, Int.reduceEq, u_len1, u_len2, u_len3, u_abs, u_int, u_intb, u_lst1, u_lst2, u_lst3, u_tup, u_max, u_min, s_int, s_bl, s_tup, s_lst, s_non, s_str, a_add, a_sub, i_tup, i_lst, r_bl, r_int, fin, chk_own, chk_some, isN, bnd, iN_non, iN_int, iN_bl, iN_str, iN_tup, iN_lst, iN_F, ixW_0, ixW_1, ixW_2, F_0, F_1, ixW_w, wg_1, wg_0, wp_0, List.map, List.length, List.replicate, List.cons_append, List.nil_append, List.append_nil, Nat.reduceSub, Nat.reduceAdd, Nat.sub_self, Nat.sub_zero, if_true, Bool.false_eq_true, if_false, reduceIte, ite_true, ite_false, Bool.and_self, Bool.and_true, Bool.true_and, Bool.not_true, Bool.not_false, Nat.reduceLT, Nat.reduceLeDiff, decide_true, decide_false, Int.reduceLT, Int.reduceLE, Int.reduceAdd, Int.reduceSub, Int.reduceNeg, Bool.or_true, Bool.or_false, Bool.true_or, Bool.false_or, Bool.and_false, Bool.false_and, $xs,*])
  | `(tactic| simp! only) => `(tactic| simp only [ev.eq_1, ev.eq_2, ev.eq_3, ev.eq_4, ev.eq_5, ev.eq_6, ev.eq_7, ev.eq_8, ev.eq_9, ev.eq_10, ev.eq_11, ev.eq_12, ev.eq_13, ev.eq_14, ev.eq_15, ev.eq_16, ev.eq_17, ev.eq_18, ev.eq_19, ev.eq_20, ev.eq_21, ev.eq_22, ev.eq_23, ev.eq_24, ev.eq_25, ev.eq_26, ev.eq_27, ev.eq_28, ev.eq_29, ev.eq_30, ev.eq_35, evs, evT, exec.eq_1, exec.eq_2, exec.eq_3, exec.eq_4, exec.eq_5, exec.eq_6, exec.eq_7, exec.eq_8, exec.eq_9, exec.eq_10, exec.eq_11, exec.eq_12, exec.eq_13, exec.eq_14, exec.eq_15, exec.eq_16, exec.eq_19, exec.eq_20, exec.eq_21, exec.eq_22, exec.eq_23, execs, x_whl, x_for, x_comp, x_compIf, x_comp2, x_comp2If, bor, vi, mkEnv, eg, es, frzA, frzS, bn, bt, bq, bind_F, setAll, setAllT, bind1, setPar, wipeE, tgs, b_add, b_sub, b_mul, b_fdiv, b_mod, b_shl, b_shr, b_pow, b_tup, b_lst, o_lt, o_le, o_gt, o_ge, o_eqi, o_nei, o_neb, sl_a, sl_b, sl_bl, sl_c, cmp_nil, cmp_cons, cmpY_nil, cmpY_cons, ixW_3, ixL_0, ixL_1, ixL_2, ixL_3, btl, o_isb, o_eqs, o_nes, o_int, o_nit, isF_s, isF_i, deq_ss, deq_ii, List.all_cons, List.all_nil, List.any_cons, List.any_nil, Nat.reduceEqDiff, Int.reduceEq, u_len1, u_len2, u_len3, u_abs, u_int, u_intb, u_lst1, u_lst2, u_lst3, u_tup, u_max, u_min, s_int, s_bl, s_tup, s_lst, s_non, s_str, a_add, a_sub, i_tup, i_lst, r_bl, r_int, fin, chk_own, chk_some, isN, bnd, iN_non, iN_int, iN_bl, iN_str, iN_tup, iN_lst, iN_F, ixW_0, ixW_1, ixW_2, F_0, F_1, ixW_w, wg_1, wg_0, wp_0, List.map, List.length, List.replicate, List.cons_append, List.nil_append, List.append_nil, Nat.reduceSub, Nat.reduceAdd, Nat.sub_self, Nat.sub_zero, if_true, Bool.false_eq_true, if_false, reduceIte, ite_true, ite_false, Bool.and_self, Bool.and_true, Bool.true_and, Bool.not_true, Bool.not_false, Nat.reduceLT, Nat.reduceLeDiff, decide_true, decide_false, Int.reduceLT, Int.reduceLE, Int.reduceAdd, Int.reduceSub, Int.reduceNeg, Bool.or_true, Bool.or_false, Bool.true_or, Bool.false_or, Bool.and_false, Bool.false_and])
variable (n : Nat) (ws : WS)
theorem okI_m {i : Int} (h1 : 0 ≤ i) (h2 : i < 65537) : okI i = true := okI_s (by omega)
theorem app_len (ds : List Int) (x : Int) : ds.map D.int ++ [.int x] = (ds ++ [x]).map .int := by simp
/-- inner walk -/
def I0 (s0 s1 s3 s4 s5 : Slot) (c : Nat) (w : WS) (s : Nat) (env : Env) (ws : WS) : Prop := ws = w ∧ ∃ (ds : List Int) (r : Int) (t7 : Slot), env = [s0, s1, .ow (.lst (ds.map .int)), s3, s4, s5, .va (.int r), t7] ∧ ds.length ≤ c + s
theorem in36 {s0 s1 s3 s4 s5 : Slot} {c : Nat} {s : Nat} {k : Nat} {env : Env} (hs : c + s ≤ 90000) (h : I0 s0 s1 s3 s4 s5 c ws s env ws) :
    ∃ env1 env2 ws2, bindT env (.nm 7) (.int (0 + (k : Int))) = some env1 ∧ execs (callO P n) l__law_draws_0 env1 ws = some (.nx, env2, ws2) ∧ I0 s0 s1 s3 s4 s5 c ws (s + 1) env2 ws2 := by
  obtain ⟨_, ds, r, t7, rfl, hl⟩ := h
  have o1 : okLen ds.length = true := decide_eq_true (by omega)
  have o2 : okI 997 = true := okI_s (by decide)
  by_cases g : 0 < r
  · refine ⟨[s0, s1, .ow (.lst (ds.map .int)), s3, s4, s5, .va (.int r), .va (.int (0 + (k : Int)))], [s0, s1, .ow (.lst ((ds ++ [r % 997]).map .int)), s3, s4, s5, .va (.int (r / 997)), .va (.int (0 + (k : Int)))], ws, rfl, ?_, rfl, ds ++ [r % 997], r / 997, _, rfl, by simp; omega⟩
    rw [← app_len]
    simp! only [l__law_draws_0, decide_eq_true g, List.length_map, o1, o2]
  · refine ⟨[s0, s1, .ow (.lst (ds.map .int)), s3, s4, s5, .va (.int r), .va (.int (0 + (k : Int)))], _, ws, rfl, ?_, rfl, ds, r, .va (.int (0 + (k : Int))), rfl, by omega⟩
    simp! only [l__law_draws_0, decide_eq_false g]
theorem loopIn {s0 s1 s3 s4 s5 : Slot} {c : Nat} : ∀ (xs : List Nat) (s : Nat) (env : Env), c + s + xs.length ≤ 90000 → I0 s0 s1 s3 s4 s5 c ws s env ws →
    ∃ env2, forX (callO P n) (.nm 7) l__law_draws_0 (xs.map fun k : Nat => .int (0 + (k : Int))) env ws = some (.nx, env2, ws) ∧ I0 s0 s1 s3 s4 s5 c ws (s + xs.length) env2 ws
  | [], s, env, _, h => ⟨env, rfl, h⟩
  | x :: xs, s, env, hl, h => by
    rw [List.length_cons] at hl
    obtain ⟨env1, env2, ws2, h1, h2, h3⟩ := in36 n ws (k := x) (by omega) h
    have ew := h3.1
    rw [ew] at h2 h3
    obtain ⟨env3, g1, g2⟩ := loopIn xs (s + 1) env2 (by omega) h3
    refine ⟨env3, ?_, by rw [List.length_cons, show s + (xs.length + 1) = s + 1 + xs.length by omega]; exact g2⟩
    rw [List.map_cons, for_cons, h1]
    dsimp only
    rw [h2]
    exact g1
/-- outer walk -/
def I1 (s0 s1 : Slot) (c : Nat) (env : Env) : Prop := ∃ (ds : List Int) (m : Int) (t4 t5 t6 t7 : Slot), env = [s0, s1, .ow (.lst (ds.map .int)), .va (.int m), t4, t5, t6, t7] ∧ 0 ≤ m ∧ m < 65537 ∧ ds.length ≤ c
theorem ix_scr {ns : List Int} {k : Nat} (h : k < ns.length) : ixW ws (.scr ns) (.int (0 + (k : Int))) = some (.int (ns.getD k 0)) := by
  show (L2.atI ns (0 + (k : Int))).map D.int = _
  rw [atI_of (j := k) (x := ns.getD k 0) (by omega)]
  · rfl
  · rw [List.getD_eq_getElem?_getD, List.getElem?_eq_getElem h]
    rfl
theorem step36 {ns : List Int} {s1 : Slot} {c k : Nat} {env : Env} (hk : k < ns.length) (hc : c ≤ 80000) (h : I1 (.va (.scr ns)) s1 c env) :
    ∃ env1 env2, bindT env (.nm 4) (.int (0 + (k : Int))) = some env1 ∧ execs (callO P n) l__law_draws_1 env1 ws = some (.nx, env2, ws) ∧ I1 (.va (.scr ns)) s1 (c + 62) env2 := by
  obtain ⟨ds, m, t4, t5, t6, t7, rfl, h1, h2, hl⟩ := h
  have ix := ix_scr ws hk
  have o1 : okLen ds.length = true := decide_eq_true (by omega)
  have o1' : okLen (ds.length + 1) = true := decide_eq_true (by omega)
  have q1 := okI_m h1 h2
  have q2 : okI 48271 = true := okI_s (by decide)
  have q3 : okI 69621 = true := okI_s (by decide)
  let cell : Int := (ns.getD k 0).natAbs
  let m2 : Int := (m * 48271 + cell % 1000003 + (0 + (k : Int))) % 65537
  have m20 : 0 ≤ m2 := Int.emod_nonneg _ (by decide)
  have m21 : m2 < 65537 := Int.emod_lt_of_pos _ (by decide)
  have q4 := okI_m m20 m21
  have p1 : (10 : Int) ^ Int.toNat 18 = 1000000000000000000 := by decide
  have r60 : (List.range 60).length = 60 := by simp
  have t60 : Int.toNat 60 = 60 := rfl
  have na : Int.natAbs 10 = 10 := rfl
  have tn : Int.toNat 18 = 18 := rfl
  have p2 : (10 : Int) ^ 18 = 1000000000000000000 := by decide
  have e60 : (List.range 60).map (fun k : Nat => D.int (0 + (k : Int))) = (List.range (Int.toNat 60)).map (fun k : Nat => D.int (0 + (k : Int))) := rfl
  have m2e : (m * 48271 + cell % 1000003 + (0 + (k : Int))) % 65537 = m2 := rfl
  have ce : ((ns.getD k 0).natAbs : Int) = cell := rfl
  by_cases g : (1000000000000000000 : Int) ≤ cell
  · obtain ⟨env2, e, _, ds2, r, t, rfl, hl2⟩ := loopIn n ws (s0 := .va (.scr ns)) (s1 := s1) (s3 := .va (.int m2)) (s4 := .va (.int (0 + (k : Int)))) (s5 := .va (.int cell)) (c := ds.length) (List.range 60) 0 [.va (.scr ns), s1, .ow (.lst (ds.map .int)), .va (.int m2), .va (.int (0 + (k : Int))), .va (.int cell), .va (.int cell), t7] (by simp; omega)
      ⟨rfl, ds, cell, t7, rfl, by omega⟩
    refine ⟨[.va (.scr ns), s1, .ow (.lst (ds.map .int)), .va (.int m), .va (.int (0 + (k : Int))), t5, t6, t7], [.va (.scr ns), s1, .ow (.lst (ds2.map .int)), .va (.int m2), .va (.int (0 + (k : Int))), .va (.int cell), .va (.int r), t], rfl, ?_, ds2, m2, _, _, _, _, rfl, m20, m21, by simp at hl2; omega⟩
    simp! only [l__law_draws_1, ix, absI, ce, q1, q2, m2e, na, tn, p2, decide_eq_true g, t60, e]
  · obtain ⟨env2, e, _, ds2, r, t, rfl, hl2⟩ := loopIn n ws (s0 := .va (.scr ns)) (s1 := s1) (s3 := .va (.int m2)) (s4 := .va (.int (0 + (k : Int)))) (s5 := .va (.int cell)) (c := ds.length + 2) (List.range 60) 0 [.va (.scr ns), s1, .ow (.lst (((ds ++ [cell % 997]) ++ [(m2 * 69621 + 5) % 65521 % 997]).map .int)), .va (.int m2), .va (.int (0 + (k : Int))), .va (.int cell), .va (.int 0), t7] (by simp; omega)
      ⟨rfl, (ds ++ [cell % 997]) ++ [(m2 * 69621 + 5) % 65521 % 997], 0, t7, rfl, by simp⟩
    rw [← app_len, ← app_len] at e
    refine ⟨[.va (.scr ns), s1, .ow (.lst (ds.map .int)), .va (.int m), .va (.int (0 + (k : Int))), t5, t6, t7], [.va (.scr ns), s1, .ow (.lst (ds2.map .int)), .va (.int m2), .va (.int (0 + (k : Int))), .va (.int cell), .va (.int r), t], rfl, ?_, ds2, m2, _, _, _, _, rfl, m20, m21, by simp at hl2; omega⟩
    have o3 : okLen (List.map D.int ds).length = true := by rw [List.length_map]; exact o1
    have o4 : okLen (List.map D.int ds ++ [D.int (cell % 997)]).length = true := by rw [List.length_append, List.length_map]; exact o1'
    simp! only [l__law_draws_1, ix, absI, ce, q1, q2, q3, q4, m2e, na, tn, p2, decide_eq_false g, t60, o3, o4, e]
theorem out36 {ns : List Int} {s1 : Slot} : ∀ (xs : List Nat) (c : Nat) (env : Env), (∀ x ∈ xs, x < ns.length) → c + 62 * xs.length ≤ 80000 → I1 (.va (.scr ns)) s1 c env →
    ∃ env2, forX (callO P n) (.nm 4) l__law_draws_1 (xs.map fun k : Nat => .int (0 + (k : Int))) env ws = some (.nx, env2, ws) ∧ I1 (.va (.scr ns)) s1 (c + 62 * xs.length) env2
  | [], c, env, _, _, h => ⟨env, rfl, h⟩
  | x :: xs, c, env, hx, hl, h => by
    rw [List.length_cons] at hl
    obtain ⟨env1, env2, h1, h2, h3⟩ := step36 n ws (hx x List.mem_cons_self) (by omega) h
    obtain ⟨env3, g1, g2⟩ := out36 xs (c + 62) env2 (fun y hy => hx y (List.mem_cons_of_mem _ hy)) (by omega) h3
    refine ⟨env3, ?_, by rw [List.length_cons, show c + 62 * (xs.length + 1) = c + 62 + 62 * xs.length by omega]; exact g2⟩
    rw [List.map_cons, for_cons, h1]
    dsimp only
    rw [h2]
    exact g1
theorem last36 {s0 s1 : Slot} : ∀ (xs : List Nat) (c : Nat) (env : Env), c + xs.length ≤ 80000 → I1 s0 s1 c env →
    ∃ env2, forX (callO P n) (.nm 4) l__law_draws_2 (xs.map fun k : Nat => .int (0 + (k : Int))) env ws = some (.nx, env2, ws) ∧ I1 s0 s1 (c + xs.length) env2
  | [], c, env, _, h => ⟨env, rfl, h⟩
  | x :: xs, c, env, hl, h => by
    rw [List.length_cons] at hl
    obtain ⟨ds, m, t4, t5, t6, t7, rfl, h1, h2, h3⟩ := h
    let m2 : Int := (m * 16807 + (0 + (x : Int)) + 1) % 65537
    have m2e : (m * 16807 + (0 + (x : Int)) + 1) % 65537 = m2 := rfl
    have m20 : 0 ≤ m2 := Int.emod_nonneg _ (by decide)
    have m21 : m2 < 65537 := Int.emod_lt_of_pos _ (by decide)
    obtain ⟨env3, g1, g2⟩ := last36 (s0 := s0) (s1 := s1) xs (c + 1) [s0, s1, .ow (.lst ((ds ++ [m2 % 997]).map .int)), .va (.int m2), .va (.int (0 + (x : Int))), t5, t6, t7] (by omega) ⟨_, m2, _, _, _, _, rfl, m20, m21, by simp; omega⟩
    refine ⟨env3, ?_, by rw [List.length_cons, show c + (xs.length + 1) = c + 1 + xs.length by omega]; exact g2⟩
    have q1 := okI_m h1 h2
    have q2 : okI 16807 = true := okI_s (by decide)
    have o3 : okLen (List.map D.int ds).length = true := by rw [List.length_map]; exact decide_eq_true (by omega)
    rw [← app_len] at g1
    rw [List.map_cons, for_cons]
    simp! only [l__law_draws_2, q1, q2, m2e, o3]
    exact g1
theorem c__law_draws {ns : List Int} (h : ns.length ≤ 63) {mm : Nat} (hm : mm ≤ 2000) : ∃ ds : List Int, callO P (n + 1) 61 [.scr ns, .int mm] ws = some (.lst (ds.map .int), ws) := by
  obtain ⟨env2, e1, hI⟩ := out36 n ws (ns := ns) (s1 := .va (.int mm)) (List.range ns.length) 0 [.va (.scr ns), .va (.int mm), .ow (.lst []), .va (.int 7), .un, .un, .un, .un] (fun x hx => List.mem_range.mp hx) (by simp; omega) ⟨[], 7, _, _, _, _, rfl, by decide, by decide, Nat.le_refl _⟩
  obtain ⟨env3, e2, ds, m, t4, t5, t6, t7, rfl, _, _, _⟩ := last36 n ws (List.range mm) _ env2 (by simp; omega) hI
  have mm1 : (-100000 : Int) ≤ (mm : Int) := by omega
  have mm2 : (mm : Int) ≤ 100000 := by omega
  obtain ⟨ds0, m0, u4, u5, u6, u7, rfl, _, _, _⟩ := hI
  have o1 : (-100000 : Int) ≤ (ns.length : Int) := by omega
  have o2 : (ns.length : Int) ≤ 100000 := by omega
  have sl : ∃ ds' : List Int, slD (.lst (ds.map .int)) none (some (mm : Int)) = some (.lst (ds'.map .int)) := by
    refine ⟨(ds.drop (HT.sIx ds.length 0 none)).take (HT.sIx ds.length ds.length (some (mm : Int)) - HT.sIx ds.length 0 none), ?_⟩
    show some (D.lst (cutD (ds.map .int) none (some (mm : Int)))) = _
    unfold cutD
    rw [List.length_map, ← List.map_drop, ← List.map_take]
  obtain ⟨ds', sl⟩ := sl
  refine ⟨ds', ?_⟩
  rw [call_at (d := d__law_draws) rfl rfl]
  simp! only [d__law_draws, b__law_draws, decide_eq_true o1, decide_eq_true o2, decide_eq_true mm1, decide_eq_true mm2, Int.toNat_natCast, e1, e2, sl]
/-! next -/
theorem ix_li {ms : List Int} {k : Nat} {i : Int} (hi : i = (k : Int)) (h : k < ms.length) : ixW ws (.lst (ms.map .int)) (.int i) = some (.int (ms.getD k 0)) := by
  show L2.atI (ms.map D.int) i = _
  refine atI_of (j := k) hi ?_
  rw [List.getElem?_map, List.getElem?_eq_getElem h, List.getD_eq_getElem?_getD, List.getElem?_eq_getElem h]
  rfl
abbrev W (ds : List Int) (k : Int) : WS := some [(25, .lst (ds.map .int)), (24, .int k)]
theorem c__law_next (ds : List Int) {m k : Int} (hm : 0 < m) (hk : 0 ≤ k) : ∃ r : Int, 0 ≤ r ∧ r < m ∧ callO P (n + 1) 62 [.wd, .int m] (W ds k) = some (.int r, W ds (k + 1)) := by
  have o1 : okLen (0 + 1 + 1) = true := okLen_of (by decide)
  have o2 : (some (D.int k)).isSome = true := rfl
  by_cases g : (ds.length : Int) < k + 1
  · refine ⟨0, by omega, hm, ?_⟩
    rw [call_at (d := d__law_next) rfl rfl]
    simp! only [d__law_next, b__law_next, W, o1, o2, List.length_map, decide_eq_true g]
  · have ix := ix_li (some [(25, .lst (ds.map .int)), (24, .int (k + 1))]) (ms := ds) (k := k.toNat) (i := k + 1 - 1) (by omega) (by omega)
    refine ⟨ds.getD k.toNat 0 % m, Int.emod_nonneg _ (by omega), Int.emod_lt_of_pos _ hm, ?_⟩
    rw [call_at (d := d__law_next) rfl rfl]
    simp! only [d__law_next, b__law_next, W, o1, o2, List.length_map, decide_eq_false g, ix, decide_eq_true hm]
end Pv.K44


set_option Elab.async false
set_option linter.all false
set_option maxRecDepth 100000
set_option exponentiation.threshold 20
/-! Ln: the nearest numbers of a format, sums in parts. -/
namespace Pv.K44
open Pv
local macro_rules
  | `(tactic| simp! only [$xs,*]) => `(tactic| simp only [ev.eq_1, ev.eq_2, ev.eq_3, ev.eq_4, ev.eq_5, ev.eq_6, ev.eq_7, ev.eq_8, ev.eq_9, ev.eq_10, ev.eq_11, ev.eq_12, ev.eq_13, ev.eq_14, ev.eq_15, ev.eq_16, ev.eq_17, ev.eq_18, ev.eq_19, ev.eq_20, ev.eq_21, ev.eq_22, ev.eq_23, ev.eq_24, ev.eq_25, ev.eq_26, ev.eq_27, ev.eq_28, ev.eq_29, ev.eq_30, ev.eq_35, evs, evT, exec.eq_1, exec.eq_2, exec.eq_3, exec.eq_4, exec.eq_5, exec.eq_6, exec.eq_7, exec.eq_8, exec.eq_9, exec.eq_10, exec.eq_11, exec.eq_12, exec.eq_13, exec.eq_14, exec.eq_15, exec.eq_16, exec.eq_19, exec.eq_20, exec.eq_21, exec.eq_22, exec.eq_23, execs, x_whl, x_for, x_comp, x_compIf, x_comp2, x_comp2If, bor, vi, mkEnv, eg, es, frzA, frzS, bn, bt, bq, bind_F, setAll, setAllT, bind1, setPar, wipeE, tgs, b_add, b_sub, b_mul, b_fdiv, b_mod, b_shl, b_shr, b_pow, b_tup, b_lst, o_lt, o_le, o_gt, o_ge, o_eqi, o_nei, o_neb, sl_a, sl_b, sl_bl, sl_c, cmp_nil, cmp_cons, cmpY_nil, cmpY_cons, ixW_3, ixL_0, ixL_1, ixL_2, ixL_3, btl, o_isb, o_eqs, o_nes, o_int, o_nit, isF_s, isF_i, deq_ss, deq_ii, List.all_cons, List.all_nil, List.any_cons, List.any_nil, Nat.reduceEqDiff, Int.reduceEq, u_len1, u_len2, u_len3, u_abs, u_int, u_intb, u_lst1, u_lst2, u_lst3, u_tup, u_max, u_min, s_int, s_bl, s_tup, s_lst, s_non, s_str, a_add, a_sub, i_tup, i_lst, r_bl, r_int, fin, chk_own, chk_some, isN, bnd, iN_non, iN_int, iN_bl, iN_str, iN_tup, iN_lst, iN_F, ixW_0, ixW_1, ixW_2, F_0, F_1, ixW_w, wg_1, wg_0, wp_0, List.map, List.length, List.replicate, List.cons_append, List.nil_append, List.append_nil, Nat.reduceSub, Nat.reduceAdd, Nat.sub_self, Nat.sub_zero, if_true, Bool.false_eq_true, if_false, reduceIte, ite_true, ite_false, Bool.and_self, Bool.and_true, Bool.true_and, Bool.not_true, Bool.not_false, Nat.reduceLT, Nat.reduceLeDiff, decide_true, decide_false, Int.reduceLT, Int.reduceLE, Int.reduceAdd, Int.reduceSub, Int.reduceNeg, Bool.or_true, Bool.or_false, Bool.true_or, Bool.false_or, Bool.and_false, Bool.false_and, $xs,*])
  | `(tactic| simp! only) => `(tactic| simp only [ev.eq_1, ev.eq_2, ev.eq_3, ev.eq_4, ev.eq_5, ev.eq_6, ev.eq_7, ev.eq_8, ev.eq_9, ev.eq_10, ev.eq_11, ev.eq_12, ev.eq_13, ev.eq_14, ev.eq_15, ev.eq_16, ev.eq_17, ev.eq_18, ev.eq_19, ev.eq_20, ev.eq_21, ev.eq_22, ev.eq_23, ev.eq_24, ev.eq_25, ev.eq_26, ev.eq_27, ev.eq_28, ev.eq_29, ev.eq_30, ev.eq_35, evs, evT, exec.eq_1, exec.eq_2, exec.eq_3, exec.eq_4, exec.eq_5, exec.eq_6, exec.eq_7, exec.eq_8, exec.eq_9, exec.eq_10, exec.eq_11, exec.eq_12, exec.eq_13, exec.eq_14, exec.eq_15, exec.eq_16, exec.eq_19, exec.eq_20, exec.eq_21, exec.eq_22, exec.eq_23, execs, x_whl, x_for, x_comp, x_compIf, x_comp2, x_comp2If, bor, vi, mkEnv, eg, es, frzA, frzS, bn, bt, bq, bind_F, setAll, setAllT, bind1, setPar, wipeE, tgs, b_add, b_sub, b_mul, b_fdiv, b_mod, b_shl, b_shr, b_pow, b_tup, b_lst, o_lt, o_le, o_gt, o_ge, o_eqi, o_nei, o_neb, sl_a, sl_b, sl_bl, sl_c, cmp_nil, cmp_cons, cmpY_nil, cmpY_cons, ixW_3, ixL_0, ixL_1, ixL_2, ixL_3, btl, o_isb, o_eqs, o_nes, o_int, o_nit, isF_s, isF_i, deq_ss, deq_ii, List.all_cons, List.all_nil, List.any_cons, List.any_nil, Nat.reduceEqDiff, Int.reduceEq, u_len1, u_len2, u_len3, u_abs, u_int, u_intb, u_lst1, u_lst2, u_lst3, u_tup, u_max, u_min, s_int, s_bl, s_tup, s_lst, s_non, s_str, a_add, a_sub, i_tup, i_lst, r_bl, r_int, fin, chk_own, chk_some, isN, bnd, iN_non, iN_int, iN_bl, iN_str, iN_tup, iN_lst, iN_F, ixW_0, ixW_1, ixW_2, F_0, F_1, ixW_w, wg_1, wg_0, wp_0, List.map, List.length, List.replicate, List.cons_append, List.nil_append, List.append_nil, Nat.reduceSub, Nat.reduceAdd, Nat.sub_self, Nat.sub_zero, if_true, Bool.false_eq_true, if_false, reduceIte, ite_true, ite_false, Bool.and_self, Bool.and_true, Bool.true_and, Bool.not_true, Bool.not_false, Nat.reduceLT, Nat.reduceLeDiff, decide_true, decide_false, Int.reduceLT, Int.reduceLE, Int.reduceAdd, Int.reduceSub, Int.reduceNeg, Bool.or_true, Bool.or_false, Bool.true_or, Bool.false_or, Bool.and_false, Bool.false_and])
/-- a multiple of a power of 2 -/
def Mu (m : Int) (y : Rat) : Prop := ∃ k : Int, y = (k : Rat) * pw m
theorem Mu_add {m : Int} {a b : Rat} (ha : Mu m a) (hb : Mu m b) : Mu m (a + b) := by
  obtain ⟨k, rfl⟩ := ha
  obtain ⟨l, rfl⟩ := hb
  exact ⟨k + l, by rw [Rat.intCast_add, Rat.add_mul]⟩
theorem Mu_neg {m : Int} {a : Rat} (ha : Mu m a) : Mu m (-a) := by
  obtain ⟨k, rfl⟩ := ha
  exact ⟨-k, by rw [Rat.intCast_neg, Rat.neg_mul]⟩
theorem Mu_sub {m : Int} {a b : Rat} (ha : Mu m a) (hb : Mu m b) : Mu m (a - b) := by
  rw [Rat.sub_eq_add_neg]
  exact Mu_add ha (Mu_neg hb)
theorem Mu_le {m j : Int} {a : Rat} (ha : Mu m a) (h : j ≤ m) : Mu j a := by
  obtain ⟨k, rfl⟩ := ha
  refine ⟨k * 2 ^ (m - j).toNat, ?_⟩
  rw [Rat.intCast_mul, ← pw_nat (m - j) (by omega), Rat.mul_assoc, ← pw_add]
  congr 2
  omega
theorem Mu_pw {m j : Int} (h : m ≤ j) : Mu m (pw j) := Mu_le ⟨1, by have : ((1 : Int) : Rat) = 1 := rfl; rw [this, Rat.one_mul]⟩ h
theorem Mu_0 (m : Int) : Mu m 0 := ⟨0, by have : ((0 : Int) : Rat) = 0 := rfl; rw [this, Rat.zero_mul]⟩
theorem Mu_mul {m j : Int} {a b : Rat} (ha : Mu m a) (hb : Mu j b) : Mu (m + j) (a * b) := by
  obtain ⟨k, rfl⟩ := ha
  obtain ⟨l, rfl⟩ := hb
  refine ⟨k * l, ?_⟩
  rw [Rat.intCast_mul, pw_add]
  grind
/-- between two multiples there is a whole step -/
theorem Mu_lt {u : Int} {s t : Rat} (hs : Mu u s) (ht : Mu u t) (h : s < t + pw u) : s ≤ t := by
  obtain ⟨k, rfl⟩ := hs
  obtain ⟨l, rfl⟩ := ht
  have e : (l : Rat) * pw u + pw u = ((l + 1 : Int) : Rat) * pw u := by
    have : ((1 : Int) : Rat) = 1 := rfl
    rw [Rat.intCast_add, Rat.add_mul, this, Rat.one_mul]
  rw [e, mul_lt_iff, Rat.intCast_lt_intCast] at h
  rw [mul_le_iff, Rat.intCast_le_intCast]
  omega
theorem pw_dbl (e : Int) : pw (e + 1) = pw e + pw e := by rw [pw_succ]; grind
theorem pw_hlf (e : Int) : pw e = pw (e - 1) + pw (e - 1) := by
  have := pw_dbl (e - 1)
  rwa [Int.sub_add_cancel] at this
/-- a value of d digits, its last digit at f or above -/
def Rp (d f : Int) (y : Rat) : Prop := ∃ m, f ≤ m ∧ Mu m y ∧ -pw (d + m) < y ∧ y < pw (d + m)
section
variable {d f : Int}
theorem Rp_0 : Rp d f 0 := ⟨f, Int.le_refl f, Mu_0 f, by have := pw_pos (d + f); grind, pw_pos _⟩
theorem Rp_neg {y : Rat} (h : Rp d f y) : Rp d f (-y) := by
  obtain ⟨m, h1, h2, h3, h4⟩ := h
  exact ⟨m, h1, Mu_neg h2, by grind, by grind⟩
theorem Rp_le {y : Rat} {m : Int} (h1 : f ≤ m) (hd : 1 ≤ d) (h2 : Mu m y) (h3 : -pw (d + m) ≤ y) (h4 : y ≤ pw (d + m)) : Rp d f y := by
  by_cases c : y < pw (d + m)
  · by_cases c2 : -pw (d + m) < y
    · exact ⟨m, h1, h2, c2, c⟩
    · have e : y = -pw (d + m) := by grind
      have lt := pw_lt (show d + m < d + (m + 1) by omega)
      have pp := pw_pos (d + m)
      exact ⟨m + 1, by omega, e ▸ Mu_neg (Mu_pw (by omega)), by grind, by grind⟩
  · have e : y = pw (d + m) := by grind
    have lt := pw_lt (show d + m < d + (m + 1) by omega)
    have pp := pw_pos (d + m)
    exact ⟨m + 1, by omega, e ▸ Mu_pw (by omega), by grind, by grind⟩
/-- s is a value nearest to q -/
structure NrU (d f u : Int) (q s : Rat) : Prop where
  fu : f ≤ u
  mu : Mu u s
  n1 : -pw u ≤ 2 * (s - q)
  n2 : 2 * (s - q) ≤ pw u
  q1 : -pw (d + u) < q
  q2 : q < pw (d + u)
  lo : u = f ∨ pw (d + u - 1) ≤ q ∨ q ≤ -pw (d + u - 1)
def Nr (d f : Int) (q s : Rat) : Prop := ∃ u, NrU d f u q s
/-- s is no farther from q than y is -/
def Le (s y q : Rat) : Prop := (s - q ≤ y - q ∨ s - q ≤ q - y) ∧ (q - s ≤ y - q ∨ q - s ≤ q - y)
theorem nr_mu {u : Int} {q s y : Rat} (h : NrU d f u q s) (hy : Mu u y) : Le s y q := by
  have h1 := h.n1
  have h2 := h.n2
  have pp := pw_pos u
  rcases (Rat.le_total : y ≤ s ∨ s ≤ y) with c | c
  · by_cases g : s ≤ y
    · have : y = s := by grind
      subst this
      constructor <;> grind
    · have : ¬ s < y + pw u := fun z => g (Mu_lt h.mu hy z)
      constructor <;> grind
  · by_cases g : y ≤ s
    · have : y = s := by grind
      subst this
      constructor <;> grind
    · have : ¬ y < s + pw u := fun z => g (Mu_lt hy h.mu z)
      constructor <;> grind
theorem nrU_near (hd : 1 ≤ d) {u : Int} {q s y : Rat} (h : NrU d f u q s) (hy : Rp d f y) : Le s y q := by
  obtain ⟨m, fm, my, y1, y2⟩ := hy
  by_cases c : u ≤ m
  · exact nr_mu h (Mu_le my c)
  · have le := pw_mono (show d + m ≤ d + u - 1 by omega)
    rcases h.lo with e | e | e
    · omega
    · have := nr_mu h (y := pw (d + u - 1)) (Mu_pw (by omega))
      unfold Le at this ⊢
      grind
    · have := nr_mu h (y := -pw (d + u - 1)) (Mu_neg (Mu_pw (by omega)))
      unfold Le at this ⊢
      grind
theorem nr_near (hd : 1 ≤ d) {q s y : Rat} (h : Nr d f q s) (hy : Rp d f y) : Le s y q := by
  obtain ⟨u, h⟩ := h
  exact nrU_near hd h hy
theorem nr_eq (hd : 1 ≤ d) {q s : Rat} (h : Nr d f q s) (hq : Rp d f q) : s = q := by
  have := nr_near hd h hq
  unfold Le at this
  grind
theorem nr_rp (hd : 1 ≤ d) {q s : Rat} (h : Nr d f q s) : Rp d f s := by
  obtain ⟨u, h⟩ := h
  have h1 := h.n1
  have h2 := h.n2
  have q1 := h.q1
  have q2 := h.q2
  have pp := pw_pos u
  refine Rp_le h.fu hd h.mu ?_ (Mu_lt h.mu (Mu_pw (by omega)) (by grind))
  have := Mu_lt (Mu_neg h.mu) (Mu_pw (show u ≤ d + u by omega)) (by grind)
  grind
theorem nr_0 (hd : 1 ≤ d) {s : Rat} (h : Nr d f 0 s) : s = 0 := nr_eq hd h Rp_0
/-- the size of b is at most that of a -/
def Sz (b a : Rat) : Prop := (b ≤ a ∨ b ≤ -a) ∧ (-b ≤ a ∨ -b ≤ -a)
theorem err_rp (hd : 1 ≤ d) {a b s : Rat} (ha : Rp d f a) (hb : Rp d f b) (h : Nr d f (a + b) s) : Rp d f (a + b - s) := by
  have key : ∀ {a b : Rat}, Rp d f a → Rp d f b → Nr d f (a + b) s → (∃ m, f ≤ m ∧ Mu m a ∧ Mu m b ∧ -pw (d + m) < a ∧ a < pw (d + m)) → Rp d f (a + b - s) := by
    intro a b ha hb h ⟨m, fm, ma, mb, a1, a2⟩
    have nb := nr_near hd h hb
    obtain ⟨u, h⟩ := h
    have mq := Mu_add ma mb
    by_cases c : m ≤ u
    · refine ⟨m, fm, Mu_sub mq (Mu_le h.mu c), ?_, ?_⟩
      · unfold Le at nb; grind
      · unfold Le at nb; grind
    · have := nr_mu h (Mu_le mq (show u ≤ m by omega))
      have e : a + b - s = 0 := by unfold Le at this; grind
      rw [e]
      exact Rp_0
  have ha' := ha
  have hb' := hb
  obtain ⟨m, fm, ma, a1, a2⟩ := ha'
  obtain ⟨j, fj, mb, b1, b2⟩ := hb'
  by_cases c : m ≤ j
  · exact key ha hb h ⟨m, fm, ma, Mu_le mb c, a1, a2⟩
  · have := key hb ha (by rw [Rat.add_comm]; exact h) ⟨j, fj, mb, Mu_le ma (by omega), b1, b2⟩
    rwa [Rat.add_comm] at this
/-- a sum that is no greater than either is one of the format -/
theorem sm_rp {a b : Rat} (ha : Rp d f a) (hb : Rp d f b) (h1 : Sz (a + b) a) (h2 : Sz (a + b) b) : Rp d f (a + b) := by
  obtain ⟨m, fm, ma, a1, a2⟩ := ha
  obtain ⟨j, fj, mb, b1, b2⟩ := hb
  unfold Sz at h1 h2
  by_cases c : m ≤ j
  · exact ⟨m, fm, Mu_add ma (Mu_le mb c), by grind, by grind⟩
  · exact ⟨j, fj, Mu_add (Mu_le ma (by omega)) mb, by grind, by grind⟩
/-- the greater taken from the rounded sum: one of the format -/
theorem dk_rp (hd : 1 ≤ d) {a b s : Rat} (ha : Rp d f a) (hb : Rp d f b) (hs : Sz b a) (h : Nr d f (a + b) s) : Rp d f (s - a) := by
  have hb' := hb
  obtain ⟨m, fm, ma, a1, a2⟩ := ha
  obtain ⟨j, fj, mb, b1, b2⟩ := hb
  obtain ⟨u, h⟩ := h
  have h1 := h.n1
  have h2 := h.n2
  have pu := pw_pos u
  have pm := pw_pos m
  unfold Sz at hs
  by_cases c : m ≤ u
  · have a3 := Mu_lt (Mu_add ma (Mu_pw (Int.le_refl m))) (Mu_pw (show m ≤ d + m by omega)) (by grind)
    have a4 := Mu_lt (Mu_add (Mu_neg ma) (Mu_pw (Int.le_refl m))) (Mu_pw (show m ≤ d + m by omega)) (by grind)
    have um : u ≤ m + 1 := by
      rcases h.lo with e | e | e
      · omega
      · have := pw_dbl (d + m)
        have : pw (d + u - 1) < pw (d + m + 1) := by grind
        have := pw_lt_iff.mp this
        omega
      · have := pw_dbl (d + m)
        have : pw (d + u - 1) < pw (d + m + 1) := by grind
        have := pw_lt_iff.mp this
        omega
    have um2 := pw_mono um
    have := pw_dbl m
    exact Rp_le fm hd (Mu_sub (Mu_le h.mu c) ma) (by grind) (by grind)
  · by_cases c2 : u ≤ j
    · have := nr_mu h (Mu_add (Mu_le ma (show u ≤ m by omega)) (Mu_le mb c2))
      have e : s - a = b := by unfold Le at this; grind
      rw [e]
      exact hb'
    · have l1 := pw_mono (show d + j ≤ d + u - 1 by omega)
      have l2 := pw_mono (show u - 1 ≤ d + u - 1 by omega)
      have l3 := pw_hlf u
      have l4 := pw_hlf (d + u)
      exact ⟨u, h.fu, Mu_sub h.mu (Mu_le ma (by omega)), by grind, by grind⟩
/-- what is lost of a product is one of the format -/
theorem pr_rp (hd : 1 ≤ d) {a b s : Rat} {m j : Int} (ma : Mu m a) (mb : Mu j b) (hf : f ≤ m + j) (q1 : -pw (d + d + (m + j)) < a * b) (q2 : a * b < pw (d + d + (m + j))) (h : Nr d f (a * b) s) : Rp d f (a * b - s) := by
  obtain ⟨u, h⟩ := h
  have mq := Mu_mul ma mb
  have h1 := h.n1
  have h2 := h.n2
  have pu := pw_pos u
  by_cases c : u ≤ m + j
  · have := nr_mu h (Mu_le mq c)
    have e : a * b - s = 0 := by unfold Le at this; grind
    rw [e]
    exact Rp_0
  · have um : u ≤ d + (m + j) := by
      rcases h.lo with e | e | e
      · omega
      · have : pw (d + u - 1) < pw (d + d + (m + j)) := by grind
        have := pw_lt_iff.mp this
        omega
      · have : pw (d + u - 1) < pw (d + d + (m + j)) := by grind
        have := pw_lt_iff.mp this
        omega
    have l1 := pw_mono um
    have pp := pw_pos (d + (m + j))
    exact ⟨m + j, hf, Mu_sub mq (Mu_le h.mu (by omega)), by grind, by grind⟩
/-! ### sums in parts -/
theorem quick_ok (hd : 1 ≤ d) {a b s p y : Rat} (ha : Rp d f a) (hb : Rp d f b) (hs : Sz b a) (h1 : Nr d f (a + b) s) (h2 : Nr d f (s - a) p) (h3 : Nr d f (b - p) y) : p = s - a ∧ y = a + b - s := by
  have e := nr_eq hd h2 (dk_rp hd ha hb hs h1)
  have r := err_rp hd ha hb h1
  have e2 : b - p = a + b - s := by grind
  rw [e2] at h3
  exact ⟨e, nr_eq hd h3 r⟩
theorem two_cr (hd : 1 ≤ d) {a b s p v c r : Rat} (ha : Rp d f a) (hb : Rp d f b) (h1 : Nr d f (a + b) s) (h2 : Nr d f (s - a) p) (h3 : Nr d f (s - p) v) (h4 : Nr d f (a - v) c) (h5 : Nr d f (b - p) r)   : c + r = a + b - s := by
  have er := err_rp hd ha hb h1
  have rs := nr_rp hd h1
  by_cases c0 : Sz b a
  · have e := nr_eq hd h2 (dk_rp hd ha hb c0 h1)
    have e3 : s - p = a := by grind
    rw [e3] at h3
    have e4 := nr_eq hd h3 ha
    have e5 : a - v = 0 := by grind
    rw [e5] at h4
    have e6 := nr_0 hd h4
    have e7 : b - p = a + b - s := by grind
    rw [e7] at h5
    have e8 := nr_eq hd h5 er
    grind
  · have c1 : Sz a b := by unfold Sz at c0 ⊢; grind
    by_cases c2 : Sz a s
    · have h2' : Nr d f (s + -a) p := by rw [← Rat.sub_eq_add_neg]; exact h2
      have k1 := dk_rp hd rs (Rp_neg ha) (b := -a) (by unfold Sz at c2 ⊢; grind) h2'
      have k1' : Rp d f (s - p) := by
        have := Rp_neg k1
        have e : -(p - s) = s - p := by grind
        rwa [e] at this
      have e3 := nr_eq hd h3 k1'
      have k2 := Rp_neg (err_rp hd rs (Rp_neg ha) h2')
      have e4 : -(s + -a - p) = a - v := by grind
      rw [e4] at k2
      have e5 := nr_eq hd h4 k2
      have nb := nr_near hd h1 hb
      have e6 : b + -(a + b - s) = s - a := by grind
      have k3 := dk_rp hd hb (Rp_neg er) (s := p) (by unfold Sz at c1 ⊢; unfold Le at nb; grind) (by rw [e6]; exact h2)
      have k3' : Rp d f (b - p) := by
        have := Rp_neg k3
        have e : -(p - b) = b - p := by grind
        rwa [e] at this
      have e7 := nr_eq hd h5 k3'
      grind
    · have n1 := nr_near hd h1 ha
      have n2 := nr_near hd h1 (Rp_neg ha)
      have k1 : Sz (a + b) a := by unfold Sz at c0 c1 c2 ⊢; unfold Le at n1 n2; grind
      have k2 : Sz (a + b) b := by unfold Sz at k1 c1 ⊢; grind
      have e := nr_eq hd h1 (sm_rp ha hb k1 k2)
      have e2 : s - a = b := by grind
      rw [e2] at h2
      have e3 := nr_eq hd h2 hb
      have e4 : s - p = a := by grind
      rw [e4] at h3
      have e5 := nr_eq hd h3 ha
      have e6 : a - v = 0 := by grind
      rw [e6] at h4
      have e7 := nr_0 hd h4
      have e8 : b - p = 0 := by grind
      rw [e8] at h5
      have e9 := nr_0 hd h5
      grind
theorem two_ok (hd : 1 ≤ d) {a b s p v c r y : Rat} (ha : Rp d f a) (hb : Rp d f b) (h1 : Nr d f (a + b) s) (h2 : Nr d f (s - a) p) (h3 : Nr d f (s - p) v) (h4 : Nr d f (a - v) c) (h5 : Nr d f (b - p) r) (h6 : Nr d f (c + r) y) : y = a + b - s := by
  rw [two_cr hd ha hb h1 h2 h3 h4 h5] at h6
  exact nr_eq hd h6 (err_rp hd ha hb h1)
end
end Pv.K44


set_option Elab.async false
set_option linter.all false
set_option maxRecDepth 100000
set_option exponentiation.threshold 20
/-! Lq: the program's rounding gives the nearest. -/
namespace Pv.K44
open Pv
local macro_rules
  | `(tactic| simp! only [$xs,*]) => `(tactic| simp only [ev.eq_1, ev.eq_2, ev.eq_3, ev.eq_4, ev.eq_5, ev.eq_6, ev.eq_7, ev.eq_8, ev.eq_9, ev.eq_10, ev.eq_11, ev.eq_12, ev.eq_13, ev.eq_14, ev.eq_15, ev.eq_16, ev.eq_17, ev.eq_18, ev.eq_19, ev.eq_20, ev.eq_21, ev.eq_22, ev.eq_23, ev.eq_24, ev.eq_25, ev.eq_26, ev.eq_27, ev.eq_28, ev.eq_29, ev.eq_30, ev.eq_35, evs, evT, exec.eq_1, exec.eq_2, exec.eq_3, exec.eq_4, exec.eq_5, exec.eq_6, exec.eq_7, exec.eq_8, exec.eq_9, exec.eq_10, exec.eq_11, exec.eq_12, exec.eq_13, exec.eq_14, exec.eq_15, exec.eq_16, exec.eq_19, exec.eq_20, exec.eq_21, exec.eq_22, exec.eq_23, execs, x_whl, x_for, x_comp, x_compIf, x_comp2, x_comp2If, bor, vi, mkEnv, eg, es, frzA, frzS, bn, bt, bq, bind_F, setAll, setAllT, bind1, setPar, wipeE, tgs, b_add, b_sub, b_mul, b_fdiv, b_mod, b_shl, b_shr, b_pow, b_tup, b_lst, o_lt, o_le, o_gt, o_ge, o_eqi, o_nei, o_neb, sl_a, sl_b, sl_bl, sl_c, cmp_nil, cmp_cons, cmpY_nil, cmpY_cons, ixW_3, ixL_0, ixL_1, ixL_2, ixL_3, btl, o_isb, o_eqs, o_nes, o_int, o_nit, isF_s, isF_i, deq_ss, deq_ii, List.all_cons, List.all_nil, List.any_cons, List.any_nil, Nat.reduceEqDiff, Int.reduceEq, u_len1, u_len2, u_len3, u_abs, u_int, u_intb, u_lst1, u_lst2, u_lst3, u_tup, u_max, u_min, s_int, s_bl, s_tup, s_lst, s_non, s_str, a_add, a_sub, i_tup, i_lst, r_bl, r_int, fin, chk_own, chk_some, isN, bnd, iN_non, iN_int, iN_bl, iN_str, iN_tup, iN_lst, iN_F, ixW_0, ixW_1, ixW_2, F_0, F_1, ixW_w, wg_1, wg_0, wp_0, List.map, List.length, List.replicate, List.cons_append, List.nil_append, List.append_nil, Nat.reduceSub, Nat.reduceAdd, Nat.sub_self, Nat.sub_zero, if_true, Bool.false_eq_true, if_false, reduceIte, ite_true, ite_false, Bool.and_self, Bool.and_true, Bool.true_and, Bool.not_true, Bool.not_false, Nat.reduceLT, Nat.reduceLeDiff, decide_true, decide_false, Int.reduceLT, Int.reduceLE, Int.reduceAdd, Int.reduceSub, Int.reduceNeg, Bool.or_true, Bool.or_false, Bool.true_or, Bool.false_or, Bool.and_false, Bool.false_and, $xs,*])
  | `(tactic| simp! only) => `(tactic| simp only [ev.eq_1, ev.eq_2, ev.eq_3, ev.eq_4, ev.eq_5, ev.eq_6, ev.eq_7, ev.eq_8, ev.eq_9, ev.eq_10, ev.eq_11, ev.eq_12, ev.eq_13, ev.eq_14, ev.eq_15, ev.eq_16, ev.eq_17, ev.eq_18, ev.eq_19, ev.eq_20, ev.eq_21, ev.eq_22, ev.eq_23, ev.eq_24, ev.eq_25, ev.eq_26, ev.eq_27, ev.eq_28, ev.eq_29, ev.eq_30, ev.eq_35, evs, evT, exec.eq_1, exec.eq_2, exec.eq_3, exec.eq_4, exec.eq_5, exec.eq_6, exec.eq_7, exec.eq_8, exec.eq_9, exec.eq_10, exec.eq_11, exec.eq_12, exec.eq_13, exec.eq_14, exec.eq_15, exec.eq_16, exec.eq_19, exec.eq_20, exec.eq_21, exec.eq_22, exec.eq_23, execs, x_whl, x_for, x_comp, x_compIf, x_comp2, x_comp2If, bor, vi, mkEnv, eg, es, frzA, frzS, bn, bt, bq, bind_F, setAll, setAllT, bind1, setPar, wipeE, tgs, b_add, b_sub, b_mul, b_fdiv, b_mod, b_shl, b_shr, b_pow, b_tup, b_lst, o_lt, o_le, o_gt, o_ge, o_eqi, o_nei, o_neb, sl_a, sl_b, sl_bl, sl_c, cmp_nil, cmp_cons, cmpY_nil, cmpY_cons, ixW_3, ixL_0, ixL_1, ixL_2, ixL_3, btl, o_isb, o_eqs, o_nes, o_int, o_nit, isF_s, isF_i, deq_ss, deq_ii, List.all_cons, List.all_nil, List.any_cons, List.any_nil, Nat.reduceEqDiff, Int.reduceEq, u_len1, u_len2, u_len3, u_abs, u_int, u_intb, u_lst1, u_lst2, u_lst3, u_tup, u_max, u_min, s_int, s_bl, s_tup, s_lst, s_non, s_str, a_add, a_sub, i_tup, i_lst, r_bl, r_int, fin, chk_own, chk_some, isN, bnd, iN_non, iN_int, iN_bl, iN_str, iN_tup, iN_lst, iN_F, ixW_0, ixW_1, ixW_2, F_0, F_1, ixW_w, wg_1, wg_0, wp_0, List.map, List.length, List.replicate, List.cons_append, List.nil_append, List.append_nil, Nat.reduceSub, Nat.reduceAdd, Nat.sub_self, Nat.sub_zero, if_true, Bool.false_eq_true, if_false, reduceIte, ite_true, ite_false, Bool.and_self, Bool.and_true, Bool.true_and, Bool.not_true, Bool.not_false, Nat.reduceLT, Nat.reduceLeDiff, decide_true, decide_false, Int.reduceLT, Int.reduceLE, Int.reduceAdd, Int.reduceSub, Int.reduceNeg, Bool.or_true, Bool.or_false, Bool.true_or, Bool.false_or, Bool.and_false, Bool.false_and])
def vNm : Nm → Rat
  | .o _ => 0
  | .n s w p => vN s w p
  | .e _ => 0
/-- a number as a format has it -/
def Cn (x : Fo) : Nm → Prop
  | .o s => s = 0 ∨ s = 1
  | .n s w p => (s = 0 ∨ s = 1) ∧ 0 < w ∧ w < 2 ^ x.d.toNat ∧ (2 ^ (x.d - 1).toNat ≤ w ∨ p = x.f) ∧ x.f ≤ p ∧ p ≤ x.g
  | .e _ => False
theorem sg_01 (q : Rat) : sg q = 0 ∨ sg q = 1 := by unfold sg; split <;> simp
theorem vN_q {q : Rat} {w u : Int} : vN (sg q) w u = if q < 0 then -((w : Rat) * pw u) else (w : Rat) * pw u := by
  unfold vN sg
  rw [rI_c]
  by_cases h : q < 0
  · rw [if_pos h, if_pos ((num_neg q).mpr h)]
    rfl
  · rw [if_neg h, if_neg fun z => h ((num_neg q).mp z)]
    rfl
section
variable {x : Fo} {q : Rat}
theorem rdV_near : (-1 : Rat) ≤ 2 * ((rdV x 9 q : Int) - rdX x q) ∧ 2 * ((rdV x 9 q : Int) - rdX x q) ≤ (1 : Rat) := by
  have h1 := rdW_le (x := x) (q := q)
  have h2 := lt_rdW (x := x) (q := q)
  have h3 := rdR_eq (x := x) (q := q)
  have h4 := den_p (rdX x q)
  have h5 := rdR_c (x := x) (q := q) 1
  have h6 := rdR_z (x := x) (q := q)
  have one : ((1 : Int) : Rat) = 1 := rfl
  rw [one, Rat.one_mul] at h5
  have eqc : 2 * rdR x q = ((rdX x q).den : Int) → 2 * (rdX x q - (rdW x q : Int)) = 1 := by
    intro e
    have e2 : (2 : Rat) * (rdR x q : Int) = (((rdX x q).den : Int) : Rat) := by
      rw [← e, Rat.intCast_mul]; rfl
    rw [h3] at e2
    have e3 : (2 * (rdX x q - (rdW x q : Int)) - 1) * (((rdX x q).den : Int) : Rat) = 0 := by grind
    rcases (Rat.mul_eq_zero).mp e3 with z | z <;> grind
  have ltc : ((rdX x q).den : Int) < 2 * rdR x q ↔ (1 : Rat) < 2 * (rdX x q - (rdW x q : Int)) := by
    rw [← h5]
    have e : (2 : Rat) * (rdR x q : Int) = ((2 * rdR x q : Int) : Rat) := by rw [Rat.intCast_mul]; rfl
    rw [e, Rat.intCast_lt_intCast]
  unfold rdV
  by_cases c : 0 < rdR x q ∧ rz 9 (sg q) (rdW x q) (rdR x q) (rdX x q).den = true
  · rw [if_pos c]
    have e : ((rdW x q + 1 : Int) : Rat) = (rdW x q : Int) + 1 := by rw [Rat.intCast_add]; rfl
    rw [e]
    have ge : (1 : Rat) ≤ 2 * (rdX x q - (rdW x q : Int)) := by
      have c2 := c.2
      unfold rz at c2
      rw [if_neg (by decide), if_neg (by decide), if_neg (by decide)] at c2
      split at c2
      · rename_i e
        have := eqc e
        grind
      · have := ltc.mp (of_decide_eq_true c2)
        grind
    constructor <;> grind
  · rw [if_neg c]
    have le : 2 * (rdX x q - (rdW x q : Int)) ≤ (1 : Rat) := by
      by_cases z : rdR x q = 0
      · have := h6.mp z
        grind
      · have p : 0 < rdR x q := by
          have : 0 ≤ rdR x q := Int.emod_nonneg _ (by have := den_pos (rdX x q); omega)
          omega
        by_cases z2 : rz 9 (sg q) (rdW x q) (rdR x q) (rdX x q).den = true
        · exact absurd ⟨p, z2⟩ c
        · unfold rz at z2
          rw [if_neg (by decide), if_neg (by decide), if_neg (by decide)] at z2
          split at z2
          · rename_i e
            have := eqc e
            grind
          · have z3 : ¬ ((rdX x q).den : Int) < 2 * rdR x q := fun g => z2 (decide_eq_true g)
            have := fun g => z3 (ltc.mpr g)
            grind
    constructor <;> grind
theorem int_le_of {a b : Int} {c : Rat} (h1 : (a : Rat) ≤ c + 1 / 2) (h2 : c < (b : Rat)) : a ≤ b := by
  have : (a : Rat) < ((b + 1 : Int) : Rat) := by
    rw [Rat.intCast_add]
    have : ((1 : Int) : Rat) = 1 := rfl
    grind
  have := Rat.intCast_lt_intCast.mp this
  omega
theorem int_ge_of {a b : Int} {c : Rat} (h1 : c - 1 / 2 ≤ (a : Rat)) (h2 : (b : Rat) ≤ c) : b ≤ a := by
  have : (b : Rat) < ((a + 1 : Int) : Rat) := by
    rw [Rat.intCast_add]
    have : ((1 : Int) : Rat) = 1 := rfl
    grind
  have := Rat.intCast_lt_intCast.mp this
  omega
/-- below the greatest: the nearest, a number of the format -/
theorem rd_nr (hx : OkFo x) (s : Int) (hs : s = 0 ∨ s = 1) (hq : ab q < pw (x.d + x.g - 1)) : Cn x (rdNm x 9 q s) ∧ Nr x.d x.f q (vNm (rdNm x 9 q s)) := by
  have d1 := hx.d1
  have fg := hx.fg
  by_cases h0 : q.num = 0
  · have e : q = 0 := (num_z q).mp h0
    subst e
    unfold rdNm
    rw [if_pos h0]
    refine ⟨hs, x.f, Int.le_refl _, Mu_0 _, ?_, ?_, ?_, pw_pos _, .inl rfl⟩
    · have := pw_pos x.f
      show -pw x.f ≤ 2 * ((0 : Rat) - 0)
      grind
    · have := pw_pos x.f
      show 2 * ((0 : Rat) - 0) ≤ pw x.f
      grind
    · have := pw_pos (x.d + x.f)
      grind
  · obtain ⟨u1, u2, u3⟩ := un_hi (x := x) h0
    have V := rdV_near (x := x) (q := q)
    have X := rdX_mul (x := x) (q := q)
    have Xn := rdX_nn (x := x) (q := q)
    have ug : un x q < x.g := by
      rcases u2 with e | e
      · omega
      · have : pw (x.d + un x q - 1) < pw (x.d + x.g - 1) := by grind
        have := pw_lt_iff.mp this
        omega
    generalize hu : un x q = u at u1 u2 u3 X ug
    generalize hv : rdV x 9 q = v at V
    generalize hX : rdX x q = X0 at V X Xn
    have pu := pw_pos u
    have pd : pw (x.d + u) = ((2 ^ x.d.toNat : Int) : Rat) * pw u := by rw [pw_add, pw_nat _ (by omega)]
    have pd1 : pw (x.d + u - 1) = ((2 ^ (x.d - 1).toNat : Int) : Rat) * pw u := by rw [show x.d + u - 1 = (x.d - 1) + u by omega, pw_add, pw_nat _ (by omega)]
    have X1 : X0 < ((2 ^ x.d.toNat : Int) : Rat) := by rw [← mul_lt_iff u, X, ← pd]; exact u1
    have v1 : v ≤ 2 ^ x.d.toNat := int_le_of (c := X0) (by grind) X1
    have v0 : 0 ≤ v := int_ge_of (c := X0) (by grind) Xn
    have vl : 2 ^ (x.d - 1).toNat ≤ v ∨ u = x.f := by
      rcases u2 with e | e
      · exact .inr e
      · refine .inl (int_ge_of (c := X0) (by grind) ?_)
        rw [← mul_le_iff u, X, ← pd1]
        exact e
    have dd : (2 : Int) ^ x.d.toNat = 2 * 2 ^ (x.d - 1).toNat := by
      rw [show x.d.toNat = (x.d - 1).toNat + 1 by omega, Int.pow_succ]
      omega
    have dp := pos2 (x.d - 1).toNat
    -- the value
    have nr : Nr x.d x.f q (if q < 0 then -((v : Rat) * pw u) else (v : Rat) * pw u) := by
      rw [ab_def] at u1 u2 X
      have m1 : 2 * ((v : Rat) * pw u - X0 * pw u) = (2 * ((v : Rat) - X0)) * pw u := by grind
      have m2 : 2 * ((v : Rat) * pw u - X0 * pw u) ≤ 1 * pw u := by rw [m1, mul_le_iff]; exact V.2
      have m3 : -1 * pw u ≤ 2 * ((v : Rat) * pw u - X0 * pw u) := by rw [m1, mul_le_iff]; exact V.1
      have pp := pw_pos (x.d + u)
      by_cases n : q < 0
      · rw [if_pos n] at u1 u2 X ⊢
        exact ⟨u, u3, Mu_neg ⟨v, rfl⟩, by grind, by grind, by grind, by grind, by grind⟩
      · rw [if_neg n] at u1 u2 X ⊢
        exact ⟨u, u3, ⟨v, rfl⟩, by grind, by grind, by grind, by grind, by grind⟩
    unfold rdNm
    rw [if_neg h0, hu, hv]
    by_cases c : v = 2 ^ x.d.toNat
    · have e2 : v / 2 = 2 ^ (x.d - 1).toNat := by omega
      have e3 : ((2 ^ (x.d - 1).toNat : Int) : Rat) * pw (u + 1) = (v : Rat) * pw u := by
        rw [c, dd, Rat.intCast_mul, pw_succ]
        have : ((2 : Int) : Rat) = 2 := rfl
        grind
      rw [if_pos c, if_neg (by omega), if_neg (by omega), e2]
      refine ⟨⟨sg_01 q, dp, by omega, .inl (Int.le_refl _), by omega, by omega⟩, ?_⟩
      show Nr x.d x.f q (vN (sg q) _ (u + 1))
      rw [vN_q, e3]
      exact nr
    · rw [if_neg c, if_neg (by omega)]
      by_cases z : v = 0
      · rw [if_pos z]
        refine ⟨sg_01 q, ?_⟩
        rw [z] at nr
        have z0 : ((0 : Int) : Rat) = 0 := rfl
        have e : (if q < 0 then -(((0 : Int) : Rat) * pw u) else ((0 : Int) : Rat) * pw u) = 0 := by rw [z0, Rat.zero_mul]; split <;> rfl
        rw [e] at nr
        exact nr
      · rw [if_neg z]
        refine ⟨⟨sg_01 q, by omega, by omega, vl, u3, by omega⟩, ?_⟩
        show Nr x.d x.f q (vN (sg q) v u)
        rw [vN_q]
        exact nr
/-- a number of the format: its value -/
theorem Cn_rp (hx : OkFo x) {a : Nm} (h : Cn x a) : Rp x.d x.f (vNm a) := by
  have d1 := hx.d1
  cases a with
  | o s => exact Rp_0
  | e s => exact absurd h id
  | n s w p =>
    obtain ⟨_, w0, w1, _, p1, _⟩ := h
    have pd : pw (x.d + p) = ((2 ^ x.d.toNat : Int) : Rat) * pw p := by rw [pw_add, pw_nat _ (by omega)]
    have lt : (w : Rat) * pw p < pw (x.d + p) := by rw [pd, mul_lt_iff, Rat.intCast_lt_intCast]; exact w1
    have ge : 0 < (w : Rat) * pw p := Rat.mul_pos (by have := Rat.intCast_lt_intCast.mpr w0; exact this) (pw_pos p)
    show Rp x.d x.f (vN s w p)
    unfold vN
    rw [rI_c]
    split
    · exact ⟨p, p1, Mu_neg ⟨w, rfl⟩, by grind, by grind⟩
    · exact ⟨p, p1, ⟨w, rfl⟩, by grind, by grind⟩
end
end Pv.K44


set_option Elab.async false
set_option linter.all false
set_option maxRecDepth 100000
set_option exponentiation.threshold 20
/-! N1: sums and products of numbers. -/
namespace Pv.K44
open Pv
local macro_rules
  | `(tactic| simp! only [$xs,*]) => `(tactic| simp only [ev.eq_1, ev.eq_2, ev.eq_3, ev.eq_4, ev.eq_5, ev.eq_6, ev.eq_7, ev.eq_8, ev.eq_9, ev.eq_10, ev.eq_11, ev.eq_12, ev.eq_13, ev.eq_14, ev.eq_15, ev.eq_16, ev.eq_17, ev.eq_18, ev.eq_19, ev.eq_20, ev.eq_21, ev.eq_22, ev.eq_23, ev.eq_24, ev.eq_25, ev.eq_26, ev.eq_27, ev.eq_28, ev.eq_29, ev.eq_30, ev.eq_35, evs, evT, exec.eq_1, exec.eq_2, exec.eq_3, exec.eq_4, exec.eq_5, exec.eq_6, exec.eq_7, exec.eq_8, exec.eq_9, exec.eq_10, exec.eq_11, exec.eq_12, exec.eq_13, exec.eq_14, exec.eq_15, exec.eq_16, exec.eq_19, exec.eq_20, exec.eq_21, exec.eq_22, exec.eq_23, execs, x_whl, x_for, x_comp, x_compIf, x_comp2, x_comp2If, bor, vi, mkEnv, eg, es, frzA, frzS, bn, bt, bq, bind_F, setAll, setAllT, bind1, setPar, wipeE, tgs, b_add, b_sub, b_mul, b_fdiv, b_mod, b_shl, b_shr, b_pow, b_tup, b_lst, o_lt, o_le, o_gt, o_ge, o_eqi, o_nei, o_neb, sl_a, sl_b, sl_bl, sl_c, cmp_nil, cmp_cons, cmpY_nil, cmpY_cons, ixW_3, ixL_0, ixL_1, ixL_2, ixL_3, btl, o_isb, o_eqs, o_nes, o_int, o_nit, isF_s, isF_i, deq_ss, deq_ii, List.all_cons, List.all_nil, List.any_cons, List.any_nil, Nat.reduceEqDiff, Int.reduceEq, u_len1, u_len2, u_len3, u_abs, u_int, u_intb, u_lst1, u_lst2, u_lst3, u_tup, u_max, u_min, s_int, s_bl, s_tup, s_lst, s_non, s_str, a_add, a_sub, i_tup, i_lst, r_bl, r_int, fin, chk_own, chk_some, isN, bnd, iN_non, iN_int, iN_bl, iN_str, iN_tup, iN_lst, iN_F, ixW_0, ixW_1, ixW_2, F_0, F_1, ixW_w, wg_1, wg_0, wp_0, List.map, List.length, List.replicate, List.cons_append, List.nil_append, List.append_nil, Nat.reduceSub, Nat.reduceAdd, Nat.sub_self, Nat.sub_zero, if_true, Bool.false_eq_true, if_false, reduceIte, ite_true, ite_false, Bool.and_self, Bool.and_true, Bool.true_and, Bool.not_true, Bool.not_false, Nat.reduceLT, Nat.reduceLeDiff, decide_true, decide_false, Int.reduceLT, Int.reduceLE, Int.reduceAdd, Int.reduceSub, Int.reduceNeg, Bool.or_true, Bool.or_false, Bool.true_or, Bool.false_or, Bool.and_false, Bool.false_and, $xs,*])
  | `(tactic| simp! only) => `(tactic| simp only [ev.eq_1, ev.eq_2, ev.eq_3, ev.eq_4, ev.eq_5, ev.eq_6, ev.eq_7, ev.eq_8, ev.eq_9, ev.eq_10, ev.eq_11, ev.eq_12, ev.eq_13, ev.eq_14, ev.eq_15, ev.eq_16, ev.eq_17, ev.eq_18, ev.eq_19, ev.eq_20, ev.eq_21, ev.eq_22, ev.eq_23, ev.eq_24, ev.eq_25, ev.eq_26, ev.eq_27, ev.eq_28, ev.eq_29, ev.eq_30, ev.eq_35, evs, evT, exec.eq_1, exec.eq_2, exec.eq_3, exec.eq_4, exec.eq_5, exec.eq_6, exec.eq_7, exec.eq_8, exec.eq_9, exec.eq_10, exec.eq_11, exec.eq_12, exec.eq_13, exec.eq_14, exec.eq_15, exec.eq_16, exec.eq_19, exec.eq_20, exec.eq_21, exec.eq_22, exec.eq_23, execs, x_whl, x_for, x_comp, x_compIf, x_comp2, x_comp2If, bor, vi, mkEnv, eg, es, frzA, frzS, bn, bt, bq, bind_F, setAll, setAllT, bind1, setPar, wipeE, tgs, b_add, b_sub, b_mul, b_fdiv, b_mod, b_shl, b_shr, b_pow, b_tup, b_lst, o_lt, o_le, o_gt, o_ge, o_eqi, o_nei, o_neb, sl_a, sl_b, sl_bl, sl_c, cmp_nil, cmp_cons, cmpY_nil, cmpY_cons, ixW_3, ixL_0, ixL_1, ixL_2, ixL_3, btl, o_isb, o_eqs, o_nes, o_int, o_nit, isF_s, isF_i, deq_ss, deq_ii, List.all_cons, List.all_nil, List.any_cons, List.any_nil, Nat.reduceEqDiff, Int.reduceEq, u_len1, u_len2, u_len3, u_abs, u_int, u_intb, u_lst1, u_lst2, u_lst3, u_tup, u_max, u_min, s_int, s_bl, s_tup, s_lst, s_non, s_str, a_add, a_sub, i_tup, i_lst, r_bl, r_int, fin, chk_own, chk_some, isN, bnd, iN_non, iN_int, iN_bl, iN_str, iN_tup, iN_lst, iN_F, ixW_0, ixW_1, ixW_2, F_0, F_1, ixW_w, wg_1, wg_0, wp_0, List.map, List.length, List.replicate, List.cons_append, List.nil_append, List.append_nil, Nat.reduceSub, Nat.reduceAdd, Nat.sub_self, Nat.sub_zero, if_true, Bool.false_eq_true, if_false, reduceIte, ite_true, ite_false, Bool.and_self, Bool.and_true, Bool.true_and, Bool.not_true, Bool.not_false, Nat.reduceLT, Nat.reduceLeDiff, decide_true, decide_false, Int.reduceLT, Int.reduceLE, Int.reduceAdd, Int.reduceSub, Int.reduceNeg, Bool.or_true, Bool.or_false, Bool.true_or, Bool.false_or, Bool.and_false, Bool.false_and])
variable (n : Nat) (ws : WS)
/-- the formats of this law -/
structure F4 (x : Fo) : Prop where
  d3 : 3 ≤ x.d
  d8 : x.d ≤ 8
  f : x.f = -30
  g : x.g = 30
theorem F4.ok {x : Fo} (h : F4 x) : OkFo x := ⟨by have := h.d3; omega, by have := h.d8; omega, by have := h.f; omega, by have := h.f; have := h.g; omega, by have := h.g; omega⟩
def sgN : Nm → Int
  | .o s => s
  | .n s _ _ => s
  | .e s => s
def tn : Nm → Nm
  | .o s => .o (1 - s)
  | .n s w p => .n (1 - s) w p
  | .e s => .e (1 - s)
theorem sgN_01 {x : Fo} {a : Nm} (h : Cn x a) : sgN a = 0 ∨ sgN a = 1 := by
  cases a with
  | o s => exact h
  | n s w p => exact h.1
  | e s => exact absurd h id
theorem Cn_tn {x : Fo} {a : Nm} (h : Cn x a) : Cn x (tn a) := by
  cases a with
  | o s =>
    have h : s = 0 ∨ s = 1 := h
    show 1 - s = 0 ∨ 1 - s = 1
    omega
  | n s w p =>
    obtain ⟨h1, h2⟩ := h
    refine ⟨?_, h2⟩
    omega
  | e s => exact absurd h id
theorem v_tn {x : Fo} {a : Nm} (h : Cn x a) : vNm (tn a) = -vNm a := by
  cases a with
  | o s => rfl
  | n s w p =>
    obtain ⟨h1, h2⟩ := h
    show vN (1 - s) w p = -vN s w p
    unfold vN
    rcases h1 with rfl | rfl
    · rw [if_pos (by decide), if_neg (by decide)]
    · rw [if_neg (by decide), if_pos (by decide), Rat.neg_neg]
  | e s => exact absurd h id
theorem c_turned (a : Nm) : callO P (n + 1) 106 [ND a] ws = some (ND (tn a), ws) := by
  have o2 : okLen 2 = true := okLen_of (by decide)
  have o4 : okLen 4 = true := okLen_of (by decide)
  rw [call_at (d := d_turned) rfl rfl]
  cases a <;> simp! only [ND, tn, d_turned, b_turned, o2, o4]
theorem c_sign (s t : Int) : callO P (n + 1) 107 [.str 9, .int s, .int t] ws = some (.int (if s = t then s else 0), ws) := by
  rw [call_at (d := d_sign_when_nothing) rfl rfl]
  by_cases h : s = t
  · simp! only [d_sign_when_nothing, b_sign_when_nothing, decide_eq_true h, if_pos h]
  · simp! only [d_sign_when_nothing, b_sign_when_nothing, decide_eq_false h, if_neg h]
theorem no_none (a : Nm) : cop .eq (ND a) (.tup [.str 27]) = some false := by cases a <;> rfl
theorem fl_t (xs : List D) : isFlat (.tup xs) = false := rfl
theorem ok_nones (a b c : Nm) : (okq (.tup [.str 27]) 64 && okqs [ND a, ND b, ND c] 63) = true := by cases a <;> cases b <;> cases c <;> rfl
theorem dq_none (a : Nm) : deq (ND a) (.tup [.str 27]) = false := by cases a <;> rfl
theorem p2n {d : Int} {k : Nat} {w : Int} (h0 : 0 < w) (h : w < 2 ^ d.toNat) (hk : d.toNat ≤ k) : w.natAbs < 2 ^ k := by
  have h2 := p2m hk
  have : ((w.natAbs : Nat) : Int) < ((2 ^ k : Nat) : Int) := by rw [Int.natCast_pow]; have : ((2 : Nat) : Int) = 2 := rfl; rw [this]; omega
  exact Int.ofNat_lt.mp this
theorem Z_nm {x : Fo} (hx : F4 x) {a : Nm} (h : Cn x a) : Z 40 (vNm a) := by
  have f := hx.f
  have g := hx.g
  have d8 := hx.d8
  cases a with
  | o s => exact ⟨show (0 : Rat).num.natAbs < 2 ^ 40 by decide, show (0 : Rat).den < 2 ^ 40 by decide⟩
  | n s w p =>
    obtain ⟨_, w0, w1, _, p1, p2⟩ := h
    exact (Z_vN (k := 8) (m := 30) (p2n w0 w1 (by omega)) (by decide) (by omega) (by omega)).mono (by decide)
  | e s => exact absurd h id
theorem c_val {x : Fo} (hx : F4 x) {a : Nm} (h : Cn x a) : callO P (n + 5) 16 [ND a] ws = some (F (vNm a), ws) := by
  have f := hx.f
  have g := hx.g
  have d8 := hx.d8
  cases a with
  | o s => exact c_value_of_o (n + 4) ws s
  | n s w p =>
    obtain ⟨_, w0, w1, _, p1, p2⟩ := h
    exact c_value_of n ws (k := 8) (p2n w0 w1 (by omega)) (by decide) (by decide) (by omega) (by omega)
  | e s => exact absurd h id
theorem c_rd {x : Fo} (hx : F4 x) {q : Rat} (hq : Z 1000 q) (s : Int) : ∃ M, callO P (n + 7) 22 [FO x, .str 9, F q, .int s] ws = some (.tup [ND (rdNm x 9 q s), M], ws) := by
  refine ⟨rdM x 9 q, ?_⟩
  rw [← rdN_nm]
  exact c_rounded n ws hx.ok (.inl rfl) hq (by decide) s
/-- sums, products, joined ones -/
noncomputable def pl (x : Fo) (a b : Nm) : Nm := rdNm x 9 (vNm a + vNm b) (if sgN a = sgN b then sgN a else 0)
noncomputable def pd (x : Fo) (a b : Nm) : Nm := rdNm x 9 (vNm a * vNm b) ((sgN a + sgN b) % 2)
noncomputable def jn (x : Fo) (a b c : Nm) : Nm := rdNm x 9 (vNm a * vNm b + vNm c) (if (sgN a + sgN b) % 2 = sgN c then (sgN a + sgN b) % 2 else 0)
/-- the first sign of a number's tuple -/
def kdN : Nm → Nat
  | .o _ => 0
  | .n _ _ _ => 1
  | .e _ => 10
theorem ix_0 (a : Nm) : ixW ws (ND a) (.int 0) = some (.str (kdN a)) := by cases a <;> rfl
theorem ix_1 (a : Nm) : ixW ws (ND a) (.int 1) = some (.int (sgN a)) := by cases a <;> rfl
theorem kd_e {x : Fo} {a : Nm} (h : Cn x a) : cop .eq (.str (kdN a)) (.str 10) = some false := by
  cases a with
  | o s => rfl
  | n s w p => rfl
  | e s => exact absurd h id
theorem c_plus {x : Fo} (hx : F4 x) {a b : Nm} (ha : Cn x a) (hb : Cn x b) : ∃ M, callO P (n + 8) 108 [FO x, .str 9, ND a, ND b] ws = some (.tup [ND (pl x a b), M], ws) := by
  obtain ⟨M, e⟩ := c_rd n ws hx ((Z_add (Z_nm hx ha) (Z_nm hx hb)).mono (by decide)) (if sgN a = sgN b then sgN a else 0)
  refine ⟨M, ?_⟩
  have e1 := c_val (n + 2) ws hx ha
  have e2 := c_val (n + 2) ws hx hb
  have e3 := c_added (n + 4) ws ((Z_nm hx ha).mono (by decide)) ((Z_nm hx hb).mono (by decide))
  have e4 := c_sign (n + 6) ws (sgN a) (sgN b)
  rw [call_at (d := d_plus) rfl rfl]
  simp! only [d_plus, b_plus, no_none, ix_0, ix_1, kd_e ha, kd_e hb, e1, e2, e3, e4, e, pl]
theorem c_minus {x : Fo} (hx : F4 x) {a b : Nm} (ha : Cn x a) (hb : Cn x b) : ∃ M, callO P (n + 9) 109 [FO x, .str 9, ND a, ND b] ws = some (.tup [ND (pl x a (tn b)), M], ws) := by
  obtain ⟨M, e⟩ := c_plus n ws hx ha (Cn_tn hb)
  refine ⟨M, ?_⟩
  rw [call_at (d := d_minus) rfl rfl]
  simp! only [d_minus, b_minus, c_turned (n + 7) ws b, e]
theorem c_product {x : Fo} (hx : F4 x) {a b : Nm} (ha : Cn x a) (hb : Cn x b) : ∃ M, callO P (n + 8) 110 [FO x, .str 9, ND a, ND b] ws = some (.tup [ND (pd x a b), M], ws) := by
  obtain ⟨M, e⟩ := c_rd n ws hx ((Z_mul (Z_nm hx ha) (Z_nm hx hb)).mono (by decide)) ((sgN a + sgN b) % 2)
  refine ⟨M, ?_⟩
  have e1 := c_val (n + 2) ws hx ha
  have e2 := c_val (n + 2) ws hx hb
  have e3 := c_times (n + 4) ws ((Z_nm hx ha).mono (by decide)) ((Z_nm hx hb).mono (by decide))
  rw [call_at (d := d_product) rfl rfl]
  simp! only [d_product, b_product, no_none, ix_0, ix_1, kd_e ha, kd_e hb, e1, e2, e3, e, pd]
theorem c_joined {x : Fo} (hx : F4 x) {a b c : Nm} (ha : Cn x a) (hb : Cn x b) (hc : Cn x c) : ∃ M, callO P (n + 8) 111 [FO x, .str 9, ND a, ND b, ND c] ws = some (.tup [ND (jn x a b c), M], ws) := by
  have zm := Z_mul (Z_nm hx ha) (Z_nm hx hb)
  obtain ⟨M, e⟩ := c_rd n ws hx ((Z_add zm (Z_nm hx hc)).mono (by decide)) (if (sgN a + sgN b) % 2 = sgN c then (sgN a + sgN b) % 2 else 0)
  refine ⟨M, ?_⟩
  have e1 := c_val (n + 2) ws hx ha
  have e2 := c_val (n + 2) ws hx hb
  have e3 := c_times (n + 4) ws ((Z_nm hx ha).mono (by decide)) ((Z_nm hx hb).mono (by decide))
  have e4 := c_sign (n + 6) ws ((sgN a + sgN b) % 2) (sgN c)
  have e5 := c_val (n + 2) ws hx hc
  have e6 := c_added (n + 4) ws (zm.mono (show 40 + 40 ≤ 4000 by decide)) ((Z_nm hx hc).mono (by decide))
  rw [call_at (d := d_joined) rfl rfl]
  simp! only [d_joined, b_joined, fl_t, ok_nones, dq_none, ix_0, ix_1, kd_e ha, kd_e hb, kd_e hc, e1, e2, e3, e4, e5, e6, e, jn]
end Pv.K44


set_option Elab.async false
set_option linter.all false
set_option maxRecDepth 100000
set_option exponentiation.threshold 20
/-! N2: sums in parts. -/
namespace Pv.K44
open Pv
local macro_rules
  | `(tactic| simp! only [$xs,*]) => `(tactic| simp only [ev.eq_1, ev.eq_2, ev.eq_3, ev.eq_4, ev.eq_5, ev.eq_6, ev.eq_7, ev.eq_8, ev.eq_9, ev.eq_10, ev.eq_11, ev.eq_12, ev.eq_13, ev.eq_14, ev.eq_15, ev.eq_16, ev.eq_17, ev.eq_18, ev.eq_19, ev.eq_20, ev.eq_21, ev.eq_22, ev.eq_23, ev.eq_24, ev.eq_25, ev.eq_26, ev.eq_27, ev.eq_28, ev.eq_29, ev.eq_30, ev.eq_35, evs, evT, exec.eq_1, exec.eq_2, exec.eq_3, exec.eq_4, exec.eq_5, exec.eq_6, exec.eq_7, exec.eq_8, exec.eq_9, exec.eq_10, exec.eq_11, exec.eq_12, exec.eq_13, exec.eq_14, exec.eq_15, exec.eq_16, exec.eq_19, exec.eq_20, exec.eq_21, exec.eq_22, exec.eq_23, execs, x_whl, x_for, x_comp, x_compIf, x_comp2, x_comp2If, bor, vi, mkEnv, eg, es, frzA, frzS, bn, bt, bq, bind_F, setAll, setAllT, bind1, setPar, wipeE, tgs, b_add, b_sub, b_mul, b_fdiv, b_mod, b_shl, b_shr, b_pow, b_tup, b_lst, o_lt, o_le, o_gt, o_ge, o_eqi, o_nei, o_neb, sl_a, sl_b, sl_bl, sl_c, cmp_nil, cmp_cons, cmpY_nil, cmpY_cons, ixW_3, ixL_0, ixL_1, ixL_2, ixL_3, btl, o_isb, o_eqs, o_nes, o_int, o_nit, isF_s, isF_i, deq_ss, deq_ii, List.all_cons, List.all_nil, List.any_cons, List.any_nil, Nat.reduceEqDiff, Int.reduceEq, u_len1, u_len2, u_len3, u_abs, u_int, u_intb, u_lst1, u_lst2, u_lst3, u_tup, u_max, u_min, s_int, s_bl, s_tup, s_lst, s_non, s_str, a_add, a_sub, i_tup, i_lst, r_bl, r_int, fin, chk_own, chk_some, isN, bnd, iN_non, iN_int, iN_bl, iN_str, iN_tup, iN_lst, iN_F, ixW_0, ixW_1, ixW_2, F_0, F_1, ixW_w, wg_1, wg_0, wp_0, List.map, List.length, List.replicate, List.cons_append, List.nil_append, List.append_nil, Nat.reduceSub, Nat.reduceAdd, Nat.sub_self, Nat.sub_zero, if_true, Bool.false_eq_true, if_false, reduceIte, ite_true, ite_false, Bool.and_self, Bool.and_true, Bool.true_and, Bool.not_true, Bool.not_false, Nat.reduceLT, Nat.reduceLeDiff, decide_true, decide_false, Int.reduceLT, Int.reduceLE, Int.reduceAdd, Int.reduceSub, Int.reduceNeg, Bool.or_true, Bool.or_false, Bool.true_or, Bool.false_or, Bool.and_false, Bool.false_and, $xs,*])
  | `(tactic| simp! only) => `(tactic| simp only [ev.eq_1, ev.eq_2, ev.eq_3, ev.eq_4, ev.eq_5, ev.eq_6, ev.eq_7, ev.eq_8, ev.eq_9, ev.eq_10, ev.eq_11, ev.eq_12, ev.eq_13, ev.eq_14, ev.eq_15, ev.eq_16, ev.eq_17, ev.eq_18, ev.eq_19, ev.eq_20, ev.eq_21, ev.eq_22, ev.eq_23, ev.eq_24, ev.eq_25, ev.eq_26, ev.eq_27, ev.eq_28, ev.eq_29, ev.eq_30, ev.eq_35, evs, evT, exec.eq_1, exec.eq_2, exec.eq_3, exec.eq_4, exec.eq_5, exec.eq_6, exec.eq_7, exec.eq_8, exec.eq_9, exec.eq_10, exec.eq_11, exec.eq_12, exec.eq_13, exec.eq_14, exec.eq_15, exec.eq_16, exec.eq_19, exec.eq_20, exec.eq_21, exec.eq_22, exec.eq_23, execs, x_whl, x_for, x_comp, x_compIf, x_comp2, x_comp2If, bor, vi, mkEnv, eg, es, frzA, frzS, bn, bt, bq, bind_F, setAll, setAllT, bind1, setPar, wipeE, tgs, b_add, b_sub, b_mul, b_fdiv, b_mod, b_shl, b_shr, b_pow, b_tup, b_lst, o_lt, o_le, o_gt, o_ge, o_eqi, o_nei, o_neb, sl_a, sl_b, sl_bl, sl_c, cmp_nil, cmp_cons, cmpY_nil, cmpY_cons, ixW_3, ixL_0, ixL_1, ixL_2, ixL_3, btl, o_isb, o_eqs, o_nes, o_int, o_nit, isF_s, isF_i, deq_ss, deq_ii, List.all_cons, List.all_nil, List.any_cons, List.any_nil, Nat.reduceEqDiff, Int.reduceEq, u_len1, u_len2, u_len3, u_abs, u_int, u_intb, u_lst1, u_lst2, u_lst3, u_tup, u_max, u_min, s_int, s_bl, s_tup, s_lst, s_non, s_str, a_add, a_sub, i_tup, i_lst, r_bl, r_int, fin, chk_own, chk_some, isN, bnd, iN_non, iN_int, iN_bl, iN_str, iN_tup, iN_lst, iN_F, ixW_0, ixW_1, ixW_2, F_0, F_1, ixW_w, wg_1, wg_0, wp_0, List.map, List.length, List.replicate, List.cons_append, List.nil_append, List.append_nil, Nat.reduceSub, Nat.reduceAdd, Nat.sub_self, Nat.sub_zero, if_true, Bool.false_eq_true, if_false, reduceIte, ite_true, ite_false, Bool.and_self, Bool.and_true, Bool.true_and, Bool.not_true, Bool.not_false, Nat.reduceLT, Nat.reduceLeDiff, decide_true, decide_false, Int.reduceLT, Int.reduceLE, Int.reduceAdd, Int.reduceSub, Int.reduceNeg, Bool.or_true, Bool.or_false, Bool.true_or, Bool.false_or, Bool.and_false, Bool.false_and])
variable (n : Nat) (ws : WS)
/-- below this nothing is beyond the greatest -/
def LL (x : Fo) : Rat := pw (x.d + x.g - 1)
section
variable {x : Fo}
theorem sz_01 {a b : Nm} (ha : Cn x a) : (if sgN a = sgN b then sgN a else 0) = 0 ∨ (if sgN a = sgN b then sgN a else 0) = 1 := by
  have := sgN_01 ha
  split
  · exact this
  · exact .inl rfl
theorem rd_ok (hx : F4 x) {q : Rat} {s : Int} (hs : s = 0 ∨ s = 1) (h1 : -LL x < q) (h2 : q < LL x) : Cn x (rdNm x 9 q s) ∧ Nr x.d x.f q (vNm (rdNm x 9 q s)) := by
  refine rd_nr hx.ok s hs ?_
  show ab q < LL x
  rw [ab_def]
  split <;> grind
theorem pl_ok (hx : F4 x) {a b : Nm} (ha : Cn x a) (hb : Cn x b) (h1 : -LL x < vNm a + vNm b) (h2 : vNm a + vNm b < LL x) : Cn x (pl x a b) ∧ Nr x.d x.f (vNm a + vNm b) (vNm (pl x a b)) := rd_ok hx (sz_01 ha) h1 h2
theorem mi_ok (hx : F4 x) {a b : Nm} (ha : Cn x a) (hb : Cn x b) (h1 : -LL x < vNm a - vNm b) (h2 : vNm a - vNm b < LL x) : Cn x (pl x a (tn b)) ∧ Nr x.d x.f (vNm a - vNm b) (vNm (pl x a (tn b))) := by
  have := pl_ok hx ha (Cn_tn hb)
  rw [v_tn hb, ← Rat.sub_eq_add_neg] at this
  exact this h1 h2
theorem pd_ok (hx : F4 x) {a b : Nm} (ha : Cn x a) (hb : Cn x b) (h1 : -LL x < vNm a * vNm b) (h2 : vNm a * vNm b < LL x) : Cn x (pd x a b) ∧ Nr x.d x.f (vNm a * vNm b) (vNm (pd x a b)) := rd_ok hx (by have := sgN_01 ha; have := sgN_01 hb; omega) h1 h2
theorem jn_ok (hx : F4 x) {a b c : Nm} (ha : Cn x a) (hb : Cn x b) (hc : Cn x c) (h1 : -LL x < vNm a * vNm b + vNm c) (h2 : vNm a * vNm b + vNm c < LL x) : Cn x (jn x a b c) ∧ Nr x.d x.f (vNm a * vNm b + vNm c) (vNm (jn x a b c)) := rd_ok hx (by have := sgN_01 ha; have := sgN_01 hb; split <;> omega) h1 h2
theorem d_1 (hx : F4 x) : 1 ≤ x.d := by have := hx.d3; omega
noncomputable def ts (x : Fo) (a b : Nm) : Nm := pl x (pl x a (tn (pl x (pl x a b) (tn (pl x (pl x a b) (tn a)))))) (pl x b (tn (pl x (pl x a b) (tn a))))
/-- all that a sum in parts goes through -/
structure TS (x : Fo) (a b : Nm) : Prop where
  s : Cn x (pl x a b)
  sn : Nr x.d x.f (vNm a + vNm b) (vNm (pl x a b))
  p : Cn x (pl x (pl x a b) (tn a))
  v : Cn x (pl x (pl x a b) (tn (pl x (pl x a b) (tn a))))
  c : Cn x (pl x a (tn (pl x (pl x a b) (tn (pl x (pl x a b) (tn a))))))
  r : Cn x (pl x b (tn (pl x (pl x a b) (tn a))))
  y : Cn x (ts x a b)
  e : vNm (ts x a b) = vNm a + vNm b - vNm (pl x a b)
  ea : Sz (vNm (ts x a b)) (vNm a)
  eb : Sz (vNm (ts x a b)) (vNm b)
theorem ts_ok (hx : F4 x) {a b : Nm} (ha : Cn x a) (hb : Cn x b) {A B : Rat} (a1 : -A ≤ vNm a) (a2 : vNm a ≤ A) (b1 : -B ≤ vNm b) (b2 : vNm b ≤ B) (h1 : A + B < LL x) (h2 : A + A < LL x) : TS x a b := by
  have hd := d_1 hx
  have ra := Cn_rp hx.ok ha
  have rb := Cn_rp hx.ok hb
  obtain ⟨s1, s2⟩ := pl_ok hx ha hb (by grind) (by grind)
  have na := nr_near hd s2 ra
  have nb := nr_near hd s2 rb
  have rs := nr_rp hd s2
  have e1 : Sz (vNm a + vNm b - vNm (pl x a b)) (vNm a) := by unfold Sz; unfold Le at nb; grind
  have e2 : Sz (vNm a + vNm b - vNm (pl x a b)) (vNm b) := by unfold Sz; unfold Le at na; grind
  obtain ⟨p1, p2⟩ := mi_ok hx s1 ha (by unfold Sz at e1; grind) (by unfold Sz at e1; grind)
  have np := nr_near hd p2 rs
  obtain ⟨v1, v2⟩ := mi_ok hx s1 p1 (by unfold Le at np; grind) (by unfold Le at np; grind)
  have nv := nr_near hd v2 ra
  obtain ⟨c1, c2⟩ := mi_ok hx ha v1 (by unfold Le at np nv; grind) (by unfold Le at np nv; grind)
  obtain ⟨r1, r2⟩ := mi_ok hx hb p1 (by unfold Le at np; unfold Sz at e1; grind) (by unfold Le at np; unfold Sz at e1; grind)
  have cr := two_cr hd ra rb s2 p2 v2 c2 r2
  obtain ⟨y1, y2⟩ := pl_ok hx c1 r1 (by rw [cr]; unfold Sz at e1; grind) (by rw [cr]; unfold Sz at e1; grind)
  have y3 := two_ok hd ra rb s2 p2 v2 c2 r2 y2
  exact ⟨s1, s2, p1, v1, c1, r1, y1, y3, by rw [show ts x a b = pl x (pl x a (tn (pl x (pl x a b) (tn (pl x (pl x a b) (tn a)))))) (pl x b (tn (pl x (pl x a b) (tn a)))) from rfl, y3]; exact e1,
    by rw [show ts x a b = pl x (pl x a (tn (pl x (pl x a b) (tn (pl x (pl x a b) (tn a)))))) (pl x b (tn (pl x (pl x a b) (tn a)))) from rfl, y3]; exact e2⟩
theorem c_two_sum (hx : F4 x) {a b : Nm} (ha : Cn x a) (hb : Cn x b) (h : TS x a b) : callO P (n + 10) 112 [FO x, ND a, ND b] ws = some (.tup [ND (pl x a b), ND (ts x a b)], ws) := by
  obtain ⟨M1, e1⟩ := c_plus (n + 1) ws hx ha hb
  obtain ⟨M2, e2⟩ := c_minus n ws hx h.s ha
  obtain ⟨M3, e3⟩ := c_minus n ws hx h.s h.p
  obtain ⟨M4, e4⟩ := c_minus n ws hx ha h.v
  obtain ⟨M5, e5⟩ := c_minus n ws hx hb h.p
  obtain ⟨M6, e6⟩ := c_plus (n + 1) ws hx h.c h.r
  rw [call_at (d := d_two_sum) rfl rfl]
  simp! only [d_two_sum, b_two_sum, e1, e2, e3, e4, e5, e6, ts]
/-! the greater first -/
noncomputable def qs (x : Fo) (a b : Nm) : Nm := pl x b (tn (pl x (pl x a b) (tn a)))
structure QS (x : Fo) (a b : Nm) : Prop where
  s : Cn x (pl x a b)
  p : Cn x (pl x (pl x a b) (tn a))
  y : Cn x (qs x a b)
  e : vNm (qs x a b) = vNm a + vNm b - vNm (pl x a b)
theorem qs_ok (hx : F4 x) {a b : Nm} (ha : Cn x a) (hb : Cn x b) (hs : Sz (vNm b) (vNm a)) {A : Rat} (a1 : -A ≤ vNm a) (a2 : vNm a ≤ A) (h2 : A + A < LL x) : QS x a b := by
  have hd := d_1 hx
  have ra := Cn_rp hx.ok ha
  have rb := Cn_rp hx.ok hb
  obtain ⟨s1, s2⟩ := pl_ok hx ha hb (by unfold Sz at hs; grind) (by unfold Sz at hs; grind)
  have na := nr_near hd s2 ra
  have nb := nr_near hd s2 rb
  have rs := nr_rp hd s2
  have e1 : Sz (vNm a + vNm b - vNm (pl x a b)) (vNm a) := by unfold Sz; unfold Le at nb; grind
  obtain ⟨p1, p2⟩ := mi_ok hx s1 ha (by unfold Sz at e1 hs; grind) (by unfold Sz at e1 hs; grind)
  have np := nr_eq hd p2 (dk_rp hd ra rb hs s2)
  obtain ⟨y1, y2⟩ := mi_ok hx hb p1 (by unfold Sz at e1 hs; grind) (by unfold Sz at e1 hs; grind)
  exact ⟨s1, p1, y1, (quick_ok hd ra rb hs s2 p2 y2).2⟩
theorem c_quick_two_sum (hx : F4 x) {a b : Nm} (ha : Cn x a) (hb : Cn x b) (h : QS x a b) : callO P (n + 10) 113 [FO x, ND a, ND b] ws = some (.tup [ND (pl x a b), ND (qs x a b)], ws) := by
  obtain ⟨M1, e1⟩ := c_plus (n + 1) ws hx ha hb
  obtain ⟨M2, e2⟩ := c_minus n ws hx h.s ha
  obtain ⟨M3, e3⟩ := c_minus n ws hx hb h.p
  rw [call_at (d := d_quick_two_sum) rfl rfl]
  simp! only [d_quick_two_sum, b_quick_two_sum, e1, e2, e3, qs]
/-! products -/
noncomputable def tp (x : Fo) (a b : Nm) : Nm := jn x a b (tn (pd x a b))
structure TP (x : Fo) (a b : Nm) : Prop where
  s : Cn x (pd x a b)
  sn : Nr x.d x.f (vNm a * vNm b) (vNm (pd x a b))
  y : Cn x (tp x a b)
  e : vNm (tp x a b) = vNm a * vNm b - vNm (pd x a b)
  es : Sz (vNm (tp x a b)) (vNm a * vNm b)
theorem tp_ok (hx : F4 x) {a b : Nm} (ha : Cn x a) (hb : Cn x b) {i j : Int} (ma : Mu i (vNm a)) (mb : Mu j (vNm b)) (hf : x.f ≤ i + j) (q1 : -pw (x.d + x.d + (i + j)) < vNm a * vNm b) (q2 : vNm a * vNm b < pw (x.d + x.d + (i + j)))
    (h1 : -LL x < vNm a * vNm b) (h2 : vNm a * vNm b < LL x) : TP x a b := by
  have hd := d_1 hx
  obtain ⟨s1, s2⟩ := pd_ok hx ha hb h1 h2
  have n0 := nr_near hd s2 Rp_0
  have es : Sz (vNm a * vNm b - vNm (pd x a b)) (vNm a * vNm b) := by unfold Sz; unfold Le at n0; grind
  have er := pr_rp hd ma mb hf q1 q2 s2
  have e : vNm a * vNm b + vNm (tn (pd x a b)) = vNm a * vNm b - vNm (pd x a b) := by rw [v_tn s1, ← Rat.sub_eq_add_neg]
  obtain ⟨y1, y2⟩ := jn_ok hx ha hb (Cn_tn s1) (by rw [e]; unfold Sz at es; grind) (by rw [e]; unfold Sz at es; grind)
  rw [e] at y2
  have y3 := nr_eq hd y2 er
  exact ⟨s1, s2, y1, y3, by rw [show tp x a b = jn x a b (tn (pd x a b)) from rfl, y3]; exact es⟩
theorem c_two_product (hx : F4 x) {a b : Nm} (ha : Cn x a) (hb : Cn x b) (h : TP x a b) : callO P (n + 10) 114 [FO x, ND a, ND b] ws = some (.tup [ND (pd x a b), ND (tp x a b)], ws) := by
  obtain ⟨M1, e1⟩ := c_product (n + 1) ws hx ha hb
  obtain ⟨M2, e2⟩ := c_joined (n + 1) ws hx ha hb (Cn_tn h.s)
  rw [call_at (d := d_two_product) rfl rfl]
  simp! only [d_two_product, b_two_product, e1, e2, c_turned (n + 8) ws, tp]
end
end Pv.K44


set_option Elab.async false
set_option linter.all false
set_option maxRecDepth 100000
set_option exponentiation.threshold 20
/-! N3: numbers put to parts. -/
namespace Pv.K44
open Pv
local macro_rules
  | `(tactic| simp! only [$xs,*]) => `(tactic| simp only [ev.eq_1, ev.eq_2, ev.eq_3, ev.eq_4, ev.eq_5, ev.eq_6, ev.eq_7, ev.eq_8, ev.eq_9, ev.eq_10, ev.eq_11, ev.eq_12, ev.eq_13, ev.eq_14, ev.eq_15, ev.eq_16, ev.eq_17, ev.eq_18, ev.eq_19, ev.eq_20, ev.eq_21, ev.eq_22, ev.eq_23, ev.eq_24, ev.eq_25, ev.eq_26, ev.eq_27, ev.eq_28, ev.eq_29, ev.eq_30, ev.eq_35, evs, evT, exec.eq_1, exec.eq_2, exec.eq_3, exec.eq_4, exec.eq_5, exec.eq_6, exec.eq_7, exec.eq_8, exec.eq_9, exec.eq_10, exec.eq_11, exec.eq_12, exec.eq_13, exec.eq_14, exec.eq_15, exec.eq_16, exec.eq_19, exec.eq_20, exec.eq_21, exec.eq_22, exec.eq_23, execs, x_whl, x_for, x_comp, x_compIf, x_comp2, x_comp2If, bor, vi, mkEnv, eg, es, frzA, frzS, bn, bt, bq, bind_F, setAll, setAllT, bind1, setPar, wipeE, tgs, b_add, b_sub, b_mul, b_fdiv, b_mod, b_shl, b_shr, b_pow, b_tup, b_lst, o_lt, o_le, o_gt, o_ge, o_eqi, o_nei, o_neb, sl_a, sl_b, sl_bl, sl_c, cmp_nil, cmp_cons, cmpY_nil, cmpY_cons, ixW_3, ixL_0, ixL_1, ixL_2, ixL_3, btl, o_isb, o_eqs, o_nes, o_int, o_nit, isF_s, isF_i, deq_ss, deq_ii, List.all_cons, List.all_nil, List.any_cons, List.any_nil, Nat.reduceEqDiff, Int.reduceEq, u_len1, u_len2, u_len3, u_abs, u_int, u_intb, u_lst1, u_lst2, u_lst3, u_tup, u_max, u_min, s_int, s_bl, s_tup, s_lst, s_non, s_str, a_add, a_sub, i_tup, i_lst, r_bl, r_int, fin, chk_own, chk_some, isN, bnd, iN_non, iN_int, iN_bl, iN_str, iN_tup, iN_lst, iN_F, ixW_0, ixW_1, ixW_2, F_0, F_1, ixW_w, wg_1, wg_0, wp_0, List.map, List.length, List.replicate, List.cons_append, List.nil_append, List.append_nil, Nat.reduceSub, Nat.reduceAdd, Nat.sub_self, Nat.sub_zero, if_true, Bool.false_eq_true, if_false, reduceIte, ite_true, ite_false, Bool.and_self, Bool.and_true, Bool.true_and, Bool.not_true, Bool.not_false, Nat.reduceLT, Nat.reduceLeDiff, decide_true, decide_false, Int.reduceLT, Int.reduceLE, Int.reduceAdd, Int.reduceSub, Int.reduceNeg, Bool.or_true, Bool.or_false, Bool.true_or, Bool.false_or, Bool.and_false, Bool.false_and, $xs,*])
  | `(tactic| simp! only) => `(tactic| simp only [ev.eq_1, ev.eq_2, ev.eq_3, ev.eq_4, ev.eq_5, ev.eq_6, ev.eq_7, ev.eq_8, ev.eq_9, ev.eq_10, ev.eq_11, ev.eq_12, ev.eq_13, ev.eq_14, ev.eq_15, ev.eq_16, ev.eq_17, ev.eq_18, ev.eq_19, ev.eq_20, ev.eq_21, ev.eq_22, ev.eq_23, ev.eq_24, ev.eq_25, ev.eq_26, ev.eq_27, ev.eq_28, ev.eq_29, ev.eq_30, ev.eq_35, evs, evT, exec.eq_1, exec.eq_2, exec.eq_3, exec.eq_4, exec.eq_5, exec.eq_6, exec.eq_7, exec.eq_8, exec.eq_9, exec.eq_10, exec.eq_11, exec.eq_12, exec.eq_13, exec.eq_14, exec.eq_15, exec.eq_16, exec.eq_19, exec.eq_20, exec.eq_21, exec.eq_22, exec.eq_23, execs, x_whl, x_for, x_comp, x_compIf, x_comp2, x_comp2If, bor, vi, mkEnv, eg, es, frzA, frzS, bn, bt, bq, bind_F, setAll, setAllT, bind1, setPar, wipeE, tgs, b_add, b_sub, b_mul, b_fdiv, b_mod, b_shl, b_shr, b_pow, b_tup, b_lst, o_lt, o_le, o_gt, o_ge, o_eqi, o_nei, o_neb, sl_a, sl_b, sl_bl, sl_c, cmp_nil, cmp_cons, cmpY_nil, cmpY_cons, ixW_3, ixL_0, ixL_1, ixL_2, ixL_3, btl, o_isb, o_eqs, o_nes, o_int, o_nit, isF_s, isF_i, deq_ss, deq_ii, List.all_cons, List.all_nil, List.any_cons, List.any_nil, Nat.reduceEqDiff, Int.reduceEq, u_len1, u_len2, u_len3, u_abs, u_int, u_intb, u_lst1, u_lst2, u_lst3, u_tup, u_max, u_min, s_int, s_bl, s_tup, s_lst, s_non, s_str, a_add, a_sub, i_tup, i_lst, r_bl, r_int, fin, chk_own, chk_some, isN, bnd, iN_non, iN_int, iN_bl, iN_str, iN_tup, iN_lst, iN_F, ixW_0, ixW_1, ixW_2, F_0, F_1, ixW_w, wg_1, wg_0, wp_0, List.map, List.length, List.replicate, List.cons_append, List.nil_append, List.append_nil, Nat.reduceSub, Nat.reduceAdd, Nat.sub_self, Nat.sub_zero, if_true, Bool.false_eq_true, if_false, reduceIte, ite_true, ite_false, Bool.and_self, Bool.and_true, Bool.true_and, Bool.not_true, Bool.not_false, Nat.reduceLT, Nat.reduceLeDiff, decide_true, decide_false, Int.reduceLT, Int.reduceLE, Int.reduceAdd, Int.reduceSub, Int.reduceNeg, Bool.or_true, Bool.or_false, Bool.true_or, Bool.false_or, Bool.and_false, Bool.false_and])
variable (n : Nat) (ws : WS)
def notO : Nm → Bool
  | .o _ => false
  | _ => true
def sV : List Nm → Rat
  | [] => 0
  | a :: r => vNm a + sV r
def sA : List Nm → Rat
  | [] => 0
  | a :: r => ab (vNm a) + sA r
theorem sV_app : ∀ a b : List Nm, sV (a ++ b) = sV a + sV b
  | [], b => by simp only [List.nil_append, sV]; grind
  | x :: a, b => by simp only [List.cons_append, sV, sV_app a b]; grind
theorem sA_app : ∀ a b : List Nm, sA (a ++ b) = sA a + sA b
  | [], b => by simp only [List.nil_append, sA]; grind
  | x :: a, b => by simp only [List.cons_append, sA, sA_app a b]; grind
theorem sA_nn : ∀ a : List Nm, 0 ≤ sA a
  | [] => by simp only [sA]; grind
  | x :: a => by simp only [sA]; have := sA_nn a; have := ab_nn (vNm x); grind
theorem ab_le {q : Rat} : q ≤ ab q ∧ -ab q ≤ q := by rw [ab_def]; split <;> constructor <;> grind
theorem ab_sz {p q : Rat} (h : Sz p q) : ab p ≤ ab q := by unfold Sz at h; rw [ab_def, ab_def]; split <;> split <;> grind
theorem sA_mem : ∀ {l : List Nm} {a : Nm}, a ∈ l → ab (vNm a) ≤ sA l
  | x :: l, a, h => by
    simp only [sA]
    rcases List.mem_cons.mp h with rfl | h
    · have := sA_nn l; grind
    · have := sA_mem h; have := ab_nn (vNm x); grind
theorem notO_v {a : Nm} (h : notO a = false) : vNm a = 0 := by
  cases a with
  | o s => rfl
  | n s w p => cases h
  | e s => cases h
theorem kd_l (a : Nm) : decide (kdN a < 512) = true := by cases a <;> rfl
theorem kd_o (a : Nm) : decide (kdN a = 0) = !notO a := by cases a <;> rfl
theorem okq_ND (a : Nm) : okq (ND a) 62 = true := by cases a <;> rfl
theorem okqs_ND (l : List Nm) : okqs (l.map ND) 63 = true := okqs_of fun d hd => by
  obtain ⟨a, _, rfl⟩ := List.mem_map.mp hd
  exact okq_up (okq_ND a)
theorem eq_nil (l : List Nm) : cop .eq (.lst (l.map ND)) (.lst []) = some l.isEmpty := by
  have h : okq (.lst (l.map ND)) 64 = true := okqs_ND l
  have h2 : okq (.lst []) 64 = true := rfl
  simp only [cop, h, h2]
  cases l <;> rfl
section
variable {x : Fo}
/-- one walk over the parts -/
noncomputable def grL (x : Fo) : List Nm → Nm → List Nm → List Nm × Nm
  | [], c, f => (f, c)
  | p :: ps, c, f => grL x ps (pl x c p) (if notO (ts x c p) = true then f ++ [ts x c p] else f)
structure GR (x : Fo) (ps : List Nm) (c : Nm) (f : List Nm) (K : Rat) (r : List Nm × Nm) : Prop where
  cc : Cn x r.2
  cf : (∀ a ∈ f, Cn x a) → ∀ a ∈ r.1, Cn x a
  nf : (∀ a ∈ f, notO a = true) → ∀ a ∈ r.1, notO a = true
  sm : sV r.1 + vNm r.2 = sV f + vNm c + sV ps
  sa : sA r.1 ≤ sA f + sA ps
  c1 : ab (vNm r.2) ≤ K + 2 * sA ps
  ln : r.1.length ≤ f.length + ps.length
theorem loop_gr (hx : F4 x) {s1 s2 : Slot} : ∀ (ps : List Nm) (c : Nm) (f : List Nm) (K : Rat) (t3 t6 : Slot), (∀ a ∈ ps, Cn x a) → Cn x c → ab (vNm c) ≤ K → 2 * K + 4 * sA ps < LL x → f.length + ps.length ≤ 1000 →
    (∃ t3' t6', forX (callO P (n + 10)) (.nm 3) l_grown_0 (ps.map ND) [.va (FO x), s1, s2, t3, .ow (.lst (f.map ND)), .va (ND c), t6] ws = some (.nx, [.va (FO x), s1, s2, t3', .ow (.lst ((grL x ps c f).1.map ND)), .va (ND (grL x ps c f).2), t6'], ws)) ∧
    GR x ps c f K (grL x ps c f)
  | [], c, f, K, t3, t6, _, hc, hK, _, _ => ⟨⟨t3, t6, rfl⟩, hc, fun h => h, fun h => h, by simp only [grL, sV]; grind, by simp only [grL, sA]; grind, by simp only [grL, sA]; grind, Nat.le_refl _⟩
  | p :: ps, c, f, K, t3, t6, hp, hc, hK, hL, hl => by
    have hpc := hp p List.mem_cons_self
    have nn := sA_nn ps
    have pn := ab_nn (vNm p)
    have cn := ab_nn (vNm c)
    have T := ts_ok hx hc hpc (A := K) (B := ab (vNm p)) (by have := ab_le (q := vNm c); grind) (by have := ab_le (q := vNm c); grind) ab_le.2 ab_le.1 (by simp only [sA] at hL; grind) (by simp only [sA] at hL; grind)
    have e := c_two_sum n ws hx hc hpc T
    have eb := ab_sz T.eb
    have ve := T.e
    simp only [List.length_cons] at hl
    have lc : ab (vNm (pl x c p)) ≤ K + 2 * ab (vNm p) := by
      have h1 : vNm (pl x c p) = vNm c + vNm p - vNm (ts x c p) := by grind
      have h2 := ab_le (q := vNm c)
      have h3 := ab_le (q := vNm p)
      have h4 := ab_le (q := vNm (ts x c p))
      rw [ab_def, h1]
      split <;> grind
    let f2 := if notO (ts x c p) = true then f ++ [ts x c p] else f
    have hf2 : f2.length ≤ f.length + 1 := by show (if notO (ts x c p) = true then f ++ [ts x c p] else f).length ≤ _; split <;> simp
    obtain ⟨⟨u3, u6, e2⟩, G⟩ := loop_gr hx (s1 := s1) (s2 := s2) ps (pl x c p) f2 (K + 2 * ab (vNm p)) (.va (ND p)) (.va (ND (ts x c p))) (fun a h => hp a (List.mem_cons_of_mem _ h)) T.s lc (by simp only [sA] at hL; grind) (by omega)
    have eg : grL x (p :: ps) c f = grL x ps (pl x c p) f2 := rfl
    rw [eg]
    refine ⟨⟨u3, u6, ?_⟩, G.cc, fun h => G.cf fun a ha => ?_, fun h => G.nf fun a ha => ?_, ?_, ?_, ?_, ?_⟩
    · rw [List.map_cons, for_cons]
      have o1 : okLen (f.map ND).length = true := by rw [List.length_map]; exact okLen_of (by omega)
      cases q : notO (ts x c p) with
      | true =>
        have ef : f2 = f ++ [ts x c p] := if_pos q
        rw [ef, List.map_append] at e2
        rw [ef]
        simp! only [l_grown_0, e, ix_0, kd_l, kd_o, q, o1]
        exact e2
      | false =>
        have ef : f2 = f := if_neg (by rw [q]; decide)
        rw [ef] at e2
        rw [ef]
        simp! only [l_grown_0, e, ix_0, kd_l, kd_o, q]
        exact e2
    · have ha : a ∈ (if notO (ts x c p) = true then f ++ [ts x c p] else f) := ha
      split at ha
      · rcases List.mem_append.mp ha with z | z
        · exact h a z
        · rw [List.mem_singleton.mp z]; exact T.y
      · exact h a ha
    · have ha : a ∈ (if notO (ts x c p) = true then f ++ [ts x c p] else f) := ha
      split at ha
      · rename_i q
        rcases List.mem_append.mp ha with z | z
        · exact h a z
        · rw [List.mem_singleton.mp z]; exact q
      · exact h a ha
    · have sf : sV f2 = sV f + vNm (ts x c p) := by
        show sV (if notO (ts x c p) = true then f ++ [ts x c p] else f) = _
        split
        · rw [sV_app]; simp only [sV]; grind
        · rename_i q
          rw [notO_v (by simpa using q)]; grind
      rw [G.sm, sf, ve]
      simp only [sV]
      grind
    · have sf : sA f2 ≤ sA f + ab (vNm p) := by
        show sA (if notO (ts x c p) = true then f ++ [ts x c p] else f) ≤ _
        split
        · rw [sA_app]; simp only [sA]; grind
        · grind
      have := G.sa
      simp only [sA]
      grind
    · have := G.c1
      simp only [sA]
      grind
    · have := G.ln
      simp only [List.length_cons]
      omega
/-- what is handed back: no zeros, or one zero alone -/
def Gd (r : List Nm) : Prop := (∀ a ∈ r, notO a = true) ∨ ∃ s, r = [.o s]
structure GW (x : Fo) (ps : List Nm) (c : Nm) (K : Rat) (r : List Nm) : Prop where
  cf : ∀ a ∈ r, Cn x a
  sm : sV r = vNm c + sV ps
  sa : sA r ≤ K + 3 * sA ps
  ln : r.length ≤ ps.length + 1
  gd : Gd r
theorem c_grown (hx : F4 x) {ps : List Nm} {c : Nm} {K : Rat} (hp : ∀ a ∈ ps, Cn x a) (hc : Cn x c) (hK : ab (vNm c) ≤ K) (hL : 2 * K + 4 * sA ps < LL x) (hl : ps.length ≤ 1000) :
    ∃ r, callO P (n + 11) 115 [FO x, .tup (ps.map ND), ND c] ws = some (.tup (r.map ND), ws) ∧ GW x ps c K r := by
  obtain ⟨⟨u3, u6, e⟩, G⟩ := loop_gr n ws hx (s1 := .va (.tup (ps.map ND))) (s2 := .va (ND c)) ps c [] K .un .un hp hc hK hL (by simpa using hl)
  generalize grL x ps c [] = r at e G
  obtain ⟨f, c2⟩ := r
  have cf := G.cf (by simp)
  have nf := G.nf (by simp)
  have sm := G.sm
  have sa := G.sa
  have c1 := G.c1
  have ln := G.ln
  have cc := G.cc
  simp only [sV, sA, List.length_nil] at sm sa ln cf nf c1 cc
  simp only [List.map_nil] at e
  have o1 : okLen (f.map ND).length = true := by rw [List.length_map]; exact okLen_of (by omega)
  have e0 := eq_nil f
  by_cases q : notO c2 = true
  · refine ⟨f ++ [c2], ?_, ⟨?_, ?_, ?_, ?_, .inl ?_⟩⟩
    · rw [call_at (d := d_grown) rfl rfl, List.map_append]
      simp! only [d_grown, b_grown, e, ix_0, kd_l, kd_o, q, o1]
    · intro a ha
      rcases List.mem_append.mp ha with z | z
      · exact cf a z
      · rw [List.mem_singleton.mp z]; exact cc
    · rw [sV_app]; simp only [sV]; grind
    · rw [sA_app]; simp only [sA]; grind
    · simp; omega
    · intro a ha
      rcases List.mem_append.mp ha with z | z
      · exact nf a z
      · rw [List.mem_singleton.mp z]; exact q
  · have q' : notO c2 = false := by simpa using q
    have v0 := notO_v q'
    cases f with
    | nil =>
      refine ⟨[c2], ?_, ⟨?_, ?_, ?_, ?_, .inr ?_⟩⟩
      · rw [call_at (d := d_grown) rfl rfl]
        simp only [List.map_nil, List.isEmpty_nil, List.length_nil] at e e0 o1
        simp! only [d_grown, b_grown, e, ix_0, kd_l, kd_o, q', e0, o1]
      · intro a ha
        rw [List.mem_singleton.mp ha]; exact cc
      · simp only [sV] at sm ⊢; grind
      · simp only [sA] at sa ⊢; grind
      · simp
      · cases c2 with
        | o s => exact ⟨s, rfl⟩
        | n s w p => cases q'
        | e s => cases q'
    | cons a f =>
      refine ⟨a :: f, ?_, ⟨cf, ?_, ?_, ?_, .inl nf⟩⟩
      · rw [call_at (d := d_grown) rfl rfl]
        simp only [List.isEmpty_cons] at e0
        simp only [List.map_cons] at e e0
        simp! only [d_grown, b_grown, e, ix_0, kd_l, kd_o, q', e0]
      · grind
      · have := ab_nn (vNm c2)
        have h0 : ab (vNm c) ≤ K := hK
        have := ab_nn (vNm c)
        have := sA_nn ps
        grind
      · omega
end
end Pv.K44


set_option Elab.async false
set_option linter.all false
set_option maxRecDepth 100000
set_option exponentiation.threshold 20
/-! N4: sums and products of rows. -/
namespace Pv.K44
open Pv
local macro_rules
  | `(tactic| simp! only [$xs,*]) => `(tactic| simp only [ev.eq_1, ev.eq_2, ev.eq_3, ev.eq_4, ev.eq_5, ev.eq_6, ev.eq_7, ev.eq_8, ev.eq_9, ev.eq_10, ev.eq_11, ev.eq_12, ev.eq_13, ev.eq_14, ev.eq_15, ev.eq_16, ev.eq_17, ev.eq_18, ev.eq_19, ev.eq_20, ev.eq_21, ev.eq_22, ev.eq_23, ev.eq_24, ev.eq_25, ev.eq_26, ev.eq_27, ev.eq_28, ev.eq_29, ev.eq_30, ev.eq_35, evs, evT, exec.eq_1, exec.eq_2, exec.eq_3, exec.eq_4, exec.eq_5, exec.eq_6, exec.eq_7, exec.eq_8, exec.eq_9, exec.eq_10, exec.eq_11, exec.eq_12, exec.eq_13, exec.eq_14, exec.eq_15, exec.eq_16, exec.eq_19, exec.eq_20, exec.eq_21, exec.eq_22, exec.eq_23, execs, x_whl, x_for, x_comp, x_compIf, x_comp2, x_comp2If, bor, vi, mkEnv, eg, es, frzA, frzS, bn, bt, bq, bind_F, setAll, setAllT, bind1, setPar, wipeE, tgs, b_add, b_sub, b_mul, b_fdiv, b_mod, b_shl, b_shr, b_pow, b_tup, b_lst, o_lt, o_le, o_gt, o_ge, o_eqi, o_nei, o_neb, sl_a, sl_b, sl_bl, sl_c, cmp_nil, cmp_cons, cmpY_nil, cmpY_cons, ixW_3, ixL_0, ixL_1, ixL_2, ixL_3, btl, o_isb, o_eqs, o_nes, o_int, o_nit, isF_s, isF_i, deq_ss, deq_ii, List.all_cons, List.all_nil, List.any_cons, List.any_nil, Nat.reduceEqDiff, Int.reduceEq, u_len1, u_len2, u_len3, u_abs, u_int, u_intb, u_lst1, u_lst2, u_lst3, u_tup, u_max, u_min, s_int, s_bl, s_tup, s_lst, s_non, s_str, a_add, a_sub, i_tup, i_lst, r_bl, r_int, fin, chk_own, chk_some, isN, bnd, iN_non, iN_int, iN_bl, iN_str, iN_tup, iN_lst, iN_F, ixW_0, ixW_1, ixW_2, F_0, F_1, ixW_w, wg_1, wg_0, wp_0, List.map, List.length, List.replicate, List.cons_append, List.nil_append, List.append_nil, Nat.reduceSub, Nat.reduceAdd, Nat.sub_self, Nat.sub_zero, if_true, Bool.false_eq_true, if_false, reduceIte, ite_true, ite_false, Bool.and_self, Bool.and_true, Bool.true_and, Bool.not_true, Bool.not_false, Nat.reduceLT, Nat.reduceLeDiff, decide_true, decide_false, Int.reduceLT, Int.reduceLE, Int.reduceAdd, Int.reduceSub, Int.reduceNeg, Bool.or_true, Bool.or_false, Bool.true_or, Bool.false_or, Bool.and_false, Bool.false_and, $xs,*])
  | `(tactic| simp! only) => `(tactic| simp only [ev.eq_1, ev.eq_2, ev.eq_3, ev.eq_4, ev.eq_5, ev.eq_6, ev.eq_7, ev.eq_8, ev.eq_9, ev.eq_10, ev.eq_11, ev.eq_12, ev.eq_13, ev.eq_14, ev.eq_15, ev.eq_16, ev.eq_17, ev.eq_18, ev.eq_19, ev.eq_20, ev.eq_21, ev.eq_22, ev.eq_23, ev.eq_24, ev.eq_25, ev.eq_26, ev.eq_27, ev.eq_28, ev.eq_29, ev.eq_30, ev.eq_35, evs, evT, exec.eq_1, exec.eq_2, exec.eq_3, exec.eq_4, exec.eq_5, exec.eq_6, exec.eq_7, exec.eq_8, exec.eq_9, exec.eq_10, exec.eq_11, exec.eq_12, exec.eq_13, exec.eq_14, exec.eq_15, exec.eq_16, exec.eq_19, exec.eq_20, exec.eq_21, exec.eq_22, exec.eq_23, execs, x_whl, x_for, x_comp, x_compIf, x_comp2, x_comp2If, bor, vi, mkEnv, eg, es, frzA, frzS, bn, bt, bq, bind_F, setAll, setAllT, bind1, setPar, wipeE, tgs, b_add, b_sub, b_mul, b_fdiv, b_mod, b_shl, b_shr, b_pow, b_tup, b_lst, o_lt, o_le, o_gt, o_ge, o_eqi, o_nei, o_neb, sl_a, sl_b, sl_bl, sl_c, cmp_nil, cmp_cons, cmpY_nil, cmpY_cons, ixW_3, ixL_0, ixL_1, ixL_2, ixL_3, btl, o_isb, o_eqs, o_nes, o_int, o_nit, isF_s, isF_i, deq_ss, deq_ii, List.all_cons, List.all_nil, List.any_cons, List.any_nil, Nat.reduceEqDiff, Int.reduceEq, u_len1, u_len2, u_len3, u_abs, u_int, u_intb, u_lst1, u_lst2, u_lst3, u_tup, u_max, u_min, s_int, s_bl, s_tup, s_lst, s_non, s_str, a_add, a_sub, i_tup, i_lst, r_bl, r_int, fin, chk_own, chk_some, isN, bnd, iN_non, iN_int, iN_bl, iN_str, iN_tup, iN_lst, iN_F, ixW_0, ixW_1, ixW_2, F_0, F_1, ixW_w, wg_1, wg_0, wp_0, List.map, List.length, List.replicate, List.cons_append, List.nil_append, List.append_nil, Nat.reduceSub, Nat.reduceAdd, Nat.sub_self, Nat.sub_zero, if_true, Bool.false_eq_true, if_false, reduceIte, ite_true, ite_false, Bool.and_self, Bool.and_true, Bool.true_and, Bool.not_true, Bool.not_false, Nat.reduceLT, Nat.reduceLeDiff, decide_true, decide_false, Int.reduceLT, Int.reduceLE, Int.reduceAdd, Int.reduceSub, Int.reduceNeg, Bool.or_true, Bool.or_false, Bool.true_or, Bool.false_or, Bool.and_false, Bool.false_and])
variable (n : Nat) (ws : WS)
/-- room for k more numbers -/
def okU (L M : Rat) : Rat → Nat → Prop
  | _, 0 => True
  | T, k + 1 => 2 * M + 4 * T < L ∧ okU L M (M + 3 * T) k
section
variable {x : Fo}
theorem loop_parts (hx : F4 x) {s1 : Slot} {M : Rat} : ∀ (ns : List Nm) (f : List Nm) (T : Rat) (t3 : Slot), (∀ a ∈ ns, Cn x a ∧ ab (vNm a) ≤ M) → (∀ a ∈ f, Cn x a) → sA f ≤ T → okU (LL x) M T ns.length → f.length + ns.length ≤ 900 →
    ∃ (g : List Nm) (t3' : Slot) (T' : Rat), forX (callO P (n + 11)) (.nm 3) l_parts_of_sum_0 (ns.map ND) [.va (FO x), s1, .va (.tup (f.map ND)), t3] ws = some (.nx, [.va (FO x), s1, .va (.tup (g.map ND)), t3'], ws) ∧
      (∀ a ∈ g, Cn x a) ∧ sV g = sV f + sV ns ∧ g.length ≤ f.length + ns.length ∧ (ns ≠ [] → Gd g) ∧ sA g ≤ T' ∧ (∀ k, okU (LL x) M T (ns.length + k) → okU (LL x) M T' k)
  | [], f, T, t3, _, hf, hT, _, _ => ⟨f, t3, T, rfl, hf, by simp only [sV]; grind, Nat.le_refl _, fun h => absurd rfl h, hT, fun k h => by simpa using h⟩
  | a :: ns, f, T, t3, hn, hf, hT, hU, hl => by
    simp only [List.length_cons] at hl hU
    obtain ⟨hc, hK⟩ := hn a List.mem_cons_self
    obtain ⟨r, e, G⟩ := c_grown n ws hx hf hc hK (by have := hU.1; grind) (by omega)
    have ln := G.ln
    obtain ⟨g, t3', T', e2, g1, g2, g3, g4, g5, g6⟩ := loop_parts hx (s1 := s1) ns r (M + 3 * T) (.va (ND a)) (fun b hb => hn b (List.mem_cons_of_mem _ hb)) G.cf (by have := G.sa; grind) hU.2 (by omega)
    refine ⟨g, t3', T', ?_, g1, ?_, by simp only [List.length_cons]; omega, fun _ => ?_, g5, fun k h => g6 k ?_⟩
    · rw [List.map_cons, for_cons]
      simp! only [l_parts_of_sum_0, e]
      exact e2
    · rw [g2, G.sm]; simp only [sV]; grind
    · cases ns with
      | nil =>
        have : forX (callO P (n + 11)) (.nm 3) l_parts_of_sum_0 (List.map ND []) [.va (FO x), s1, .va (.tup (r.map ND)), .va (ND a)] ws = some (.nx, [.va (FO x), s1, .va (.tup (r.map ND)), .va (ND a)], ws) := rfl
        rw [this] at e2
        have e3 : r.map ND = g.map ND := by
          simp only [Option.some.injEq, Prod.mk.injEq, List.cons.injEq, Slot.va.injEq, D.tup.injEq] at e2
          exact e2.2.1.2.2.1
        have e4 : r = g := by
          have inj : ∀ a b : Nm, ND a = ND b → a = b := fun a b h => by cases a <;> cases b <;> simp_all [ND]
          exact List.map_inj_right (fun a b h => inj a b h) |>.mp e3
        rw [← e4]
        exact G.gd
      | cons b ns => exact g4 (by simp)
    · rw [List.length_cons, show ns.length + 1 + k = (ns.length + k) + 1 by omega] at h
      exact h.2
theorem c_parts_of_sum (hx : F4 x) {M : Rat} {ns : List Nm} (hn : ∀ a ∈ ns, Cn x a ∧ ab (vNm a) ≤ M) (h0 : ns ≠ []) (hU : okU (LL x) M 0 ns.length) (hl : ns.length ≤ 900) :
    ∃ (g : List Nm) (T' : Rat), callO P (n + 12) 116 [FO x, .tup (ns.map ND)] ws = some (.tup (g.map ND), ws) ∧ (∀ a ∈ g, Cn x a) ∧ sV g = sV ns ∧ g.length ≤ ns.length ∧ Gd g ∧ sA g ≤ T' ∧ (∀ k, okU (LL x) M 0 (ns.length + k) → okU (LL x) M T' k) := by
  obtain ⟨g, t3', T', e2, g1, g2, g3, g4, g5, g6⟩ := loop_parts n ws hx (s1 := .va (.tup (ns.map ND))) ns [] 0 .un hn (by simp) (by simp only [sA]; exact Rat.le_refl) hU (by simpa using hl)
  refine ⟨g, T', ?_, g1, by rw [g2]; simp only [sV]; grind, by simpa using g3, g4 h0, g5, g6⟩
  rw [call_at (d := d_parts_of_sum) rfl rfl]
  simp only [List.map_nil] at e2
  simp! only [d_parts_of_sum, b_parts_of_sum, e2]
/-! products -/
theorem loop_kp0 (hx : F4 x) {s1 s2 s4' : Slot} {a : Nm} (ha : Cn x a) {M : Rat} : ∀ (bs : List Nm) (f : List Nm) (T : Rat) (t5 t6 t7 : Slot), (∀ b ∈ bs, Cn x b ∧ TP x a b ∧ ab (vNm (pd x a b)) ≤ M ∧ ab (vNm (tp x a b)) ≤ M) → (∀ b ∈ f, Cn x b) → sA f ≤ T → okU (LL x) M T (2 * bs.length) → f.length + 2 * bs.length ≤ 900 →
    ∃ (g : List Nm) (t5' t6' t7' : Slot) (T' : Rat), forX (callO P (n + 11)) (.nm 5) l_kept_product_0 (bs.map ND) [.va (FO x), s1, s2, .va (.tup (f.map ND)), .va (ND a), t5, t6, t7] ws = some (.nx, [.va (FO x), s1, s2, .va (.tup (g.map ND)), .va (ND a), t5', t6', t7'], ws) ∧
      (∀ b ∈ g, Cn x b) ∧ sV g = sV f + vNm a * sV bs ∧ g.length ≤ f.length + 2 * bs.length ∧ (Gd f ∨ bs ≠ [] → Gd g) ∧ sA g ≤ T' ∧ (∀ k, okU (LL x) M T (2 * bs.length + k) → okU (LL x) M T' k)
  | [], f, T, t5, t6, t7, _, hf, hT, _, _ => ⟨f, t5, t6, t7, T, rfl, hf, by simp only [sV]; grind, Nat.le_refl _, fun h => h.resolve_right fun z => z rfl, hT, fun k h => by simpa using h⟩
  | b :: bs, f, T, t5, t6, t7, hn, hf, hT, hU, hl => by
    simp only [List.length_cons] at hl hU
    rw [show 2 * (bs.length + 1) = 2 * bs.length + 1 + 1 by omega] at hU
    obtain ⟨hc, tpk, hK1, hK2⟩ := hn b List.mem_cons_self
    have e := c_two_product (n + 1) ws hx ha hc tpk
    obtain ⟨r, e1, G⟩ := c_grown n ws hx hf tpk.y hK2 (by have := hU.1; grind) (by omega)
    have ln := G.ln
    have rT : sA r ≤ M + 3 * T := by have := G.sa; grind
    obtain ⟨r2, e2, G2⟩ := c_grown n ws hx G.cf tpk.s hK1 (by have := hU.2.1; grind) (by omega)
    have ln2 := G2.ln
    obtain ⟨g, t5', t6', t7', T', e3, g1, g2, g3, g4, g5, g6⟩ := loop_kp0 hx (s1 := s1) (s2 := s2) (s4' := s4') ha bs r2 (M + 3 * (M + 3 * T)) (.va (ND b)) (.va (ND (pd x a b))) (.va (ND (tp x a b))) (fun b hb => hn b (List.mem_cons_of_mem _ hb)) G2.cf (by have := G2.sa; grind) hU.2.2 (by omega)
    refine ⟨g, t5', t6', t7', T', ?_, g1, ?_, by simp only [List.length_cons]; omega, fun _ => g4 (.inl G2.gd), g5, fun k h => g6 k ?_⟩
    · rw [List.map_cons, for_cons]
      simp! only [l_kept_product_0, e, e1, e2]
      exact e3
    · rw [g2, G2.sm, G.sm, tpk.e]; simp only [sV]; grind
    · rw [List.length_cons, show 2 * (bs.length + 1) + k = (2 * bs.length + k) + 1 + 1 by omega] at h
      exact h.2.2
theorem loop_kp1 (hx : F4 x) {s1 : Slot} {bs : List Nm} (hb : bs ≠ []) {M : Rat} : ∀ (as : List Nm) (f : List Nm) (T : Rat) (t4 t5 t6 t7 : Slot), (∀ a ∈ as, Cn x a ∧ ∀ b ∈ bs, Cn x b ∧ TP x a b ∧ ab (vNm (pd x a b)) ≤ M ∧ ab (vNm (tp x a b)) ≤ M) → (∀ b ∈ f, Cn x b) → sA f ≤ T → okU (LL x) M T (2 * bs.length * as.length) → f.length + 2 * bs.length * as.length ≤ 900 →
    ∃ (g : List Nm) (t4' t5' t6' t7' : Slot), forX (callO P (n + 11)) (.nm 4) l_kept_product_1 (as.map ND) [.va (FO x), s1, .va (.tup (bs.map ND)), .va (.tup (f.map ND)), t4, t5, t6, t7] ws = some (.nx, [.va (FO x), s1, .va (.tup (bs.map ND)), .va (.tup (g.map ND)), t4', t5', t6', t7'], ws) ∧
      (∀ b ∈ g, Cn x b) ∧ sV g = sV f + sV as * sV bs ∧ g.length ≤ f.length + 2 * bs.length * as.length ∧ (Gd f ∨ as ≠ [] → Gd g)
  | [], f, T, t4, t5, t6, t7, _, hf, hT, _, _ => ⟨f, t4, t5, t6, t7, rfl, hf, by simp only [sV]; grind, by simp, fun h => h.resolve_right fun z => z rfl⟩
  | a :: as, f, T, t4, t5, t6, t7, hn, hf, hT, hU, hl => by
    simp only [List.length_cons] at hl hU
    rw [show 2 * bs.length * (as.length + 1) = 2 * bs.length + 2 * bs.length * as.length by rw [Nat.mul_add]; omega] at hU hl
    obtain ⟨ha, hbs⟩ := hn a List.mem_cons_self
    have hU1 : ∀ (j : Nat) {T : Rat} {k : Nat}, okU (LL x) M T (k + j) → okU (LL x) M T k := by
      intro j T k
      induction k generalizing T with
      | zero => exact fun _ => trivial
      | succ k ih =>
        intro h
        rw [show k + 1 + j = k + j + 1 by omega] at h
        exact ⟨h.1, ih h.2⟩
    obtain ⟨g, t5', t6', t7', T', e, g1, g2, g3, g4, g5, g6⟩ := loop_kp0 n ws hx (s1 := s1) (s2 := .va (.tup (bs.map ND))) (s4' := t4) ha bs f T t5 t6 t7 hbs hf hT (hU1 _ hU) (by omega)
    obtain ⟨g', u4, u5, u6, u7, e2, k1, k2, k3, k4⟩ := loop_kp1 hx (s1 := s1) hb as g T' (.va (ND a)) t5' t6' t7' (fun b hb => hn b (List.mem_cons_of_mem _ hb)) g1 g5 (g6 _ hU) (by omega)
    refine ⟨g', u4, u5, u6, u7, ?_, k1, ?_, ?_, fun _ => k4 (.inl (g4 (.inr hb)))⟩
    · rw [List.map_cons, for_cons]
      simp! only [l_kept_product_1, e]
      exact e2
    · rw [k2, g2]; simp only [sV]; grind
    · simp only [List.length_cons]
      rw [show 2 * bs.length * (as.length + 1) = 2 * bs.length + 2 * bs.length * as.length by rw [Nat.mul_add]; omega]
      omega
theorem c_kept_product (hx : F4 x) {as bs : List Nm} (hb : bs ≠ []) (h0 : as ≠ []) {M : Rat} (hn : ∀ a ∈ as, Cn x a ∧ ∀ b ∈ bs, Cn x b ∧ TP x a b ∧ ab (vNm (pd x a b)) ≤ M ∧ ab (vNm (tp x a b)) ≤ M) (hU : okU (LL x) M 0 (2 * bs.length * as.length)) (hl : 2 * bs.length * as.length ≤ 900) :
    ∃ (g : List Nm), callO P (n + 12) 122 [FO x, .tup (as.map ND), .tup (bs.map ND)] ws = some (.tup (g.map ND), ws) ∧ (∀ a ∈ g, Cn x a) ∧ sV g = sV as * sV bs ∧ Gd g ∧ g.length ≤ 2 * bs.length * as.length := by
  obtain ⟨g, u4, u5, u6, u7, e2, k1, k2, k3, k4⟩ := loop_kp1 n ws hx (s1 := .va (.tup (as.map ND))) hb as [] 0 .un .un .un .un hn (by simp) (by simp only [sA]; exact Rat.le_refl) hU (by simpa using hl)
  refine ⟨g, ?_, k1, by rw [k2]; simp only [sV]; grind, k4 (.inr h0), by simpa using k3⟩
  rw [call_at (d := d_kept_product) rfl rfl]
  simp only [List.map_nil] at e2
  simp! only [d_kept_product, b_kept_product, e2]
end
end Pv.K44


set_option Elab.async false
set_option linter.all false
set_option maxRecDepth 100000
set_option exponentiation.threshold 20
/-! N5: what the law reckons itself. -/
namespace Pv.K44
open Pv
local macro_rules
  | `(tactic| simp! only [$xs,*]) => `(tactic| simp only [ev.eq_1, ev.eq_2, ev.eq_3, ev.eq_4, ev.eq_5, ev.eq_6, ev.eq_7, ev.eq_8, ev.eq_9, ev.eq_10, ev.eq_11, ev.eq_12, ev.eq_13, ev.eq_14, ev.eq_15, ev.eq_16, ev.eq_17, ev.eq_18, ev.eq_19, ev.eq_20, ev.eq_21, ev.eq_22, ev.eq_23, ev.eq_24, ev.eq_25, ev.eq_26, ev.eq_27, ev.eq_28, ev.eq_29, ev.eq_30, ev.eq_35, evs, evT, exec.eq_1, exec.eq_2, exec.eq_3, exec.eq_4, exec.eq_5, exec.eq_6, exec.eq_7, exec.eq_8, exec.eq_9, exec.eq_10, exec.eq_11, exec.eq_12, exec.eq_13, exec.eq_14, exec.eq_15, exec.eq_16, exec.eq_19, exec.eq_20, exec.eq_21, exec.eq_22, exec.eq_23, execs, x_whl, x_for, x_comp, x_compIf, x_comp2, x_comp2If, bor, vi, mkEnv, eg, es, frzA, frzS, bn, bt, bq, bind_F, setAll, setAllT, bind1, setPar, wipeE, tgs, b_add, b_sub, b_mul, b_fdiv, b_mod, b_shl, b_shr, b_pow, b_tup, b_lst, o_lt, o_le, o_gt, o_ge, o_eqi, o_nei, o_neb, sl_a, sl_b, sl_bl, sl_c, cmp_nil, cmp_cons, cmpY_nil, cmpY_cons, ixW_3, ixL_0, ixL_1, ixL_2, ixL_3, btl, o_isb, o_eqs, o_nes, o_int, o_nit, isF_s, isF_i, deq_ss, deq_ii, List.all_cons, List.all_nil, List.any_cons, List.any_nil, Nat.reduceEqDiff, Int.reduceEq, u_len1, u_len2, u_len3, u_abs, u_int, u_intb, u_lst1, u_lst2, u_lst3, u_tup, u_max, u_min, s_int, s_bl, s_tup, s_lst, s_non, s_str, a_add, a_sub, i_tup, i_lst, r_bl, r_int, fin, chk_own, chk_some, isN, bnd, iN_non, iN_int, iN_bl, iN_str, iN_tup, iN_lst, iN_F, ixW_0, ixW_1, ixW_2, F_0, F_1, ixW_w, wg_1, wg_0, wp_0, List.map, List.length, List.replicate, List.cons_append, List.nil_append, List.append_nil, Nat.reduceSub, Nat.reduceAdd, Nat.sub_self, Nat.sub_zero, if_true, Bool.false_eq_true, if_false, reduceIte, ite_true, ite_false, Bool.and_self, Bool.and_true, Bool.true_and, Bool.not_true, Bool.not_false, Nat.reduceLT, Nat.reduceLeDiff, decide_true, decide_false, Int.reduceLT, Int.reduceLE, Int.reduceAdd, Int.reduceSub, Int.reduceNeg, Bool.or_true, Bool.or_false, Bool.true_or, Bool.false_or, Bool.and_false, Bool.false_and, $xs,*])
  | `(tactic| simp! only) => `(tactic| simp only [ev.eq_1, ev.eq_2, ev.eq_3, ev.eq_4, ev.eq_5, ev.eq_6, ev.eq_7, ev.eq_8, ev.eq_9, ev.eq_10, ev.eq_11, ev.eq_12, ev.eq_13, ev.eq_14, ev.eq_15, ev.eq_16, ev.eq_17, ev.eq_18, ev.eq_19, ev.eq_20, ev.eq_21, ev.eq_22, ev.eq_23, ev.eq_24, ev.eq_25, ev.eq_26, ev.eq_27, ev.eq_28, ev.eq_29, ev.eq_30, ev.eq_35, evs, evT, exec.eq_1, exec.eq_2, exec.eq_3, exec.eq_4, exec.eq_5, exec.eq_6, exec.eq_7, exec.eq_8, exec.eq_9, exec.eq_10, exec.eq_11, exec.eq_12, exec.eq_13, exec.eq_14, exec.eq_15, exec.eq_16, exec.eq_19, exec.eq_20, exec.eq_21, exec.eq_22, exec.eq_23, execs, x_whl, x_for, x_comp, x_compIf, x_comp2, x_comp2If, bor, vi, mkEnv, eg, es, frzA, frzS, bn, bt, bq, bind_F, setAll, setAllT, bind1, setPar, wipeE, tgs, b_add, b_sub, b_mul, b_fdiv, b_mod, b_shl, b_shr, b_pow, b_tup, b_lst, o_lt, o_le, o_gt, o_ge, o_eqi, o_nei, o_neb, sl_a, sl_b, sl_bl, sl_c, cmp_nil, cmp_cons, cmpY_nil, cmpY_cons, ixW_3, ixL_0, ixL_1, ixL_2, ixL_3, btl, o_isb, o_eqs, o_nes, o_int, o_nit, isF_s, isF_i, deq_ss, deq_ii, List.all_cons, List.all_nil, List.any_cons, List.any_nil, Nat.reduceEqDiff, Int.reduceEq, u_len1, u_len2, u_len3, u_abs, u_int, u_intb, u_lst1, u_lst2, u_lst3, u_tup, u_max, u_min, s_int, s_bl, s_tup, s_lst, s_non, s_str, a_add, a_sub, i_tup, i_lst, r_bl, r_int, fin, chk_own, chk_some, isN, bnd, iN_non, iN_int, iN_bl, iN_str, iN_tup, iN_lst, iN_F, ixW_0, ixW_1, ixW_2, F_0, F_1, ixW_w, wg_1, wg_0, wp_0, List.map, List.length, List.replicate, List.cons_append, List.nil_append, List.append_nil, Nat.reduceSub, Nat.reduceAdd, Nat.sub_self, Nat.sub_zero, if_true, Bool.false_eq_true, if_false, reduceIte, ite_true, ite_false, Bool.and_self, Bool.and_true, Bool.true_and, Bool.not_true, Bool.not_false, Nat.reduceLT, Nat.reduceLeDiff, decide_true, decide_false, Int.reduceLT, Int.reduceLE, Int.reduceAdd, Int.reduceSub, Int.reduceNeg, Bool.or_true, Bool.or_false, Bool.true_or, Bool.false_or, Bool.and_false, Bool.false_and])
variable (n : Nat) (ws : WS)
/-! sums of fractions -/
def sumF (s : Rat) (xs : List Rat) : Rat := xs.foldl (· + ·) s
theorem loop_sum2 {L : D} {j : Nat} (hj : j ≤ 4000) : ∀ {xs : List Rat} {s : Rat} {k : Nat} {t u : Slot}, Z k s → (∀ x ∈ xs, Z j x) → k + xs.length * (j + 1) ≤ 4000 →
    ∃ t' u', forX (callO P (n + 1)) (.tp [3, 4]) l__law_sum_2_0 (xs.map F) [.va L, .va (.int s.num), .va (.int s.den), t, u] ws =
      some (.nx, [.va L, .va (.int (sumF s xs).num), .va (.int (sumF s xs).den), t', u'], ws)
  | [], s, k, t, u, h, _, _ => ⟨t, u, rfl⟩
  | x :: xs, s, k, t, u, h, hx, hl => by
    rw [List.length_cons, Nat.add_mul] at hl
    have hx0 := hx x List.mem_cons_self
    obtain ⟨t', u', e⟩ := loop_sum2 (L := L) hj (t := .va (.int x.num)) (u := .va (.int x.den)) (Z_add h hx0) (fun y hy => hx y (List.mem_cons_of_mem _ hy)) (by omega)
    refine ⟨t', u', ?_⟩
    have h1 := h.mono (by omega : k ≤ 4000)
    have h2 := hx0.mono hj
    rw [List.map_cons, for_cons]
    simp! only [l__law_sum_2_0, okZ1 h1, okZ2 h1, okZ1 h2, okZ2 h2]
    rw [c__law_least n _ _ ws (den_mul s x) (p3 (k := 0) (mul_lt (den_lt h1) (den_lt h2))), ← add_eq]
    simp! only
    exact e
theorem c_sumL {xs : List Rat} {j : Nat} (hx : ∀ x ∈ xs, Z j x) (hj : j ≤ 4000) (hl : xs.length * (j + 1) ≤ 3999) : callO P (n + 2) 124 [.lst (xs.map F)] ws = some (F (sumF 0 xs), ws) := by
  obtain ⟨t, u, e⟩ := loop_sum2 n ws (L := .lst (xs.map F)) hj (t := .un) (u := .un) (k := 1) (s := 0) ⟨by decide, by decide⟩ hx (by omega)
  have e0 : (0 : Rat).num = 0 := rfl
  have e1 : (((0 : Rat).den : Nat) : Int) = 1 := rfl
  rw [e0, e1] at e
  rw [call_at (d := d__law_sum_2) rfl rfl]
  simp! only [d__law_sum_2, b__law_sum_2, e]
  rfl
theorem sumF_add : ∀ (xs : List Rat) (s : Rat), sumF s xs = s + sumF 0 xs
  | [], s => by simp only [sumF, List.foldl]; grind
  | x :: xs, s => by
    have h1 := sumF_add xs (s + x)
    have h2 := sumF_add xs (0 + x)
    simp only [sumF, List.foldl] at h1 h2 ⊢
    rw [h1, h2]
    grind
theorem sumF_sV : ∀ l : List Nm, sumF 0 (l.map vNm) = sV l
  | [] => rfl
  | a :: l => by
    have h := sumF_add (l.map vNm) (0 + vNm a)
    have h2 := sumF_sV l
    simp only [sumF, List.map_cons, List.foldl_cons, sV] at h h2 ⊢
    rw [h, h2]
    grind
section
variable {x : Fo}
theorem c_lval (hx : F4 x) {a : Nm} (h : Cn x a) : callO P (n + 2) 125 [ND a] ws = some (F (vNm a), ws) := by
  have f := hx.f
  have g := hx.g
  have d8 := hx.d8
  cases a with
  | o s =>
    rw [call_at (d := d__law_val_2) rfl rfl]
    simp! only [ND, d__law_val_2, b__law_val_2]
    rfl
  | e s => exact absurd h id
  | n s w p =>
    obtain ⟨h1, w0, w1, _, p1, p2⟩ := h
    have hw := p2n w0 w1 (show x.d.toNat ≤ 8 by omega)
    have o2 : okI 2 = true := okI_s (by decide)
    have os : okI s = true := okI_s (by omega)
    have ow : okI w = true := okI_of (p3 (k := 0) (i := 8) hw (by decide))
    have o1 : okI (1 - 2 * s) = true := okI_s (by omega)
    have sv : ((1 - 2 * s) * w : Int) = if s = 1 then -w else w := by
      rcases h1 with rfl | rfl
      · rw [if_neg (by decide)]; omega
      · rw [if_pos rfl]; omega
    rw [call_at (d := d__law_val_2) rfl rfl]
    by_cases c : 0 ≤ p
    · have c2 : p ≤ 100000 := by omega
      have e := c__law_least n ((1 - 2 * s) * w * 2 ^ p.toNat) 1 ws (by decide) (by decide)
      have v : Rat.divInt ((1 - 2 * s) * w * 2 ^ p.toNat) 1 = vN s w p := by
        have h2 : Rat.divInt ((1 - 2 * s) * w * 2 ^ p.toNat) 1 = rI ((1 - 2 * s) * w * 2 ^ p.toNat) := rfl
        rw [h2, rI_c, Rat.intCast_mul, ← pw_nat p c, sv]
        unfold vN
        rw [rI_c]
        split
        · rw [Rat.intCast_neg, Rat.neg_mul]
        · rfl
      rw [v] at e
      have ob : decide (((1 - 2 * s) * w).natAbs < 18446744073709551616) = true := decide_eq_true (by rw [sv]; split <;> omega)
      simp! only [ND, d__law_val_2, b__law_val_2, o2, os, ow, o1, ob, decide_eq_true c, decide_eq_true c2, e]
      rfl
    · have c1 : 0 ≤ 0 - p := by omega
      have c2 : 0 - p ≤ 100000 := by omega
      have e := c__law_least n ((1 - 2 * s) * w) (1 * 2 ^ (0 - p).toNat) ws (by rw [Int.one_mul]; exact pos2 _) (by
        rw [Int.one_mul, Int.natAbs_pow]
        exact Nat.pow_lt_pow_right (by decide) (by omega))
      have v : Rat.divInt ((1 - 2 * s) * w) (1 * 2 ^ (0 - p).toNat) = vN s w p := by
        have h2 : pw p = Rat.divInt 1 (2 ^ (0 - p).toNat) := by unfold pw; rw [if_neg c, Int.zero_sub]
        have h3 := Rat.divInt_mul_divInt ((1 - 2 * s) * w) 1 (d₁ := 1) (d₂ := 2 ^ (0 - p).toNat)
        rw [← h2, Int.mul_one] at h3
        rw [← h3, ← rI, rI_c, sv]
        unfold vN
        rw [rI_c]
        split
        · rw [Rat.intCast_neg, Rat.neg_mul]
        · rfl
      rw [v] at e
      simp! only [ND, d__law_val_2, b__law_val_2, o2, os, ow, o1, decide_eq_false c, decide_eq_true c1, decide_eq_true c2, Int.natAbs_one, e]
      rfl
theorem c_lmul {p q : Rat} (hp : Z 4000 p) (hq : Z 4000 q) : callO P (n + 2) 126 [F p, F q] ws = some (F (p * q), ws) := by
  rw [call_at (d := d__law_mul_2) rfl rfl]
  simp! only [d__law_mul_2, b__law_mul_2, okZ1 hp, okZ1 hq, okZ2 hp, okZ2 hq]
  rw [c__law_least n _ _ ws (den_mul p q) (p3 (k := 0) (mul_lt (den_lt hp) (den_lt hq))), ← mul_eq]
  simp! only
theorem all_cmp (hx : F4 x) {l : List Nm} {env : Env} {s : Slot} (hl : ∀ a ∈ l, Cn x a) : cmpX (callO P (n + 2)) (.nm 1) x__law_all_0 [s, .un] (l.map ND) ws = some (l.map fun a => F (vNm a), ws) :=
  cmp_map fun a ha => ⟨[s, .va (ND a)], rfl, by simp! only [x__law_all_0, c_lval n ws hx (hl a ha)]⟩
theorem c_allT (hx : F4 x) {l : List Nm} (hl : ∀ a ∈ l, Cn x a) (hn : l.length ≤ 90) : callO P (n + 3) 130 [.tup (l.map ND)] ws = some (F (sV l), ws) := by
  have o1 : okLen (l.map ND).length = true := by rw [List.length_map]; exact okLen_of (by omega)
  have e := c_sumL n ws (xs := l.map vNm) (j := 40) (fun q hq => by obtain ⟨a, ha, rfl⟩ := List.mem_map.mp hq; exact Z_nm hx (hl a ha)) (by decide) (by rw [List.length_map]; omega)
  rw [sumF_sV, List.map_map] at e
  rw [call_at (d := d__law_all) rfl rfl]
  have e2 := all_cmp n ws hx (env := []) (s := .va (.tup (l.map ND))) hl
  have e : callO P (n + 2) 124 [.lst (l.map fun a => F (vNm a))] ws = some (F (sV l), ws) := e
  simp! only [d__law_all, b__law_all, o1, e2, e]
theorem c_allL (hx : F4 x) {l : List Nm} (hl : ∀ a ∈ l, Cn x a) (hn : l.length ≤ 90) : callO P (n + 3) 130 [.lst (l.map ND)] ws = some (F (sV l), ws) := by
  have o1 : okLen (l.map ND).length = true := by rw [List.length_map]; exact okLen_of (by omega)
  have e := c_sumL n ws (xs := l.map vNm) (j := 40) (fun q hq => by obtain ⟨a, ha, rfl⟩ := List.mem_map.mp hq; exact Z_nm hx (hl a ha)) (by decide) (by rw [List.length_map]; omega)
  rw [sumF_sV, List.map_map] at e
  rw [call_at (d := d__law_all) rfl rfl]
  have e2 := all_cmp n ws hx (env := []) (s := .va (.lst (l.map ND))) hl
  have e : callO P (n + 2) 124 [.lst (l.map fun a => F (vNm a))] ws = some (F (sV l), ws) := e
  simp! only [d__law_all, b__law_all, o1, e2, e]
theorem l_22 : decide (((2 : Nat) : Int) = 2) = true := rfl
theorem l_44 : decide (((4 : Nat) : Int) = 4) = true := rfl
theorem no_nil (s : Int) : cop .eq (nO s) (.tup []) = some false := rfl
theorem nn_nil (s w p : Int) : cop .eq (nN s w p) (.tup []) = some false := rfl
theorem c_is_of (hx : F4 x) {a : Nm} (h : Cn x a) : callO P (n + 3) 104 [FO x, ND a] ws = some (.bl true, ws) := by
  have d0 : 0 ≤ x.d := by have := hx.d3; omega
  have d2 : x.d ≤ 100000 := by have := hx.d8; omega
  have d0' : 0 ≤ x.d - 1 := by have := hx.d3; omega
  have d2' : x.d - 1 ≤ 100000 := by have := hx.d8; omega
  have num : ∀ (m : Nat) (i : Int), callO P (m + 1) 102 [.int i] ws = some (.bl true, ws) := fun m i => by
    rw [call_at (d := d_is_number) rfl rfl]
    simp! only [d_is_number, b_is_number]
  have frm : ∀ (m : Nat) (i j : Int), callO P (m + 2) 103 [.int i, .int j] ws = some (.bl (decide (j ≤ i)), ws) := fun m i j => by
    rw [call_at (d := d_is_from) rfl rfl]
    simp! only [d_is_from, b_is_from, num]
  have sgn : ∀ (m : Nat) {i : Int}, i = 0 ∨ i = 1 → callO P (m + 2) 105 [.int i] ws = some (.bl true, ws) := fun m i hi => by
    rw [call_at (d := d_is_sign) rfl rfl]
    rcases hi with rfl | rfl <;> simp! only [d_is_sign, b_is_sign, num]
  cases a with
  | o s =>
    have h : s = 0 ∨ s = 1 := h
    rw [call_at (d := d_is_of) rfl rfl]
    simp! only [ND, d_is_of, b_is_of, no_nil, nn_nil, l_22, l_44, sgn n h]
  | e s => exact absurd h id
  | n s w p =>
    obtain ⟨h1, w0, w1, hh, p1, p2⟩ := h
    have q1 : 1 ≤ w := by omega
    rw [call_at (d := d_is_of) rfl rfl]
    rcases hh with hh | hh
    · simp! only [ND, d_is_of, b_is_of, no_nil, nn_nil, l_22, l_44, sgn n h1, frm n, num, decide_eq_true q1, decide_eq_true p1, decide_eq_true p2, decide_eq_true d0, decide_eq_true d2, decide_eq_true d0', decide_eq_true d2', Int.natAbs_one, Int.one_mul, decide_eq_true w1, decide_eq_true hh]
    · by_cases hw : 2 ^ (x.d - 1).toNat ≤ w
      · simp! only [ND, d_is_of, b_is_of, no_nil, nn_nil, l_22, l_44, sgn n h1, frm n, num, decide_eq_true q1, decide_eq_true p1, decide_eq_true p2, decide_eq_true d0, decide_eq_true d2, decide_eq_true d0', decide_eq_true d2', Int.natAbs_one, Int.one_mul, decide_eq_true w1, decide_eq_true hw]
      · simp! only [ND, d_is_of, b_is_of, no_nil, nn_nil, l_22, l_44, sgn n h1, frm n, num, decide_eq_true q1, decide_eq_true p1, decide_eq_true p2, decide_eq_true d0, decide_eq_true d2, decide_eq_true d0', decide_eq_true d2', Int.natAbs_one, Int.one_mul, decide_eq_true w1, decide_eq_false hw, decide_eq_true hh]
end
end Pv.K44


set_option Elab.async false
set_option linter.all false
set_option maxRecDepth 100000
set_option exponentiation.threshold 20
/-! N6: parts apart, good parts. -/
namespace Pv.K44
open Pv
local macro_rules
  | `(tactic| simp! only [$xs,*]) => `(tactic| simp only [ev.eq_1, ev.eq_2, ev.eq_3, ev.eq_4, ev.eq_5, ev.eq_6, ev.eq_7, ev.eq_8, ev.eq_9, ev.eq_10, ev.eq_11, ev.eq_12, ev.eq_13, ev.eq_14, ev.eq_15, ev.eq_16, ev.eq_17, ev.eq_18, ev.eq_19, ev.eq_20, ev.eq_21, ev.eq_22, ev.eq_23, ev.eq_24, ev.eq_25, ev.eq_26, ev.eq_27, ev.eq_28, ev.eq_29, ev.eq_30, ev.eq_35, evs, evT, exec.eq_1, exec.eq_2, exec.eq_3, exec.eq_4, exec.eq_5, exec.eq_6, exec.eq_7, exec.eq_8, exec.eq_9, exec.eq_10, exec.eq_11, exec.eq_12, exec.eq_13, exec.eq_14, exec.eq_15, exec.eq_16, exec.eq_19, exec.eq_20, exec.eq_21, exec.eq_22, exec.eq_23, execs, x_whl, x_for, x_comp, x_compIf, x_comp2, x_comp2If, bor, vi, mkEnv, eg, es, frzA, frzS, bn, bt, bq, bind_F, setAll, setAllT, bind1, setPar, wipeE, tgs, b_add, b_sub, b_mul, b_fdiv, b_mod, b_shl, b_shr, b_pow, b_tup, b_lst, o_lt, o_le, o_gt, o_ge, o_eqi, o_nei, o_neb, sl_a, sl_b, sl_bl, sl_c, cmp_nil, cmp_cons, cmpY_nil, cmpY_cons, ixW_3, ixL_0, ixL_1, ixL_2, ixL_3, btl, o_isb, o_eqs, o_nes, o_int, o_nit, isF_s, isF_i, deq_ss, deq_ii, List.all_cons, List.all_nil, List.any_cons, List.any_nil, Nat.reduceEqDiff, Int.reduceEq, u_len1, u_len2, u_len3, u_abs, u_int, u_intb, u_lst1, u_lst2, u_lst3, u_tup, u_max, u_min, s_int, s_bl, s_tup, s_lst, s_non, s_str, a_add, a_sub, i_tup, i_lst, r_bl, r_int, fin, chk_own, chk_some, isN, bnd, iN_non, iN_int, iN_bl, iN_str, iN_tup, iN_lst, iN_F, ixW_0, ixW_1, ixW_2, F_0, F_1, ixW_w, wg_1, wg_0, wp_0, List.map, List.length, List.replicate, List.cons_append, List.nil_append, List.append_nil, Nat.reduceSub, Nat.reduceAdd, Nat.sub_self, Nat.sub_zero, if_true, Bool.false_eq_true, if_false, reduceIte, ite_true, ite_false, Bool.and_self, Bool.and_true, Bool.true_and, Bool.not_true, Bool.not_false, Nat.reduceLT, Nat.reduceLeDiff, decide_true, decide_false, Int.reduceLT, Int.reduceLE, Int.reduceAdd, Int.reduceSub, Int.reduceNeg, Bool.or_true, Bool.or_false, Bool.true_or, Bool.false_or, Bool.and_false, Bool.false_and, $xs,*])
  | `(tactic| simp! only) => `(tactic| simp only [ev.eq_1, ev.eq_2, ev.eq_3, ev.eq_4, ev.eq_5, ev.eq_6, ev.eq_7, ev.eq_8, ev.eq_9, ev.eq_10, ev.eq_11, ev.eq_12, ev.eq_13, ev.eq_14, ev.eq_15, ev.eq_16, ev.eq_17, ev.eq_18, ev.eq_19, ev.eq_20, ev.eq_21, ev.eq_22, ev.eq_23, ev.eq_24, ev.eq_25, ev.eq_26, ev.eq_27, ev.eq_28, ev.eq_29, ev.eq_30, ev.eq_35, evs, evT, exec.eq_1, exec.eq_2, exec.eq_3, exec.eq_4, exec.eq_5, exec.eq_6, exec.eq_7, exec.eq_8, exec.eq_9, exec.eq_10, exec.eq_11, exec.eq_12, exec.eq_13, exec.eq_14, exec.eq_15, exec.eq_16, exec.eq_19, exec.eq_20, exec.eq_21, exec.eq_22, exec.eq_23, execs, x_whl, x_for, x_comp, x_compIf, x_comp2, x_comp2If, bor, vi, mkEnv, eg, es, frzA, frzS, bn, bt, bq, bind_F, setAll, setAllT, bind1, setPar, wipeE, tgs, b_add, b_sub, b_mul, b_fdiv, b_mod, b_shl, b_shr, b_pow, b_tup, b_lst, o_lt, o_le, o_gt, o_ge, o_eqi, o_nei, o_neb, sl_a, sl_b, sl_bl, sl_c, cmp_nil, cmp_cons, cmpY_nil, cmpY_cons, ixW_3, ixL_0, ixL_1, ixL_2, ixL_3, btl, o_isb, o_eqs, o_nes, o_int, o_nit, isF_s, isF_i, deq_ss, deq_ii, List.all_cons, List.all_nil, List.any_cons, List.any_nil, Nat.reduceEqDiff, Int.reduceEq, u_len1, u_len2, u_len3, u_abs, u_int, u_intb, u_lst1, u_lst2, u_lst3, u_tup, u_max, u_min, s_int, s_bl, s_tup, s_lst, s_non, s_str, a_add, a_sub, i_tup, i_lst, r_bl, r_int, fin, chk_own, chk_some, isN, bnd, iN_non, iN_int, iN_bl, iN_str, iN_tup, iN_lst, iN_F, ixW_0, ixW_1, ixW_2, F_0, F_1, ixW_w, wg_1, wg_0, wp_0, List.map, List.length, List.replicate, List.cons_append, List.nil_append, List.append_nil, Nat.reduceSub, Nat.reduceAdd, Nat.sub_self, Nat.sub_zero, if_true, Bool.false_eq_true, if_false, reduceIte, ite_true, ite_false, Bool.and_self, Bool.and_true, Bool.true_and, Bool.not_true, Bool.not_false, Nat.reduceLT, Nat.reduceLeDiff, decide_true, decide_false, Int.reduceLT, Int.reduceLE, Int.reduceAdd, Int.reduceSub, Int.reduceNeg, Bool.or_true, Bool.or_false, Bool.true_or, Bool.false_or, Bool.and_false, Bool.false_and])
variable (n : Nat) (ws : WS)
/-! the last odd place -/
def odp : Nat → Int → Int → Int × Int
  | 0, w, p => (w, p)
  | k + 1, w, p => if w % 2 = 0 then odp k (w / 2) (p + 1) else (w, p)
theorem odp_bd : ∀ (k : Nat) (w p : Int), p ≤ (odp k w p).2 ∧ (odp k w p).2 ≤ p + k
  | 0, w, p => ⟨Int.le_refl _, by simp [odp]⟩
  | k + 1, w, p => by
    unfold odp
    split
    · have := odp_bd k (w / 2) (p + 1)
      omega
    · omega
theorem whl_parts {s0 s1 s2 s3 s4 : Slot} : ∀ (k m : Nat) (w p : Int), 0 < w → w < 2 ^ k → k + 1 ≤ m →
    whlX (callO P n) t_are_parts_3 l_are_parts_4 m [s0, s1, s2, s3, s4, .va (.int w), .va (.int p)] ws = some (.nx, [s0, s1, s2, s3, s4, .va (.int (odp k w p).1), .va (.int (odp k w p).2)], ws)
  | 0, m, w, p, h1, h2, _ => by simp at h2; omega
  | k + 1, m, w, p, h1, h2, hm => by
    obtain ⟨m, rfl⟩ : ∃ j, m = j + 1 := ⟨m - 1, by omega⟩
    by_cases c : w % 2 = 0
    · rw [whl_go (ws1 := ws) (ws2 := ws) (env2 := [s0, s1, s2, s3, s4, .va (.int (w / 2)), .va (.int (p + 1))]) (by simp! only [t_are_parts_3, decide_eq_true c]) (by have o2 : okI 2 = true := okI_s (by decide); simp! only [l_are_parts_4, o2])]
      rw [whl_parts k m (w / 2) (p + 1) (by omega) (by rw [Int.pow_succ] at h2; omega) (by omega)]
      unfold odp
      rw [if_pos c]
      cases k <;> rfl
    · rw [whl_stop (ws1 := ws) (by simp! only [t_are_parts_3, decide_eq_false c])]
      unfold odp
      rw [if_neg c]
theorem whl_apart {s0 s1 s2 s3 : Slot} : ∀ (k m : Nat) (w p : Int), 0 < w → w < 2 ^ k → k + 1 ≤ m →
    whlX (callO P n) t__law_apart_2 l__law_apart_3 m [s0, s1, s2, s3, .va (.int w), .va (.int p)] ws = some (.nx, [s0, s1, s2, s3, .va (.int (odp k w p).1), .va (.int (odp k w p).2)], ws)
  | 0, m, w, p, h1, h2, _ => by simp at h2; omega
  | k + 1, m, w, p, h1, h2, hm => by
    obtain ⟨m, rfl⟩ : ∃ j, m = j + 1 := ⟨m - 1, by omega⟩
    by_cases c : w % 2 = 0
    · rw [whl_go (ws1 := ws) (ws2 := ws) (env2 := [s0, s1, s2, s3, .va (.int (w / 2)), .va (.int (p + 1))]) (by simp! only [t__law_apart_2, decide_eq_true c]) (by have o2 : okI 2 = true := okI_s (by decide); simp! only [l__law_apart_3, o2])]
      rw [whl_apart k m (w / 2) (p + 1) (by omega) (by rw [Int.pow_succ] at h2; omega) (by omega)]
      unfold odp
      rw [if_pos c]
      cases k <;> rfl
    · rw [whl_stop (ws1 := ws) (by simp! only [t__law_apart_2, decide_eq_false c])]
      unfold odp
      rw [if_neg c]
section
variable {x : Fo}
def wN : Nm → Int
  | .n _ w _ => w
  | _ => 0
def pN : Nm → Int
  | .n _ _ p => p
  | _ => 0
/-- whether the k-th lies below the one ahead -/
def apt (rs : List Nm) (k : Nat) : Bool := decide (ab (vNm (rs.getD k (.o 0))) < pw (odp 8 (wN (rs.getD (k + 1) (.o 0))) (pN (rs.getD (k + 1) (.o 0)))).2)
theorem ix_2 {a : Nm} (h : notO a = true) (c : Cn x a) : ixW ws (ND a) (.int 2) = some (.int (wN a)) := by
  cases a with
  | o s => cases h
  | n s w p => rfl
  | e s => exact absurd c id
theorem ix_3 {a : Nm} (h : notO a = true) (c : Cn x a) : ixW ws (ND a) (.int 3) = some (.int (pN a)) := by
  cases a with
  | o s => cases h
  | n s w p => rfl
  | e s => exact absurd c id
theorem wp_bd (hx : F4 x) {a : Nm} (h : notO a = true) (c : Cn x a) : 0 < wN a ∧ wN a < 2 ^ 8 ∧ -30 ≤ pN a ∧ pN a ≤ 30 := by
  have f := hx.f
  have g := hx.g
  have d8 := hx.d8
  cases a with
  | o s => cases h
  | n s w p =>
    obtain ⟨_, w0, w1, _, p1, p2⟩ := c
    have := p2m (show x.d.toNat ≤ 8 by omega)
    exact ⟨w0, by show w < 2 ^ 8; omega, by show -30 ≤ p; omega, by show p ≤ 30; omega⟩
  | e s => exact absurd c id
theorem ix_k {rs : List Nm} {k : Nat} {i : Int} (hi : i = (k : Int)) (h : k < rs.length) : ixW ws (.lst (rs.map ND)) (.int i) = some (ND (rs.getD k (.o 0))) := by
  show L2.atI (rs.map ND) i = _
  refine atI_of (j := k) hi ?_
  rw [List.getElem?_map, List.getElem?_eq_getElem h, List.getD_eq_getElem?_getD, List.getElem?_eq_getElem h]
  rfl
theorem getD_mem {rs : List Nm} {k : Nat} (h : k < rs.length) : rs.getD k (.o 0) ∈ rs := by
  rw [List.getD_eq_getElem?_getD, List.getElem?_eq_getElem h]
  exact List.getElem_mem h
/-- a walk that stops at the first that is not so -/
def stp (b : Bool) (env : Env) (ws : WS) : Out := if b then some (.nx, env, ws) else some (.rt (.bl false), env, ws)
theorem loop_ap (hx : F4 x) {s0 : Slot} {rs : List Nm} (hn : ∀ a ∈ rs, Cn x a ∧ notO a = true) : ∀ (ks : List Nat) (t2 t3 t4 t5 : Slot), (∀ k ∈ ks, k + 1 < rs.length) →
    ∃ env, forX (callO P (n + 2)) (.nm 2) l__law_apart_4 (ks.map fun k : Nat => D.int (1 + (k : Int))) [s0, .va (.lst (rs.map ND)), t2, t3, t4, t5] ws = stp (ks.all (apt rs)) env ws
  | [], t2, t3, t4, t5, _ => ⟨_, rfl⟩
  | k :: ks, t2, t3, t4, t5, hk => by
    have h1 := hk k List.mem_cons_self
    obtain ⟨c1, o1⟩ := hn _ (getD_mem h1)
    obtain ⟨c0, o0⟩ := hn _ (getD_mem (show k < rs.length by omega))
    have b := wp_bd hx o1 c1
    have e1 := ix_k ws (rs := rs) (k := k + 1) (i := 1 + (k : Int)) (by omega) h1
    have e0 := ix_k ws (rs := rs) (k := k) (i := 1 + (k : Int) - 1) (by omega) (by omega)
    have e2 := ix_2 ws o1 c1
    have e3 := ix_3 ws o1 c1
    have w := fun t3 => whl_apart (n + 2) ws (s0 := s0) (s1 := .va (.lst (rs.map ND))) (s2 := .va (.int (1 + (k : Int)))) (s3 := t3) 8 fuel (wN (rs.getD (k + 1) (.o 0))) (pN (rs.getD (k + 1) (.o 0))) b.1 b.2.1 (by decide)
    have ob := odp_bd 8 (wN (rs.getD (k + 1) (.o 0))) (pN (rs.getD (k + 1) (.o 0)))
    have v := c_lval n ws hx c0
    have z := Z_ab (Z_nm hx c0)
    have t := c__law_two (n + 1) ws (e := (odp 8 (wN (rs.getD (k + 1) (.o 0))) (pN (rs.getD (k + 1) (.o 0)))).2) (by omega) (by omega)
    have l := c__law_less (n + 1) ws (z.mono (show 40 ≤ 4000 by decide)) ((Z_pw (m := 50) (e := (odp 8 (wN (rs.getD (k + 1) (.o 0))) (pN (rs.getD (k + 1) (.o 0)))).2) (by omega) (by omega)).mono (show 51 ≤ 4000 by decide))
    have sz := c__law_size (n + 1) ws (vNm (rs.getD k (.o 0)))
    obtain ⟨env, ih⟩ := loop_ap hx (s0 := s0) hn ks (.va (.int (1 + (k : Int)))) t3 (.va (.int (odp 8 (wN (rs.getD (k + 1) (.o 0))) (pN (rs.getD (k + 1) (.o 0)))).1)) (.va (.int (odp 8 (wN (rs.getD (k + 1) (.o 0))) (pN (rs.getD (k + 1) (.o 0)))).2)) (fun j hj => hk j (List.mem_cons_of_mem _ hj))
    rw [List.map_cons]
    by_cases c : apt rs k = true
    · refine ⟨env, ?_⟩
      have c' : decide (ab (vNm (rs.getD k (.o 0))) < pw (odp 8 (wN (rs.getD (k + 1) (.o 0))) (pN (rs.getD (k + 1) (.o 0)))).2) = true := c
      rw [c'] at l
      rw [for_cons]
      simp! only [l__law_apart_4, e1, e0, e2, e3, w, v, t, l, sz, c]
      exact ih
    · have c2 : apt rs k = false := by simpa using c
      have c' : decide (ab (vNm (rs.getD k (.o 0))) < pw (odp 8 (wN (rs.getD (k + 1) (.o 0))) (pN (rs.getD (k + 1) (.o 0)))).2) = false := c2
      rw [c'] at l
      refine ⟨[s0, .va (.lst (rs.map ND)), .va (.int (1 + (k : Int))), t3, .va (.int (odp 8 (wN (rs.getD (k + 1) (.o 0))) (pN (rs.getD (k + 1) (.o 0)))).1), .va (.int (odp 8 (wN (rs.getD (k + 1) (.o 0))) (pN (rs.getD (k + 1) (.o 0)))).2)], ?_⟩
      rw [for_cons]
      simp! only [l__law_apart_4, e1, e0, e2, e3, w, v, t, l, sz, c2]
      rfl
theorem filt_ap (hx : F4 x) {env : Env} (l : List Nm) {s1 : Slot} {t4 t5 : Slot} {s2 : Slot} (hl : ∀ a ∈ l, Cn x a) : cmpY (callO P (n + 2)) (.nm 3) t__law_apart_0 x__law_apart_1 [s1, .un, .un, .un, .un, .un] (l.map ND) ws = some ((l.filter notO).map ND, ws) :=
  cmpY_map fun a ha => ⟨[s1, .un, .un, .va (ND a), .un, .un], rfl, by simp! only [t__law_apart_0, ix_0, kd_l, kd_o]; cases notO a <;> rfl, fun _ => by simp! only [x__law_apart_1]⟩
theorem c_apart (hx : F4 x) {l : List Nm} (hl : ∀ a ∈ l, Cn x a) (hn : l.length ≤ 90) : callO P (n + 3) 132 [.tup (l.map ND)] ws = some (.bl ((List.range ((l.filter notO).length - 1)).all (apt (l.filter notO))), ws) := by
  have o1 : okLen l.length = true := okLen_of (by omega)
  have fl : (l.filter notO).length ≤ 90 := Nat.le_trans (List.length_filter_le _ _) hn
  have e2 := filt_ap n ws hx (env := []) l (s1 := .va (.tup (l.map ND))) (t4 := .un) (t5 := .un) (s2 := .un) hl
  generalize hr : l.filter notO = rs at e2 fl
  have hrs : ∀ a ∈ rs, Cn x a ∧ notO a = true := fun a ha => by
    rw [← hr, List.mem_filter] at ha
    exact ⟨hl a ha.1, ha.2⟩
  obtain ⟨env, e⟩ := loop_ap n ws hx (s0 := .va (.tup (l.map ND))) hrs (List.range (rs.length - 1)) .un .un .un .un (fun k hk => by have := List.mem_range.mp hk; omega)
  have r1 : (-100000 : Int) ≤ (rs.length : Int) := by omega
  have r2 : (rs.length : Int) ≤ 100000 := by omega
  have r3 : ((rs.length : Int) - 1).toNat = rs.length - 1 := by omega
  have c1 : decide ((-100000 : Int) ≤ 1) = true := rfl
  have c2 : decide ((1 : Int) ≤ 100000) = true := rfl
  rw [call_at (d := d__law_apart) rfl rfl]
  cases q : (List.range (rs.length - 1)).all (apt rs) with
  | true =>
    rw [q] at e
    simp only [stp, if_true] at e
    simp! only [d__law_apart, b__law_apart, o1, e2, List.length_map, decide_eq_true r1, decide_eq_true r2, r3, c1, c2, e]
  | false =>
    rw [q] at e
    simp only [stp, Bool.false_eq_true, if_false] at e
    simp! only [d__law_apart, b__law_apart, o1, e2, List.length_map, decide_eq_true r1, decide_eq_true r2, r3, c1, c2, e]
end
end Pv.K44


set_option Elab.async false
set_option linter.all false
set_option maxRecDepth 100000
set_option exponentiation.threshold 20
/-! N7: the program's parts apart; good parts. -/
namespace Pv.K44
open Pv
local macro_rules
  | `(tactic| simp! only [$xs,*]) => `(tactic| simp only [ev.eq_1, ev.eq_2, ev.eq_3, ev.eq_4, ev.eq_5, ev.eq_6, ev.eq_7, ev.eq_8, ev.eq_9, ev.eq_10, ev.eq_11, ev.eq_12, ev.eq_13, ev.eq_14, ev.eq_15, ev.eq_16, ev.eq_17, ev.eq_18, ev.eq_19, ev.eq_20, ev.eq_21, ev.eq_22, ev.eq_23, ev.eq_24, ev.eq_25, ev.eq_26, ev.eq_27, ev.eq_28, ev.eq_29, ev.eq_30, ev.eq_35, evs, evT, exec.eq_1, exec.eq_2, exec.eq_3, exec.eq_4, exec.eq_5, exec.eq_6, exec.eq_7, exec.eq_8, exec.eq_9, exec.eq_10, exec.eq_11, exec.eq_12, exec.eq_13, exec.eq_14, exec.eq_15, exec.eq_16, exec.eq_19, exec.eq_20, exec.eq_21, exec.eq_22, exec.eq_23, execs, x_whl, x_for, x_comp, x_compIf, x_comp2, x_comp2If, bor, vi, mkEnv, eg, es, frzA, frzS, bn, bt, bq, bind_F, setAll, setAllT, bind1, setPar, wipeE, tgs, b_add, b_sub, b_mul, b_fdiv, b_mod, b_shl, b_shr, b_pow, b_tup, b_lst, o_lt, o_le, o_gt, o_ge, o_eqi, o_nei, o_neb, sl_a, sl_b, sl_bl, sl_c, cmp_nil, cmp_cons, cmpY_nil, cmpY_cons, ixW_3, ixL_0, ixL_1, ixL_2, ixL_3, btl, o_isb, o_eqs, o_nes, o_int, o_nit, isF_s, isF_i, deq_ss, deq_ii, List.all_cons, List.all_nil, List.any_cons, List.any_nil, Nat.reduceEqDiff, Int.reduceEq, u_len1, u_len2, u_len3, u_abs, u_int, u_intb, u_lst1, u_lst2, u_lst3, u_tup, u_max, u_min, s_int, s_bl, s_tup, s_lst, s_non, s_str, a_add, a_sub, i_tup, i_lst, r_bl, r_int, fin, chk_own, chk_some, isN, bnd, iN_non, iN_int, iN_bl, iN_str, iN_tup, iN_lst, iN_F, ixW_0, ixW_1, ixW_2, F_0, F_1, ixW_w, wg_1, wg_0, wp_0, List.map, List.length, List.replicate, List.cons_append, List.nil_append, List.append_nil, Nat.reduceSub, Nat.reduceAdd, Nat.sub_self, Nat.sub_zero, if_true, Bool.false_eq_true, if_false, reduceIte, ite_true, ite_false, Bool.and_self, Bool.and_true, Bool.true_and, Bool.not_true, Bool.not_false, Nat.reduceLT, Nat.reduceLeDiff, decide_true, decide_false, Int.reduceLT, Int.reduceLE, Int.reduceAdd, Int.reduceSub, Int.reduceNeg, Bool.or_true, Bool.or_false, Bool.true_or, Bool.false_or, Bool.and_false, Bool.false_and, $xs,*])
  | `(tactic| simp! only) => `(tactic| simp only [ev.eq_1, ev.eq_2, ev.eq_3, ev.eq_4, ev.eq_5, ev.eq_6, ev.eq_7, ev.eq_8, ev.eq_9, ev.eq_10, ev.eq_11, ev.eq_12, ev.eq_13, ev.eq_14, ev.eq_15, ev.eq_16, ev.eq_17, ev.eq_18, ev.eq_19, ev.eq_20, ev.eq_21, ev.eq_22, ev.eq_23, ev.eq_24, ev.eq_25, ev.eq_26, ev.eq_27, ev.eq_28, ev.eq_29, ev.eq_30, ev.eq_35, evs, evT, exec.eq_1, exec.eq_2, exec.eq_3, exec.eq_4, exec.eq_5, exec.eq_6, exec.eq_7, exec.eq_8, exec.eq_9, exec.eq_10, exec.eq_11, exec.eq_12, exec.eq_13, exec.eq_14, exec.eq_15, exec.eq_16, exec.eq_19, exec.eq_20, exec.eq_21, exec.eq_22, exec.eq_23, execs, x_whl, x_for, x_comp, x_compIf, x_comp2, x_comp2If, bor, vi, mkEnv, eg, es, frzA, frzS, bn, bt, bq, bind_F, setAll, setAllT, bind1, setPar, wipeE, tgs, b_add, b_sub, b_mul, b_fdiv, b_mod, b_shl, b_shr, b_pow, b_tup, b_lst, o_lt, o_le, o_gt, o_ge, o_eqi, o_nei, o_neb, sl_a, sl_b, sl_bl, sl_c, cmp_nil, cmp_cons, cmpY_nil, cmpY_cons, ixW_3, ixL_0, ixL_1, ixL_2, ixL_3, btl, o_isb, o_eqs, o_nes, o_int, o_nit, isF_s, isF_i, deq_ss, deq_ii, List.all_cons, List.all_nil, List.any_cons, List.any_nil, Nat.reduceEqDiff, Int.reduceEq, u_len1, u_len2, u_len3, u_abs, u_int, u_intb, u_lst1, u_lst2, u_lst3, u_tup, u_max, u_min, s_int, s_bl, s_tup, s_lst, s_non, s_str, a_add, a_sub, i_tup, i_lst, r_bl, r_int, fin, chk_own, chk_some, isN, bnd, iN_non, iN_int, iN_bl, iN_str, iN_tup, iN_lst, iN_F, ixW_0, ixW_1, ixW_2, F_0, F_1, ixW_w, wg_1, wg_0, wp_0, List.map, List.length, List.replicate, List.cons_append, List.nil_append, List.append_nil, Nat.reduceSub, Nat.reduceAdd, Nat.sub_self, Nat.sub_zero, if_true, Bool.false_eq_true, if_false, reduceIte, ite_true, ite_false, Bool.and_self, Bool.and_true, Bool.true_and, Bool.not_true, Bool.not_false, Nat.reduceLT, Nat.reduceLeDiff, decide_true, decide_false, Int.reduceLT, Int.reduceLE, Int.reduceAdd, Int.reduceSub, Int.reduceNeg, Bool.or_true, Bool.or_false, Bool.true_or, Bool.false_or, Bool.and_false, Bool.false_and])
variable (n : Nat) (ws : WS)
section
variable {x : Fo}
theorem c_is_finite {a : Nm} (h : Cn x a) : callO P (n + 1) 17 [ND a] ws = some (.bl true, ws) := by
  rw [call_at (d := d_is_finite) rfl rfl]
  cases a with
  | o s => simp! only [ND, d_is_finite, b_is_finite]
  | n s w p => simp! only [ND, d_is_finite, b_is_finite]
  | e s => exact absurd h id
theorem ge_lt (a b : Rat) : decide (a ≤ b) = !decide (b < a) := by
  by_cases c : b < a
  · rw [decide_eq_true c, decide_eq_false (by grind)]; rfl
  · rw [decide_eq_false c, decide_eq_true (by grind)]; rfl
theorem loop_pp (hx : F4 x) {s0 s4 : Slot} {rs : List Nm} (hn : ∀ a ∈ rs, Cn x a ∧ notO a = true) : ∀ (ks : List Nat) (t2 t3 t5 t6 : Slot), (∀ k ∈ ks, k + 1 < rs.length) →
    ∃ env, forX (callO P (n + 5)) (.nm 2) l_are_parts_5 (ks.map fun k : Nat => D.int (1 + (k : Int))) [s0, .va (.lst (rs.map ND)), t2, t3, s4, t5, t6] ws = stp (ks.all (apt rs)) env ws
  | [], t2, t3, t5, t6, _ => ⟨_, rfl⟩
  | k :: ks, t2, t3, t5, t6, hk => by
    have h1 := hk k List.mem_cons_self
    obtain ⟨c1, o1⟩ := hn _ (getD_mem h1)
    obtain ⟨c0, o0⟩ := hn _ (getD_mem (show k < rs.length by omega))
    have b := wp_bd hx o1 c1
    have e1 := ix_k ws (rs := rs) (k := k + 1) (i := 1 + (k : Int)) (by omega) h1
    have e0 := ix_k ws (rs := rs) (k := k) (i := 1 + (k : Int) - 1) (by omega) (by omega)
    have e2 := ix_2 ws o1 c1
    have e3 := ix_3 ws o1 c1
    have w := fun t3 => whl_parts (n + 5) ws (s0 := s0) (s1 := .va (.lst (rs.map ND))) (s2 := .va (.int (1 + (k : Int)))) (s3 := t3) (s4 := s4) 8 fuel (wN (rs.getD (k + 1) (.o 0))) (pN (rs.getD (k + 1) (.o 0))) b.1 b.2.1 (by decide)
    have ob := odp_bd 8 (wN (rs.getD (k + 1) (.o 0))) (pN (rs.getD (k + 1) (.o 0)))
    have v := c_val n ws hx c0
    have z := Z_ab (Z_nm hx c0)
    have sz := c_size (n + 4) ws (vNm (rs.getD k (.o 0)))
    have ap : apt rs k = decide (ab (vNm (rs.getD k (.o 0))) < pw (odp 8 (wN (rs.getD (k + 1) (.o 0))) (pN (rs.getD (k + 1) (.o 0)))).2) := rfl
    generalize hq : ab (vNm (rs.getD k (.o 0))) = q at z sz ap
    generalize he : (odp 8 (wN (rs.getD (k + 1) (.o 0))) (pN (rs.getD (k + 1) (.o 0)))) = oe at ob w ap
    obtain ⟨ow, e⟩ := oe
    have zn : decide (q.num.natAbs < 18446744073709551616) = true := decide_eq_true (Nat.lt_of_lt_of_le z.1 (by decide))
    have zd : decide ((q.den : Int).natAbs < 18446744073709551616) = true := decide_eq_true (by rw [Int.natAbs_natCast]; exact Nat.lt_of_lt_of_le z.2 (by decide))
    obtain ⟨env, ih⟩ := loop_pp hx (s0 := s0) (s4 := s4) hn ks (.va (.int (1 + (k : Int)))) (.va (F q)) (.va (.int ow)) (.va (.int e)) (fun j hj => hk j (List.mem_cons_of_mem _ hj))
    have ob1 : -30 ≤ e := by have := ob.1; simp only at this; omega
    have ob2 : e ≤ 38 := by have := ob.2; simp only at this; omega
    rw [List.map_cons]
    by_cases g : 0 ≤ e
    · have g2 : e ≤ 100000 := by omega
      have g3 : ¬ e < 0 := by omega
      have le := pw_le (e := e) (a := e.toNat) (b := 0) (by omega) q
      rw [Int.pow_zero, Int.mul_one, Int.mul_comm] at le
      have ap2 : decide ((q.den : Int) * 2 ^ e.toNat ≤ q.num) = !apt rs k := by
        rw [ap, ← ge_lt]
        exact decide_eq_decide.mpr le.symm
      cases c : apt rs k with
      | true =>
        refine ⟨env, ?_⟩
        rw [c] at ap2
        rw [for_cons]
        simp! only [l_are_parts_5, e1, e0, e2, e3, w, v, sz, hq, decide_eq_true g, decide_eq_true g2, decide_eq_false g3, zn, zd, ap2, c]
        exact ih
      | false =>
        refine ⟨[s0, .va (.lst (rs.map ND)), .va (.int (1 + (k : Int))), .va (F q), s4, .va (.int ow), .va (.int e)], ?_⟩
        rw [c] at ap2
        rw [for_cons]
        simp! only [l_are_parts_5, e1, e0, e2, e3, w, v, sz, hq, decide_eq_true g, decide_eq_true g2, decide_eq_false g3, zn, zd, ap2, c]
        rfl
    · have g1 : 0 ≤ -e := by omega
      have g2 : -e ≤ 100000 := by omega
      have g3 : e < 0 := by omega
      have le := pw_le (e := e) (a := 0) (b := (-e).toNat) (by omega) q
      rw [Int.pow_zero, Int.one_mul] at le
      have ap2 : decide ((q.den : Int) ≤ q.num * 2 ^ (-e).toNat) = !apt rs k := by
        rw [ap, ← ge_lt]
        exact decide_eq_decide.mpr le.symm
      cases c : apt rs k with
      | true =>
        refine ⟨env, ?_⟩
        rw [c] at ap2
        rw [for_cons]
        simp! only [l_are_parts_5, e1, e0, e2, e3, w, v, sz, hq, decide_eq_false g, decide_eq_true g1, decide_eq_true g2, decide_eq_true g3, zn, zd, ap2, c]
        exact ih
      | false =>
        refine ⟨[s0, .va (.lst (rs.map ND)), .va (.int (1 + (k : Int))), .va (F q), s4, .va (.int ow), .va (.int e)], ?_⟩
        rw [c] at ap2
        rw [for_cons]
        simp! only [l_are_parts_5, e1, e0, e2, e3, w, v, sz, hq, decide_eq_false g, decide_eq_true g1, decide_eq_true g2, decide_eq_true g3, zn, zd, ap2, c]
        rfl
theorem filt_pp (l : List Nm) {s1 : Slot} : cmpY (callO P (n + 2)) (.nm 4) t_are_parts_0 x_are_parts_1 [s1, .un, .un, .un, .un, .un, .un] (l.map ND) ws = some ((l.filter notO).map ND, ws) :=
  cmpY_map fun a ha => ⟨[s1, .un, .un, .un, .va (ND a), .un, .un], rfl, by simp! only [t_are_parts_0, ix_0, kd_l, kd_o]; cases notO a <;> rfl, fun _ => by simp! only [x_are_parts_1]⟩
theorem fin_pp {l : List Nm} {s1 s2 : Slot} (hl : ∀ a ∈ l, Cn x a) : cmpX (callO P (n + 2)) (.nm 4) x_are_parts_2 [s1, s2, .un, .un, .un, .un, .un] (l.map ND) ws = some (l.map fun _ => .bl true, ws) :=
  cmp_map fun a ha => ⟨[s1, s2, .un, .un, .va (ND a), .un, .un], rfl, by simp! only [x_are_parts_2, c_is_finite (n + 1) ws (hl a ha)]⟩
theorem all_t : ∀ l : List Nm, bf1 .all (.lst (l.map fun _ => .bl true)) = some (.bl true)
  | [] => rfl
  | a :: l => by
    have ih := all_t l
    simp only [bf1, List.map_cons, blsOf] at ih ⊢
    split at ih
    · rename_i bs e
      simp only [Option.some.injEq, D.bl.injEq] at ih
      simp only [List.all_cons, ih]
      rfl
    · cases ih
theorem c_parts (hx : F4 x) {l : List Nm} (hl : ∀ a ∈ l, Cn x a) (hn : l.length ≤ 90) : callO P (n + 6) 123 [.tup (l.map ND)] ws = some (.bl ((List.range ((l.filter notO).length - 1)).all (apt (l.filter notO))), ws) := by
  have o1 : okLen l.length = true := okLen_of (by omega)
  have fl : (l.filter notO).length ≤ 90 := Nat.le_trans (List.length_filter_le _ _) hn
  have e2 := filt_pp (n + 3) ws l (s1 := .va (.tup (l.map ND)))
  generalize hr : l.filter notO = rs at e2 fl
  have hrs : ∀ a ∈ rs, Cn x a ∧ notO a = true := fun a ha => by
    rw [← hr, List.mem_filter] at ha
    exact ⟨hl a ha.1, ha.2⟩
  have o2 : okLen rs.length = true := okLen_of (by omega)
  have e3 := fin_pp (n + 3) ws (l := rs) (s1 := .va (.tup (l.map ND))) (s2 := .va (.lst (rs.map ND))) fun a ha => (hrs a ha).1
  obtain ⟨env, e⟩ := loop_pp n ws hx (s0 := .va (.tup (l.map ND))) (s4 := .un) hrs (List.range (rs.length - 1)) .un .un .un .un (fun k hk => by have := List.mem_range.mp hk; omega)
  have r1 : (-100000 : Int) ≤ (rs.length : Int) := by omega
  have r2 : (rs.length : Int) ≤ 100000 := by omega
  have r3 : ((rs.length : Int) - 1).toNat = rs.length - 1 := by omega
  have c1 : decide ((-100000 : Int) ≤ 1) = true := rfl
  have c2 : decide ((1 : Int) ≤ 100000) = true := rfl
  rw [call_at (d := d_are_parts) rfl rfl]
  cases q : (List.range (rs.length - 1)).all (apt rs) with
  | true =>
    rw [q] at e
    simp only [stp, if_true] at e
    simp! only [d_are_parts, b_are_parts, o1, o2, e2, e3, all_t, List.length_map, decide_eq_true r1, decide_eq_true r2, r3, c1, c2, e]
  | false =>
    rw [q] at e
    simp only [stp, Bool.false_eq_true, if_false] at e
    simp! only [d_are_parts, b_are_parts, o1, o2, e2, e3, all_t, List.length_map, decide_eq_true r1, decide_eq_true r2, r3, c1, c2, e]
/-! good parts -/
theorem eq_FF (q : Rat) : cop .eq (F q) (F q) = some true := by
  have h : okq (D.tup [.int q.num, .int q.den]) 64 = true := rfl
  simp only [F, cop, h, deq, deqs]
  simp
theorem ne_FF (q : Rat) : cop .ne (F q) (F q) = some false := by
  have h : okq (D.tup [.int q.num, .int q.den]) 64 = true := rfl
  simp only [F, cop, h, deq, deqs]
  simp
theorem isi_ND (a : Nm) : isiD .tuple (ND a) = some true := by cases a <;> rfl
theorem nb_tt : cop .notB (.bl true) (.bl true) = some false := rfl
theorem good_no (hx : F4 x) {l : List Nm} {s1 s2 : Slot} (hl : ∀ a ∈ l, Cn x a) : cmpY (callO P (n + 3)) (.nm 3) t__law_good_0 x__law_good_1 [.va (FO x), s1, s2, .un] (l.map ND) ws = some ([], ws) := by
  have := cmpY_map (Φ := callO P (n + 3)) (tg := .nm 3) (c := t__law_good_0) (elt := x__law_good_1) (env := [.va (FO x), s1, s2, .un]) (ws := ws) (rep := ND) (g := ND) (p := fun _ => false) (xs := l) fun a ha =>
    ⟨[.va (FO x), s1, s2, .va (ND a)], rfl, by
      have e := c_is_of n ws hx (hl a ha)
      have k := hl a ha
      cases a with
      | o s => simp! only [t__law_good_0, e, isi_ND, nb_tt, ix_0, kdN]
      | n s w p => simp! only [t__law_good_0, e, isi_ND, nb_tt, ix_0, kdN]
      | e s => exact absurd k id, fun h => by cases h⟩
  rw [this]
  have : l.filter (fun _ => false) = [] := by simp
  rw [this]
  rfl
theorem good_z {l : List Nm} {s0 s1 s2 : Slot} : cmpY (callO P (n + 3)) (.nm 3) t__law_good_2 x__law_good_3 [s0, s1, s2, .un] (l.map ND) ws = some ((l.filter fun a => !notO a).map ND, ws) :=
  cmpY_map fun a ha => ⟨[s0, s1, s2, .va (ND a)], rfl, by simp! only [t__law_good_2, ix_0, kd_l, kd_o], fun _ => by simp! only [x__law_good_3]⟩
theorem c_good (hx : F4 x) {l : List Nm} (hl : ∀ a ∈ l, Cn x a) (hn : l.length ≤ 90) (hg : Gd l) {q : Rat} (hq : sV l = q) : callO P (n + 4) 133 [FO x, .tup (l.map ND), F q] ws = some (.bl true, ws) := by
  subst hq
  have o1 : okLen l.length = true := okLen_of (by omega)
  have e1 := good_no n ws hx (s1 := .va (.tup (l.map ND))) (s2 := .va (F (sV l))) hl
  have e2 := good_z n ws (l := l) (s0 := .va (FO x)) (s1 := .va (.tup (l.map ND))) (s2 := .va (F (sV l)))
  have e3 := c_allT n ws hx hl hn
  have n0 : cop .ne (.lst []) (.lst []) = some false := rfl
  rw [call_at (d := d__law_good) rfl rfl]
  rcases hg with hg | ⟨s, rfl⟩
  · have f0 : (l.filter fun a => !notO a) = [] := by
      rw [List.filter_eq_nil_iff]
      intro a ha
      rw [hg a ha]
      decide
    have n1 : cop .eq (.lst []) (.lst []) = some true := rfl
    rw [f0, List.map_nil] at e2
    simp! only [d__law_good, b__law_good, List.length_map, o1, e1, e2, e3, n0, n1, eq_FF]
  · have e2 : cmpY (callO P (n + 3)) (.nm 3) t__law_good_2 x__law_good_3 [.va (FO x), .va (.tup ([Nm.o s].map ND)), .va (F (sV [.o s])), .un] ([Nm.o s].map ND) ws = some ([ND (.o s)], ws) := e2
    have n1 : cop .eq (.lst [ND (.o s)]) (.lst []) = some false := rfl
    have v0 : sV [.o s] = 0 := by simp only [sV, vNm]; grind
    have d0 : cop .eq (F 0) (.tup [.int 0, .int 1]) = some true := rfl
    rw [v0] at e1 e2 e3 ⊢
    simp only [List.map_cons, List.map_nil] at e1 e2 e3 ⊢
    have l1 : decide (((1 : Nat) : Int) = 1) = true := rfl
    simp only [List.length_cons, List.length_nil] at o1
    simp! only [d__law_good, b__law_good, o1, e1, e2, e3, n0, n1, eq_FF, d0, l1]
end
end Pv.K44


set_option Elab.async false
set_option linter.all false
set_option maxRecDepth 100000
set_option exponentiation.threshold 20
/-! N8: rows of numbers summed. -/
namespace Pv.K44
open Pv
local macro_rules
  | `(tactic| simp! only [$xs,*]) => `(tactic| simp only [ev.eq_1, ev.eq_2, ev.eq_3, ev.eq_4, ev.eq_5, ev.eq_6, ev.eq_7, ev.eq_8, ev.eq_9, ev.eq_10, ev.eq_11, ev.eq_12, ev.eq_13, ev.eq_14, ev.eq_15, ev.eq_16, ev.eq_17, ev.eq_18, ev.eq_19, ev.eq_20, ev.eq_21, ev.eq_22, ev.eq_23, ev.eq_24, ev.eq_25, ev.eq_26, ev.eq_27, ev.eq_28, ev.eq_29, ev.eq_30, ev.eq_35, evs, evT, exec.eq_1, exec.eq_2, exec.eq_3, exec.eq_4, exec.eq_5, exec.eq_6, exec.eq_7, exec.eq_8, exec.eq_9, exec.eq_10, exec.eq_11, exec.eq_12, exec.eq_13, exec.eq_14, exec.eq_15, exec.eq_16, exec.eq_19, exec.eq_20, exec.eq_21, exec.eq_22, exec.eq_23, execs, x_whl, x_for, x_comp, x_compIf, x_comp2, x_comp2If, bor, vi, mkEnv, eg, es, frzA, frzS, bn, bt, bq, bind_F, setAll, setAllT, bind1, setPar, wipeE, tgs, b_add, b_sub, b_mul, b_fdiv, b_mod, b_shl, b_shr, b_pow, b_tup, b_lst, o_lt, o_le, o_gt, o_ge, o_eqi, o_nei, o_neb, sl_a, sl_b, sl_bl, sl_c, cmp_nil, cmp_cons, cmpY_nil, cmpY_cons, ixW_3, ixL_0, ixL_1, ixL_2, ixL_3, btl, o_isb, o_eqs, o_nes, o_int, o_nit, isF_s, isF_i, deq_ss, deq_ii, List.all_cons, List.all_nil, List.any_cons, List.any_nil, Nat.reduceEqDiff, Int.reduceEq, u_len1, u_len2, u_len3, u_abs, u_int, u_intb, u_lst1, u_lst2, u_lst3, u_tup, u_max, u_min, s_int, s_bl, s_tup, s_lst, s_non, s_str, a_add, a_sub, i_tup, i_lst, r_bl, r_int, fin, chk_own, chk_some, isN, bnd, iN_non, iN_int, iN_bl, iN_str, iN_tup, iN_lst, iN_F, ixW_0, ixW_1, ixW_2, F_0, F_1, ixW_w, wg_1, wg_0, wp_0, List.map, List.length, List.replicate, List.cons_append, List.nil_append, List.append_nil, Nat.reduceSub, Nat.reduceAdd, Nat.sub_self, Nat.sub_zero, if_true, Bool.false_eq_true, if_false, reduceIte, ite_true, ite_false, Bool.and_self, Bool.and_true, Bool.true_and, Bool.not_true, Bool.not_false, Nat.reduceLT, Nat.reduceLeDiff, decide_true, decide_false, Int.reduceLT, Int.reduceLE, Int.reduceAdd, Int.reduceSub, Int.reduceNeg, Bool.or_true, Bool.or_false, Bool.true_or, Bool.false_or, Bool.and_false, Bool.false_and, $xs,*])
  | `(tactic| simp! only) => `(tactic| simp only [ev.eq_1, ev.eq_2, ev.eq_3, ev.eq_4, ev.eq_5, ev.eq_6, ev.eq_7, ev.eq_8, ev.eq_9, ev.eq_10, ev.eq_11, ev.eq_12, ev.eq_13, ev.eq_14, ev.eq_15, ev.eq_16, ev.eq_17, ev.eq_18, ev.eq_19, ev.eq_20, ev.eq_21, ev.eq_22, ev.eq_23, ev.eq_24, ev.eq_25, ev.eq_26, ev.eq_27, ev.eq_28, ev.eq_29, ev.eq_30, ev.eq_35, evs, evT, exec.eq_1, exec.eq_2, exec.eq_3, exec.eq_4, exec.eq_5, exec.eq_6, exec.eq_7, exec.eq_8, exec.eq_9, exec.eq_10, exec.eq_11, exec.eq_12, exec.eq_13, exec.eq_14, exec.eq_15, exec.eq_16, exec.eq_19, exec.eq_20, exec.eq_21, exec.eq_22, exec.eq_23, execs, x_whl, x_for, x_comp, x_compIf, x_comp2, x_comp2If, bor, vi, mkEnv, eg, es, frzA, frzS, bn, bt, bq, bind_F, setAll, setAllT, bind1, setPar, wipeE, tgs, b_add, b_sub, b_mul, b_fdiv, b_mod, b_shl, b_shr, b_pow, b_tup, b_lst, o_lt, o_le, o_gt, o_ge, o_eqi, o_nei, o_neb, sl_a, sl_b, sl_bl, sl_c, cmp_nil, cmp_cons, cmpY_nil, cmpY_cons, ixW_3, ixL_0, ixL_1, ixL_2, ixL_3, btl, o_isb, o_eqs, o_nes, o_int, o_nit, isF_s, isF_i, deq_ss, deq_ii, List.all_cons, List.all_nil, List.any_cons, List.any_nil, Nat.reduceEqDiff, Int.reduceEq, u_len1, u_len2, u_len3, u_abs, u_int, u_intb, u_lst1, u_lst2, u_lst3, u_tup, u_max, u_min, s_int, s_bl, s_tup, s_lst, s_non, s_str, a_add, a_sub, i_tup, i_lst, r_bl, r_int, fin, chk_own, chk_some, isN, bnd, iN_non, iN_int, iN_bl, iN_str, iN_tup, iN_lst, iN_F, ixW_0, ixW_1, ixW_2, F_0, F_1, ixW_w, wg_1, wg_0, wp_0, List.map, List.length, List.replicate, List.cons_append, List.nil_append, List.append_nil, Nat.reduceSub, Nat.reduceAdd, Nat.sub_self, Nat.sub_zero, if_true, Bool.false_eq_true, if_false, reduceIte, ite_true, ite_false, Bool.and_self, Bool.and_true, Bool.true_and, Bool.not_true, Bool.not_false, Nat.reduceLT, Nat.reduceLeDiff, decide_true, decide_false, Int.reduceLT, Int.reduceLE, Int.reduceAdd, Int.reduceSub, Int.reduceNeg, Bool.or_true, Bool.or_false, Bool.true_or, Bool.false_or, Bool.and_false, Bool.false_and])
variable (n : Nat) (ws : WS)
section
variable {x : Fo}
theorem F_0s : D.tup [.int 0, .int 1] = F 0 := rfl
theorem nO_s (s : Int) : D.tup [.str 0, .int s] = ND (.o s) := rfl
theorem loop_exact (hx : F4 x) {s0 : Slot} : ∀ (l : List Nm) (s : Rat) (k : Nat) (t2 : Slot), Z k s → (∀ a ∈ l, Cn x a) → k + l.length * 41 ≤ 4000 →
    ∃ t2', forX (callO P (n + 5)) (.nm 2) l_exact_sum_0 (l.map ND) [s0, .va (F s), t2] ws = some (.nx, [s0, .va (F (s + sV l)), t2'], ws)
  | [], s, k, t2, _, _, _ => ⟨t2, by simp only [sV, List.map_nil, for_nil]; rw [show s + 0 = s by grind]⟩
  | a :: l, s, k, t2, hz, hl, hk => by
    rw [List.length_cons, Nat.add_mul] at hk
    have ha := hl a List.mem_cons_self
    obtain ⟨t2', e⟩ := loop_exact hx (s0 := s0) l (s + vNm a) (k + 40 + 1) (.va (ND a)) (Z_add hz (Z_nm hx ha)) (fun b hb => hl b (List.mem_cons_of_mem _ hb)) (by omega)
    have e1 := c_val n ws hx ha
    have e2 := c_added (n + 2) ws (hz.mono (show k ≤ 4000 by omega)) ((Z_nm hx ha).mono (show 40 ≤ 4000 by decide))
    refine ⟨t2', ?_⟩
    rw [List.map_cons, for_cons]
    simp! only [l_exact_sum_0, e1, e2]
    rw [show s + sV (a :: l) = s + vNm a + sV l by simp only [sV]; grind]
    exact e
theorem c_exact_sum (hx : F4 x) {l : List Nm} (hl : ∀ a ∈ l, Cn x a) (hn : l.length ≤ 90) : callO P (n + 6) 117 [.tup (l.map ND)] ws = some (F (sV l), ws) := by
  obtain ⟨t, e⟩ := loop_exact n ws hx (s0 := .va (.tup (l.map ND))) l 0 1 .un ⟨by decide, by decide⟩ hl (by omega)
  rw [show (0 : Rat) + sV l = sV l by grind] at e
  rw [call_at (d := d_exact_sum) rfl rfl]
  simp! only [d_exact_sum, b_exact_sum, F_0s, e]
theorem Z_sV (hx : F4 x) : ∀ {l : List Nm}, (∀ a ∈ l, Cn x a) → Z (1 + l.length * 41) (sV l)
  | [], _ => ⟨by simp only [sV]; decide, by simp only [sV]; decide⟩
  | a :: l, h => by
    have := Z_add (Z_nm hx (h a List.mem_cons_self)) (Z_sV hx fun b hb => h b (List.mem_cons_of_mem _ hb))
    rw [List.length_cons, Nat.add_mul]
    exact this.mono (by omega)
theorem c_rounded_sum (hx : F4 x) {l : List Nm} (hl : ∀ a ∈ l, Cn x a) (hn : l.length ≤ 20) : callO P (n + 8) 118 [FO x, .str 9, .tup (l.map ND)] ws = some (ND (rdNm x 9 (sV l) 0), ws) := by
  have e1 := c_exact_sum (n + 1) ws hx hl (by omega)
  obtain ⟨M, e2⟩ := c_rd n ws hx ((Z_sV hx hl).mono (show 1 + l.length * 41 ≤ 1000 by omega)) 0
  rw [call_at (d := d_rounded_sum) rfl rfl]
  simp! only [d_rounded_sum, b_rounded_sum, e1, e2]
/-! one after another -/
def okP (L M : Rat) : Rat → Nat → Prop
  | _, 0 => True
  | B, k + 1 => B + M < L ∧ okP L M (2 * (B + M)) k
theorem pl_sz (hx : F4 x) {a b : Nm} (ha : Cn x a) (hb : Cn x b) {B : Rat} (h : ab (vNm a) + ab (vNm b) ≤ B) (hB : B < LL x) : Cn x (pl x a b) ∧ ab (vNm (pl x a b)) ≤ 2 * B := by
  have h1 := ab_le (q := vNm a)
  have h2 := ab_le (q := vNm b)
  obtain ⟨c, nr⟩ := pl_ok hx ha hb (by grind) (by grind)
  have n0 := nr_near (d_1 hx) nr Rp_0
  refine ⟨c, ?_⟩
  unfold Le at n0
  rw [ab_def]
  split <;> grind
noncomputable def fp (x : Fo) (f : Nm) (l : List Nm) : Nm := l.foldl (pl x) f
theorem loop_plain (hx : F4 x) {s2 : Slot} {M : Rat} : ∀ (l : List Nm) (f : Nm) (B : Rat) (t4 : Slot), (∀ a ∈ l, Cn x a ∧ ab (vNm a) ≤ M) → Cn x f → ab (vNm f) ≤ B → okP (LL x) M B l.length →
    (∃ t4', forX (callO P (n + 8)) (.nm 4) l_plain_sum_0 (l.map ND) [.va (FO x), .va (.str 9), s2, .va (ND f), t4] ws = some (.nx, [.va (FO x), .va (.str 9), s2, .va (ND (fp x f l)), t4'], ws)) ∧
    (∀ s1 t3, ∃ t3', forX (callO P (n + 8)) (.nm 3) l__law_plainly_0 (l.map ND) [.va (FO x), s1, .va (ND f), t3] ws = some (.nx, [.va (FO x), s1, .va (ND (fp x f l)), t3'], ws)) ∧ Cn x (fp x f l)
  | [], f, B, t4, _, hf, _, _ => ⟨⟨t4, rfl⟩, fun s1 t3 => ⟨t3, rfl⟩, hf⟩
  | a :: l, f, B, t4, hl, hf, hB, hU => by
    obtain ⟨ha, hM⟩ := hl a List.mem_cons_self
    obtain ⟨M1, e⟩ := c_plus n ws hx hf ha
    obtain ⟨c, sz⟩ := pl_sz hx hf ha (B := B + M) (by grind) hU.1
    obtain ⟨⟨t4', e2⟩, e3, c2⟩ := loop_plain hx (s2 := s2) l (pl x f a) (2 * (B + M)) (.va (ND a)) (fun b hb => hl b (List.mem_cons_of_mem _ hb)) c sz hU.2
    refine ⟨⟨t4', ?_⟩, fun s1 t3 => ?_, c2⟩
    · rw [List.map_cons, for_cons]
      simp! only [l_plain_sum_0, e]
      exact e2
    · obtain ⟨t3', e4⟩ := e3 s1 (.va (ND a))
      refine ⟨t3', ?_⟩
      rw [List.map_cons, for_cons]
      simp! only [l__law_plainly_0, e]
      exact e4
theorem c_plains (hx : F4 x) {l : List Nm} {M : Rat} (hl : ∀ a ∈ l, Cn x a ∧ ab (vNm a) ≤ M) (hU : okP (LL x) M 0 l.length) : ∃ a, Cn x a ∧ callO P (n + 9) 119 [FO x, .str 9, .tup (l.map ND)] ws = some (ND a, ws) ∧ callO P (n + 9) 128 [FO x, .tup (l.map ND)] ws = some (ND a, ws) := by
  obtain ⟨⟨t4, e1⟩, e2, c⟩ := loop_plain n ws hx (s2 := .va (.tup (l.map ND))) l (.o 0) 0 .un hl (.inl rfl) (by show ab 0 ≤ 0; rw [ab_def]; split <;> grind) hU
  obtain ⟨t3, e2⟩ := e2 (.va (.tup (l.map ND))) .un
  refine ⟨_, c, ?_, ?_⟩
  · rw [call_at (d := d_plain_sum) rfl rfl]
    simp! only [d_plain_sum, b_plain_sum, nO_s, e1]
  · rw [call_at (d := d__law_plainly) rfl rfl]
    simp! only [d__law_plainly, b__law_plainly, nO_s, e2]
/-! by halves -/
theorem cut_l (l : List Nm) (k : Nat) (h : k ≤ l.length) : slD (.tup (l.map ND)) none (some (k : Int)) = some (.tup ((l.take k).map ND)) := by
  show some (D.tup (cutD (l.map ND) none (some (k : Int)))) = _
  unfold cutD
  rw [HT.sIx_none, HT.sIx_nat, List.length_map, List.drop_zero, Nat.sub_zero, Nat.min_eq_left h, ← List.map_take]
theorem cut_r (l : List Nm) (k : Nat) (h : k ≤ l.length) : slD (.tup (l.map ND)) (some (k : Int)) none = some (.tup ((l.drop k).map ND)) := by
  show some (D.tup (cutD (l.map ND) (some (k : Int)) none)) = _
  unfold cutD
  rw [HT.sIx_none, HT.sIx_nat, List.length_map, Nat.min_eq_left h, ← List.map_drop, List.take_of_length_le (by simp)]
noncomputable def hv (x : Fo) : Nat → List Nm → Nm
  | 0, l => l.headD (.o 0)
  | k + 1, l => if l.length ≤ 1 then l.headD (.o 0) else pl x (hv x k (l.take (l.length / 2))) (hv x k (l.drop (l.length / 2)))
def pB (M : Rat) : Nat → Rat
  | 0 => M
  | k + 1 => 2 * (pB M k + pB M k)
theorem pB_le {M : Rat} (h : 0 ≤ M) : ∀ k, M ≤ pB M k
  | 0 => Rat.le_refl
  | k + 1 => by have := pB_le h k; simp only [pB]; grind
theorem c_halves (hx : F4 x) {M : Rat} (h0 : 0 ≤ M) : ∀ (k : Nat) (l : List Nm), (∀ a ∈ l, Cn x a ∧ ab (vNm a) ≤ M) → l ≠ [] → l.length ≤ 2 ^ k → pB M k < LL x →
    callO P (n + 9 + k) 121 [FO x, .str 9, .tup (l.map ND)] ws = some (ND (hv x k l), ws) ∧ callO P (n + 9 + k) 129 [FO x, .tup (l.map ND)] ws = some (ND (hv x k l), ws) ∧ Cn x (hv x k l) ∧ ab (vNm (hv x k l)) ≤ pB M k := by
  have one : ∀ (m : Nat) (a : Nm), callO P (m + 1) 121 [FO x, .str 9, .tup [ND a]] ws = some (ND a, ws) ∧ callO P (m + 1) 129 [FO x, .tup [ND a]] ws = some (ND a, ws) := by
    intro m a
    have l1 : decide (((1 : Nat) : Int) = 1) = true := rfl
    have l2 : decide (((1 : Nat) : Int) < 2) = true := rfl
    constructor
    · rw [call_at (d := d_by_halves) rfl rfl]
      simp! only [d_by_halves, b_by_halves, l1, l2]
    · rw [call_at (d := d__law_halved) rfl rfl]
      simp! only [d__law_halved, b__law_halved, l1, l2]
  intro k
  induction k with
  | zero =>
    intro l hl hne hlen hB
    match l, hne, hlen with
    | [a], _, _ =>
      obtain ⟨c, m⟩ := hl a List.mem_cons_self
      exact ⟨(one (n + 8) a).1, (one (n + 8) a).2, c, m⟩
    | a :: b :: l, _, h => simp at h
  | succ k ih =>
    intro l hl hne hlen hB
    by_cases c : l.length ≤ 1
    · match l, hne, c with
      | [a], _, _ =>
        obtain ⟨c, m⟩ := hl a List.mem_cons_self
        have := pB_le h0 (k + 1)
        refine ⟨(one (n + 9 + k) a).1, (one (n + 9 + k) a).2, c, ?_⟩
        show ab (vNm a) ≤ _
        grind
      | a :: b :: l, _, h => simp at h
    · have hlen2 : l.length ≤ 2 * 2 ^ k := by rw [Nat.pow_succ] at hlen; omega
      have hpb : pB M (k + 1) = 2 * (pB M k + pB M k) := rfl
      have nn := pB_le h0 k
      obtain ⟨a1, a2, a3, a4⟩ := ih (l.take (l.length / 2)) (fun a ha => hl a (List.mem_of_mem_take ha)) (fun z => by have := congrArg List.length z; rw [List.length_take, List.length_nil] at this; omega) (by rw [List.length_take]; omega) (by grind)
      obtain ⟨b1, b2, b3, b4⟩ := ih (l.drop (l.length / 2)) (fun a ha => hl a (List.mem_of_mem_drop ha)) (fun z => by have := congrArg List.length z; rw [List.length_drop, List.length_nil] at this; omega) (by rw [List.length_drop]; omega) (by grind)
      obtain ⟨p1, p2⟩ := pl_sz hx a3 b3 (B := pB M k + pB M k) (by grind) (by grind)
      have eh : hv x (k + 1) l = pl x (hv x k (l.take (l.length / 2))) (hv x k (l.drop (l.length / 2))) := by rw [hv, if_neg c]
      obtain ⟨M1, e⟩ := c_plus (n + 1 + k) ws hx a3 b3
      have o2 : okI 2 = true := okI_s (by decide)
      have g1 : ¬ (l.length : Int) < 2 := by omega
      have g2 : ¬ (l.length : Int) = 1 := by omega
      have hd : (l.length : Int) / 2 = ((l.length / 2 : Nat) : Int) := by omega
      have cl := cut_l l (l.length / 2) (by omega)
      have cr := cut_r l (l.length / 2) (by omega)
      have e : callO P (n + 9 + k) 108 [FO x, .str 9, ND (hv x k (l.take (l.length / 2))), ND (hv x k (l.drop (l.length / 2)))] ws = some (.tup [ND (pl x (hv x k (l.take (l.length / 2))) (hv x k (l.drop (l.length / 2)))), M1], ws) := by
        rw [show n + 9 + k = n + 1 + k + 8 by omega]; exact e
      rw [eh]
      refine ⟨?_, ?_, p1, by rw [hpb]; exact p2⟩
      · rw [show n + 9 + (k + 1) = n + 9 + k + 1 by omega, call_at (d := d_by_halves) rfl rfl]
        simp! only [d_by_halves, b_by_halves, List.length_map, o2, decide_eq_false g1, hd, cl, cr, a1, b1, e]
      · rw [show n + 9 + (k + 1) = n + 9 + k + 1 by omega, call_at (d := d__law_halved) rfl rfl]
        simp! only [d__law_halved, b__law_halved, List.length_map, o2, decide_eq_false g2, hd, cl, cr, a2, b2, e]
end
end Pv.K44


set_option Elab.async false
set_option linter.all false
set_option maxRecDepth 100000
set_option exponentiation.threshold 20
/-! N9: kept sums, what is drawn. -/
namespace Pv.K44
open Pv
local macro_rules
  | `(tactic| simp! only [$xs,*]) => `(tactic| simp only [ev.eq_1, ev.eq_2, ev.eq_3, ev.eq_4, ev.eq_5, ev.eq_6, ev.eq_7, ev.eq_8, ev.eq_9, ev.eq_10, ev.eq_11, ev.eq_12, ev.eq_13, ev.eq_14, ev.eq_15, ev.eq_16, ev.eq_17, ev.eq_18, ev.eq_19, ev.eq_20, ev.eq_21, ev.eq_22, ev.eq_23, ev.eq_24, ev.eq_25, ev.eq_26, ev.eq_27, ev.eq_28, ev.eq_29, ev.eq_30, ev.eq_35, evs, evT, exec.eq_1, exec.eq_2, exec.eq_3, exec.eq_4, exec.eq_5, exec.eq_6, exec.eq_7, exec.eq_8, exec.eq_9, exec.eq_10, exec.eq_11, exec.eq_12, exec.eq_13, exec.eq_14, exec.eq_15, exec.eq_16, exec.eq_19, exec.eq_20, exec.eq_21, exec.eq_22, exec.eq_23, execs, x_whl, x_for, x_comp, x_compIf, x_comp2, x_comp2If, bor, vi, mkEnv, eg, es, frzA, frzS, bn, bt, bq, bind_F, setAll, setAllT, bind1, setPar, wipeE, tgs, b_add, b_sub, b_mul, b_fdiv, b_mod, b_shl, b_shr, b_pow, b_tup, b_lst, o_lt, o_le, o_gt, o_ge, o_eqi, o_nei, o_neb, sl_a, sl_b, sl_bl, sl_c, cmp_nil, cmp_cons, cmpY_nil, cmpY_cons, ixW_3, ixL_0, ixL_1, ixL_2, ixL_3, btl, o_isb, o_eqs, o_nes, o_int, o_nit, isF_s, isF_i, deq_ss, deq_ii, List.all_cons, List.all_nil, List.any_cons, List.any_nil, Nat.reduceEqDiff, Int.reduceEq, u_len1, u_len2, u_len3, u_abs, u_int, u_intb, u_lst1, u_lst2, u_lst3, u_tup, u_max, u_min, s_int, s_bl, s_tup, s_lst, s_non, s_str, a_add, a_sub, i_tup, i_lst, r_bl, r_int, fin, chk_own, chk_some, isN, bnd, iN_non, iN_int, iN_bl, iN_str, iN_tup, iN_lst, iN_F, ixW_0, ixW_1, ixW_2, F_0, F_1, ixW_w, wg_1, wg_0, wp_0, List.map, List.length, List.replicate, List.cons_append, List.nil_append, List.append_nil, Nat.reduceSub, Nat.reduceAdd, Nat.sub_self, Nat.sub_zero, if_true, Bool.false_eq_true, if_false, reduceIte, ite_true, ite_false, Bool.and_self, Bool.and_true, Bool.true_and, Bool.not_true, Bool.not_false, Nat.reduceLT, Nat.reduceLeDiff, decide_true, decide_false, Int.reduceLT, Int.reduceLE, Int.reduceAdd, Int.reduceSub, Int.reduceNeg, Bool.or_true, Bool.or_false, Bool.true_or, Bool.false_or, Bool.and_false, Bool.false_and, $xs,*])
  | `(tactic| simp! only) => `(tactic| simp only [ev.eq_1, ev.eq_2, ev.eq_3, ev.eq_4, ev.eq_5, ev.eq_6, ev.eq_7, ev.eq_8, ev.eq_9, ev.eq_10, ev.eq_11, ev.eq_12, ev.eq_13, ev.eq_14, ev.eq_15, ev.eq_16, ev.eq_17, ev.eq_18, ev.eq_19, ev.eq_20, ev.eq_21, ev.eq_22, ev.eq_23, ev.eq_24, ev.eq_25, ev.eq_26, ev.eq_27, ev.eq_28, ev.eq_29, ev.eq_30, ev.eq_35, evs, evT, exec.eq_1, exec.eq_2, exec.eq_3, exec.eq_4, exec.eq_5, exec.eq_6, exec.eq_7, exec.eq_8, exec.eq_9, exec.eq_10, exec.eq_11, exec.eq_12, exec.eq_13, exec.eq_14, exec.eq_15, exec.eq_16, exec.eq_19, exec.eq_20, exec.eq_21, exec.eq_22, exec.eq_23, execs, x_whl, x_for, x_comp, x_compIf, x_comp2, x_comp2If, bor, vi, mkEnv, eg, es, frzA, frzS, bn, bt, bq, bind_F, setAll, setAllT, bind1, setPar, wipeE, tgs, b_add, b_sub, b_mul, b_fdiv, b_mod, b_shl, b_shr, b_pow, b_tup, b_lst, o_lt, o_le, o_gt, o_ge, o_eqi, o_nei, o_neb, sl_a, sl_b, sl_bl, sl_c, cmp_nil, cmp_cons, cmpY_nil, cmpY_cons, ixW_3, ixL_0, ixL_1, ixL_2, ixL_3, btl, o_isb, o_eqs, o_nes, o_int, o_nit, isF_s, isF_i, deq_ss, deq_ii, List.all_cons, List.all_nil, List.any_cons, List.any_nil, Nat.reduceEqDiff, Int.reduceEq, u_len1, u_len2, u_len3, u_abs, u_int, u_intb, u_lst1, u_lst2, u_lst3, u_tup, u_max, u_min, s_int, s_bl, s_tup, s_lst, s_non, s_str, a_add, a_sub, i_tup, i_lst, r_bl, r_int, fin, chk_own, chk_some, isN, bnd, iN_non, iN_int, iN_bl, iN_str, iN_tup, iN_lst, iN_F, ixW_0, ixW_1, ixW_2, F_0, F_1, ixW_w, wg_1, wg_0, wp_0, List.map, List.length, List.replicate, List.cons_append, List.nil_append, List.append_nil, Nat.reduceSub, Nat.reduceAdd, Nat.sub_self, Nat.sub_zero, if_true, Bool.false_eq_true, if_false, reduceIte, ite_true, ite_false, Bool.and_self, Bool.and_true, Bool.true_and, Bool.not_true, Bool.not_false, Nat.reduceLT, Nat.reduceLeDiff, decide_true, decide_false, Int.reduceLT, Int.reduceLE, Int.reduceAdd, Int.reduceSub, Int.reduceNeg, Bool.or_true, Bool.or_false, Bool.true_or, Bool.false_or, Bool.and_false, Bool.false_and])
variable (n : Nat) (ws : WS)
section
variable {x : Fo}
theorem rd_v (q : Rat) (s t : Int) : vNm (rdNm x 9 q s) = vNm (rdNm x 9 q t) := by
  by_cases h : q.num = 0
  · unfold rdNm
    rw [if_pos h, if_pos h]
    rfl
  · unfold rdNm
    rw [if_neg h, if_neg h]
theorem pl_v {a b c d : Nm} (h1 : vNm a = vNm c) (h2 : vNm b = vNm d) : vNm (pl x a b) = vNm (pl x c d) := by
  unfold pl
  rw [h1, h2]
  exact rd_v _ _ _
def okK (L M : Rat) : Rat → Nat → Prop
  | U, 0 => U + U < L
  | U, k + 1 => U + 2 * (M + U) < L ∧ U + U < L ∧ M + U < L ∧ okK L M (4 * U + 2 * M) k
theorem ab_lt {q B : Rat} (h1 : -B ≤ q) (h2 : q ≤ B) : ab q ≤ B := by rw [ab_def]; split <;> grind
theorem loop_kept (hx : F4 x) {M : Rat} : ∀ (l : List Nm) (W Lo W' Lo' : Nm) (U : Rat), (∀ a ∈ l, Cn x a ∧ ab (vNm a) ≤ M) → Cn x W → Cn x Lo → Cn x W' → Cn x Lo' → vNm W = vNm W' → vNm Lo = vNm Lo' → ab (vNm W) ≤ U → ab (vNm Lo) ≤ U → okK (LL x) M U l.length →
    ∃ (V Mo V' Mo' : Nm) (U' : Rat), Cn x V ∧ Cn x Mo ∧ Cn x V' ∧ Cn x Mo' ∧ vNm V = vNm V' ∧ vNm Mo = vNm Mo' ∧ ab (vNm V) ≤ U' ∧ ab (vNm Mo) ≤ U' ∧ U' + U' < LL x ∧
      (∀ s1 t2 t5, ∃ t2' t5', forX (callO P (n + 10)) (.nm 2) l_kept_sum_0 (l.map ND) [.va (FO x), s1, t2, .va (ND W), .va (ND Lo), t5] ws = some (.nx, [.va (FO x), s1, t2', .va (ND V), .va (ND Mo), t5'], ws)) ∧
      (∀ s1 t2 t5 t6 t7, ∃ t2' t5' t6' t7', forX (callO P (n + 10)) (.nm 2) l__law_kept_sum_0 (l.map ND) [.va (FO x), s1, t2, .va (ND W'), .va (ND Lo'), t5, t6, t7] ws = some (.nx, [.va (FO x), s1, t2', .va (ND V'), .va (ND Mo'), t5', t6', t7'], ws))
  | [], W, Lo, W', Lo', U, _, h1, h2, h3, h4, h5, h6, h7, h8, h9 => ⟨W, Lo, W', Lo', U, h1, h2, h3, h4, h5, h6, h7, h8, h9, fun s1 t2 t5 => ⟨t2, t5, rfl⟩, fun s1 t2 t5 t6 t7 => ⟨t2, t5, t6, t7, rfl⟩⟩
  | a :: l, W, Lo, W', Lo', U, hl, h1, h2, h3, h4, h5, h6, h7, h8, h9 => by
    obtain ⟨u1, u2, u3, u4⟩ := h9
    obtain ⟨ha, hM⟩ := hl a List.mem_cons_self
    -- the program's
    obtain ⟨mc, ms⟩ := pl_sz hx ha h2 (B := M + U) (by grind) u3
    obtain ⟨M1, e1⟩ := c_plus (n + 2) ws hx ha h2
    have aW := ab_le (q := vNm W)
    have aM := ab_le (q := vNm (pl x a Lo))
    have T := ts_ok hx h1 mc (A := U) (B := 2 * (M + U)) (by grind) (by grind) (by grind) (by grind) u1 u2
    have e2 := c_two_sum n ws hx h1 mc T
    have ve := T.e
    have ea := T.ea
    have l1 : ab (vNm (ts x W (pl x a Lo))) ≤ U := by have := ab_sz ea; grind
    have al := ab_le (q := vNm (ts x W (pl x a Lo)))
    have w1 : ab (vNm (pl x W (pl x a Lo))) ≤ 4 * U + 2 * M := ab_lt (by grind) (by grind)
    -- the law's
    obtain ⟨mc', ms'⟩ := pl_sz hx ha h4 (B := M + U) (by rw [← h6]; grind) u3
    obtain ⟨M2, f1⟩ := c_plus (n + 2) ws hx ha h4
    have vm : vNm (pl x a Lo) = vNm (pl x a Lo') := pl_v rfl h6
    obtain ⟨wc', _⟩ := pl_ok hx h3 mc' (by rw [← h5, ← vm]; grind) (by rw [← h5, ← vm]; grind)
    obtain ⟨M3, f2⟩ := c_plus (n + 2) ws hx h3 mc'
    have vw : vNm (pl x W (pl x a Lo)) = vNm (pl x W' (pl x a Lo')) := pl_v h5 vm
    have z1 := Z_nm hx h3
    have z2 := Z_nm hx mc'
    have z3 := Z_nm hx wc'
    have f3 := c_lval (n + 8) ws hx h3
    have f4 := c_lval (n + 8) ws hx mc'
    have f5 := c_lval (n + 8) ws hx wc'
    have f6 := c__law_off (n + 9) ws (vNm (pl x W' (pl x a Lo')))
    have f7 := c_sumL (n + 8) ws (xs := [vNm W', vNm (pl x a Lo'), -vNm (pl x W' (pl x a Lo'))]) (j := 100) (by
      intro q hq
      simp only [List.mem_cons, List.not_mem_nil, or_false] at hq
      rcases hq with rfl | rfl | rfl
      · exact z1.mono (by decide)
      · exact z2.mono (by decide)
      · exact (Z_neg z3).mono (by decide)) (by decide) (by simp)
    have sm : sumF 0 [vNm W', vNm (pl x a Lo'), -vNm (pl x W' (pl x a Lo'))] = vNm (ts x W (pl x a Lo)) := by
      simp only [sumF, List.foldl]
      rw [ve, h5, vm, vw]
      grind
    rw [sm] at f7
    obtain ⟨M4, f8⟩ := c_rd (n + 3) ws hx ((Z_nm hx T.y).mono (show 40 ≤ 1000 by decide)) 0
    obtain ⟨rc, rn⟩ := rd_ok hx (q := vNm (ts x W (pl x a Lo))) (s := 0) (.inl rfl) (by grind) (by grind)
    have vr := nr_eq (d_1 hx) rn (Cn_rp hx.ok T.y)
    obtain ⟨V, Mo, V', Mo', U', g1, g2, g3, g4, g5, g6, g7, g8, g9, g10, g11⟩ := loop_kept hx l (pl x W (pl x a Lo)) (ts x W (pl x a Lo)) (pl x W' (pl x a Lo')) (rdNm x 9 (vNm (ts x W (pl x a Lo))) 0) (4 * U + 2 * M) (fun b hb => hl b (List.mem_cons_of_mem _ hb)) T.s T.y wc' rc vw vr.symm w1 (by
      have := ab_nn (vNm W)
      have := ab_nn (vNm a)
      grind) u4
    refine ⟨V, Mo, V', Mo', U', g1, g2, g3, g4, g5, g6, g7, g8, g9, fun s1 t2 t5 => ?_, fun s1 t2 t5 t6 t7 => ?_⟩
    · obtain ⟨t2', t5', e⟩ := g10 s1 (.va (ND a)) (.va (ND (pl x a Lo)))
      refine ⟨t2', t5', ?_⟩
      rw [List.map_cons, for_cons]
      simp! only [l_kept_sum_0, e1, e2]
      exact e
    · obtain ⟨t2', t5', t6', t7', e⟩ := g11 s1 (.va (ND a)) (.va (ND (pl x a Lo'))) (.va (ND (pl x W' (pl x a Lo')))) (.va (F (vNm (ts x W (pl x a Lo)))))
      refine ⟨t2', t5', t6', t7', ?_⟩
      have f7 : callO P (n + 10) 124 [.lst [F (vNm W'), F (vNm (pl x a Lo')), F (-vNm (pl x W' (pl x a Lo')))]] ws = some (F (vNm (ts x W (pl x a Lo))), ws) := f7
      rw [List.map_cons, for_cons]
      simp! only [l__law_kept_sum_0, f1, f2, f3, f4, f5, f6, f7, f8]
      exact e
theorem c_kepts (hx : F4 x) {l : List Nm} {M : Rat} (hl : ∀ a ∈ l, Cn x a ∧ ab (vNm a) ≤ M) (hU : okK (LL x) M 0 l.length) : ∃ a b, Cn x a ∧ Cn x b ∧ vNm a = vNm b ∧ callO P (n + 11) 120 [FO x, .tup (l.map ND)] ws = some (ND a, ws) ∧ callO P (n + 11) 131 [FO x, .tup (l.map ND)] ws = some (ND b, ws) := by
  have z : ab (vNm (.o 0)) ≤ 0 := by show ab 0 ≤ 0; rw [ab_def]; split <;> grind
  obtain ⟨V, Mo, V', Mo', U', g1, g2, g3, g4, g5, g6, g7, g8, g9, g10, g11⟩ := loop_kept n ws hx l (.o 0) (.o 0) (.o 0) (.o 0) 0 hl (.inl rfl) (.inl rfl) (.inl rfl) (.inl rfl) rfl rfl z z hU
  obtain ⟨t2, t5, e1⟩ := g10 (.va (.tup (l.map ND))) .un .un
  obtain ⟨u2, u5, u6, u7, e2⟩ := g11 (.va (.tup (l.map ND))) .un .un .un .un
  obtain ⟨c1, _⟩ := pl_sz hx g1 g2 (B := U' + U') (by grind) g9
  obtain ⟨c2, _⟩ := pl_sz hx g3 g4 (B := U' + U') (by rw [← g5, ← g6]; grind) g9
  obtain ⟨M1, e3⟩ := c_plus (n + 2) ws hx g1 g2
  obtain ⟨M2, e4⟩ := c_plus (n + 2) ws hx g3 g4
  refine ⟨_, _, c1, c2, pl_v g5 g6, ?_, ?_⟩
  · rw [call_at (d := d_kept_sum) rfl rfl]
    simp! only [d_kept_sum, b_kept_sum, nO_s, e1, e3]
  · rw [call_at (d := d__law_kept_sum) rfl rfl]
    simp! only [d__law_kept_sum, b__law_kept_sum, nO_s, e2, e4]
/-! what is drawn -/
structure Dr (x : Fo) (a : Nm) : Prop where
  c : Cn x a
  ex : ∃ p : Int, -4 ≤ p ∧ p ≤ 4 ∧ Mu p (vNm a) ∧ -pw (x.d + p) < vNm a ∧ vNm a < pw (x.d + p)
theorem c_drawn (hx : F4 x) (ds : List Int) {k : Int} (hk : 0 ≤ k) : ∃ (a : Nm) (k' : Int), 0 ≤ k' ∧ Dr x a ∧ callO P (n + 2) 127 [.wd, FO x] (W ds k) = some (ND a, W ds k') := by
  have f := hx.f
  have g := hx.g
  have d3 := hx.d3
  have d8 := hx.d8
  obtain ⟨u1, g1, g1', e1⟩ := c__law_next n ds (m := 7) (k := k) (by decide) hk
  by_cases c : u1 = 0
  · obtain ⟨u2, g2, g2', e2⟩ := c__law_next n ds (m := 2) (k := k + 1) (by decide) (by omega)
    refine ⟨.o u2, k + 1 + 1, by omega, ⟨by show u2 = 0 ∨ u2 = 1; omega, 0, by decide, by decide, Mu_0 _, ?_, pw_pos _⟩, ?_⟩
    · have := pw_pos (x.d + 0)
      show -pw (x.d + 0) < 0
      grind
    · rw [call_at (d := d__law_drawn) rfl rfl]
      simp! only [d__law_drawn, b__law_drawn, e1, decide_eq_true c, e2]
      rfl
  · have d0 : 0 ≤ x.d - 1 := by omega
    have d2 : x.d - 1 ≤ 100000 := by omega
    have pp := pos2 (x.d - 1).toNat
    have dd : (2 : Int) ^ x.d.toNat = 2 * 2 ^ (x.d - 1).toNat := by
      rw [show x.d.toNat = (x.d - 1).toNat + 1 by omega, Int.pow_succ]
      omega
    obtain ⟨u2, g2, g2', e2⟩ := c__law_next n ds (m := 2 ^ (x.d - 1).toNat) (k := k + 1) pp (by omega)
    obtain ⟨u3, g3, g3', e3⟩ := c__law_next n ds (m := 2) (k := k + 1 + 1) (by decide) (by omega)
    obtain ⟨u4, g4, g4', e4⟩ := c__law_next n ds (m := 9) (k := k + 1 + 1 + 1) (by decide) (by omega)
    have cn : Cn x (.n u3 (2 ^ (x.d - 1).toNat + u2) (0 - 4 + u4)) := ⟨by omega, by omega, by omega, .inl (by omega), by omega, by omega⟩
    have lt : ((2 ^ (x.d - 1).toNat + u2 : Int) : Rat) * pw (0 - 4 + u4) < pw (x.d + (0 - 4 + u4)) := by
      rw [pw_add x.d, pw_nat x.d (by omega), mul_lt_iff, Rat.intCast_lt_intCast]; omega
    have ge : 0 < ((2 ^ (x.d - 1).toNat + u2 : Int) : Rat) * pw (0 - 4 + u4) := Rat.mul_pos (by have := Rat.intCast_lt_intCast.mpr (show 0 < 2 ^ (x.d - 1).toNat + u2 by omega); exact this) (pw_pos _)
    have vd : vNm (.n u3 (2 ^ (x.d - 1).toNat + u2) (0 - 4 + u4)) = if u3 = 1 then -(((2 ^ (x.d - 1).toNat + u2 : Int) : Rat) * pw (0 - 4 + u4)) else ((2 ^ (x.d - 1).toNat + u2 : Int) : Rat) * pw (0 - 4 + u4) := by
      show vN _ _ _ = _
      unfold vN
      rw [rI_c]
    have mu : Mu (0 - 4 + u4) (((2 ^ (x.d - 1).toNat + u2 : Int) : Rat) * pw (0 - 4 + u4)) := ⟨_, rfl⟩
    refine ⟨.n u3 (2 ^ (x.d - 1).toNat + u2) (0 - 4 + u4), k + 1 + 1 + 1 + 1, by omega, ⟨cn, 0 - 4 + u4, by omega, by omega, ?_, ?_, ?_⟩, ?_⟩
    · rw [vd]; split
      · exact Mu_neg mu
      · exact mu
    · rw [vd]; split <;> grind
    · rw [vd]; split <;> grind
    · rw [call_at (d := d__law_drawn) rfl rfl]
      simp! only [d__law_drawn, b__law_drawn, e1, decide_eq_false c, decide_eq_true d0, decide_eq_true d2, Int.natAbs_one, Int.one_mul, e2, e3, e4]
      rfl
theorem Dr.b (hx : F4 x) {a : Nm} (h : Dr x a) : ab (vNm a) ≤ pw (x.d + 4) := by
  obtain ⟨p, p1, p2, _, h1, h2⟩ := h.ex
  have := pw_mono (show x.d + p ≤ x.d + 4 by omega)
  exact ab_lt (by grind) (by grind)
theorem mul_bd {a b A B : Rat} (a1 : -A < a) (a2 : a < A) (b1 : -B < b) (b2 : b < B) : -(A * B) < a * b ∧ a * b < A * B := by
  have h1 := Rat.mul_pos (show 0 < A - a by grind) (show 0 < B - b by grind)
  have h2 := Rat.mul_pos (show 0 < A + a by grind) (show 0 < B + b by grind)
  have h3 := Rat.mul_pos (show 0 < A - a by grind) (show 0 < B + b by grind)
  have h4 := Rat.mul_pos (show 0 < A + a by grind) (show 0 < B - b by grind)
  constructor <;> grind
theorem dr_tp (hx : F4 x) {a b : Nm} (ha : Dr x a) (hb : Dr x b) : TP x a b ∧ ab (vNm (pd x a b)) ≤ pw (x.d + x.d + 8) ∧ ab (vNm (tp x a b)) ≤ pw (x.d + x.d + 8) := by
  have f := hx.f
  have g := hx.g
  have d3 := hx.d3
  have d8 := hx.d8
  obtain ⟨p, p1, p2, ma, a1, a2⟩ := ha.ex
  obtain ⟨r, r1, r2, mb, b1, b2⟩ := hb.ex
  obtain ⟨m1, m2⟩ := mul_bd a1 a2 b1 b2
  rw [← pw_add, show x.d + p + (x.d + r) = x.d + x.d + (p + r) by omega] at m1 m2
  have l1 := pw_mono (show x.d + x.d + (p + r) ≤ x.d + x.d + 8 by omega)
  have l2 : pw (x.d + x.d + 8) ≤ LL x := pw_mono (show x.d + x.d + 8 ≤ x.d + x.g - 1 by omega)
  have t := tp_ok hx ha.c hb.c ma mb (by omega) m1 m2 (by grind) (by grind)
  have rp : Rp x.d x.f (pw (x.d + x.d + 8)) := ⟨x.d + x.d + 8, by omega, Mu_pw (Int.le_refl _), by have := pw_pos (x.d + x.d + 8); have := pw_pos (x.d + (x.d + x.d + 8)); grind, pw_lt (by omega)⟩
  have n1 := nr_near (d_1 hx) t.sn rp
  have n2 := nr_near (d_1 hx) t.sn (Rp_neg rp)
  refine ⟨t, ab_lt (by unfold Le at n2; grind) (by unfold Le at n1; grind), ?_⟩
  have := ab_sz t.es
  have : ab (vNm a * vNm b) ≤ pw (x.d + x.d + 8) := ab_lt (by grind) (by grind)
  grind
/-! room -/
theorem LL_e (hx : F4 x) : LL x = 33554432 * pw (x.d + 4) := by
  have g := hx.g
  unfold LL
  rw [show x.d + x.g - 1 = (x.d + 4) + 25 by omega, pw_add (x.d + 4) 25, pw_nat 25 (by decide), Rat.mul_comm]
  rfl
theorem LL_m (hx : F4 x) : 8192 * pw (x.d + x.d + 8) ≤ LL x := by
  have g := hx.g
  have d8 := hx.d8
  have : 8192 * pw (x.d + x.d + 8) = pw (x.d + x.d + 8 + 13) := by
    rw [pw_add (x.d + x.d + 8) 13, pw_nat 13 (by decide), Rat.mul_comm]
    rfl
  rw [this]
  exact pw_mono (by omega)
theorem okU_le {L M : Rat} (j : Nat) : ∀ {k : Nat} {T : Rat}, okU L M T (k + j) → okU L M T k
  | 0, _, _ => trivial
  | k + 1, T, h => by
    rw [show k + 1 + j = k + j + 1 by omega] at h
    exact ⟨h.1, okU_le j h.2⟩
theorem okU_8 {L M : Rat} (h0 : 0 ≤ M) (h : 4374 * M < L) : okU L M 0 8 := by
  refine ⟨?_, ?_, ?_, ?_, ?_, ?_, ?_, ?_, trivial⟩ <;> grind
theorem okP_7 {L M : Rat} (h0 : 0 ≤ M) (h : 4374 * M < L) : okP L M 0 7 := by
  refine ⟨?_, ?_, ?_, ?_, ?_, ?_, ?_, trivial⟩ <;> grind
theorem okP_le {L M : Rat} (j : Nat) : ∀ {k : Nat} {T : Rat}, okP L M T (k + j) → okP L M T k
  | 0, _, _ => trivial
  | k + 1, T, h => by
    rw [show k + 1 + j = k + j + 1 by omega] at h
    exact ⟨h.1, okP_le j h.2⟩
theorem okK_le {L M : Rat} (j : Nat) : ∀ {k : Nat} {T : Rat}, okK L M T (k + j) → okK L M T k
  | 0, T, h => by
    cases j with
    | zero => exact h
    | succ j =>
      rw [show 0 + (j + 1) = j + 1 by omega] at h
      exact h.2.1
  | k + 1, T, h => by
    rw [show k + 1 + j = k + j + 1 by omega] at h
    exact ⟨h.1, h.2.1, h.2.2.1, okK_le j h.2.2.2⟩
theorem okK_7 {L M : Rat} (h0 : 0 ≤ M) (h : 21844 * M < L) (hL : 0 < L) : okK L M 0 7 := by
  refine ⟨?_, ?_, ?_, ?_, ?_, ?_, ?_, ?_, ?_, ?_, ?_, ?_, ?_, ?_, ?_, ?_, ?_, ?_, ?_, ?_, ?_, ?_⟩ <;> first | grind | (show _ + _ < L; grind)
end
end Pv.K44


set_option Elab.async false
set_option linter.all false
set_option maxRecDepth 100000
set_option exponentiation.threshold 20
/-! N10: the law k44. -/
namespace Pv.K44
open Pv
local macro_rules
  | `(tactic| simp! only [$xs,*]) => `(tactic| simp only [ev.eq_1, ev.eq_2, ev.eq_3, ev.eq_4, ev.eq_5, ev.eq_6, ev.eq_7, ev.eq_8, ev.eq_9, ev.eq_10, ev.eq_11, ev.eq_12, ev.eq_13, ev.eq_14, ev.eq_15, ev.eq_16, ev.eq_17, ev.eq_18, ev.eq_19, ev.eq_20, ev.eq_21, ev.eq_22, ev.eq_23, ev.eq_24, ev.eq_25, ev.eq_26, ev.eq_27, ev.eq_28, ev.eq_29, ev.eq_30, ev.eq_35, evs, evT, exec.eq_1, exec.eq_2, exec.eq_3, exec.eq_4, exec.eq_5, exec.eq_6, exec.eq_7, exec.eq_8, exec.eq_9, exec.eq_10, exec.eq_11, exec.eq_12, exec.eq_13, exec.eq_14, exec.eq_15, exec.eq_16, exec.eq_19, exec.eq_20, exec.eq_21, exec.eq_22, exec.eq_23, execs, x_whl, x_for, x_comp, x_compIf, x_comp2, x_comp2If, bor, vi, mkEnv, eg, es, frzA, frzS, bn, bt, bq, bind_F, setAll, setAllT, bind1, setPar, wipeE, tgs, b_add, b_sub, b_mul, b_fdiv, b_mod, b_shl, b_shr, b_pow, b_tup, b_lst, o_lt, o_le, o_gt, o_ge, o_eqi, o_nei, o_neb, sl_a, sl_b, sl_bl, sl_c, cmp_nil, cmp_cons, cmpY_nil, cmpY_cons, ixW_3, ixL_0, ixL_1, ixL_2, ixL_3, btl, o_isb, o_eqs, o_nes, o_int, o_nit, isF_s, isF_i, deq_ss, deq_ii, List.all_cons, List.all_nil, List.any_cons, List.any_nil, Nat.reduceEqDiff, Int.reduceEq, u_len1, u_len2, u_len3, u_abs, u_int, u_intb, u_lst1, u_lst2, u_lst3, u_tup, u_max, u_min, s_int, s_bl, s_tup, s_lst, s_non, s_str, a_add, a_sub, i_tup, i_lst, r_bl, r_int, fin, chk_own, chk_some, isN, bnd, iN_non, iN_int, iN_bl, iN_str, iN_tup, iN_lst, iN_F, ixW_0, ixW_1, ixW_2, F_0, F_1, ixW_w, wg_1, wg_0, wp_0, List.map, List.length, List.replicate, List.cons_append, List.nil_append, List.append_nil, Nat.reduceSub, Nat.reduceAdd, Nat.sub_self, Nat.sub_zero, if_true, Bool.false_eq_true, if_false, reduceIte, ite_true, ite_false, Bool.and_self, Bool.and_true, Bool.true_and, Bool.not_true, Bool.not_false, Nat.reduceLT, Nat.reduceLeDiff, decide_true, decide_false, Int.reduceLT, Int.reduceLE, Int.reduceAdd, Int.reduceSub, Int.reduceNeg, Bool.or_true, Bool.or_false, Bool.true_or, Bool.false_or, Bool.and_false, Bool.false_and, $xs,*])
  | `(tactic| simp! only) => `(tactic| simp only [ev.eq_1, ev.eq_2, ev.eq_3, ev.eq_4, ev.eq_5, ev.eq_6, ev.eq_7, ev.eq_8, ev.eq_9, ev.eq_10, ev.eq_11, ev.eq_12, ev.eq_13, ev.eq_14, ev.eq_15, ev.eq_16, ev.eq_17, ev.eq_18, ev.eq_19, ev.eq_20, ev.eq_21, ev.eq_22, ev.eq_23, ev.eq_24, ev.eq_25, ev.eq_26, ev.eq_27, ev.eq_28, ev.eq_29, ev.eq_30, ev.eq_35, evs, evT, exec.eq_1, exec.eq_2, exec.eq_3, exec.eq_4, exec.eq_5, exec.eq_6, exec.eq_7, exec.eq_8, exec.eq_9, exec.eq_10, exec.eq_11, exec.eq_12, exec.eq_13, exec.eq_14, exec.eq_15, exec.eq_16, exec.eq_19, exec.eq_20, exec.eq_21, exec.eq_22, exec.eq_23, execs, x_whl, x_for, x_comp, x_compIf, x_comp2, x_comp2If, bor, vi, mkEnv, eg, es, frzA, frzS, bn, bt, bq, bind_F, setAll, setAllT, bind1, setPar, wipeE, tgs, b_add, b_sub, b_mul, b_fdiv, b_mod, b_shl, b_shr, b_pow, b_tup, b_lst, o_lt, o_le, o_gt, o_ge, o_eqi, o_nei, o_neb, sl_a, sl_b, sl_bl, sl_c, cmp_nil, cmp_cons, cmpY_nil, cmpY_cons, ixW_3, ixL_0, ixL_1, ixL_2, ixL_3, btl, o_isb, o_eqs, o_nes, o_int, o_nit, isF_s, isF_i, deq_ss, deq_ii, List.all_cons, List.all_nil, List.any_cons, List.any_nil, Nat.reduceEqDiff, Int.reduceEq, u_len1, u_len2, u_len3, u_abs, u_int, u_intb, u_lst1, u_lst2, u_lst3, u_tup, u_max, u_min, s_int, s_bl, s_tup, s_lst, s_non, s_str, a_add, a_sub, i_tup, i_lst, r_bl, r_int, fin, chk_own, chk_some, isN, bnd, iN_non, iN_int, iN_bl, iN_str, iN_tup, iN_lst, iN_F, ixW_0, ixW_1, ixW_2, F_0, F_1, ixW_w, wg_1, wg_0, wp_0, List.map, List.length, List.replicate, List.cons_append, List.nil_append, List.append_nil, Nat.reduceSub, Nat.reduceAdd, Nat.sub_self, Nat.sub_zero, if_true, Bool.false_eq_true, if_false, reduceIte, ite_true, ite_false, Bool.and_self, Bool.and_true, Bool.true_and, Bool.not_true, Bool.not_false, Nat.reduceLT, Nat.reduceLeDiff, decide_true, decide_false, Int.reduceLT, Int.reduceLE, Int.reduceAdd, Int.reduceSub, Int.reduceNeg, Bool.or_true, Bool.or_false, Bool.true_or, Bool.false_or, Bool.and_false, Bool.false_and])
variable (n : Nat) (ws : WS)
section
variable {x : Fo}
theorem good_ND (a : Nm) : Good (ND a) := by cases a <;> exact ⟨rfl, rfl, by simp [ND, wt, wts]⟩
theorem same_ND (a : Nm) : callO P (n + 1) 64 [ND a, ND a] ws = some (.bl true, ws) := c__law_same n ws (good_ND a)
theorem cut_2 (l : List Nm) : slD (.tup (l.map ND)) none (some 2) = some (.tup ((l.take 2).map ND)) := by
  by_cases h : 2 ≤ l.length
  · exact cut_l l 2 h
  · have := cut_l l l.length (Nat.le_refl _)
    rw [List.take_of_length_le (by omega : l.length ≤ 2)]
    show some (D.tup (cutD (l.map ND) none (some ((2 : Nat) : Int)))) = _
    unfold cutD
    rw [HT.sIx_none, HT.sIx_nat, List.length_map, List.drop_zero, Nat.sub_zero, Nat.min_eq_right (by omega), List.take_of_length_le (by simp)]
theorem draws_cmp (hx : F4 x) (ds : List Int) {s0 s2 s4 s5 s6 s7 s8 s9 s10 s11 s12 s13 s14 s15 s16 s17 : Slot} (el : Ex) (hel : el = .call 127 (.cons (.var 1) (.cons (.var 3) .nil))) : ∀ (xs : List Nat) (k : Int), 0 ≤ k →
    ∃ (l : List Nm) (k' : Int), 0 ≤ k' ∧ l.length = xs.length ∧ (∀ a ∈ l, Dr x a) ∧ cmpX (callO P (n + 2)) (.nm 18) el [s0, .va .wd, s2, .va (FO x), s4, s5, s6, s7, s8, s9, s10, s11, s12, s13, s14, s15, s16, s17, .un] (xs.map fun k : Nat => .int (0 + (k : Int))) (W ds k) = some (l.map ND, W ds k')
  | [], k, hk => ⟨[], k, hk, rfl, by simp, rfl⟩
  | y :: xs, k, hk => by
    obtain ⟨a, k1, p1, d, e⟩ := c_drawn n hx ds hk
    obtain ⟨l, k2, p2, h1, h2, e2⟩ := draws_cmp hx ds (s0 := s0) (s2 := s2) (s4 := s4) (s5 := s5) (s6 := s6) (s7 := s7) (s8 := s8) (s9 := s9) (s10 := s10) (s11 := s11) (s12 := s12) (s13 := s13) (s14 := s14) (s15 := s15) (s16 := s16) (s17 := s17) el hel xs k1 p1
    refine ⟨a :: l, k2, p2, by simp [h1], ?_, ?_⟩
    · intro b hb
      rcases List.mem_cons.mp hb with rfl | hb
      · exact d
      · exact h2 b hb
    · rw [List.map_cons, cmp_cons]
      subst hel
      simp! only [e, e2]
theorem kd_in {a : Nm} (h : Cn x a) : (decide (kdN a < 512) = true) ∧ ((decide (1 = kdN a) || decide (0 = kdN a)) = true) := by
  cases a with
  | o s => exact ⟨rfl, rfl⟩
  | n s w p => exact ⟨rfl, rfl⟩
  | e s => exact absurd h id
/-- one turn -/
theorem turn {s0 s2 s3 s4 s5 s6 s7 s8 s9 s10 s11 s12 s13 s14 s15 s16 s17 : Slot} (ds : List Int) {k : Int} (hk : 0 ≤ k) :
    ∃ (k' : Int) (t3 t4 t5 t6 t7 t8 t9 t10 t11 t12 t13 t14 t15 t16 t17 : Slot), 0 ≤ k' ∧ execs (callO P (n + 12)) l_law_2_3 [s0, .va .wd, s2, s3, s4, s5, s6, s7, s8, s9, s10, s11, s12, s13, s14, s15, s16, s17, .un] (W ds k) = some (.nx, [s0, .va .wd, s2, t3, t4, t5, t6, t7, t8, t9, t10, t11, t12, t13, t14, t15, t16, t17, .un], W ds k') := by
  obtain ⟨u1, g1, g1', e1⟩ := c__law_next (n + 11) ds (m := 6) (k := k) (by decide) hk
  generalize hx0 : (⟨3 + u1, -30, 30⟩ : Fo) = x
  have xd : x.d = 3 + u1 := by rw [← hx0]
  have xf : x.f = -30 := by rw [← hx0]
  have xg : x.g = 30 := by rw [← hx0]
  have hx : F4 x := ⟨by omega, by omega, xf, xg⟩
  have fx : D.tup [.int (3 + u1), .int (-30), .int 30] = FO x := by rw [FO, xd, xf, xg]
  obtain ⟨a, k1, p1, da, e2⟩ := c_drawn (n + 10) hx ds (k := k + 1) (by omega)
  obtain ⟨b, k2, p2, db, e3⟩ := c_drawn (n + 10) hx ds (k := k1) p1
  have ca := da.c
  have cb := db.c
  have ba := da.b hx
  have bb := db.b hx
  have E0 := pw_pos (x.d + 4)
  have LE := LL_e hx
  have LM := LL_m hx
  have M0 := pw_pos (x.d + x.d + 8)
  have la := ab_le (q := vNm a)
  have lb := ab_le (q := vNm b)
  have ta := ts_ok hx ca cb (A := pw (x.d + 4)) (B := pw (x.d + 4)) (by grind) (by grind) (by grind) (by grind) (by grind) (by grind)
  obtain ⟨tb, _, _⟩ := dr_tp hx da db
  have e4 := c_two_sum (n + 2) (W ds k2) hx ca cb ta
  have e5 := c_two_product (n + 2) (W ds k2) hx ca cb tb
  obtain ⟨M1, e6⟩ := c_plus (n + 4) (W ds k2) hx ca cb
  obtain ⟨M2, e7⟩ := c_product (n + 4) (W ds k2) hx ca cb
  have va := c_lval (n + 10) (W ds k2) hx ca
  have vb := c_lval (n + 10) (W ds k2) hx cb
  have z40 : ∀ {a : Nm}, Cn x a → Z 4000 (vNm a) := fun h => (Z_nm hx h).mono (by decide)
  have e8 := c_lmul (n + 10) (W ds k2) (z40 ca) (z40 cb)
  have al1 : callO P (n + 12) 130 [.lst [ND a, ND b]] (W ds k2) = some (F (vNm a + vNm b), W ds k2) := by
    have := c_allL (n + 9) (W ds k2) hx (l := [a, b]) (by simp; exact ⟨ca, cb⟩) (by simp)
    rw [show sV [a, b] = vNm a + vNm b by simp only [sV]; grind] at this
    exact this
  have al2 : callO P (n + 12) 130 [.tup [ND (pl x a b), ND (ts x a b)]] (W ds k2) = some (F (vNm a + vNm b), W ds k2) := by
    have := c_allT (n + 9) (W ds k2) hx (l := [pl x a b, ts x a b]) (by simp; exact ⟨ta.s, ta.y⟩) (by simp)
    rw [show sV [pl x a b, ts x a b] = vNm a + vNm b by simp only [sV]; rw [ta.e]; grind] at this
    exact this
  have al3 : callO P (n + 12) 130 [.tup [ND (pd x a b), ND (tp x a b)]] (W ds k2) = some (F (vNm a * vNm b), W ds k2) := by
    have := c_allT (n + 9) (W ds k2) hx (l := [pd x a b, tp x a b]) (by simp; exact ⟨tb.s, tb.y⟩) (by simp)
    rw [show sV [pd x a b, tp x a b] = vNm a * vNm b by simp only [sV]; rw [tb.e]; grind] at this
    exact this
  have io1 := c_is_of (n + 9) (W ds k2) hx ta.y
  have io2 := c_is_of (n + 9) (W ds k2) hx tb.y
  have sm := fun (w : WS) (a : Nm) => same_ND (n + 11) w a
  -- the greater first
  have hLS : ∃ c d : Nm, Dr x c ∧ Dr x d ∧ Sz (vNm d) (vNm c) ∧ vNm c + vNm d = vNm a + vNm b ∧ (if decide (ab (vNm a) < ab (vNm b)) = true then D.tup [ND b, ND a] else D.tup [ND a, ND b]) = D.tup [ND c, ND d] := by
    by_cases h : ab (vNm a) < ab (vNm b)
    · refine ⟨b, a, db, da, ?_, by grind, by rw [if_pos (decide_eq_true h)]⟩
      rw [ab_def, ab_def] at h
      unfold Sz
      grind
    · refine ⟨a, b, da, db, ?_, rfl, by rw [if_neg (by rw [decide_eq_false h]; decide)]⟩
      rw [ab_def, ab_def] at h
      unfold Sz
      grind
  obtain ⟨c, d, dc, dd, cd, sv, hcd⟩ := hLS
  have lc := ab_le (q := vNm c)
  have bc := dc.b hx
  have qk := qs_ok hx dc.c dd.c cd (A := pw (x.d + 4)) (by grind) (by grind) (by grind)
  have e9 := c_quick_two_sum (n + 2) (W ds k2) hx dc.c dd.c qk
  obtain ⟨M3, e10⟩ := c_plus (n + 4) (W ds k2) hx dc.c dd.c
  have sa := c__law_size (n + 11) (W ds k2) (vNm a)
  have sb := c__law_size (n + 11) (W ds k2) (vNm b)
  have ls := c__law_less (n + 11) (W ds k2) (Z_ab (z40 ca)) (Z_ab (z40 cb))
  have io3 := c_is_of (n + 9) (W ds k2) hx qk.y
  have al4 : callO P (n + 12) 130 [.tup [ND (pl x c d), ND (qs x c d)]] (W ds k2) = some (F (vNm a + vNm b), W ds k2) := by
    have := c_allT (n + 9) (W ds k2) hx (l := [pl x c d, qs x c d]) (by simp; exact ⟨qk.s, qk.y⟩) (by simp)
    rw [show sV [pl x c d, qs x c d] = vNm a + vNm b by simp only [sV]; rw [qk.e]; grind] at this
    exact this
  -- numbers
  obtain ⟨u2, g2, g2', f1⟩ := c__law_next (n + 11) ds (m := 7) (k := k2) (by decide) p2
  have r1 : (-100000 : Int) ≤ 1 + u2 := by omega
  have r2 : (1 + u2 : Int) ≤ 100000 := by omega
  obtain ⟨l, k3, p3, ll, dl, f2⟩ := draws_cmp (n + 10) hx ds (s0 := s0) (s2 := s2) (s4 := .va (.tup [ND (pl x c d), ND (qs x c d)])) (s5 := s5) (s6 := s6) (s7 := .va (ND a)) (s8 := .va (ND b)) (s9 := .va (.tup [ND (pd x a b), ND (tp x a b)])) (s10 := .va (.tup [ND (pd x a b), ND (tp x a b)])) (s11 := .va (ND (pd x a b))) (s12 := .va (F (vNm a * vNm b))) (s13 := .va (ND c)) (s14 := .va (ND d)) (s15 := s15) (s16 := s16) (s17 := s17) x_law_2_1 rfl (List.range (1 + u2).toNat) (k2 + 1) (by omega)
  rw [List.length_range] at ll
  have ll1 : 1 ≤ l.length := by omega
  have ll7 : l.length ≤ 7 := by omega
  have o1 : okLen ((1 + u2).toNat) = true := okLen_of (by omega)
  have cl : ∀ a ∈ l, Cn x a := fun a h => (dl a h).c
  have bl : ∀ a ∈ l, Cn x a ∧ ab (vNm a) ≤ pw (x.d + 4) := fun a h => ⟨(dl a h).c, (dl a h).b hx⟩
  have ne : l ≠ [] := fun z => by rw [z] at ll1; simp at ll1
  have oU8 : okU (LL x) (pw (x.d + 4)) 0 8 := okU_8 (by grind) (by grind)
  have oU : okU (LL x) (pw (x.d + 4)) 0 (l.length + 1) := okU_le (7 - l.length) (by rw [show l.length + 1 + (7 - l.length) = 8 by omega]; exact oU8)
  obtain ⟨g, T', f3, cg, sg', lg, gd, sT, oT⟩ := c_parts_of_sum n (W ds k3) hx bl ne (okU_le 1 oU) (by omega)
  have f4 := c_allT (n + 9) (W ds k3) hx cl (by omega)
  have f5 := c_good (n + 8) (W ds k3) hx cg (by omega) gd sg'
  have f6 := c_exact_sum (n + 6) (W ds k3) hx cl (by omega)
  have f7 := c__law_same (n + 11) (W ds k3) (good_F (sV l))
  obtain ⟨h, f8, G⟩ := c_grown (n + 1) (W ds k3) hx cg ca ba (by have := (oT 1 oU).1; grind) (by omega)
  have lh := G.ln
  have f9 : callO P (n + 12) 124 [.lst [F (sV l), F (vNm a)]] (W ds k3) = some (F (sV l + vNm a), W ds k3) := by
    have zl := (Z_sV hx cl).mono (show 1 + l.length * 41 ≤ 300 by omega)
    have := c_sumL (n + 10) (W ds k3) (xs := [sV l, vNm a]) (j := 300) (by
      intro q hq
      simp only [List.mem_cons, List.not_mem_nil, or_false] at hq
      rcases hq with rfl | rfl
      · exact zl
      · exact (Z_nm hx ca).mono (by decide)) (by decide) (by simp)
    rw [show sumF 0 [sV l, vNm a] = sV l + vNm a by simp only [sumF, List.foldl]; grind] at this
    exact this
  have va3 := c_lval (n + 10) (W ds k3) hx ca
  have f10 := c_good (n + 8) (W ds k3) hx G.cf (by omega) G.gd (q := sV l + vNm a) (by rw [G.sm, sg']; grind)
  -- some
  obtain ⟨u3, g3, g3', j1⟩ := c__law_next (n + 11) ds (m := 2) (k := k3) (by decide) p3
  have r3 : (-100000 : Int) ≤ 1 + u3 := by omega
  have r4 : (1 + u3 : Int) ≤ 100000 := by omega
  obtain ⟨m, k4, p4, ml, dm, j2⟩ := draws_cmp (n + 10) hx ds (s0 := s0) (s2 := s2) (s4 := .va (.tup [ND (pl x c d), ND (qs x c d)])) (s5 := .va (.tup (l.map ND))) (s6 := s6) (s7 := .va (ND a)) (s8 := .va (ND b)) (s9 := .va (.tup [ND (pd x a b), ND (tp x a b)])) (s10 := .va (.tup [ND (pd x a b), ND (tp x a b)])) (s11 := .va (ND (pd x a b))) (s12 := .va (F (sV l))) (s13 := .va (ND c)) (s14 := .va (ND d)) (s15 := .va (.tup (g.map ND))) (s16 := s16) (s17 := s17) x_law_2_2 rfl (List.range (1 + u3).toNat) (k3 + 1) (by omega)
  rw [List.length_range] at ml
  have o2 : okLen ((1 + u3).toNat) = true := okLen_of (by omega)
  have cm : ∀ a ∈ m, Cn x a := fun a h => (dm a h).c
  have mne : m ≠ [] := fun z => by rw [z] at ml; simp at ml; omega
  have l2 : ∀ a ∈ l.take 2, a ∈ l := fun a h => List.mem_of_mem_take h
  have l2n : l.take 2 ≠ [] := fun z => by have := congrArg List.length z; rw [List.length_take, List.length_nil] at this; omega
  have l2l : (l.take 2).length ≤ 2 := by rw [List.length_take]; omega
  have ml2 : m.length ≤ 2 := by omega
  have kl : 2 * m.length * (l.take 2).length ≤ 8 := by
    have h1 : 2 * m.length ≤ 4 := by omega
    have := Nat.mul_le_mul h1 l2l
    omega
  have oM8 : okU (LL x) (pw (x.d + x.d + 8)) 0 8 := okU_8 (by grind) (by grind)
  obtain ⟨q, j3, cq, sq, gq, lq⟩ := c_kept_product n (W ds k4) hx mne l2n (M := pw (x.d + x.d + 8)) (fun a ha => ⟨cl a (l2 a ha), fun b hb => ⟨cm b hb, (dr_tp hx (dl a (l2 a ha)) (dm b hb)).1, (dr_tp hx (dl a (l2 a ha)) (dm b hb)).2.1, (dr_tp hx (dl a (l2 a ha)) (dm b hb)).2.2⟩⟩)
    (okU_le (8 - 2 * m.length * (l.take 2).length) (by rw [show 2 * m.length * (l.take 2).length + (8 - 2 * m.length * (l.take 2).length) = 8 by omega]; exact oM8)) (by omega)
  have j4 := c_allT (n + 9) (W ds k4) hx (l := l.take 2) (fun a ha => cl a (l2 a ha)) (by omega)
  have j5 := c_allT (n + 9) (W ds k4) hx cm (by omega)
  have j6 := c_lmul (n + 10) (W ds k4) ((Z_sV hx fun a ha => cl a (l2 a ha)).mono (show 1 + (l.take 2).length * 41 ≤ 4000 by omega)) ((Z_sV hx cm).mono (show 1 + m.length * 41 ≤ 4000 by omega))
  have j7 := c_good (n + 8) (W ds k4) hx cq (by omega) gq sq
  have ct := cut_2 l
  -- sums
  obtain ⟨a1, _, y1, y2⟩ := c_plains (n + 3) (W ds k4) hx bl (okP_le (7 - l.length) (by rw [show l.length + (7 - l.length) = 7 by omega]; exact okP_7 (by grind) (by grind)))
  have pb : pB (pw (x.d + 4)) 3 < LL x := by simp only [pB]; grind
  obtain ⟨y3, y4, _, _⟩ := c_halves n (W ds k4) hx (M := pw (x.d + 4)) (by grind) 3 l bl ne (by omega) pb
  have y5 := c_rounded_sum (n + 4) (W ds k4) hx cl (by omega)
  obtain ⟨M4, y6⟩ := c_rd (n + 5) (W ds k4) hx ((Z_sV hx cl).mono (show 1 + l.length * 41 ≤ 1000 by omega)) 0
  obtain ⟨ka, kb, cka, ckb, vk, y7, y8⟩ := c_kepts (n + 1) (W ds k4) hx bl (okK_le (7 - l.length) (by rw [show l.length + (7 - l.length) = 7 by omega]; exact okK_7 (by grind) (by grind) (pw_pos _)))
  have y9 := c_lval (n + 10) (W ds k4) hx cka
  have y10 := c_lval (n + 10) (W ds k4) hx ckb
  rw [← vk] at y10
  obtain ⟨ki1, ki2⟩ := kd_in cka
  have y11 := c_parts (n + 6) (W ds k4) hx cl (by omega)
  have y12 := c_apart (n + 9) (W ds k4) hx cl (by omega)
  have y13 := c_parts (n + 6) (W ds k4) hx cg (by omega)
  have y14 := c_apart (n + 9) (W ds k4) hx cg (by omega)
  have sbl := fun b => c__law_same (n + 11) (W ds k4) (good_bl b)
  have l22 := l_22
  refine ⟨k4, .va (FO x), .va (.tup [ND (pl x c d), ND (qs x c d)]), .va (.tup (l.map ND)), .va (.tup (m.map ND)), .va (ND a), .va (ND b), .va (.tup [ND (pd x a b), ND (tp x a b)]), .va (.tup [ND (pd x a b), ND (tp x a b)]), .va (ND (pd x a b)), .va (F (sV l)), .va (ND c), .va (ND d), .va (.tup (g.map ND)), .va (ND ka), .va (ND kb), p4, ?_⟩
  unfold l_law_2_3
  refine step_eq [s0, .va .wd, s2, .va (FO x), s4, s5, s6, s7, s8, s9, s10, s11, s12, s13, s14, s15, s16, s17, .un] (W ds (k + 1)) (by simp! only [e1, fx]) ?_
  refine step_eq [s0, .va .wd, s2, .va (FO x), s4, s5, s6, .va (ND a), .va (ND b), s9, s10, s11, s12, s13, s14, s15, s16, s17, .un] (W ds k2) (by simp! only [e2, e3]) ?_
  refine step_eq [s0, .va .wd, s2, .va (FO x), .va (.tup [ND (pl x a b), ND (ts x a b)]), s5, s6, .va (ND a), .va (ND b), .va (.tup [ND (pd x a b), ND (tp x a b)]), s10, s11, s12, s13, s14, s15, s16, s17, .un] (W ds k2) (by simp! only [e4, e5]) ?_
  refine step_eq [s0, .va .wd, s2, .va (FO x), .va (.tup [ND (pl x a b), ND (ts x a b)]), s5, s6, .va (ND a), .va (ND b), .va (.tup [ND (pd x a b), ND (tp x a b)]), .va (.tup [ND (pd x a b), ND (tp x a b)]), .va (ND (pd x a b)), .va (F (vNm a * vNm b)), s13, s14, s15, s16, s17, .un] (W ds k2) (by
    simp! only [e6, e7, e8, va, vb, al1, al2, al3, for_cons, for_nil, l_law_2_0, l22, sm, io1, io2, nb_tt, ne_FF]) ?_
  refine step_eq [s0, .va .wd, s2, .va (FO x), .va (.tup [ND (pl x a b), ND (ts x a b)]), s5, s6, .va (ND a), .va (ND b), .va (.tup [ND (pd x a b), ND (tp x a b)]), .va (.tup [ND (pd x a b), ND (tp x a b)]), .va (ND (pd x a b)), .va (F (vNm a * vNm b)), .va (ND c), .va (ND d), s15, s16, s17, .un] (W ds k2) (by
    cases hh : decide (ab (vNm a) < ab (vNm b)) with
    | true =>
      rw [hh] at hcd ls
      simp only [if_true, D.tup.injEq, List.cons.injEq] at hcd
      rw [← hcd.1, ← hcd.2.1]
      simp! only [va, vb, sa, sb, ls]
    | false =>
      rw [hh] at hcd ls
      simp only [Bool.false_eq_true, if_false, D.tup.injEq, List.cons.injEq] at hcd
      rw [← hcd.1, ← hcd.2.1]
      simp! only [va, vb, sa, sb, ls]) ?_
  refine step_eq [s0, .va .wd, s2, .va (FO x), .va (.tup [ND (pl x c d), ND (qs x c d)]), s5, s6, .va (ND a), .va (ND b), .va (.tup [ND (pd x a b), ND (tp x a b)]), .va (.tup [ND (pd x a b), ND (tp x a b)]), .va (ND (pd x a b)), .va (F (vNm a * vNm b)), .va (ND c), .va (ND d), s15, s16, s17, .un] (W ds k2) (by simp! only [e9]) ?_
  refine step_eq [s0, .va .wd, s2, .va (FO x), .va (.tup [ND (pl x c d), ND (qs x c d)]), s5, s6, .va (ND a), .va (ND b), .va (.tup [ND (pd x a b), ND (tp x a b)]), .va (.tup [ND (pd x a b), ND (tp x a b)]), .va (ND (pd x a b)), .va (F (vNm a * vNm b)), .va (ND c), .va (ND d), s15, s16, s17, .un] (W ds k2) (by simp! only [e10, sm, io3, nb_tt, al4, al1, ne_FF]) ?_
  refine step_eq [s0, .va .wd, s2, .va (FO x), .va (.tup [ND (pl x c d), ND (qs x c d)]), .va (.tup (l.map ND)), s6, .va (ND a), .va (ND b), .va (.tup [ND (pd x a b), ND (tp x a b)]), .va (.tup [ND (pd x a b), ND (tp x a b)]), .va (ND (pd x a b)), .va (F (vNm a * vNm b)), .va (ND c), .va (ND d), s15, s16, s17, .un] (W ds k3) (by simp! only [f1, decide_eq_true r1, decide_eq_true r2, List.length_map, List.length_range, o1, f2]) ?_
  refine step_eq [s0, .va .wd, s2, .va (FO x), .va (.tup [ND (pl x c d), ND (qs x c d)]), .va (.tup (l.map ND)), s6, .va (ND a), .va (ND b), .va (.tup [ND (pd x a b), ND (tp x a b)]), .va (.tup [ND (pd x a b), ND (tp x a b)]), .va (ND (pd x a b)), .va (F (sV l)), .va (ND c), .va (ND d), .va (.tup (g.map ND)), s16, s17, .un] (W ds k3) (by simp! only [f3, f4]) ?_
  refine step_eq [s0, .va .wd, s2, .va (FO x), .va (.tup [ND (pl x c d), ND (qs x c d)]), .va (.tup (l.map ND)), s6, .va (ND a), .va (ND b), .va (.tup [ND (pd x a b), ND (tp x a b)]), .va (.tup [ND (pd x a b), ND (tp x a b)]), .va (ND (pd x a b)), .va (F (sV l)), .va (ND c), .va (ND d), .va (.tup (g.map ND)), s16, s17, .un] (W ds k3) (by simp! only [f5, f6, f7]) ?_
  refine step_eq [s0, .va .wd, s2, .va (FO x), .va (.tup [ND (pl x c d), ND (qs x c d)]), .va (.tup (l.map ND)), s6, .va (ND a), .va (ND b), .va (.tup [ND (pd x a b), ND (tp x a b)]), .va (.tup [ND (pd x a b), ND (tp x a b)]), .va (ND (pd x a b)), .va (F (sV l)), .va (ND c), .va (ND d), .va (.tup (g.map ND)), s16, s17, .un] (W ds k3) (by simp! only [f8, va3, f9, f10]) ?_
  refine step_eq [s0, .va .wd, s2, .va (FO x), .va (.tup [ND (pl x c d), ND (qs x c d)]), .va (.tup (l.map ND)), .va (.tup (m.map ND)), .va (ND a), .va (ND b), .va (.tup [ND (pd x a b), ND (tp x a b)]), .va (.tup [ND (pd x a b), ND (tp x a b)]), .va (ND (pd x a b)), .va (F (sV l)), .va (ND c), .va (ND d), .va (.tup (g.map ND)), s16, s17, .un] (W ds k4) (by simp! only [j1, decide_eq_true r3, decide_eq_true r4, List.length_map, List.length_range, o2, j2]) ?_
  refine step_eq [s0, .va .wd, s2, .va (FO x), .va (.tup [ND (pl x c d), ND (qs x c d)]), .va (.tup (l.map ND)), .va (.tup (m.map ND)), .va (ND a), .va (ND b), .va (.tup [ND (pd x a b), ND (tp x a b)]), .va (.tup [ND (pd x a b), ND (tp x a b)]), .va (ND (pd x a b)), .va (F (sV l)), .va (ND c), .va (ND d), .va (.tup (g.map ND)), s16, s17, .un] (W ds k4) (by simp! only [ct, j3, j4, j5, j6, j7]) ?_
  refine step_eq [s0, .va .wd, s2, .va (FO x), .va (.tup [ND (pl x c d), ND (qs x c d)]), .va (.tup (l.map ND)), .va (.tup (m.map ND)), .va (ND a), .va (ND b), .va (.tup [ND (pd x a b), ND (tp x a b)]), .va (.tup [ND (pd x a b), ND (tp x a b)]), .va (ND (pd x a b)), .va (F (sV l)), .va (ND c), .va (ND d), .va (.tup (g.map ND)), s16, s17, .un] (W ds k4) (by simp! only [y1, y2, y3, y4, sm]) ?_
  refine step_eq [s0, .va .wd, s2, .va (FO x), .va (.tup [ND (pl x c d), ND (qs x c d)]), .va (.tup (l.map ND)), .va (.tup (m.map ND)), .va (ND a), .va (ND b), .va (.tup [ND (pd x a b), ND (tp x a b)]), .va (.tup [ND (pd x a b), ND (tp x a b)]), .va (ND (pd x a b)), .va (F (sV l)), .va (ND c), .va (ND d), .va (.tup (g.map ND)), s16, s17, .un] (W ds k4) (by simp! only [y5, y6, sm]) ?_
  refine step_eq [s0, .va .wd, s2, .va (FO x), .va (.tup [ND (pl x c d), ND (qs x c d)]), .va (.tup (l.map ND)), .va (.tup (m.map ND)), .va (ND a), .va (ND b), .va (.tup [ND (pd x a b), ND (tp x a b)]), .va (.tup [ND (pd x a b), ND (tp x a b)]), .va (ND (pd x a b)), .va (F (sV l)), .va (ND c), .va (ND d), .va (.tup (g.map ND)), .va (ND ka), .va (ND kb), .un] (W ds k4) (by simp! only [y7, y8]) ?_
  refine step_eq [s0, .va .wd, s2, .va (FO x), .va (.tup [ND (pl x c d), ND (qs x c d)]), .va (.tup (l.map ND)), .va (.tup (m.map ND)), .va (ND a), .va (ND b), .va (.tup [ND (pd x a b), ND (tp x a b)]), .va (.tup [ND (pd x a b), ND (tp x a b)]), .va (ND (pd x a b)), .va (F (sV l)), .va (ND c), .va (ND d), .va (.tup (g.map ND)), .va (ND ka), .va (ND kb), .un] (W ds k4) (by simp! only [ix_0, ki1, ki2, y9, y10, ne_FF, y11, y12, y13, y14, sbl]) ?_
  rfl
theorem loop_law {s0 : Slot} (ds : List Int) : ∀ (xs : List Nat) (k : Int) (s2 s3 s4 s5 s6 s7 s8 s9 s10 s11 s12 s13 s14 s15 s16 s17 : Slot), 0 ≤ k →
    ∃ (k' : Int) (t2 t3 t4 t5 t6 t7 t8 t9 t10 t11 t12 t13 t14 t15 t16 t17 : Slot), forX (callO P (n + 12)) (.nm 2) l_law_2_3 (xs.map fun k : Nat => .int (0 + (k : Int))) [s0, .va .wd, s2, s3, s4, s5, s6, s7, s8, s9, s10, s11, s12, s13, s14, s15, s16, s17, .un] (W ds k) = some (.nx, [s0, .va .wd, t2, t3, t4, t5, t6, t7, t8, t9, t10, t11, t12, t13, t14, t15, t16, t17, .un], W ds k')
  | [], k, s2, s3, s4, s5, s6, s7, s8, s9, s10, s11, s12, s13, s14, s15, s16, s17, _ => ⟨k, s2, s3, s4, s5, s6, s7, s8, s9, s10, s11, s12, s13, s14, s15, s16, s17, rfl⟩
  | x :: xs, k, s2, s3, s4, s5, s6, s7, s8, s9, s10, s11, s12, s13, s14, s15, s16, s17, hk => by
    obtain ⟨k1, t3, t4, t5, t6, t7, t8, t9, t10, t11, t12, t13, t14, t15, t16, t17, q1, e1⟩ := turn n (s0 := s0) (s2 := .va (.int (0 + (x : Int)))) (s3 := s3) (s4 := s4) (s5 := s5) (s6 := s6) (s7 := s7) (s8 := s8) (s9 := s9) (s10 := s10) (s11 := s11) (s12 := s12) (s13 := s13) (s14 := s14) (s15 := s15) (s16 := s16) (s17 := s17) ds hk
    obtain ⟨k', u2, u3, u4, u5, u6, u7, u8, u9, u10, u11, u12, u13, u14, u15, u16, u17, e2⟩ := loop_law (s0 := s0) ds xs k1 (.va (.int (0 + (x : Int)))) t3 t4 t5 t6 t7 t8 t9 t10 t11 t12 t13 t14 t15 t16 t17 q1
    refine ⟨k', u2, u3, u4, u5, u6, u7, u8, u9, u10, u11, u12, u13, u14, u15, u16, u17, ?_⟩
    rw [List.map_cons, for_cons]
    simp! only [e1]
    exact e2
theorem law_true (ns : List Int) (h : ns.length ≤ 63) : lawO P 13 d_law_2 ns = some (.bl true) := by
  obtain ⟨ds, e1⟩ := c__law_draws 12 none h (mm := 320) (by decide)
  obtain ⟨k', t2, t3, t4, t5, t6, t7, t8, t9, t10, t11, t12, t13, t14, t15, t16, t17, e2⟩ := loop_law 1 (s0 := .va (.scr ns)) ds (List.range 4) 0 .un .un .un .un .un .un .un .un .un .un .un .un .un .un .un .un (Int.le_refl 0)
  have t4' : Int.toNat 4 = 4 := rfl
  have e1' : callO P 13 61 [.scr ns, .int 320] none = some (.lst (ds.map .int), none) := e1
  have e : fin (execs (callO P 13) b_law_2 (mkEnv [.scr ns] 19) none) = some (.bl true, W ds k') := by
    have c10 : decide ((25 : Nat) = 24) = false := rfl
    simp! only [b_law_2, e1', t4', c10, e2]
  unfold lawO
  rw [show d_law_2.body = b_law_2 from rfl, show d_law_2.ns = 19 from rfl, e]
end
end Pv.K44


namespace Pv.K44
open PySem PySem.Spec PyProof.Rows L2
theorem bi_is_number : ∀ (kV doc pm : Value) (an : Option Addr) (cdv ct : Value) (us : List Value), us.length = ps_is_number.length → bindArgs (PySem.W.fnOf "is_number" "is_number" (defArgs (at_ 1)) (defBody (at_ 1)) (defScope (at_ 1)) .none kV doc pm an cdv ct) ⟨us, []⟩ = pure (ps_is_number.zip us) :=
  fun _ _ _ _ _ _ us hl => match us, hl with | [_], _ => rfl
theorem bi_is_from : ∀ (kV doc pm : Value) (an : Option Addr) (cdv ct : Value) (us : List Value), us.length = ps_is_from.length → bindArgs (PySem.W.fnOf "is_from" "is_from" (defArgs (at_ 2)) (defBody (at_ 2)) (defScope (at_ 2)) .none kV doc pm an cdv ct) ⟨us, []⟩ = pure (ps_is_from.zip us) :=
  fun _ _ _ _ _ _ us hl => match us, hl with | [_, _], _ => rfl
theorem bi_bits_of : ∀ (kV doc pm : Value) (an : Option Addr) (cdv ct : Value) (us : List Value), us.length = ps_bits_of.length → bindArgs (PySem.W.fnOf "bits_of" "bits_of" (defArgs (at_ 3)) (defBody (at_ 3)) (defScope (at_ 3)) .none kV doc pm an cdv ct) ⟨us, []⟩ = pure (ps_bits_of.zip us) :=
  fun _ _ _ _ _ _ us hl => match us, hl with | [_], _ => rfl
theorem bi_common : ∀ (kV doc pm : Value) (an : Option Addr) (cdv ct : Value) (us : List Value), us.length = ps_common.length → bindArgs (PySem.W.fnOf "common" "common" (defArgs (at_ 6)) (defBody (at_ 6)) (defScope (at_ 6)) .none kV doc pm an cdv ct) ⟨us, []⟩ = pure (ps_common.zip us) :=
  fun _ _ _ _ _ _ us hl => match us, hl with | [_, _], _ => rfl
theorem bi_fraction : ∀ (kV doc pm : Value) (an : Option Addr) (cdv ct : Value) (us : List Value), us.length = ps_fraction.length → bindArgs (PySem.W.fnOf "fraction" "fraction" (defArgs (at_ 7)) (defBody (at_ 7)) (defScope (at_ 7)) .none kV doc pm an cdv ct) ⟨us, []⟩ = pure (ps_fraction.zip us) :=
  fun _ _ _ _ _ _ us hl => match us, hl with | [_, _], _ => rfl
theorem bi_added : ∀ (kV doc pm : Value) (an : Option Addr) (cdv ct : Value) (us : List Value), us.length = ps_added.length → bindArgs (PySem.W.fnOf "added" "added" (defArgs (at_ 8)) (defBody (at_ 8)) (defScope (at_ 8)) .none kV doc pm an cdv ct) ⟨us, []⟩ = pure (ps_added.zip us) :=
  fun _ _ _ _ _ _ us hl => match us, hl with | [_, _], _ => rfl
theorem bi_times : ∀ (kV doc pm : Value) (an : Option Addr) (cdv ct : Value) (us : List Value), us.length = ps_times.length → bindArgs (PySem.W.fnOf "times" "times" (defArgs (at_ 9)) (defBody (at_ 9)) (defScope (at_ 9)) .none kV doc pm an cdv ct) ⟨us, []⟩ = pure (ps_times.zip us) :=
  fun _ _ _ _ _ _ us hl => match us, hl with | [_, _], _ => rfl
theorem bi_size : ∀ (kV doc pm : Value) (an : Option Addr) (cdv ct : Value) (us : List Value), us.length = ps_size.length → bindArgs (PySem.W.fnOf "size" "size" (defArgs (at_ 10)) (defBody (at_ 10)) (defScope (at_ 10)) .none kV doc pm an cdv ct) ⟨us, []⟩ = pure (ps_size.zip us) :=
  fun _ _ _ _ _ _ us hl => match us, hl with | [_], _ => rfl
theorem bi_is_less : ∀ (kV doc pm : Value) (an : Option Addr) (cdv ct : Value) (us : List Value), us.length = ps_is_less.length → bindArgs (PySem.W.fnOf "is_less" "is_less" (defArgs (at_ 11)) (defBody (at_ 11)) (defScope (at_ 11)) .none kV doc pm an cdv ct) ⟨us, []⟩ = pure (ps_is_less.zip us) :=
  fun _ _ _ _ _ _ us hl => match us, hl with | [_, _], _ => rfl
theorem bi_is_most : ∀ (kV doc pm : Value) (an : Option Addr) (cdv ct : Value) (us : List Value), us.length = ps_is_most.length → bindArgs (PySem.W.fnOf "is_most" "is_most" (defArgs (at_ 12)) (defBody (at_ 12)) (defScope (at_ 12)) .none kV doc pm an cdv ct) ⟨us, []⟩ = pure (ps_is_most.zip us) :=
  fun _ _ _ _ _ _ us hl => match us, hl with | [_, _], _ => rfl
theorem bi_two_to : ∀ (kV doc pm : Value) (an : Option Addr) (cdv ct : Value) (us : List Value), us.length = ps_two_to.length → bindArgs (PySem.W.fnOf "two_to" "two_to" (defArgs (at_ 13)) (defBody (at_ 13)) (defScope (at_ 13)) .none kV doc pm an cdv ct) ⟨us, []⟩ = pure (ps_two_to.zip us) :=
  fun _ _ _ _ _ _ us hl => match us, hl with | [_], _ => rfl
theorem bi_shifted : ∀ (kV doc pm : Value) (an : Option Addr) (cdv ct : Value) (us : List Value), us.length = ps_shifted.length → bindArgs (PySem.W.fnOf "shifted" "shifted" (defArgs (at_ 14)) (defBody (at_ 14)) (defScope (at_ 14)) .none kV doc pm an cdv ct) ⟨us, []⟩ = pure (ps_shifted.zip us) :=
  fun _ _ _ _ _ _ us hl => match us, hl with | [_, _], _ => rfl
theorem bi_exponent_of : ∀ (kV doc pm : Value) (an : Option Addr) (cdv ct : Value) (us : List Value), us.length = ps_exponent_of.length → bindArgs (PySem.W.fnOf "exponent_of" "exponent_of" (defArgs (at_ 15)) (defBody (at_ 15)) (defScope (at_ 15)) .none kV doc pm an cdv ct) ⟨us, []⟩ = pure (ps_exponent_of.zip us) :=
  fun _ _ _ _ _ _ us hl => match us, hl with | [_], _ => rfl
theorem bi_is_of : ∀ (kV doc pm : Value) (an : Option Addr) (cdv ct : Value) (us : List Value), us.length = ps_is_of.length → bindArgs (PySem.W.fnOf "is_of" "is_of" (defArgs (at_ 17)) (defBody (at_ 17)) (defScope (at_ 17)) .none kV doc pm an cdv ct) ⟨us, []⟩ = pure (ps_is_of.zip us) :=
  fun _ _ _ _ _ _ us hl => match us, hl with | [_, _], _ => rfl
theorem bi_is_sign : ∀ (kV doc pm : Value) (an : Option Addr) (cdv ct : Value) (us : List Value), us.length = ps_is_sign.length → bindArgs (PySem.W.fnOf "is_sign" "is_sign" (defArgs (at_ 18)) (defBody (at_ 18)) (defScope (at_ 18)) .none kV doc pm an cdv ct) ⟨us, []⟩ = pure (ps_is_sign.zip us) :=
  fun _ _ _ _ _ _ us hl => match us, hl with | [_], _ => rfl
theorem bi_value_of : ∀ (kV doc pm : Value) (an : Option Addr) (cdv ct : Value) (us : List Value), us.length = ps_value_of.length → bindArgs (PySem.W.fnOf "value_of" "value_of" (defArgs (at_ 19)) (defBody (at_ 19)) (defScope (at_ 19)) .none kV doc pm an cdv ct) ⟨us, []⟩ = pure (ps_value_of.zip us) :=
  fun _ _ _ _ _ _ us hl => match us, hl with | [_], _ => rfl
theorem bi_is_finite : ∀ (kV doc pm : Value) (an : Option Addr) (cdv ct : Value) (us : List Value), us.length = ps_is_finite.length → bindArgs (PySem.W.fnOf "is_finite" "is_finite" (defArgs (at_ 20)) (defBody (at_ 20)) (defScope (at_ 20)) .none kV doc pm an cdv ct) ⟨us, []⟩ = pure (ps_is_finite.zip us) :=
  fun _ _ _ _ _ _ us hl => match us, hl with | [_], _ => rfl
theorem bi_greatest_of : ∀ (kV doc pm : Value) (an : Option Addr) (cdv ct : Value) (us : List Value), us.length = ps_greatest_of.length → bindArgs (PySem.W.fnOf "greatest_of" "greatest_of" (defArgs (at_ 21)) (defBody (at_ 21)) (defScope (at_ 21)) .none kV doc pm an cdv ct) ⟨us, []⟩ = pure (ps_greatest_of.zip us) :=
  fun _ _ _ _ _ _ us hl => match us, hl with | [_], _ => rfl
theorem bi_least_full : ∀ (kV doc pm : Value) (an : Option Addr) (cdv ct : Value) (us : List Value), us.length = ps_least_full.length → bindArgs (PySem.W.fnOf "least_full" "least_full" (defArgs (at_ 22)) (defBody (at_ 22)) (defScope (at_ 22)) .none kV doc pm an cdv ct) ⟨us, []⟩ = pure (ps_least_full.zip us) :=
  fun _ _ _ _ _ _ us hl => match us, hl with | [_], _ => rfl
theorem bi_turned : ∀ (kV doc pm : Value) (an : Option Addr) (cdv ct : Value) (us : List Value), us.length = ps_turned.length → bindArgs (PySem.W.fnOf "turned" "turned" (defArgs (at_ 23)) (defBody (at_ 23)) (defScope (at_ 23)) .none kV doc pm an cdv ct) ⟨us, []⟩ = pure (ps_turned.zip us) :=
  fun _ _ _ _ _ _ us hl => match us, hl with | [_], _ => rfl
theorem bi_unit_at : ∀ (kV doc pm : Value) (an : Option Addr) (cdv ct : Value) (us : List Value), us.length = ps_unit_at.length → bindArgs (PySem.W.fnOf "unit_at" "unit_at" (defArgs (at_ 24)) (defBody (at_ 24)) (defScope (at_ 24)) .none kV doc pm an cdv ct) ⟨us, []⟩ = pure (ps_unit_at.zip us) :=
  fun _ _ _ _ _ _ us hl => match us, hl with | [_, _], _ => rfl
theorem bi_is_raised : ∀ (kV doc pm : Value) (an : Option Addr) (cdv ct : Value) (us : List Value), us.length = ps_is_raised.length → bindArgs (PySem.W.fnOf "is_raised" "is_raised" (defArgs (at_ 26)) (defBody (at_ 26)) (defScope (at_ 26)) .none kV doc pm an cdv ct) ⟨us, []⟩ = pure (ps_is_raised.zip us) :=
  fun _ _ _ _ _ _ us hl => match us, hl with | [_, _, _, _], _ => rfl
theorem bi_rounded : ∀ (kV doc pm : Value) (an : Option Addr) (cdv ct : Value) (us : List Value), us.length = ps_rounded.length → bindArgs (PySem.W.fnOf "rounded" "rounded" (defArgs (at_ 27)) (defBody (at_ 27)) (defScope (at_ 27)) .none kV doc pm an cdv ct) ⟨us, []⟩ = pure (ps_rounded.zip us) :=
  fun _ _ _ _ _ _ us hl => match us, hl with | [_, _, _, _], _ => rfl
theorem bi_marks_of : ∀ (kV doc pm : Value) (an : Option Addr) (cdv ct : Value) (us : List Value), us.length = ps_marks_of.length → bindArgs (PySem.W.fnOf "marks_of" "marks_of" (defArgs (at_ 28)) (defBody (at_ 28)) (defScope (at_ 28)) .none kV doc pm an cdv ct) ⟨us, []⟩ = pure (ps_marks_of.zip us) :=
  fun _ _ _ _ _ _ us hl => match us, hl with | [_, _, _], _ => rfl
theorem bi_beyond : ∀ (kV doc pm : Value) (an : Option Addr) (cdv ct : Value) (us : List Value), us.length = ps_beyond.length → bindArgs (PySem.W.fnOf "beyond" "beyond" (defArgs (at_ 29)) (defBody (at_ 29)) (defScope (at_ 29)) .none kV doc pm an cdv ct) ⟨us, []⟩ = pure (ps_beyond.zip us) :=
  fun _ _ _ _ _ _ us hl => match us, hl with | [_, _, _], _ => rfl
theorem bi_sign_when_nothing : ∀ (kV doc pm : Value) (an : Option Addr) (cdv ct : Value) (us : List Value), us.length = ps_sign_when_nothing.length → bindArgs (PySem.W.fnOf "sign_when_nothing" "sign_when_nothing" (defArgs (at_ 33)) (defBody (at_ 33)) (defScope (at_ 33)) .none kV doc pm an cdv ct) ⟨us, []⟩ = pure (ps_sign_when_nothing.zip us) :=
  fun _ _ _ _ _ _ us hl => match us, hl with | [_, _, _], _ => rfl
theorem bi_plus : ∀ (kV doc pm : Value) (an : Option Addr) (cdv ct : Value) (us : List Value), us.length = ps_plus.length → bindArgs (PySem.W.fnOf "plus" "plus" (defArgs (at_ 34)) (defBody (at_ 34)) (defScope (at_ 34)) .none kV doc pm an cdv ct) ⟨us, []⟩ = pure (ps_plus.zip us) :=
  fun _ _ _ _ _ _ us hl => match us, hl with | [_, _, _, _], _ => rfl
theorem bi_minus : ∀ (kV doc pm : Value) (an : Option Addr) (cdv ct : Value) (us : List Value), us.length = ps_minus.length → bindArgs (PySem.W.fnOf "minus" "minus" (defArgs (at_ 35)) (defBody (at_ 35)) (defScope (at_ 35)) .none kV doc pm an cdv ct) ⟨us, []⟩ = pure (ps_minus.zip us) :=
  fun _ _ _ _ _ _ us hl => match us, hl with | [_, _, _, _], _ => rfl
theorem bi_product : ∀ (kV doc pm : Value) (an : Option Addr) (cdv ct : Value) (us : List Value), us.length = ps_product.length → bindArgs (PySem.W.fnOf "product" "product" (defArgs (at_ 36)) (defBody (at_ 36)) (defScope (at_ 36)) .none kV doc pm an cdv ct) ⟨us, []⟩ = pure (ps_product.zip us) :=
  fun _ _ _ _ _ _ us hl => match us, hl with | [_, _, _, _], _ => rfl
theorem bi_joined : ∀ (kV doc pm : Value) (an : Option Addr) (cdv ct : Value) (us : List Value), us.length = ps_joined.length → bindArgs (PySem.W.fnOf "joined" "joined" (defArgs (at_ 37)) (defBody (at_ 37)) (defScope (at_ 37)) .none kV doc pm an cdv ct) ⟨us, []⟩ = pure (ps_joined.zip us) :=
  fun _ _ _ _ _ _ us hl => match us, hl with | [_, _, _, _, _], _ => rfl
theorem bi_two_sum : ∀ (kV doc pm : Value) (an : Option Addr) (cdv ct : Value) (us : List Value), us.length = ps_two_sum.length → bindArgs (PySem.W.fnOf "two_sum" "two_sum" (defArgs (at_ 40)) (defBody (at_ 40)) (defScope (at_ 40)) .none kV doc pm an cdv ct) ⟨us, []⟩ = pure (ps_two_sum.zip us) :=
  fun _ _ _ _ _ _ us hl => match us, hl with | [_, _, _], _ => rfl
theorem bi_quick_two_sum : ∀ (kV doc pm : Value) (an : Option Addr) (cdv ct : Value) (us : List Value), us.length = ps_quick_two_sum.length → bindArgs (PySem.W.fnOf "quick_two_sum" "quick_two_sum" (defArgs (at_ 41)) (defBody (at_ 41)) (defScope (at_ 41)) .none kV doc pm an cdv ct) ⟨us, []⟩ = pure (ps_quick_two_sum.zip us) :=
  fun _ _ _ _ _ _ us hl => match us, hl with | [_, _, _], _ => rfl
theorem bi_two_product : ∀ (kV doc pm : Value) (an : Option Addr) (cdv ct : Value) (us : List Value), us.length = ps_two_product.length → bindArgs (PySem.W.fnOf "two_product" "two_product" (defArgs (at_ 42)) (defBody (at_ 42)) (defScope (at_ 42)) .none kV doc pm an cdv ct) ⟨us, []⟩ = pure (ps_two_product.zip us) :=
  fun _ _ _ _ _ _ us hl => match us, hl with | [_, _, _], _ => rfl
theorem bi_grown : ∀ (kV doc pm : Value) (an : Option Addr) (cdv ct : Value) (us : List Value), us.length = ps_grown.length → bindArgs (PySem.W.fnOf "grown" "grown" (defArgs (at_ 43)) (defBody (at_ 43)) (defScope (at_ 43)) .none kV doc pm an cdv ct) ⟨us, []⟩ = pure (ps_grown.zip us) :=
  fun _ _ _ _ _ _ us hl => match us, hl with | [_, _, _], _ => rfl
theorem bi_parts_of_sum : ∀ (kV doc pm : Value) (an : Option Addr) (cdv ct : Value) (us : List Value), us.length = ps_parts_of_sum.length → bindArgs (PySem.W.fnOf "parts_of_sum" "parts_of_sum" (defArgs (at_ 44)) (defBody (at_ 44)) (defScope (at_ 44)) .none kV doc pm an cdv ct) ⟨us, []⟩ = pure (ps_parts_of_sum.zip us) :=
  fun _ _ _ _ _ _ us hl => match us, hl with | [_, _], _ => rfl
theorem bi_exact_sum : ∀ (kV doc pm : Value) (an : Option Addr) (cdv ct : Value) (us : List Value), us.length = ps_exact_sum.length → bindArgs (PySem.W.fnOf "exact_sum" "exact_sum" (defArgs (at_ 45)) (defBody (at_ 45)) (defScope (at_ 45)) .none kV doc pm an cdv ct) ⟨us, []⟩ = pure (ps_exact_sum.zip us) :=
  fun _ _ _ _ _ _ us hl => match us, hl with | [_], _ => rfl
theorem bi_rounded_sum : ∀ (kV doc pm : Value) (an : Option Addr) (cdv ct : Value) (us : List Value), us.length = ps_rounded_sum.length → bindArgs (PySem.W.fnOf "rounded_sum" "rounded_sum" (defArgs (at_ 46)) (defBody (at_ 46)) (defScope (at_ 46)) .none kV doc pm an cdv ct) ⟨us, []⟩ = pure (ps_rounded_sum.zip us) :=
  fun _ _ _ _ _ _ us hl => match us, hl with | [_, _, _], _ => rfl
theorem bi_plain_sum : ∀ (kV doc pm : Value) (an : Option Addr) (cdv ct : Value) (us : List Value), us.length = ps_plain_sum.length → bindArgs (PySem.W.fnOf "plain_sum" "plain_sum" (defArgs (at_ 47)) (defBody (at_ 47)) (defScope (at_ 47)) .none kV doc pm an cdv ct) ⟨us, []⟩ = pure (ps_plain_sum.zip us) :=
  fun _ _ _ _ _ _ us hl => match us, hl with | [_, _, _], _ => rfl
theorem bi_kept_sum : ∀ (kV doc pm : Value) (an : Option Addr) (cdv ct : Value) (us : List Value), us.length = ps_kept_sum.length → bindArgs (PySem.W.fnOf "kept_sum" "kept_sum" (defArgs (at_ 48)) (defBody (at_ 48)) (defScope (at_ 48)) .none kV doc pm an cdv ct) ⟨us, []⟩ = pure (ps_kept_sum.zip us) :=
  fun _ _ _ _ _ _ us hl => match us, hl with | [_, _], _ => rfl
theorem bi_by_halves : ∀ (kV doc pm : Value) (an : Option Addr) (cdv ct : Value) (us : List Value), us.length = ps_by_halves.length → bindArgs (PySem.W.fnOf "by_halves" "by_halves" (defArgs (at_ 49)) (defBody (at_ 49)) (defScope (at_ 49)) .none kV doc pm an cdv ct) ⟨us, []⟩ = pure (ps_by_halves.zip us) :=
  fun _ _ _ _ _ _ us hl => match us, hl with | [_, _, _], _ => rfl
theorem bi_kept_product : ∀ (kV doc pm : Value) (an : Option Addr) (cdv ct : Value) (us : List Value), us.length = ps_kept_product.length → bindArgs (PySem.W.fnOf "kept_product" "kept_product" (defArgs (at_ 50)) (defBody (at_ 50)) (defScope (at_ 50)) .none kV doc pm an cdv ct) ⟨us, []⟩ = pure (ps_kept_product.zip us) :=
  fun _ _ _ _ _ _ us hl => match us, hl with | [_, _, _], _ => rfl
theorem bi_are_parts : ∀ (kV doc pm : Value) (an : Option Addr) (cdv ct : Value) (us : List Value), us.length = ps_are_parts.length → bindArgs (PySem.W.fnOf "are_parts" "are_parts" (defArgs (at_ 51)) (defBody (at_ 51)) (defScope (at_ 51)) .none kV doc pm an cdv ct) ⟨us, []⟩ = pure (ps_are_parts.zip us) :=
  fun _ _ _ _ _ _ us hl => match us, hl with | [_], _ => rfl
theorem bi__law_draws : ∀ (kV doc pm : Value) (an : Option Addr) (cdv ct : Value) (us : List Value), us.length = ps__law_draws.length → bindArgs (PySem.W.fnOf "_law_draws" "_law_draws" (defArgs (at_ 53)) (defBody (at_ 53)) (defScope (at_ 53)) .none kV doc pm an cdv ct) ⟨us, []⟩ = pure (ps__law_draws.zip us) :=
  fun _ _ _ _ _ _ us hl => match us, hl with | [_, _], _ => rfl
theorem bi__law_next : ∀ (kV doc pm : Value) (an : Option Addr) (cdv ct : Value) (us : List Value), us.length = ps__law_next.length → bindArgs (PySem.W.fnOf "_law_next" "_law_next" (defArgs (at_ 54)) (defBody (at_ 54)) (defScope (at_ 54)) .none kV doc pm an cdv ct) ⟨us, []⟩ = pure (ps__law_next.zip us) :=
  fun _ _ _ _ _ _ us hl => match us, hl with | [_, _], _ => rfl
theorem bi__law_same : ∀ (kV doc pm : Value) (an : Option Addr) (cdv ct : Value) (us : List Value), us.length = ps__law_same.length → bindArgs (PySem.W.fnOf "_law_same" "_law_same" (defArgs (at_ 55)) (defBody (at_ 55)) (defScope (at_ 55)) .none kV doc pm an cdv ct) ⟨us, []⟩ = pure (ps__law_same.zip us) :=
  fun _ _ _ _ _ _ us hl => match us, hl with | [_, _], _ => rfl
theorem bi__law_least : ∀ (kV doc pm : Value) (an : Option Addr) (cdv ct : Value) (us : List Value), us.length = ps__law_least.length → bindArgs (PySem.W.fnOf "_law_least" "_law_least" (defArgs (at_ 56)) (defBody (at_ 56)) (defScope (at_ 56)) .none kV doc pm an cdv ct) ⟨us, []⟩ = pure (ps__law_least.zip us) :=
  fun _ _ _ _ _ _ us hl => match us, hl with | [_, _], _ => rfl
theorem bi__law_sum_2 : ∀ (kV doc pm : Value) (an : Option Addr) (cdv ct : Value) (us : List Value), us.length = ps__law_sum_2.length → bindArgs (PySem.W.fnOf "_law_sum" "_law_sum" (defArgs (at_ 57)) (defBody (at_ 57)) (defScope (at_ 57)) .none kV doc pm an cdv ct) ⟨us, []⟩ = pure (ps__law_sum_2.zip us) :=
  fun _ _ _ _ _ _ us hl => match us, hl with | [_], _ => rfl
theorem bi__law_val_2 : ∀ (kV doc pm : Value) (an : Option Addr) (cdv ct : Value) (us : List Value), us.length = ps__law_val_2.length → bindArgs (PySem.W.fnOf "_law_val" "_law_val" (defArgs (at_ 58)) (defBody (at_ 58)) (defScope (at_ 58)) .none kV doc pm an cdv ct) ⟨us, []⟩ = pure (ps__law_val_2.zip us) :=
  fun _ _ _ _ _ _ us hl => match us, hl with | [_], _ => rfl
theorem bi__law_less : ∀ (kV doc pm : Value) (an : Option Addr) (cdv ct : Value) (us : List Value), us.length = ps__law_less.length → bindArgs (PySem.W.fnOf "_law_less" "_law_less" (defArgs (at_ 59)) (defBody (at_ 59)) (defScope (at_ 59)) .none kV doc pm an cdv ct) ⟨us, []⟩ = pure (ps__law_less.zip us) :=
  fun _ _ _ _ _ _ us hl => match us, hl with | [_, _], _ => rfl
theorem bi__law_mul_2 : ∀ (kV doc pm : Value) (an : Option Addr) (cdv ct : Value) (us : List Value), us.length = ps__law_mul_2.length → bindArgs (PySem.W.fnOf "_law_mul" "_law_mul" (defArgs (at_ 60)) (defBody (at_ 60)) (defScope (at_ 60)) .none kV doc pm an cdv ct) ⟨us, []⟩ = pure (ps__law_mul_2.zip us) :=
  fun _ _ _ _ _ _ us hl => match us, hl with | [_, _], _ => rfl
theorem bi__law_off : ∀ (kV doc pm : Value) (an : Option Addr) (cdv ct : Value) (us : List Value), us.length = ps__law_off.length → bindArgs (PySem.W.fnOf "_law_off" "_law_off" (defArgs (at_ 61)) (defBody (at_ 61)) (defScope (at_ 61)) .none kV doc pm an cdv ct) ⟨us, []⟩ = pure (ps__law_off.zip us) :=
  fun _ _ _ _ _ _ us hl => match us, hl with | [_], _ => rfl
theorem bi__law_size : ∀ (kV doc pm : Value) (an : Option Addr) (cdv ct : Value) (us : List Value), us.length = ps__law_size.length → bindArgs (PySem.W.fnOf "_law_size" "_law_size" (defArgs (at_ 62)) (defBody (at_ 62)) (defScope (at_ 62)) .none kV doc pm an cdv ct) ⟨us, []⟩ = pure (ps__law_size.zip us) :=
  fun _ _ _ _ _ _ us hl => match us, hl with | [_], _ => rfl
theorem bi__law_two : ∀ (kV doc pm : Value) (an : Option Addr) (cdv ct : Value) (us : List Value), us.length = ps__law_two.length → bindArgs (PySem.W.fnOf "_law_two" "_law_two" (defArgs (at_ 63)) (defBody (at_ 63)) (defScope (at_ 63)) .none kV doc pm an cdv ct) ⟨us, []⟩ = pure (ps__law_two.zip us) :=
  fun _ _ _ _ _ _ us hl => match us, hl with | [_], _ => rfl
theorem bi__law_drawn : ∀ (kV doc pm : Value) (an : Option Addr) (cdv ct : Value) (us : List Value), us.length = ps__law_drawn.length → bindArgs (PySem.W.fnOf "_law_drawn" "_law_drawn" (defArgs (at_ 64)) (defBody (at_ 64)) (defScope (at_ 64)) .none kV doc pm an cdv ct) ⟨us, []⟩ = pure (ps__law_drawn.zip us) :=
  fun _ _ _ _ _ _ us hl => match us, hl with | [_, _], _ => rfl
theorem bi__law_plainly : ∀ (kV doc pm : Value) (an : Option Addr) (cdv ct : Value) (us : List Value), us.length = ps__law_plainly.length → bindArgs (PySem.W.fnOf "_law_plainly" "_law_plainly" (defArgs (at_ 65)) (defBody (at_ 65)) (defScope (at_ 65)) .none kV doc pm an cdv ct) ⟨us, []⟩ = pure (ps__law_plainly.zip us) :=
  fun _ _ _ _ _ _ us hl => match us, hl with | [_, _], _ => rfl
theorem bi__law_halved : ∀ (kV doc pm : Value) (an : Option Addr) (cdv ct : Value) (us : List Value), us.length = ps__law_halved.length → bindArgs (PySem.W.fnOf "_law_halved" "_law_halved" (defArgs (at_ 66)) (defBody (at_ 66)) (defScope (at_ 66)) .none kV doc pm an cdv ct) ⟨us, []⟩ = pure (ps__law_halved.zip us) :=
  fun _ _ _ _ _ _ us hl => match us, hl with | [_, _], _ => rfl
theorem bi__law_all : ∀ (kV doc pm : Value) (an : Option Addr) (cdv ct : Value) (us : List Value), us.length = ps__law_all.length → bindArgs (PySem.W.fnOf "_law_all" "_law_all" (defArgs (at_ 67)) (defBody (at_ 67)) (defScope (at_ 67)) .none kV doc pm an cdv ct) ⟨us, []⟩ = pure (ps__law_all.zip us) :=
  fun _ _ _ _ _ _ us hl => match us, hl with | [_], _ => rfl
theorem bi__law_kept_sum : ∀ (kV doc pm : Value) (an : Option Addr) (cdv ct : Value) (us : List Value), us.length = ps__law_kept_sum.length → bindArgs (PySem.W.fnOf "_law_kept_sum" "_law_kept_sum" (defArgs (at_ 68)) (defBody (at_ 68)) (defScope (at_ 68)) .none kV doc pm an cdv ct) ⟨us, []⟩ = pure (ps__law_kept_sum.zip us) :=
  fun _ _ _ _ _ _ us hl => match us, hl with | [_, _], _ => rfl
theorem bi__law_apart : ∀ (kV doc pm : Value) (an : Option Addr) (cdv ct : Value) (us : List Value), us.length = ps__law_apart.length → bindArgs (PySem.W.fnOf "_law_apart" "_law_apart" (defArgs (at_ 69)) (defBody (at_ 69)) (defScope (at_ 69)) .none kV doc pm an cdv ct) ⟨us, []⟩ = pure (ps__law_apart.zip us) :=
  fun _ _ _ _ _ _ us hl => match us, hl with | [_], _ => rfl
theorem bi__law_good : ∀ (kV doc pm : Value) (an : Option Addr) (cdv ct : Value) (us : List Value), us.length = ps__law_good.length → bindArgs (PySem.W.fnOf "_law_good" "_law_good" (defArgs (at_ 70)) (defBody (at_ 70)) (defScope (at_ 70)) .none kV doc pm an cdv ct) ⟨us, []⟩ = pure (ps__law_good.zip us) :=
  fun _ _ _ _ _ _ us hl => match us, hl with | [_, _, _], _ => rfl
theorem bi_law_2 : ∀ (kV doc pm : Value) (an : Option Addr) (cdv ct : Value) (us : List Value), us.length = ps_law_2.length → bindArgs (PySem.W.fnOf "law" "law" (defArgs (at_ 71)) (defBody (at_ 71)) (defScope (at_ 71)) .none kV doc pm an cdv ct) ⟨us, []⟩ = pure (ps_law_2.zip us) :=
  fun _ _ _ _ _ _ us hl => match us, hl with | [_], _ => rfl
theorem hT : TOk T := tOk_of (by decide +kernel) (by decide +kernel)
set_option maxHeartbeats 0 in
theorem all_mk {l : PySem.W.OpenLaw} {w : World} {K : PySem.W.Frag} {h : Heap} {mg : Str → Option Value} {fa : Addr} (X : K.In h) (G : h.Ns mainGlobals mg) (hfa : mg "law" = some (.ref fa))
    (f0 : Fct K "is_number" "is_number" (at_ 1)) (f1 : Fct K "is_from" "is_from" (at_ 2)) (f2 : Fct K "bits_of" "bits_of" (at_ 3)) (f3 : Fct K "common" "common" (at_ 6)) (f4 : Fct K "fraction" "fraction" (at_ 7)) (f5 : Fct K "added" "added" (at_ 8)) (f6 : Fct K "times" "times" (at_ 9)) (f7 : Fct K "size" "size" (at_ 10)) (f8 : Fct K "is_less" "is_less" (at_ 11)) (f9 : Fct K "is_most" "is_most" (at_ 12)) (f10 : Fct K "two_to" "two_to" (at_ 13)) (f11 : Fct K "shifted" "shifted" (at_ 14)) (f12 : Fct K "exponent_of" "exponent_of" (at_ 15)) (f13 : Fct K "is_of" "is_of" (at_ 17)) (f14 : Fct K "is_sign" "is_sign" (at_ 18)) (f15 : Fct K "value_of" "value_of" (at_ 19)) (f16 : Fct K "is_finite" "is_finite" (at_ 20)) (f17 : Fct K "greatest_of" "greatest_of" (at_ 21)) (f18 : Fct K "least_full" "least_full" (at_ 22)) (f19 : Fct K "turned" "turned" (at_ 23)) (f20 : Fct K "unit_at" "unit_at" (at_ 24)) (f21 : Fct K "is_raised" "is_raised" (at_ 26)) (f22 : Fct K "rounded" "rounded" (at_ 27)) (f23 : Fct K "marks_of" "marks_of" (at_ 28)) (f24 : Fct K "beyond" "beyond" (at_ 29)) (f25 : Fct K "sign_when_nothing" "sign_when_nothing" (at_ 33)) (f26 : Fct K "plus" "plus" (at_ 34)) (f27 : Fct K "minus" "minus" (at_ 35)) (f28 : Fct K "product" "product" (at_ 36)) (f29 : Fct K "joined" "joined" (at_ 37)) (f30 : Fct K "two_sum" "two_sum" (at_ 40)) (f31 : Fct K "quick_two_sum" "quick_two_sum" (at_ 41)) (f32 : Fct K "two_product" "two_product" (at_ 42)) (f33 : Fct K "grown" "grown" (at_ 43)) (f34 : Fct K "parts_of_sum" "parts_of_sum" (at_ 44)) (f35 : Fct K "exact_sum" "exact_sum" (at_ 45)) (f36 : Fct K "rounded_sum" "rounded_sum" (at_ 46)) (f37 : Fct K "plain_sum" "plain_sum" (at_ 47)) (f38 : Fct K "kept_sum" "kept_sum" (at_ 48)) (f39 : Fct K "by_halves" "by_halves" (at_ 49)) (f40 : Fct K "kept_product" "kept_product" (at_ 50)) (f41 : Fct K "are_parts" "are_parts" (at_ 51)) (f42 : Fct K "_law_draws" "_law_draws" (at_ 53)) (f43 : Fct K "_law_next" "_law_next" (at_ 54)) (f44 : Fct K "_law_same" "_law_same" (at_ 55)) (f45 : Fct K "_law_least" "_law_least" (at_ 56)) (f46 : Fct K "_law_sum" "_law_sum" (at_ 57)) (f47 : Fct K "_law_val" "_law_val" (at_ 58)) (f48 : Fct K "_law_less" "_law_less" (at_ 59)) (f49 : Fct K "_law_mul" "_law_mul" (at_ 60)) (f50 : Fct K "_law_off" "_law_off" (at_ 61)) (f51 : Fct K "_law_size" "_law_size" (at_ 62)) (f52 : Fct K "_law_two" "_law_two" (at_ 63)) (f53 : Fct K "_law_drawn" "_law_drawn" (at_ 64)) (f54 : Fct K "_law_plainly" "_law_plainly" (at_ 65)) (f55 : Fct K "_law_halved" "_law_halved" (at_ 66)) (f56 : Fct K "_law_all" "_law_all" (at_ 67)) (f57 : Fct K "_law_kept_sum" "_law_kept_sum" (at_ 68)) (f58 : Fct K "_law_apart" "_law_apart" (at_ 69)) (f59 : Fct K "_law_good" "_law_good" (at_ 70)) (f60 : Fct K "law" "law" (at_ 71))
    (hb : ∀ y ∈ bNames, PySem.W.nsIn K mainGlobals y = some none) (hc : ∀ k y d, co k = some (y, d) → ∃ v u, PySem.W.nsIn K mainGlobals y = some (some u) ∧ RelV v u ∧ ∀ wa H, Rep T K wa H d v) :
    ∃ fd : FuncData, (∀ (s : Shared) (v : Value), BindsTo s fd ⟨[v], []⟩ [("script", v)]) ∧ ∀ base : Heap, K.In base → base.Ns mainGlobals mg → FnOk l.prog w K mg base CX0 14 fa fd ["script"] (spL K P 13 d_law_2) := by
  obtain ⟨g, fd, e0, b0, F⟩ := f60
  have e := hfa.symm.trans (PySem.W.mg_of X G e0)
  cases e
  refine ⟨fd, b0 "script" fun _ _ _ _ _ _ _ => rfl, fun base _ _ => law_ok (T := T) (fn := fn) (co := co) hT (fun y hy => PySem.W.mg_none_of X G (hb y hy)) (fun k y d e => let ⟨v, u, q, r⟩ := hc k y d e; ⟨v, u, PySem.W.mg_of X G q, r⟩) ?_ (p := "script") (d := d_law_2) (N := N_law_2) (st := at_ 71) ⟨F, F.binds bi_law_2, scOk_ok sc_law_2, rfl, by decide, rfl, ok_law_2⟩ 13⟩
  intro f y e
  match f, e with
  | 102, e =>
    simp only [fn, List.mem_cons, List.not_mem_nil, or_false] at e
    subst e
    obtain ⟨g, fd, e1, _, F1⟩ := f0
    exact ⟨"is_number", d_is_number, N_is_number, ps_is_number, at_ 1, g, fd, rfl, PySem.W.mg_of X G e1, ⟨F1, F1.binds bi_is_number, scOk_ok sc_is_number, rfl, by decide, rfl, ok_is_number⟩⟩
  | 103, e =>
    simp only [fn, List.mem_cons, List.not_mem_nil, or_false] at e
    subst e
    obtain ⟨g, fd, e1, _, F1⟩ := f1
    exact ⟨"is_from", d_is_from, N_is_from, ps_is_from, at_ 2, g, fd, rfl, PySem.W.mg_of X G e1, ⟨F1, F1.binds bi_is_from, scOk_ok sc_is_from, rfl, by decide, rfl, ok_is_from⟩⟩
  | 0, e =>
    simp only [fn, List.mem_cons, List.not_mem_nil, or_false] at e
    subst e
    obtain ⟨g, fd, e1, _, F1⟩ := f2
    exact ⟨"bits_of", d_bits_of, N_bits_of, ps_bits_of, at_ 3, g, fd, rfl, PySem.W.mg_of X G e1, ⟨F1, F1.binds bi_bits_of, scOk_ok sc_bits_of, rfl, by decide, rfl, ok_bits_of⟩⟩
  | 1, e =>
    simp only [fn, List.mem_cons, List.not_mem_nil, or_false] at e
    subst e
    obtain ⟨g, fd, e1, _, F1⟩ := f3
    exact ⟨"common", d_common, N_common, ps_common, at_ 6, g, fd, rfl, PySem.W.mg_of X G e1, ⟨F1, F1.binds bi_common, scOk_ok sc_common, rfl, by decide, rfl, ok_common⟩⟩
  | 2, e =>
    simp only [fn, List.mem_cons, List.not_mem_nil, or_false] at e
    subst e
    obtain ⟨g, fd, e1, _, F1⟩ := f4
    exact ⟨"fraction", d_fraction, N_fraction, ps_fraction, at_ 7, g, fd, rfl, PySem.W.mg_of X G e1, ⟨F1, F1.binds bi_fraction, scOk_ok sc_fraction, rfl, by decide, rfl, ok_fraction⟩⟩
  | 3, e =>
    simp only [fn, List.mem_cons, List.not_mem_nil, or_false] at e
    subst e
    obtain ⟨g, fd, e1, _, F1⟩ := f5
    exact ⟨"added", d_added, N_added, ps_added, at_ 8, g, fd, rfl, PySem.W.mg_of X G e1, ⟨F1, F1.binds bi_added, scOk_ok sc_added, rfl, by decide, rfl, ok_added⟩⟩
  | 6, e =>
    simp only [fn, List.mem_cons, List.not_mem_nil, or_false] at e
    subst e
    obtain ⟨g, fd, e1, _, F1⟩ := f6
    exact ⟨"times", d_times, N_times, ps_times, at_ 9, g, fd, rfl, PySem.W.mg_of X G e1, ⟨F1, F1.binds bi_times, scOk_ok sc_times, rfl, by decide, rfl, ok_times⟩⟩
  | 8, e =>
    simp only [fn, List.mem_cons, List.not_mem_nil, or_false] at e
    subst e
    obtain ⟨g, fd, e1, _, F1⟩ := f7
    exact ⟨"size", d_size, N_size, ps_size, at_ 10, g, fd, rfl, PySem.W.mg_of X G e1, ⟨F1, F1.binds bi_size, scOk_ok sc_size, rfl, by decide, rfl, ok_size⟩⟩
  | 9, e =>
    simp only [fn, List.mem_cons, List.not_mem_nil, or_false] at e
    subst e
    obtain ⟨g, fd, e1, _, F1⟩ := f8
    exact ⟨"is_less", d_is_less, N_is_less, ps_is_less, at_ 11, g, fd, rfl, PySem.W.mg_of X G e1, ⟨F1, F1.binds bi_is_less, scOk_ok sc_is_less, rfl, by decide, rfl, ok_is_less⟩⟩
  | 10, e =>
    simp only [fn, List.mem_cons, List.not_mem_nil, or_false] at e
    subst e
    obtain ⟨g, fd, e1, _, F1⟩ := f9
    exact ⟨"is_most", d_is_most, N_is_most, ps_is_most, at_ 12, g, fd, rfl, PySem.W.mg_of X G e1, ⟨F1, F1.binds bi_is_most, scOk_ok sc_is_most, rfl, by decide, rfl, ok_is_most⟩⟩
  | 13, e =>
    simp only [fn, List.mem_cons, List.not_mem_nil, or_false] at e
    subst e
    obtain ⟨g, fd, e1, _, F1⟩ := f10
    exact ⟨"two_to", d_two_to, N_two_to, ps_two_to, at_ 13, g, fd, rfl, PySem.W.mg_of X G e1, ⟨F1, F1.binds bi_two_to, scOk_ok sc_two_to, rfl, by decide, rfl, ok_two_to⟩⟩
  | 14, e =>
    simp only [fn, List.mem_cons, List.not_mem_nil, or_false] at e
    subst e
    obtain ⟨g, fd, e1, _, F1⟩ := f11
    exact ⟨"shifted", d_shifted, N_shifted, ps_shifted, at_ 14, g, fd, rfl, PySem.W.mg_of X G e1, ⟨F1, F1.binds bi_shifted, scOk_ok sc_shifted, rfl, by decide, rfl, ok_shifted⟩⟩
  | 15, e =>
    simp only [fn, List.mem_cons, List.not_mem_nil, or_false] at e
    subst e
    obtain ⟨g, fd, e1, _, F1⟩ := f12
    exact ⟨"exponent_of", d_exponent_of, N_exponent_of, ps_exponent_of, at_ 15, g, fd, rfl, PySem.W.mg_of X G e1, ⟨F1, F1.binds bi_exponent_of, scOk_ok sc_exponent_of, rfl, by decide, rfl, ok_exponent_of⟩⟩
  | 104, e =>
    simp only [fn, List.mem_cons, List.not_mem_nil, or_false] at e
    subst e
    obtain ⟨g, fd, e1, _, F1⟩ := f13
    exact ⟨"is_of", d_is_of, N_is_of, ps_is_of, at_ 17, g, fd, rfl, PySem.W.mg_of X G e1, ⟨F1, F1.binds bi_is_of, scOk_ok sc_is_of, rfl, by decide, rfl, ok_is_of⟩⟩
  | 105, e =>
    simp only [fn, List.mem_cons, List.not_mem_nil, or_false] at e
    subst e
    obtain ⟨g, fd, e1, _, F1⟩ := f14
    exact ⟨"is_sign", d_is_sign, N_is_sign, ps_is_sign, at_ 18, g, fd, rfl, PySem.W.mg_of X G e1, ⟨F1, F1.binds bi_is_sign, scOk_ok sc_is_sign, rfl, by decide, rfl, ok_is_sign⟩⟩
  | 16, e =>
    simp only [fn, List.mem_cons, List.not_mem_nil, or_false] at e
    subst e
    obtain ⟨g, fd, e1, _, F1⟩ := f15
    exact ⟨"value_of", d_value_of, N_value_of, ps_value_of, at_ 19, g, fd, rfl, PySem.W.mg_of X G e1, ⟨F1, F1.binds bi_value_of, scOk_ok sc_value_of, rfl, by decide, rfl, ok_value_of⟩⟩
  | 17, e =>
    simp only [fn, List.mem_cons, List.not_mem_nil, or_false] at e
    subst e
    obtain ⟨g, fd, e1, _, F1⟩ := f16
    exact ⟨"is_finite", d_is_finite, N_is_finite, ps_is_finite, at_ 20, g, fd, rfl, PySem.W.mg_of X G e1, ⟨F1, F1.binds bi_is_finite, scOk_ok sc_is_finite, rfl, by decide, rfl, ok_is_finite⟩⟩
  | 18, e =>
    simp only [fn, List.mem_cons, List.not_mem_nil, or_false] at e
    subst e
    obtain ⟨g, fd, e1, _, F1⟩ := f17
    exact ⟨"greatest_of", d_greatest_of, N_greatest_of, ps_greatest_of, at_ 21, g, fd, rfl, PySem.W.mg_of X G e1, ⟨F1, F1.binds bi_greatest_of, scOk_ok sc_greatest_of, rfl, by decide, rfl, ok_greatest_of⟩⟩
  | 19, e =>
    simp only [fn, List.mem_cons, List.not_mem_nil, or_false] at e
    subst e
    obtain ⟨g, fd, e1, _, F1⟩ := f18
    exact ⟨"least_full", d_least_full, N_least_full, ps_least_full, at_ 22, g, fd, rfl, PySem.W.mg_of X G e1, ⟨F1, F1.binds bi_least_full, scOk_ok sc_least_full, rfl, by decide, rfl, ok_least_full⟩⟩
  | 106, e =>
    simp only [fn, List.mem_cons, List.not_mem_nil, or_false] at e
    subst e
    obtain ⟨g, fd, e1, _, F1⟩ := f19
    exact ⟨"turned", d_turned, N_turned, ps_turned, at_ 23, g, fd, rfl, PySem.W.mg_of X G e1, ⟨F1, F1.binds bi_turned, scOk_ok sc_turned, rfl, by decide, rfl, ok_turned⟩⟩
  | 20, e =>
    simp only [fn, List.mem_cons, List.not_mem_nil, or_false] at e
    subst e
    obtain ⟨g, fd, e1, _, F1⟩ := f20
    exact ⟨"unit_at", d_unit_at, N_unit_at, ps_unit_at, at_ 24, g, fd, rfl, PySem.W.mg_of X G e1, ⟨F1, F1.binds bi_unit_at, scOk_ok sc_unit_at, rfl, by decide, rfl, ok_unit_at⟩⟩
  | 21, e =>
    simp only [fn, List.mem_cons, List.not_mem_nil, or_false] at e
    subst e
    obtain ⟨g, fd, e1, _, F1⟩ := f21
    exact ⟨"is_raised", d_is_raised, N_is_raised, ps_is_raised, at_ 26, g, fd, rfl, PySem.W.mg_of X G e1, ⟨F1, F1.binds bi_is_raised, scOk_ok sc_is_raised, rfl, by decide, rfl, ok_is_raised⟩⟩
  | 22, e =>
    simp only [fn, List.mem_cons, List.not_mem_nil, or_false] at e
    subst e
    obtain ⟨g, fd, e1, _, F1⟩ := f22
    exact ⟨"rounded", d_rounded, N_rounded, ps_rounded, at_ 27, g, fd, rfl, PySem.W.mg_of X G e1, ⟨F1, F1.binds bi_rounded, scOk_ok sc_rounded, rfl, by decide, rfl, ok_rounded⟩⟩
  | 23, e =>
    simp only [fn, List.mem_cons, List.not_mem_nil, or_false] at e
    subst e
    obtain ⟨g, fd, e1, _, F1⟩ := f23
    exact ⟨"marks_of", d_marks_of, N_marks_of, ps_marks_of, at_ 28, g, fd, rfl, PySem.W.mg_of X G e1, ⟨F1, F1.binds bi_marks_of, scOk_ok sc_marks_of, rfl, by decide, rfl, ok_marks_of⟩⟩
  | 24, e =>
    simp only [fn, List.mem_cons, List.not_mem_nil, or_false] at e
    subst e
    obtain ⟨g, fd, e1, _, F1⟩ := f24
    exact ⟨"beyond", d_beyond, N_beyond, ps_beyond, at_ 29, g, fd, rfl, PySem.W.mg_of X G e1, ⟨F1, F1.binds bi_beyond, scOk_ok sc_beyond, rfl, by decide, rfl, ok_beyond⟩⟩
  | 107, e =>
    simp only [fn, List.mem_cons, List.not_mem_nil, or_false] at e
    subst e
    obtain ⟨g, fd, e1, _, F1⟩ := f25
    exact ⟨"sign_when_nothing", d_sign_when_nothing, N_sign_when_nothing, ps_sign_when_nothing, at_ 33, g, fd, rfl, PySem.W.mg_of X G e1, ⟨F1, F1.binds bi_sign_when_nothing, scOk_ok sc_sign_when_nothing, rfl, by decide, rfl, ok_sign_when_nothing⟩⟩
  | 108, e =>
    simp only [fn, List.mem_cons, List.not_mem_nil, or_false] at e
    subst e
    obtain ⟨g, fd, e1, _, F1⟩ := f26
    exact ⟨"plus", d_plus, N_plus, ps_plus, at_ 34, g, fd, rfl, PySem.W.mg_of X G e1, ⟨F1, F1.binds bi_plus, scOk_ok sc_plus, rfl, by decide, rfl, ok_plus⟩⟩
  | 109, e =>
    simp only [fn, List.mem_cons, List.not_mem_nil, or_false] at e
    subst e
    obtain ⟨g, fd, e1, _, F1⟩ := f27
    exact ⟨"minus", d_minus, N_minus, ps_minus, at_ 35, g, fd, rfl, PySem.W.mg_of X G e1, ⟨F1, F1.binds bi_minus, scOk_ok sc_minus, rfl, by decide, rfl, ok_minus⟩⟩
  | 110, e =>
    simp only [fn, List.mem_cons, List.not_mem_nil, or_false] at e
    subst e
    obtain ⟨g, fd, e1, _, F1⟩ := f28
    exact ⟨"product", d_product, N_product, ps_product, at_ 36, g, fd, rfl, PySem.W.mg_of X G e1, ⟨F1, F1.binds bi_product, scOk_ok sc_product, rfl, by decide, rfl, ok_product⟩⟩
  | 111, e =>
    simp only [fn, List.mem_cons, List.not_mem_nil, or_false] at e
    subst e
    obtain ⟨g, fd, e1, _, F1⟩ := f29
    exact ⟨"joined", d_joined, N_joined, ps_joined, at_ 37, g, fd, rfl, PySem.W.mg_of X G e1, ⟨F1, F1.binds bi_joined, scOk_ok sc_joined, rfl, by decide, rfl, ok_joined⟩⟩
  | 112, e =>
    simp only [fn, List.mem_cons, List.not_mem_nil, or_false] at e
    subst e
    obtain ⟨g, fd, e1, _, F1⟩ := f30
    exact ⟨"two_sum", d_two_sum, N_two_sum, ps_two_sum, at_ 40, g, fd, rfl, PySem.W.mg_of X G e1, ⟨F1, F1.binds bi_two_sum, scOk_ok sc_two_sum, rfl, by decide, rfl, ok_two_sum⟩⟩
  | 113, e =>
    simp only [fn, List.mem_cons, List.not_mem_nil, or_false] at e
    subst e
    obtain ⟨g, fd, e1, _, F1⟩ := f31
    exact ⟨"quick_two_sum", d_quick_two_sum, N_quick_two_sum, ps_quick_two_sum, at_ 41, g, fd, rfl, PySem.W.mg_of X G e1, ⟨F1, F1.binds bi_quick_two_sum, scOk_ok sc_quick_two_sum, rfl, by decide, rfl, ok_quick_two_sum⟩⟩
  | 114, e =>
    simp only [fn, List.mem_cons, List.not_mem_nil, or_false] at e
    subst e
    obtain ⟨g, fd, e1, _, F1⟩ := f32
    exact ⟨"two_product", d_two_product, N_two_product, ps_two_product, at_ 42, g, fd, rfl, PySem.W.mg_of X G e1, ⟨F1, F1.binds bi_two_product, scOk_ok sc_two_product, rfl, by decide, rfl, ok_two_product⟩⟩
  | 115, e =>
    simp only [fn, List.mem_cons, List.not_mem_nil, or_false] at e
    subst e
    obtain ⟨g, fd, e1, _, F1⟩ := f33
    exact ⟨"grown", d_grown, N_grown, ps_grown, at_ 43, g, fd, rfl, PySem.W.mg_of X G e1, ⟨F1, F1.binds bi_grown, scOk_ok sc_grown, rfl, by decide, rfl, ok_grown⟩⟩
  | 116, e =>
    simp only [fn, List.mem_cons, List.not_mem_nil, or_false] at e
    subst e
    obtain ⟨g, fd, e1, _, F1⟩ := f34
    exact ⟨"parts_of_sum", d_parts_of_sum, N_parts_of_sum, ps_parts_of_sum, at_ 44, g, fd, rfl, PySem.W.mg_of X G e1, ⟨F1, F1.binds bi_parts_of_sum, scOk_ok sc_parts_of_sum, rfl, by decide, rfl, ok_parts_of_sum⟩⟩
  | 117, e =>
    simp only [fn, List.mem_cons, List.not_mem_nil, or_false] at e
    subst e
    obtain ⟨g, fd, e1, _, F1⟩ := f35
    exact ⟨"exact_sum", d_exact_sum, N_exact_sum, ps_exact_sum, at_ 45, g, fd, rfl, PySem.W.mg_of X G e1, ⟨F1, F1.binds bi_exact_sum, scOk_ok sc_exact_sum, rfl, by decide, rfl, ok_exact_sum⟩⟩
  | 118, e =>
    simp only [fn, List.mem_cons, List.not_mem_nil, or_false] at e
    subst e
    obtain ⟨g, fd, e1, _, F1⟩ := f36
    exact ⟨"rounded_sum", d_rounded_sum, N_rounded_sum, ps_rounded_sum, at_ 46, g, fd, rfl, PySem.W.mg_of X G e1, ⟨F1, F1.binds bi_rounded_sum, scOk_ok sc_rounded_sum, rfl, by decide, rfl, ok_rounded_sum⟩⟩
  | 119, e =>
    simp only [fn, List.mem_cons, List.not_mem_nil, or_false] at e
    subst e
    obtain ⟨g, fd, e1, _, F1⟩ := f37
    exact ⟨"plain_sum", d_plain_sum, N_plain_sum, ps_plain_sum, at_ 47, g, fd, rfl, PySem.W.mg_of X G e1, ⟨F1, F1.binds bi_plain_sum, scOk_ok sc_plain_sum, rfl, by decide, rfl, ok_plain_sum⟩⟩
  | 120, e =>
    simp only [fn, List.mem_cons, List.not_mem_nil, or_false] at e
    subst e
    obtain ⟨g, fd, e1, _, F1⟩ := f38
    exact ⟨"kept_sum", d_kept_sum, N_kept_sum, ps_kept_sum, at_ 48, g, fd, rfl, PySem.W.mg_of X G e1, ⟨F1, F1.binds bi_kept_sum, scOk_ok sc_kept_sum, rfl, by decide, rfl, ok_kept_sum⟩⟩
  | 121, e =>
    simp only [fn, List.mem_cons, List.not_mem_nil, or_false] at e
    subst e
    obtain ⟨g, fd, e1, _, F1⟩ := f39
    exact ⟨"by_halves", d_by_halves, N_by_halves, ps_by_halves, at_ 49, g, fd, rfl, PySem.W.mg_of X G e1, ⟨F1, F1.binds bi_by_halves, scOk_ok sc_by_halves, rfl, by decide, rfl, ok_by_halves⟩⟩
  | 122, e =>
    simp only [fn, List.mem_cons, List.not_mem_nil, or_false] at e
    subst e
    obtain ⟨g, fd, e1, _, F1⟩ := f40
    exact ⟨"kept_product", d_kept_product, N_kept_product, ps_kept_product, at_ 50, g, fd, rfl, PySem.W.mg_of X G e1, ⟨F1, F1.binds bi_kept_product, scOk_ok sc_kept_product, rfl, by decide, rfl, ok_kept_product⟩⟩
  | 123, e =>
    simp only [fn, List.mem_cons, List.not_mem_nil, or_false] at e
    subst e
    obtain ⟨g, fd, e1, _, F1⟩ := f41
    exact ⟨"are_parts", d_are_parts, N_are_parts, ps_are_parts, at_ 51, g, fd, rfl, PySem.W.mg_of X G e1, ⟨F1, F1.binds bi_are_parts, scOk_ok sc_are_parts, rfl, by decide, rfl, ok_are_parts⟩⟩
  | 61, e =>
    simp only [fn, List.mem_cons, List.not_mem_nil, or_false] at e
    subst e
    obtain ⟨g, fd, e1, _, F1⟩ := f42
    exact ⟨"_law_draws", d__law_draws, N__law_draws, ps__law_draws, at_ 53, g, fd, rfl, PySem.W.mg_of X G e1, ⟨F1, F1.binds bi__law_draws, scOk_ok sc__law_draws, rfl, by decide, rfl, ok__law_draws⟩⟩
  | 62, e =>
    simp only [fn, List.mem_cons, List.not_mem_nil, or_false] at e
    subst e
    obtain ⟨g, fd, e1, _, F1⟩ := f43
    exact ⟨"_law_next", d__law_next, N__law_next, ps__law_next, at_ 54, g, fd, rfl, PySem.W.mg_of X G e1, ⟨F1, F1.binds bi__law_next, scOk_ok sc__law_next, rfl, by decide, rfl, ok__law_next⟩⟩
  | 64, e =>
    simp only [fn, List.mem_cons, List.not_mem_nil, or_false] at e
    subst e
    obtain ⟨g, fd, e1, _, F1⟩ := f44
    exact ⟨"_law_same", d__law_same, N__law_same, ps__law_same, at_ 55, g, fd, rfl, PySem.W.mg_of X G e1, ⟨F1, F1.binds bi__law_same, scOk_ok sc__law_same, rfl, by decide, rfl, ok__law_same⟩⟩
  | 65, e =>
    simp only [fn, List.mem_cons, List.not_mem_nil, or_false] at e
    subst e
    obtain ⟨g, fd, e1, _, F1⟩ := f45
    exact ⟨"_law_least", d__law_least, N__law_least, ps__law_least, at_ 56, g, fd, rfl, PySem.W.mg_of X G e1, ⟨F1, F1.binds bi__law_least, scOk_ok sc__law_least, rfl, by decide, rfl, ok__law_least⟩⟩
  | 124, e =>
    simp only [fn, List.mem_cons, List.not_mem_nil, or_false] at e
    subst e
    obtain ⟨g, fd, e1, _, F1⟩ := f46
    exact ⟨"_law_sum", d__law_sum_2, N__law_sum_2, ps__law_sum_2, at_ 57, g, fd, rfl, PySem.W.mg_of X G e1, ⟨F1, F1.binds bi__law_sum_2, scOk_ok sc__law_sum_2, rfl, by decide, rfl, ok__law_sum_2⟩⟩
  | 125, e =>
    simp only [fn, List.mem_cons, List.not_mem_nil, or_false] at e
    subst e
    obtain ⟨g, fd, e1, _, F1⟩ := f47
    exact ⟨"_law_val", d__law_val_2, N__law_val_2, ps__law_val_2, at_ 58, g, fd, rfl, PySem.W.mg_of X G e1, ⟨F1, F1.binds bi__law_val_2, scOk_ok sc__law_val_2, rfl, by decide, rfl, ok__law_val_2⟩⟩
  | 69, e =>
    simp only [fn, List.mem_cons, List.not_mem_nil, or_false] at e
    subst e
    obtain ⟨g, fd, e1, _, F1⟩ := f48
    exact ⟨"_law_less", d__law_less, N__law_less, ps__law_less, at_ 59, g, fd, rfl, PySem.W.mg_of X G e1, ⟨F1, F1.binds bi__law_less, scOk_ok sc__law_less, rfl, by decide, rfl, ok__law_less⟩⟩
  | 126, e =>
    simp only [fn, List.mem_cons, List.not_mem_nil, or_false] at e
    subst e
    obtain ⟨g, fd, e1, _, F1⟩ := f49
    exact ⟨"_law_mul", d__law_mul_2, N__law_mul_2, ps__law_mul_2, at_ 60, g, fd, rfl, PySem.W.mg_of X G e1, ⟨F1, F1.binds bi__law_mul_2, scOk_ok sc__law_mul_2, rfl, by decide, rfl, ok__law_mul_2⟩⟩
  | 72, e =>
    simp only [fn, List.mem_cons, List.not_mem_nil, or_false] at e
    subst e
    obtain ⟨g, fd, e1, _, F1⟩ := f50
    exact ⟨"_law_off", d__law_off, N__law_off, ps__law_off, at_ 61, g, fd, rfl, PySem.W.mg_of X G e1, ⟨F1, F1.binds bi__law_off, scOk_ok sc__law_off, rfl, by decide, rfl, ok__law_off⟩⟩
  | 73, e =>
    simp only [fn, List.mem_cons, List.not_mem_nil, or_false] at e
    subst e
    obtain ⟨g, fd, e1, _, F1⟩ := f51
    exact ⟨"_law_size", d__law_size, N__law_size, ps__law_size, at_ 62, g, fd, rfl, PySem.W.mg_of X G e1, ⟨F1, F1.binds bi__law_size, scOk_ok sc__law_size, rfl, by decide, rfl, ok__law_size⟩⟩
  | 76, e =>
    simp only [fn, List.mem_cons, List.not_mem_nil, or_false] at e
    subst e
    obtain ⟨g, fd, e1, _, F1⟩ := f52
    exact ⟨"_law_two", d__law_two, N__law_two, ps__law_two, at_ 63, g, fd, rfl, PySem.W.mg_of X G e1, ⟨F1, F1.binds bi__law_two, scOk_ok sc__law_two, rfl, by decide, rfl, ok__law_two⟩⟩
  | 127, e =>
    simp only [fn, List.mem_cons, List.not_mem_nil, or_false] at e
    subst e
    obtain ⟨g, fd, e1, _, F1⟩ := f53
    exact ⟨"_law_drawn", d__law_drawn, N__law_drawn, ps__law_drawn, at_ 64, g, fd, rfl, PySem.W.mg_of X G e1, ⟨F1, F1.binds bi__law_drawn, scOk_ok sc__law_drawn, rfl, by decide, rfl, ok__law_drawn⟩⟩
  | 128, e =>
    simp only [fn, List.mem_cons, List.not_mem_nil, or_false] at e
    subst e
    obtain ⟨g, fd, e1, _, F1⟩ := f54
    exact ⟨"_law_plainly", d__law_plainly, N__law_plainly, ps__law_plainly, at_ 65, g, fd, rfl, PySem.W.mg_of X G e1, ⟨F1, F1.binds bi__law_plainly, scOk_ok sc__law_plainly, rfl, by decide, rfl, ok__law_plainly⟩⟩
  | 129, e =>
    simp only [fn, List.mem_cons, List.not_mem_nil, or_false] at e
    subst e
    obtain ⟨g, fd, e1, _, F1⟩ := f55
    exact ⟨"_law_halved", d__law_halved, N__law_halved, ps__law_halved, at_ 66, g, fd, rfl, PySem.W.mg_of X G e1, ⟨F1, F1.binds bi__law_halved, scOk_ok sc__law_halved, rfl, by decide, rfl, ok__law_halved⟩⟩
  | 130, e =>
    simp only [fn, List.mem_cons, List.not_mem_nil, or_false] at e
    subst e
    obtain ⟨g, fd, e1, _, F1⟩ := f56
    exact ⟨"_law_all", d__law_all, N__law_all, ps__law_all, at_ 67, g, fd, rfl, PySem.W.mg_of X G e1, ⟨F1, F1.binds bi__law_all, scOk_ok sc__law_all, rfl, by decide, rfl, ok__law_all⟩⟩
  | 131, e =>
    simp only [fn, List.mem_cons, List.not_mem_nil, or_false] at e
    subst e
    obtain ⟨g, fd, e1, _, F1⟩ := f57
    exact ⟨"_law_kept_sum", d__law_kept_sum, N__law_kept_sum, ps__law_kept_sum, at_ 68, g, fd, rfl, PySem.W.mg_of X G e1, ⟨F1, F1.binds bi__law_kept_sum, scOk_ok sc__law_kept_sum, rfl, by decide, rfl, ok__law_kept_sum⟩⟩
  | 132, e =>
    simp only [fn, List.mem_cons, List.not_mem_nil, or_false] at e
    subst e
    obtain ⟨g, fd, e1, _, F1⟩ := f58
    exact ⟨"_law_apart", d__law_apart, N__law_apart, ps__law_apart, at_ 69, g, fd, rfl, PySem.W.mg_of X G e1, ⟨F1, F1.binds bi__law_apart, scOk_ok sc__law_apart, rfl, by decide, rfl, ok__law_apart⟩⟩
  | 133, e =>
    simp only [fn, List.mem_cons, List.not_mem_nil, or_false] at e
    subst e
    obtain ⟨g, fd, e1, _, F1⟩ := f59
    exact ⟨"_law_good", d__law_good, N__law_good, ps__law_good, at_ 70, g, fd, rfl, PySem.W.mg_of X G e1, ⟨F1, F1.binds bi__law_good, scOk_ok sc__law_good, rfl, by decide, rfl, ok__law_good⟩⟩
end Pv.K44
namespace Pv.K44
open PySem PySem.Spec PyProof.Rows L2
def hns0 : List Str := ["is_number", "is_from", "bits_of", "NOTHING", "common", "fraction", "added", "times", "size", "is_less", "is_most", "two_to", "shifted", "exponent_of", "is_of", "is_sign", "value_of", "is_finite", "greatest_of", "least_full", "turned", "unit_at", "is_raised", "rounded", "marks_of", "beyond", "NONE", "WRONG", "sign_when_nothing", "plus"]
def hns1 : List Str := ["minus", "product", "joined", "WAY", "two_sum", "quick_two_sum", "two_product", "grown", "parts_of_sum", "exact_sum", "rounded_sum", "plain_sum", "kept_sum", "by_halves", "kept_product", "are_parts", "_law_draws", "_law_next", "_law_same", "_law_least", "_law_sum", "_law_val", "_law_less", "_law_mul", "_law_off", "_law_size", "_law_two", "_law_drawn", "_law_plainly", "_law_halved"]
def hns2 : List Str := ["_law_all", "_law_kept_sum", "_law_apart", "_law_good"]
def hns : List Str := hns0 ++ hns1 ++ hns2
def hfa0 : List He.Fa := [.glo "is_number", .glo "is_from", .glo "bits_of", .glo "common", .glo "fraction", .glo "added", .glo "times", .glo "size", .glo "is_less", .glo "is_most", .glo "two_to", .glo "shifted", .glo "exponent_of", .glo "is_of", .glo "is_sign", .glo "value_of", .glo "is_finite", .glo "greatest_of", .glo "least_full", .glo "turned", .glo "unit_at", .glo "is_raised", .glo "rounded", .glo "marks_of", .glo "beyond", .glo "sign_when_nothing", .glo "plus", .glo "minus", .glo "product", .glo "joined"]
def hfa1 : List He.Fa := [.glo "two_sum", .glo "quick_two_sum", .glo "two_product", .glo "grown", .glo "parts_of_sum", .glo "exact_sum", .glo "rounded_sum", .glo "plain_sum", .glo "kept_sum", .glo "by_halves", .glo "kept_product", .glo "are_parts", .glo "_law_draws", .glo "_law_next", .glo "_law_same", .glo "_law_least", .glo "_law_sum", .glo "_law_val", .glo "_law_less", .glo "_law_mul", .glo "_law_off", .glo "_law_size", .glo "_law_two", .glo "_law_drawn", .glo "_law_plainly", .glo "_law_halved", .glo "_law_all", .glo "_law_kept_sum", .glo "_law_apart", .glo "_law_good"]
def hfa2 : List He.Fa := [.glo "law", .free "len", .free "abs", .free "int", .free "list", .free "tuple", .free "dict", .free "sorted", .free "set", .free "all", .free "any", .free "max", .free "min", .free "isinstance", .free "range", .free "bool", .free "str", .free "sum"]
def hfa : List He.Fa := hfa0 ++ hfa1 ++ hfa2
def hfn0 : List He.DefD := [dd "is_number" "is_number" (at_ 1), dd "is_from" "is_from" (at_ 2), dd "bits_of" "bits_of" (at_ 3), dd "common" "common" (at_ 6), dd "fraction" "fraction" (at_ 7), dd "added" "added" (at_ 8), dd "times" "times" (at_ 9), dd "size" "size" (at_ 10), dd "is_less" "is_less" (at_ 11), dd "is_most" "is_most" (at_ 12), dd "two_to" "two_to" (at_ 13), dd "shifted" "shifted" (at_ 14), dd "exponent_of" "exponent_of" (at_ 15), dd "is_of" "is_of" (at_ 17), dd "is_sign" "is_sign" (at_ 18), dd "value_of" "value_of" (at_ 19), dd "is_finite" "is_finite" (at_ 20), dd "greatest_of" "greatest_of" (at_ 21), dd "least_full" "least_full" (at_ 22), dd "turned" "turned" (at_ 23), dd "unit_at" "unit_at" (at_ 24), dd "is_raised" "is_raised" (at_ 26), dd "rounded" "rounded" (at_ 27), dd "marks_of" "marks_of" (at_ 28), dd "beyond" "beyond" (at_ 29), dd "sign_when_nothing" "sign_when_nothing" (at_ 33), dd "plus" "plus" (at_ 34), dd "minus" "minus" (at_ 35), dd "product" "product" (at_ 36), dd "joined" "joined" (at_ 37)]
def hfn1 : List He.DefD := [dd "two_sum" "two_sum" (at_ 40), dd "quick_two_sum" "quick_two_sum" (at_ 41), dd "two_product" "two_product" (at_ 42), dd "grown" "grown" (at_ 43), dd "parts_of_sum" "parts_of_sum" (at_ 44), dd "exact_sum" "exact_sum" (at_ 45), dd "rounded_sum" "rounded_sum" (at_ 46), dd "plain_sum" "plain_sum" (at_ 47), dd "kept_sum" "kept_sum" (at_ 48), dd "by_halves" "by_halves" (at_ 49), dd "kept_product" "kept_product" (at_ 50), dd "are_parts" "are_parts" (at_ 51), dd "_law_draws" "_law_draws" (at_ 53), dd "_law_next" "_law_next" (at_ 54), dd "_law_same" "_law_same" (at_ 55), dd "_law_least" "_law_least" (at_ 56), dd "_law_sum" "_law_sum" (at_ 57), dd "_law_val" "_law_val" (at_ 58), dd "_law_less" "_law_less" (at_ 59), dd "_law_mul" "_law_mul" (at_ 60), dd "_law_off" "_law_off" (at_ 61), dd "_law_size" "_law_size" (at_ 62), dd "_law_two" "_law_two" (at_ 63), dd "_law_drawn" "_law_drawn" (at_ 64), dd "_law_plainly" "_law_plainly" (at_ 65), dd "_law_halved" "_law_halved" (at_ 66), dd "_law_all" "_law_all" (at_ 67), dd "_law_kept_sum" "_law_kept_sum" (at_ 68), dd "_law_apart" "_law_apart" (at_ 69), dd "_law_good" "_law_good" (at_ 70)]
def hfn2 : List He.DefD := [dd "law" "law" (at_ 71)]
def hfn : List He.DefD := hfn0 ++ hfn1 ++ hfn2
def hcs0 : List (Str × D) := [("NOTHING", (.tup [(.int 0), (.int 1)])), ("NONE", (.tup [(.str 27)])), ("WRONG", (.tup [(.tup [(.str 27)]), (.tup [(.str 28)])])), ("WAY", (.str 9))]
def hcs : List (Str × D) := hcs0
abbrev hR : PySem.W.OpenRow := PySem.W.OpenLaw.row PySem.Challenge.rw_roundedwithin_k44_whole_parts_of_sums_in
abbrev hq : Program := PySem.W.view hR.prog [71]
abbrev hk : PySem.W.Hook := hookP 2 hfa hfn T hcs
def hob (s : PySem.W.SharedT) : AlP := obsPG 2 hfa hfn T hcs (HandSHeadRun.getT s)
theorem hob_eq (s : PySem.W.SharedT) : hob s = hk.obs s.abs := obsPG_eq (HandSHeadRun.getT_eq s)
theorem hrun (w : World) : HandSHeadRun.RunEq hR hq hk hob 9000 hns w := by
  intro os
  kernel_rfl
theorem hall {K : PySem.W.Frag} {w : World} {h : Heap} {mg : Str → Option Value} {fa : Addr} (X : K.In h) (G : h.Ns mainGlobals mg) (hfa0 : mg "law" = some (.ref fa)) (c : SaysP hfa hfn T hcs K) :
    ∃ fd : FuncData, (∀ (s : Shared) (v : Value), BindsTo s fd ⟨[v], []⟩ [("script", v)]) ∧ ∀ base : Heap, K.In base → base.Ns mainGlobals mg → FnOk (PySem.Challenge.rw_roundedwithin_k44_whole_parts_of_sums_in).prog w K mg base CX0 14 fa fd ["script"] (spL K P 13 d_law_2) :=
  all_mk (l := PySem.Challenge.rw_roundedwithin_k44_whole_parts_of_sums_in) X G hfa0 (c.fct 0 rfl rfl) (c.fct 1 rfl rfl) (c.fct 2 rfl rfl) (c.fct 3 rfl rfl) (c.fct 4 rfl rfl) (c.fct 5 rfl rfl) (c.fct 6 rfl rfl) (c.fct 7 rfl rfl) (c.fct 8 rfl rfl) (c.fct 9 rfl rfl) (c.fct 10 rfl rfl) (c.fct 11 rfl rfl) (c.fct 12 rfl rfl) (c.fct 13 rfl rfl) (c.fct 14 rfl rfl) (c.fct 15 rfl rfl) (c.fct 16 rfl rfl) (c.fct 17 rfl rfl) (c.fct 18 rfl rfl) (c.fct 19 rfl rfl) (c.fct 20 rfl rfl) (c.fct 21 rfl rfl) (c.fct 22 rfl rfl) (c.fct 23 rfl rfl) (c.fct 24 rfl rfl) (c.fct 25 rfl rfl) (c.fct 26 rfl rfl) (c.fct 27 rfl rfl) (c.fct 28 rfl rfl) (c.fct 29 rfl rfl) (c.fct 30 rfl rfl) (c.fct 31 rfl rfl) (c.fct 32 rfl rfl) (c.fct 33 rfl rfl) (c.fct 34 rfl rfl) (c.fct 35 rfl rfl) (c.fct 36 rfl rfl) (c.fct 37 rfl rfl) (c.fct 38 rfl rfl) (c.fct 39 rfl rfl) (c.fct 40 rfl rfl) (c.fct 41 rfl rfl) (c.fct 42 rfl rfl) (c.fct 43 rfl rfl) (c.fct 44 rfl rfl) (c.fct 45 rfl rfl) (c.fct 46 rfl rfl) (c.fct 47 rfl rfl) (c.fct 48 rfl rfl) (c.fct 49 rfl rfl) (c.fct 50 rfl rfl) (c.fct 51 rfl rfl) (c.fct 52 rfl rfl) (c.fct 53 rfl rfl) (c.fct 54 rfl rfl) (c.fct 55 rfl rfl) (c.fct 56 rfl rfl) (c.fct 57 rfl rfl) (c.fct 58 rfl rfl) (c.fct 59 rfl rfl) (c.fct 60 rfl rfl) (blt_mk (c.free 61 rfl) (c.free 62 rfl) (c.free 63 rfl) (c.free 64 rfl) (c.free 65 rfl) (c.free 66 rfl) (c.free 67 rfl) (c.free 68 rfl) (c.free 69 rfl) (c.free 70 rfl) (c.free 71 rfl) (c.free 72 rfl) (c.free 73 rfl) (c.free 74 rfl) (c.free 75 rfl) (c.free 76 rfl) (c.free 77 rfl))
    (fun k y d e => by
      match k, e with
      | 0, e => cases e; exact c.con (List.mem_of_getElem? (i := 0) rfl)
      | 1, e => cases e; exact c.con (List.mem_of_getElem? (i := 1) rfl)
      | 2, e => cases e; exact c.con (List.mem_of_getElem? (i := 2) rfl)
      | 3, e => cases e; exact c.con (List.mem_of_getElem? (i := 3) rfl))
end Pv.K44
open PySem PySem.W PySem.Calls PyProof.Rows
set_option maxHeartbeats 0 in
theorem PySem.Challenge.cw_roundedwithin_k44_whole_parts_of_sums_in_holds : PySem.Challenge.rw_roundedwithin_k44_whole_parts_of_sums_in.Holds := by
  w_on; o_law
  refine HandSHeadRun.head_any (r := Pv.K44.hR) (q := Pv.K44.hq) (H := Pv.K44.hk) (ob := Pv.K44.hob) (M := 9000) (loose := Pv.K44.hns) (d := HandSHeadRun.topDef Pv.K44.hR.prog 71) (kwd := []) Pv.K44.hob_eq (by kernel_rfl) (fun s => by kernel_rfl) Pv.K44.hrun (by kernel_rfl) (by kernel_rfl) (by kernel_rfl) (by rfl) (by first | assumption | decide +kernel) (by decide +kernel) ⟨rfl, rfl, rfl, rfl, rfl, by decide +kernel⟩ ?hw ?hc
  case hw => w_witness2
  case hc =>
    refine L2.walk_ofE (l := PySem.Challenge.rw_roundedwithin_k44_whole_parts_of_sums_in) (n := 63) (k := 14) (x := "script") (CX := L2.CX0) rfl (by decide) (by kernel_rfl) ⟨rfl, by decide, by decide⟩ ?F (fun _ _ _ _ z => z)
    intro w mg fa h Y G hmg0
    obtain ⟨K, KX, c⟩ := Y
    have hmg : mg ("law" : PySem.Str) = some (.ref fa) := by
      have e : (HandSHeadRun.topDef Pv.K44.hR.prog 71).name = ("law" : PySem.Str) := by kernel_rfl
      rw [← e]
      exact hmg0
    obtain ⟨fd, hb, hF⟩ := Pv.K44.hall (w := w) KX G hmg c
    exact ⟨K, fd, Pv.spL K Pv.K44.P 13 Pv.K44.d_law_2, KX, hb, fun H a ns hl _ hS => ⟨a, ns, rfl, hS, Pv.K44.law_true ns hl, fun _ => rfl⟩, hF⟩
