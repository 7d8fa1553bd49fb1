import PyProof.Rows.All
import Wide.All
import OpenK.AllK
import Wide.FinOn
import HandS.ForMost
import HandS.More
import HandS.Wide
import HandS.Style
import HandS.IsInst
import HandS.TupAny
import HandS.WordsDict
import HandS.Strs
import HandS.SetFor
import KE.KDictPairs
import PySem.Challenge.RW_roundedwithin_k36_whole_straight_forms_b
set_option Elab.async false
set_option linter.all false
set_option maxRecDepth 100000
set_option Elab.async false
set_option linter.all false
/-! Pv0: values D, words Ex/Tx/St, and what they do (ev, exec, callO). -/
namespace Pv

inductive D where
  | non
  | bl (b : Bool)
  | int (i : Int)
  | str (n : Nat)
  | tup (xs : List D)
  | lst (xs : List D)
  | dic (ks vs : List D)
  | scr (ns : List Int)
  | wd
  deriving Inhabited

mutual
def deq : D → D → Bool
  | .non, .non => true
  | .bl a, .bl b => a == b
  | .bl a, .int j => (if a then 1 else 0) == j
  | .int i, .bl b => i == (if b then 1 else 0)
  | .int i, .int j => decide (i = j)
  | .str x, .str y => decide (x = y)
  | .lst xs, .lst ys => deqs xs ys
  | .tup xs, .tup ys => deqs xs ys
  | _, _ => false
def deqs : List D → List D → Bool
  | [], [] => true
  | x :: xs, y :: ys => deq x y && deqs xs ys
  | _, _ => false
end
mutual
/-- may be compared: no dict, of a depth of at most n -/
def okq : D → Nat → Bool
  | .non, _ => true
  | .bl _, _ => true
  | .int _, _ => true
  | .str k, _ => decide (k < 128)
  | .tup xs, n => match n with | 0 => false | n + 1 => okqs xs n
  | .lst xs, n => match n with | 0 => false | n + 1 => okqs xs n
  | _, _ => false
def okqs : List D → Nat → Bool
  | [], _ => true
  | x :: xs, n => okq x n && okqs xs n
end

inductive Slot where
  | un
  | va (d : D)
  | ow (d : D)
  deriving Inhabited
abbrev Env := List Slot
def eg : Env → Nat → Slot
  | [], _ => .un
  | s :: _, 0 => s
  | _ :: r, n + 1 => eg r n
def es : Env → Nat → Slot → Env
  | [], _, _ => []
  | _ :: r, 0, s => s :: r
  | x :: r, n + 1, s => x :: es r n s
/-- all that is one's own is one's own no longer -/
def frzS : Slot → Slot
  | .ow d => .va d
  | s => s
def frzA (env : Env) : Env := env.map frzS

abbrev WS := Option (List (Nat × D))
def wg : List (Nat × D) → Nat → Option D
  | [], _ => none
  | (k, d) :: r, n => if k = n then some d else wg r n
def wp : List (Nat × D) → Nat → D → List (Nat × D)
  | [], _, _ => []
  | (k, d) :: r, n, e => (k, if k = n then e else d) :: wp r n e

inductive Bop where | add | sub | mul | fdiv | mod | shl | shr | pow
  deriving DecidableEq
inductive Cop where | eq | ne | lt | le | gt | ge | isN | notN | isB | isin | notin
  deriving DecidableEq
inductive Ty where | int | bool | tuple | list | dict | str
  deriving DecidableEq
inductive B1 where | len | abs | int | lstOf | tupOf | dictOf | sorted | sortedSet | all | any
  deriving DecidableEq
inductive B2 where | max | min
  deriving DecidableEq
inductive Tg where
  | nm (i : Nat)
  | tp (is : List Nat)

mutual
inductive Ex where
  | bad
  | non
  | tt (b : Bool)
  | num (i : Int)
  | txt (n : Nat)
  | var (i : Nat)
  | con (k : Nat) (d : D)
  | bin (o : Bop) (a b : Ex)
  | neg (a : Ex)
  | cmp (o : Cop) (a b : Ex)
  | andv (a b : Ex)
  | orv (a b : Ex)
  | one (a : Ex)
  | notv (a : Ex)
  | ite (c : Tx) (a b : Ex)
  | tup (es : Exs)
  | lst (es : Exs)
  | dic (ks vs : Exs)
  | ix (a b : Ex)
  | sl (a lo hi : Ex)
  | call (f : Nat) (args : Exs)
  | b1 (f : B1) (a : Ex)
  | b2 (f : B2) (a b : Ex)
  | isi (t : Ty) (a : Ex)
  | get2 (d k e : Ex)
  | rng (a : Ex)
  | rng2 (a b : Ex)
  | comp (tg : Tg) (it elt : Ex)
  | compIf (tg : Tg) (it : Ex) (c : Tx) (elt : Ex)
inductive Exs where
  | nil
  | cons (e : Ex) (es : Exs)
inductive Tx where
  | val (e : Ex)
  | cmp (o : Cop) (a b : Ex)
  | not (a : Tx)
  | and2 (a b : Tx)
  | or2 (a b : Tx)
  | one (a : Tx)
  | ite (c a b : Tx)
end

mutual
inductive St where
  | bad
  | pass
  | set (tg : Tg) (e : Ex)
  | own (i : Nat) (e : Ex)
  | par (is : List (Nat × Bool)) (es : Exs)
  | aug (i : Nat) (o : Bop) (e : Ex)
  | dput (i : Nat) (k e : Ex)
  | waug (i : Nat) (k : Nat) (o : Bop) (e : Ex)
  | mkw (i k l : Nat) (a b : Ex)
  | app (i : Nat) (e : Ex)
  | ext (i : Nat) (e : Ex)
  | pop (tg : Tg) (i : Nat)
  | drop (e : Ex)
  | ite (c : Tx) (a b : Sts)
  | whl (c : Tx) (b : Sts)
  | for_ (tg : Tg) (it : Ex) (b : Sts)
  | ret (e : Ex)
  | retN
  | brk
  | cont
  | frz (i : Nat)
inductive Sts where
  | nil
  | cons (s : St) (r : Sts)
end

/-! ### operations by values -/
@[irreducible] def big : Nat := 2 ^ 4000

def okI (i : Int) : Bool := decide (i.natAbs < big)
def okLen (n : Nat) : Bool := decide (n ≤ 100000)

def bop : Bop → D → D → Option D
  | .add, .int i, .int j => some (.int (i + j))
  | .add, .tup xs, .tup ys => if okLen (xs.length + ys.length) then some (.tup (xs ++ ys)) else none
  | .add, .lst xs, .lst ys => if okLen (xs.length + ys.length) then some (.lst (xs ++ ys)) else none
  | .sub, .int i, .int j => some (.int (i - j))
  | .mul, .int i, .int j => if okI i && okI j then some (.int (i * j)) else none
  | .fdiv, .int i, .int j => if decide (0 < j) && okI j then some (.int (i / j)) else none
  | .mod, .int i, .int j => if decide (0 < j) then some (.int (i % j)) else none
  | .shl, .int i, .int j => if decide (0 ≤ j) && decide (j ≤ 100000) && decide (i.natAbs < 18446744073709551616) then some (.int (i * 2 ^ j.toNat)) else none
  | .shr, .int i, .int j => if decide (0 ≤ j) then some (.int (i / 2 ^ j.toNat)) else none
  | .pow, .int i, .int j => if decide (0 ≤ j) && decide (j ≤ 1000) && decide (i.natAbs < 18446744073709551616) then some (.int (i ^ j.toNat)) else none
  | _, _, _ => none

def isFlat : D → Bool
  | .non => true
  | .bl _ => true
  | .int _ => true
  | .str k => decide (k < 128)
  | _ => false
def isK : D → Bool
  | .int _ => true
  | .str k => decide (k < 128)
  | _ => false
def keq : D → D → Bool
  | .int i, .int j => decide (i = j)
  | .str i, .str j => decide (i = j)
  | _, _ => false
def dget : List D → List D → D → Option D
  | k :: ks, v :: vs, x => if keq k x then some v else dget ks vs x
  | _, _, _ => none
def has (ks : List D) (x : D) : Bool := ks.any fun k => keq k x
def repl : List D → List D → D → D → List D
  | k :: ks, v :: vs, x, y => (if keq k x then y else v) :: repl ks vs x y
  | _, vs, _, _ => vs
def dputV (ks vs : List D) (x y : D) : List D := if has ks x then repl ks vs x y else vs ++ [y]
def dputK (ks : List D) (x : D) : List D := if has ks x then ks else ks ++ [x]

def cop : Cop → D → D → Option Bool
  | .eq, x, y => if okq x 64 && okq y 64 then some (deq x y) else none
  | .ne, x, y => if okq x 64 && okq y 64 then some (!deq x y) else none
  | .lt, .int i, .int j => some (decide (i < j))
  | .le, .int i, .int j => some (decide (i ≤ j))
  | .gt, .int i, .int j => some (decide (j < i))
  | .ge, .int i, .int j => some (decide (j ≤ i))
  | .isB, .bl a, .bl b => some (decide (a = b))
  | .isin, x, .lst ys => if isFlat x && ys.all isFlat then some (ys.any fun y => deq y x) else none
  | .isin, x, .tup ys => if isFlat x && ys.all isFlat then some (ys.any fun y => deq y x) else none
  | .isin, x, .dic ks _ => if isK x then some (has ks x) else none
  | .notin, x, .lst ys => if isFlat x && ys.all isFlat then some (!ys.any fun y => deq y x) else none
  | .notin, x, .tup ys => if isFlat x && ys.all isFlat then some (!ys.any fun y => deq y x) else none
  | .notin, x, .dic ks _ => if isK x then some (!has ks x) else none
  | _, _, _ => none
def isNone : D → Bool
  | .non => true
  | _ => false

def truth : D → Option Bool
  | .non => some false
  | .bl b => some b
  | .int i => some (i != 0)
  | _ => none

def atD (xs : List D) (i : Int) : Option D := L2.atI xs i
def ixD : D → D → Option D
  | .tup xs, .int i => atD xs i
  | .lst xs, .int i => atD xs i
  | .scr ns, .int i => (L2.atI ns i).map .int
  | .dic ks vs, k => if isK k then dget ks vs k else none
  | _, _ => none
def cutD (xs : List D) (lo hi : Option Int) : List D :=
  (xs.drop (HT.sIx xs.length 0 lo)).take (HT.sIx xs.length xs.length hi - HT.sIx xs.length 0 lo)
def bnd : Bool → D → Option (Option Int)
  | true, _ => some none
  | false, .int i => some (some i)
  | false, _ => none
def slD : D → Option Int → Option Int → Option D
  | .tup xs, lo, hi => some (.tup (cutD xs lo hi))
  | .lst xs, lo, hi => some (.lst (cutD xs lo hi))
  | _, _, _ => none

def intsOf : List D → Option (List Int)
  | [] => some []
  | .int i :: r => match intsOf r with
    | some is => some (i :: is)
    | none => none
  | _ :: _ => none
def blsOf : List D → Option (List Bool)
  | [] => some []
  | .bl i :: r => match blsOf r with
    | some is => some (i :: is)
    | none => none
  | _ :: _ => none
def ins (x : Int) : List Int → List Int
  | [] => [x]
  | y :: ys => if x ≤ y then x :: y :: ys else y :: ins x ys
def isort : List Int → List Int
  | [] => []
  | x :: xs => ins x (isort xs)
def insU (x : Int) : List Int → List Int
  | [] => [x]
  | y :: ys => if x < y then x :: y :: ys else if x = y then y :: ys else y :: insU x ys
def usort : List Int → List Int
  | [] => []
  | x :: xs => insU x (usort xs)
/-- dict(rows of (key, value)) -/
def dfold : List D → List D → List D → Option (List D × List D)
  | [], ks, vs => some (ks, vs)
  | .tup [k, v] :: r, ks, vs => if isK k then dfold r (dputK ks k) (dputV ks vs k v) else none
  | _ :: _, _, _ => none

def bf1 : B1 → D → Option D
  | .len, .tup xs => some (.int xs.length)
  | .len, .lst xs => some (.int xs.length)
  | .len, .scr xs => some (.int xs.length)
  | .len, .dic ks _ => some (.int ks.length)
  | .abs, .int i => some (.int (if i < 0 then -i else i))
  | .int, .int i => some (.int i)
  | .int, .bl b => some (.int (if b then 1 else 0))
  | .lstOf, .tup xs => some (.lst xs)
  | .lstOf, .lst xs => some (.lst xs)
  | .lstOf, .dic ks _ => some (.lst ks)
  | .tupOf, .tup xs => some (.tup xs)
  | .tupOf, .lst xs => some (.tup xs)
  | .dictOf, .tup xs => match dfold xs [] [] with
    | some (ks, vs) => some (.dic ks vs)
    | none => none
  | .dictOf, .lst xs => match dfold xs [] [] with
    | some (ks, vs) => some (.dic ks vs)
    | none => none
  | .dictOf, .dic ks vs => some (.dic ks vs)
  | .sorted, .dic ks _ => match intsOf ks with
    | some ns => if decide (ns.length < 64) then some (.lst ((isort ns).map .int)) else none
    | none => none
  | .sorted, .lst xs => match intsOf xs with
    | some ns => if decide (ns.length < 64) then some (.lst ((isort ns).map .int)) else none
    | none => none
  | .sortedSet, .lst xs => match intsOf xs with
    | some ns => if decide (ns.length < 64) then some (.lst ((usort ns).map .int)) else none
    | none => none
  | .all, .lst xs => match blsOf xs with
    | some bs => some (.bl (bs.all id))
    | none => none
  | .any, .lst xs => match blsOf xs with
    | some bs => some (.bl (bs.any id))
    | none => none
  | _, _ => none
def bf2 : B2 → D → D → Option D
  | .max, .int i, .int j => some (.int (if j > i then j else i))
  | .min, .int i, .int j => some (.int (if j < i then j else i))
  | _, _, _ => none
def isiD : Ty → D → Option Bool
  | .int, .int _ => some true
  | .int, .bl _ => some true
  | .bool, .bl _ => some true
  | .tuple, .tup _ => some true
  | .list, .lst _ => some true
  | .dict, .dic _ _ => some true
  | .str, .str _ => some true
  | _, .wd => none
  | _, .scr _ => none
  | _, _ => some false
def itemsOf : D → Option (List D)
  | .tup xs => some xs
  | .lst xs => some xs
  | .scr ns => some (ns.map .int)
  | _ => none

def setAll : Env → List Nat → List D → Option Env
  | env, [], [] => some env
  | env, i :: is, d :: ds => setAll (es env i (.va d)) is ds
  | _, _, _ => none
def bindT (env : Env) : Tg → D → Option Env
  | .nm i, d => some (es env i (.va d))
  | .tp is, .tup ds => setAll env is ds
  | _, _ => none
def wipeE (env : Env) : List Nat → Env
  | [] => env
  | i :: is => es (wipeE env is) i .un
def tgs : Tg → List Nat
  | .nm i => [i]
  | .tp is => is

def isN : Ex → Bool
  | .non => true
  | _ => false
def vi : Ex → Option Nat
  | .var i => some i
  | _ => none
def bor (v : Option Nat) (env : Env) (ws : WS) (r : Option (D × WS)) : Option (D × WS) :=
  match v with
  | none => r
  | some i => match eg env i with
    | .va d => some (d, ws)
    | .ow d => some (d, ws)
    | .un => none

def compL (ct : Env → WS → Option (Bool × WS)) (el : Env → WS → Option (D × WS)) (tg : Tg) (env : Env) : List D → WS → Option (List D × WS)
  | [], ws => some ([], ws)
  | d :: ds, ws => match bindT env tg d with
    | none => none
    | some env1 => match ct env1 ws with
      | none => none
      | some (false, ws1) => compL ct el tg env ds ws1
      | some (true, ws1) => match el env1 ws1 with
        | none => none
        | some (y, ws2) => match compL ct el tg env ds ws2 with
          | none => none
          | some (r, ws3) => some (y :: r, ws3)
abbrev Fns := Nat → List D → WS → Option (D × WS)

/-- w["at"] -/
def ixW (ws : WS) : D → D → Option D
  | .wd, .str k => match ws with
    | some kvs => wg kvs k
    | none => none
  | a, b => ixD a b

mutual
def ev (Φ : Fns) : Ex → Env → WS → Option (D × WS)
  | .bad, _, _ => none
  | .non, _, ws => some (.non, ws)
  | .tt b, _, ws => some (.bl b, ws)
  | .num i, _, ws => some (.int i, ws)
  | .txt n, _, ws => some (.str n, ws)
  | .var i, env, ws => match eg env i with
    | .va d => some (d, ws)
    | _ => none
  | .con _ d, _, ws => some (d, ws)
  | .bin o a b, env, ws => match bor (vi a) env ws (ev Φ a env ws) with
    | none => none
    | some (x, ws1) => match bor (vi b) env ws1 (ev Φ b env ws1) with
      | none => none
      | some (y, ws2) => match bop o x y with
        | none => none
        | some z => some (z, ws2)
  | .neg a, env, ws => match ev Φ a env ws with
    | some (.int i, ws1) => some (.int (-i), ws1)
    | _ => none
  | .cmp o a b, env, ws => match bor (vi a) env ws (ev Φ a env ws) with
    | none => none
    | some (x, ws1) => match o with
      | .isN => some (.bl (isNone x), ws1)
      | .notN => some (.bl (!isNone x), ws1)
      | _ => match bor (vi b) env ws1 (ev Φ b env ws1) with
        | none => none
        | some (y, ws2) => match cop o x y with
          | none => none
          | some z => some (.bl z, ws2)
  | .andv a b, env, ws => match ev Φ a env ws with
    | some (.bl true, ws1) => ev Φ b env ws1
    | some (.bl false, ws1) => some (.bl false, ws1)
    | _ => none
  | .orv a b, env, ws => match ev Φ a env ws with
    | some (.bl true, ws1) => some (.bl true, ws1)
    | some (.bl false, ws1) => ev Φ b env ws1
    | _ => none
  | .one a, env, ws => ev Φ a env ws
  | .notv a, env, ws => match ev Φ a env ws with
    | some (.bl b, ws1) => some (.bl (!b), ws1)
    | _ => none
  | .ite c a b, env, ws => match evT Φ c env ws with
    | none => none
    | some (t, ws1) => if t then ev Φ a env ws1 else ev Φ b env ws1
  | .tup es, env, ws => match evs Φ es env ws with
    | none => none
    | some (ds, ws1) => some (.tup ds, ws1)
  | .lst es, env, ws => match evs Φ es env ws with
    | none => none
    | some (ds, ws1) => some (.lst ds, ws1)
  | .dic ks vs, env, ws => match ks, vs with
    | .nil, .nil => some (.dic [] [], ws)
    | .cons k .nil, .cons v .nil => match ev Φ k env ws with
      | none => none
      | some (kd, ws1) => match ev Φ v env ws1 with
        | none => none
        | some (vd, ws2) => if isK kd then some (.dic [kd] [vd], ws2) else none
    | _, _ => none
  | .ix a b, env, ws => match bor (vi a) env ws (ev Φ a env ws) with
    | none => none
    | some (x, ws1) => match ev Φ b env ws1 with
      | none => none
      | some (y, ws2) => match ixW ws2 x y with
        | none => none
        | some z => some (z, ws2)
  | .sl a lo hi, env, ws => match bor (vi a) env ws (ev Φ a env ws) with
    | none => none
    | some (x, ws1) => match ev Φ lo env ws1 with
      | none => none
      | some (l, ws2) => match ev Φ hi env ws2 with
        | none => none
        | some (h, ws3) => match bnd (isN lo) l with
          | none => none
          | some lo' => match bnd (isN hi) h with
            | none => none
            | some hi' => match slD x lo' hi' with
              | none => none
              | some z => some (z, ws3)
  | .call f args, env, ws => match evs Φ args env ws with
    | none => none
    | some (ds, ws1) => Φ f ds ws1
  | .b1 f a, env, ws => match bor (vi a) env ws (ev Φ a env ws) with
    | none => none
    | some (x, ws1) => match bf1 f x with
      | none => none
      | some z => some (z, ws1)
  | .b2 f a b, env, ws => match ev Φ a env ws with
    | none => none
    | some (x, ws1) => match ev Φ b env ws1 with
      | none => none
      | some (y, ws2) => match bf2 f x y with
        | none => none
        | some z => some (z, ws2)
  | .isi t a, env, ws => match bor (vi a) env ws (ev Φ a env ws) with
    | none => none
    | some (x, ws1) => match isiD t x with
      | none => none
      | some z => some (.bl z, ws1)
  | .get2 d k e, env, ws => match bor (vi d) env ws (ev Φ d env ws) with
    | some (.dic ks vs, ws1) => match ev Φ k env ws1 with
      | none => none
      | some (kd, ws2) => match ev Φ e env ws2 with
        | none => none
        | some (ed, ws3) => if isK kd then some ((dget ks vs kd).getD ed, ws3) else none
    | _ => none
  | .rng a, env, ws => match ev Φ a env ws with
    | some (.int j, ws1) => if decide (-100000 ≤ j) && decide (j ≤ 100000) then some (.lst ((List.range j.toNat).map fun k : Nat => .int (0 + (k : Int))), ws1) else none
    | _ => none
  | .rng2 a b, env, ws => match ev Φ a env ws with
    | some (.int i, ws1) => match ev Φ b env ws1 with
      | some (.int j, ws2) => if decide (-100000 ≤ i) && decide (i ≤ 100000) && decide (-100000 ≤ j) && decide (j ≤ 100000) then
          some (.lst ((List.range (j - i).toNat).map fun k : Nat => .int (i + (k : Int))), ws2) else none
      | _ => none
    | _ => none
  | .comp tg it elt, env, ws => match bor (vi it) env ws (ev Φ it env ws) with
    | none => none
    | some (x, ws1) => match itemsOf x with
      | none => none
      | some ds => if okLen ds.length then match compL (fun _ ws => some (true, ws)) (fun env ws => ev Φ elt env ws) tg (wipeE env (tgs tg)) ds ws1 with
        | none => none
        | some (r, ws2) => some (.lst r, ws2) else none
  | .compIf tg it c elt, env, ws => match bor (vi it) env ws (ev Φ it env ws) with
    | none => none
    | some (x, ws1) => match itemsOf x with
      | none => none
      | some ds => if okLen ds.length then match compL (fun env ws => evT Φ c env ws) (fun env ws => ev Φ elt env ws) tg (wipeE env (tgs tg)) ds ws1 with
        | none => none
        | some (r, ws2) => some (.lst r, ws2) else none
def evs (Φ : Fns) : Exs → Env → WS → Option (List D × WS)
  | .nil, _, ws => some ([], ws)
  | .cons e r, env, ws => match ev Φ e env ws with
    | none => none
    | some (d, ws1) => match evs Φ r env ws1 with
      | none => none
      | some (ds, ws2) => some (d :: ds, ws2)
def evT (Φ : Fns) : Tx → Env → WS → Option (Bool × WS)
  | .val e, env, ws => match ev Φ e env ws with
    | none => none
    | some (d, ws1) => match truth d with
      | none => none
      | some b => some (b, ws1)
  | .cmp o a b, env, ws => match bor (vi a) env ws (ev Φ a env ws) with
    | none => none
    | some (x, ws1) => match o with
      | .isN => some (isNone x, ws1)
      | .notN => some (!isNone x, ws1)
      | _ => match bor (vi b) env ws1 (ev Φ b env ws1) with
        | none => none
        | some (y, ws2) => match cop o x y with
          | none => none
          | some z => some (z, ws2)
  | .not a, env, ws => match evT Φ a env ws with
    | none => none
    | some (b, ws1) => some (!b, ws1)
  | .and2 a b, env, ws => match evT Φ a env ws with
    | none => none
    | some (t, ws1) => if t then evT Φ b env ws1 else some (false, ws1)
  | .or2 a b, env, ws => match evT Φ a env ws with
    | none => none
    | some (t, ws1) => if t then some (true, ws1) else evT Φ b env ws1
  | .one a, env, ws => evT Φ a env ws
  | .ite c a b, env, ws => match evT Φ c env ws with
    | none => none
    | some (t, ws1) => if t then evT Φ a env ws1 else evT Φ b env ws1
end

def aop : Bop → Int → Int → Option Int
  | .add, a, b => some (a + b)
  | .sub, a, b => some (a - b)
  | .mul, a, b => if decide (b.natAbs < 18446744073709551616) then some (a * b) else none
  | _, _, _ => none
inductive Fl where
  | nx | br | ct | rt (d : D)
abbrev Out := Option (Fl × Env × WS)
def forL (body : Env → WS → Out) (tg : Tg) : List D → Env → WS → Out
  | [], env, ws => some (.nx, env, ws)
  | d :: ds, env, ws => match bindT env tg d with
    | none => none
    | some env1 => match body env1 ws with
      | none => none
      | some (.nx, env2, ws2) => forL body tg ds env2 ws2
      | some (.ct, env2, ws2) => forL body tg ds env2 ws2
      | some (.br, env2, ws2) => some (.nx, env2, ws2)
      | some (.rt v, env2, ws2) => some (.rt v, env2, ws2)
def whlN (c : Env → WS → Option (Bool × WS)) (body : Env → WS → Out) : Nat → Env → WS → Out
  | 0, _, _ => none
  | n + 1, env, ws => match c env ws with
    | none => none
    | some (false, ws1) => some (.nx, env, ws1)
    | some (true, ws1) => match body env ws1 with
      | none => none
      | some (.nx, env2, ws2) => whlN c body n env2 ws2
      | some (.ct, env2, ws2) => whlN c body n env2 ws2
      | some (.br, env2, ws2) => some (.nx, env2, ws2)
      | some (.rt v, env2, ws2) => some (.rt v, env2, ws2)
def fuel : Nat := 1000000

def setPar : Env → List (Nat × Bool) → List D → Option Env
  | env, [], [] => some env
  | env, (i, o) :: is, d :: ds => setPar (es env i (if o then .ow d else .va d)) is ds
  | _, _, _ => none
mutual
def exec (Φ : Fns) : St → Env → WS → Out
  | .bad, _, _ => none
  | .pass, env, ws => some (.nx, env, ws)
  | .set tg e, env, ws => match ev Φ e env ws with
    | none => none
    | some (d, ws1) => match bindT env tg d with
      | none => none
      | some env1 => some (.nx, env1, ws1)
  | .own i e, env, ws => match ev Φ e env ws with
    | none => none
    | some (d, ws1) => some (.nx, es env i (.ow d), ws1)
  | .par is xs, env, ws => match evs Φ xs env ws with
    | none => none
    | some (ds, ws1) => match setPar env is ds with
      | none => none
      | some env1 => some (.nx, env1, ws1)
  | .aug i o e, env, ws => match eg env i with
    | .va x => match ev Φ e env ws with
      | none => none
      | some (y, ws1) => match x, y with
        | .int a, .int b => match aop o a b with
          | none => none
          | some z => some (.nx, es env i (.va (.int z)), ws1)
        | _, _ => none
    | _ => none
  | .dput i k e, env, ws => match ev Φ e env ws with
    | none => none
    | some (y, ws1) => match ev Φ k env ws1 with
      | none => none
      | some (kd, ws2) => match eg env i with
        | .ow (.dic ks vs) => if isK kd && okLen ks.length then some (.nx, es env i (.ow (.dic (dputK ks kd) (dputV ks vs kd y))), ws2) else none
        | _ => none
  | .waug i k o e, env, ws => match eg env i with
    | .va .wd => match ws with
      | none => none
      | some kvs => match wg kvs k with
        | none => none
        | some x => match ev Φ e env ws with
          | none => none
          | some (y, ws1) => match x, y, ws1 with
            | .int a, .int b, some kvs1 => if okLen kvs1.length && (wg kvs1 k).isSome then match o with
              | .add => some (.nx, env, some (wp kvs1 k (.int (a + b))))
              | .sub => some (.nx, env, some (wp kvs1 k (.int (a - b))))
              | _ => none
              else none
            | _, _, _ => none
    | _ => none
  | .mkw i k l a b, env, ws => match ws with
    | some _ => none
    | none => match ev Φ a env none with
      | some (x, none) => match ev Φ b env none with
        | some (y, none) => if decide (k < 128) && decide (l < 128) && !decide (k = l) then some (.nx, es env i (.va .wd), some [(k, x), (l, y)]) else none
        | _ => none
      | _ => none
  | .app i e, env, ws => match ev Φ e env ws with
    | none => none
    | some (y, ws1) => match eg env i with
      | .ow (.lst xs) => if okLen xs.length then some (.nx, es env i (.ow (.lst (xs ++ [y]))), ws1) else none
      | _ => none
  | .ext i e, env, ws => match ev Φ e env ws with
    | some (.lst ys, ws1) => match eg env i with
      | .ow (.lst xs) => if okLen (xs.length + ys.length) then some (.nx, es env i (.ow (.lst (xs ++ ys))), ws1) else none
      | _ => none
    | _ => none
  | .pop tg i, env, ws => match eg env i with
    | .ow (.lst xs) => match xs.getLast? with
      | none => none
      | some y => match bindT (es env i (.ow (.lst xs.dropLast))) tg y with
        | none => none
        | some env1 => some (.nx, env1, ws)
    | _ => none
  | .drop e, env, ws => match ev Φ e env ws with
    | none => none
    | some (_, ws1) => some (.nx, env, ws1)
  | .ite c a b, env, ws => match evT Φ c env ws with
    | none => none
    | some (t, ws1) => if t then execs Φ a env ws1 else execs Φ b env ws1
  | .whl c b, env, ws => whlN (fun env ws => evT Φ c env ws) (fun env ws => execs Φ b env ws) fuel env ws
  | .for_ tg it b, env, ws => match ev Φ it env ws with
    | none => none
    | some (x, ws1) => match itemsOf x with
      | none => none
      | some ds => forL (fun env ws => execs Φ b env ws) tg ds env ws1
  | .ret e, env, ws => match ev Φ e (frzA env) ws with
    | none => none
    | some (d, ws1) => some (.rt d, env, ws1)
  | .retN, env, ws => some (.rt .non, env, ws)
  | .brk, env, ws => some (.br, env, ws)
  | .cont, env, ws => some (.ct, env, ws)
  | .frz i, env, ws => some (.nx, es env i (frzS (eg env i)), ws)
def execs (Φ : Fns) : Sts → Env → WS → Out
  | .nil, env, ws => some (.nx, env, ws)
  | .cons s r, env, ws => match exec Φ s env ws with
    | none => none
    | some (.nx, env1, ws1) => execs Φ r env1 ws1
    | some (fl, env1, ws1) => some (fl, env1, ws1)
end

structure Def where
  np : Nat
  ns : Nat
  body : Sts
def mkEnv (ds : List D) (n : Nat) : Env := ds.map .va ++ List.replicate (n - ds.length) .un
def fin : Out → Option (D × WS)
  | some (.rt d, _, ws) => some (d, ws)
  | some (.nx, _, ws) => some (.non, ws)
  | _ => none
/-- a def that is called makes no record -/
def chk : WS → Option (D × WS) → Option (D × WS)
  | none, some (_, some _) => none
  | _, r => r
def callO (P : Nat → Option Def) : Nat → Fns
  | 0, _, _, _ => none
  | n + 1, f, ds, ws => match P f with
    | none => none
    | some d => if ds.length = d.np then chk ws (fin (execs (callO P n) d.body (mkEnv ds d.ns) ws)) else none
/-- the law itself -/
def lawO (P : Nat → Option Def) (n : Nat) (d : Def) (ns : List Int) : Option D :=
  match fin (execs (callO P n) d.body (mkEnv [.scr ns] d.ns) none) with
  | some (r, _) => some r
  | none => none
end Pv

set_option Elab.async false
set_option linter.all false
set_option maxRecDepth 100000
set_option maxHeartbeats 4000000
/-! Pv1: how values D stand in the abstract heap, the state of a frame, the readings tE, tB, tF, tT, tA. -/
namespace Pv
open PySem PySem.Spec PyProof.Rows L2

/-! ### values in the heap -/
def keyOf (T : Nat → Str) : D → Option Key
  | .int i => some (.inl i)
  | .str n => if n < 128 then some (.inr (T n)) else none
  | _ => none
/-- a tuple without a dict of its own -/
def PlT (K : PySem.W.Frag) (H : Hp) (a : Addr) (vs : List V) : Prop :=
  (∃ o, H a = some (.frz o (.tup vs)) ∧ o.dict = none) ∨ ∃ (o : Obj) (its : Array Value) (n : Nat), K.lookup a = some o ∧ o.cls = .type "tuple" ∧ o.data = .seq its n ∧ its.size ≤ sizeLine ∧ Vals vs its.toList ∧ o.dict = none
theorem PlT.sq {K : PySem.W.Frag} {H : Hp} {a : Addr} {vs : List V} (h : PlT K H a vs) : SqT K H a vs := by
  rcases h with ⟨o, h, _⟩ | ⟨o, its, n, h1, h2, h3, h4, h5, _⟩
  · exact .inl (.inr ⟨o, h⟩)
  · exact .inr ⟨o, its, n, h1, h2, h3, h4, h5⟩
theorem PlT.mono {K : PySem.W.Frag} {H H' : Hp} {a : Addr} {vs : List V} (e : Same H H') (h : PlT K H a vs) : PlT K H' a vs := by
  rcases h with ⟨o, h, d⟩ | h
  · exact .inl ⟨o, e _ _ h, d⟩
  · exact .inr h
mutual
inductive Rep (T : Nat → Str) (K : PySem.W.Frag) (wa : Option Addr) (H : Hp) : D → V → Prop
  | non : Rep T K wa H .non .non
  | bl (b : Bool) : Rep T K wa H (.bl b) (.bl b)
  | int (i : Int) : Rep T K wa H (.int i) (.int i)
  | str (n : Nat) : Rep T K wa H (.str n) (.str (T n))
  | tup {a : Addr} {vs : List V} {ds : List D} : PlT K H a vs → Reps T K wa H ds vs → Rep T K wa H (.tup ds) (.ref a)
  | lst {a : Addr} {vs : List V} {ds : List D} : H a = some (.lst vs) → Reps T K wa H ds vs → Rep T K wa H (.lst ds) (.ref a)
  | dic {a : Addr} {kvs : List (Key × V)} {ks ds : List D} : H a = some (.dK kvs) → ks.map (keyOf T) = kvs.map (fun p => some p.1) → Reps T K wa H ds (kvs.map (·.2)) → Rep T K wa H (.dic ks ds) (.ref a)
  | scr {a : Addr} {ns : List Int} : SqL K H a (ns.map V.int) → Rep T K wa H (.scr ns) (.ref a)
  | wd {a : Addr} : wa = some a → Rep T K wa H .wd (.ref a)
inductive Reps (T : Nat → Str) (K : PySem.W.Frag) (wa : Option Addr) (H : Hp) : List D → List V → Prop
  | nil : Reps T K wa H [] []
  | cons {d : D} {v : V} {ds : List D} {vs : List V} : Rep T K wa H d v → Reps T K wa H ds vs → Reps T K wa H (d :: ds) (v :: vs)
end
section
variable {T : Nat → Str} {K : PySem.W.Frag} {wa : Option Addr} {H H' : Hp}
theorem sqT_mono {a : Addr} {xs : List V} (e : Same H H') (h : SqT K H a xs) : SqT K H' a xs := by
  rcases h with (h | ⟨o, h⟩) | h
  · exact .inl (.inl (e _ _ h))
  · exact .inl (.inr ⟨o, e _ _ h⟩)
  · exact .inr h
mutual
theorem Rep.mono (e : Same H H') : ∀ {d : D} {v : V}, Rep T K wa H d v → Rep T K wa H' d v
  | _, _, .non => .non
  | _, _, .bl b => .bl b
  | _, _, .int i => .int i
  | _, _, .str n => .str n
  | _, _, .tup h r => .tup (h.mono e) (Reps.mono e r)
  | _, _, .lst h r => .lst (e _ _ h) (Reps.mono e r)
  | _, _, .dic h k r => .dic (e _ _ h) k (Reps.mono e r)
  | _, _, .scr h => .scr (e.seq h)
  | _, _, .wd h => .wd h
theorem Reps.mono (e : Same H H') : ∀ {d : List D} {v : List V}, Reps T K wa H d v → Reps T K wa H' d v
  | _, _, .nil => .nil
  | _, _, .cons r t => .cons (Rep.mono e r) (Reps.mono e t)
end
theorem Reps.len : ∀ {d : List D} {v : List V}, Reps T K wa H d v → d.length = v.length
  | _, _, .nil => rfl
  | _, _, .cons _ t => congrArg (· + 1) (Reps.len t)
theorem Reps.get : ∀ {ds : List D} {vs : List V} {i : Nat} {d : D}, Reps T K wa H ds vs → ds[i]? = some d → ∃ v, vs[i]? = some v ∧ Rep T K wa H d v
  | _, _, _, _, .nil, e => by simp at e
  | _, _, 0, _, .cons r _, e => by simp at e; subst e; exact ⟨_, rfl, r⟩
  | _, _, i + 1, d, .cons _ t, e => by
    obtain ⟨v, h1, h2⟩ := Reps.get (i := i) (d := d) t (by simpa using e)
    exact ⟨v, by simpa using h1, h2⟩
theorem Reps.app : ∀ {ds es : List D} {vs us : List V}, Reps T K wa H ds vs → Reps T K wa H es us → Reps T K wa H (ds ++ es) (vs ++ us)
  | _, _, _, _, .nil, s => s
  | _, _, _, _, .cons r t, s => .cons r (Reps.app t s)
theorem Reps.take : ∀ {ds : List D} {vs : List V} (n : Nat), Reps T K wa H ds vs → Reps T K wa H (ds.take n) (vs.take n)
  | _, _, 0, _ => by simp; exact .nil
  | _, _, _ + 1, .nil => .nil
  | _, _, n + 1, .cons r t => .cons r (Reps.take n t)
theorem Reps.drop : ∀ {ds : List D} {vs : List V} (n : Nat), Reps T K wa H ds vs → Reps T K wa H (ds.drop n) (vs.drop n)
  | _, _, 0, r => by simpa using r
  | _, _, _ + 1, .nil => .nil
  | _, _, n + 1, .cons _ t => Reps.drop n t
theorem Reps.dropLast {ds : List D} {vs : List V} (r : Reps T K wa H ds vs) : Reps T K wa H ds.dropLast vs.dropLast := by
  rw [List.dropLast_eq_take, List.dropLast_eq_take, ← r.len]
  exact r.take _
theorem Reps.cut {ds : List D} {vs : List V} (r : Reps T K wa H ds vs) (lo hi : Option Int) : Reps T K wa H (cutD ds lo hi) (cutV vs lo hi) := by
  unfold cutD cutV
  rw [r.len]
  exact (r.drop _).take _
theorem Reps.ints : ∀ {ds : List D} {vs : List V} {ns : List Int}, Reps T K wa H ds vs → intsOf ds = some ns → vs = ns.map V.int
  | _, _, ns, .nil, e => by simp [intsOf] at e; subst e; rfl
  | .int i :: ds, _, ns, .cons r t, e => by
    cases r
    simp only [intsOf] at e
    split at e
    · rename_i is h
      cases e
      rw [Reps.ints t h]
      rfl
    · cases e
  | .non :: _, _, _, _, e => by simp [intsOf] at e
  | .bl _ :: _, _, _, _, e => by simp [intsOf] at e
  | .str _ :: _, _, _, _, e => by simp [intsOf] at e
  | .tup _ :: _, _, _, _, e => by simp [intsOf] at e
  | .lst _ :: _, _, _, _, e => by simp [intsOf] at e
  | .dic _ _ :: _, _, _, _, e => by simp [intsOf] at e
  | .scr _ :: _, _, _, _, e => by simp [intsOf] at e
  | .wd :: _, _, _, _, e => by simp [intsOf] at e
theorem Reps.bls : ∀ {ds : List D} {vs : List V} {ns : List Bool}, Reps T K wa H ds vs → blsOf ds = some ns → vs = ns.map V.bl
  | _, _, ns, .nil, e => by simp [blsOf] at e; subst e; rfl
  | .bl i :: ds, _, ns, .cons r t, e => by
    cases r
    simp only [blsOf] at e
    split at e
    · rename_i is h
      cases e
      rw [Reps.bls t h]
      rfl
    · cases e
  | .non :: _, _, _, _, e => by simp [blsOf] at e
  | .int _ :: _, _, _, _, e => by simp [blsOf] at e
  | .str _ :: _, _, _, _, e => by simp [blsOf] at e
  | .tup _ :: _, _, _, _, e => by simp [blsOf] at e
  | .lst _ :: _, _, _, _, e => by simp [blsOf] at e
  | .dic _ _ :: _, _, _, _, e => by simp [blsOf] at e
  | .scr _ :: _, _, _, _, e => by simp [blsOf] at e
  | .wd :: _, _, _, _, e => by simp [blsOf] at e
theorem reps_ints : ∀ (ns : List Int), Reps T K wa H (ns.map D.int) (ns.map V.int)
  | [] => .nil
  | n :: r => .cons (.int n) (reps_ints r)
end

/-! ### what is hidden -/
open Classical in
noncomputable def hid (S : Addr → Prop) (H : Hp) : Hp := fun a => if S a then none else H a
theorem hid_in {S : Addr → Prop} {H : Hp} {a : Addr} {o : HO} (h : hid S H a = some o) : H a = some o ∧ ¬ S a := by
  unfold hid at h
  by_cases s : S a
  · rw [if_pos s] at h; cases h
  · rw [if_neg s] at h; exact ⟨h, s⟩
theorem hid_of {S : Addr → Prop} {H : Hp} {a : Addr} {o : HO} (h : H a = some o) (s : ¬ S a) : hid S H a = some o := by
  unfold hid; rw [if_neg s]; exact h
theorem hid_le {S : Addr → Prop} {H : Hp} : Same (hid S H) H := fun _ _ h => (hid_in h).1
theorem hid_mono {S S' : Addr → Prop} {H H' : Hp} (e : ∀ a o, ¬ S a → H a = some o → H' a = some o) (s : ∀ a, S' a → S a) : Same (hid S H) (hid S' H') := fun a o h =>
  let ⟨h1, h2⟩ := hid_in h
  hid_of (e a o h2 h1) fun q => h2 (s a q)
def SS (O : Addr → Prop) (ω : Nat → Option Addr) (wa : Option Addr) (a : Addr) : Prop := O a ∨ (∃ i, ω i = some a) ∨ wa = some a

/-! ### an own object -/
def OwnAt (T : Nat → Str) (K : PySem.W.Frag) (wa : Option Addr) (hH H : Hp) (d : D) (a : Addr) : Prop :=
  match d with
  | .lst ds => ∃ vs, H a = some (.lst vs) ∧ Reps T K wa hH ds vs
  | .dic ks ds => ∃ kvs, H a = some (.dK kvs) ∧ ks.map (keyOf T) = kvs.map (fun p => some p.1) ∧ Reps T K wa hH ds (kvs.map (·.2))
  | _ => False
theorem OwnAt.mono {T : Nat → Str} {K : PySem.W.Frag} {wa : Option Addr} {hH hH' H H' : Hp} {d : D} {a : Addr} (h : OwnAt T K wa hH H d a) (e : Same hH hH') (e2 : ∀ o, H a = some o → H' a = some o) : OwnAt T K wa hH' H' d a := by
  cases d with
  | lst ds =>
    obtain ⟨vs, h1, h2⟩ := h
    exact ⟨vs, e2 _ h1, h2.mono e⟩
  | dic ks ds =>
    obtain ⟨vs, h1, h2, h3⟩ := h
    exact ⟨vs, e2 _ h1, h2, h3.mono e⟩
  | _ => exact h.elim
theorem OwnAt.dom {T : Nat → Str} {K : PySem.W.Frag} {wa : Option Addr} {hH H : Hp} {d : D} {a : Addr} (h : OwnAt T K wa hH H d a) : H a ≠ none := by
  cases d with
  | lst ds =>
    obtain ⟨vs, h1, h2⟩ := h
    rw [h1]; simp
  | dic ks ds =>
    obtain ⟨vs, h1, h2, h3⟩ := h
    rw [h1]; simp
  | _ => exact h.elim
theorem OwnAt.rep {T : Nat → Str} {K : PySem.W.Frag} {wa : Option Addr} {hH hH' H : Hp} {d : D} {a : Addr} (h : OwnAt T K wa hH H d a) (e : Same hH hH') (e2 : ∀ o, H a = some o → hH' a = some o) : Rep T K wa hH' d (.ref a) := by
  cases d with
  | lst ds =>
    obtain ⟨vs, h1, h2⟩ := h
    exact .lst (e2 _ h1) (h2.mono e)
  | dic ks ds =>
    obtain ⟨vs, h1, h2, h3⟩ := h
    exact .dic (e2 _ h1) h2 (h3.mono e)
  | _ => exact h.elim

/-! ### the record -/
def WsR (T : Nat → Str) (K : PySem.W.Frag) (hH H : Hp) : Option Addr → WS → Prop
  | none, none => True
  | some a, some kvs => ∃ kv', H a = some (.dK kv') ∧ kvs.map (fun p => (Sum.inr (T p.1) : Key)) = kv'.map (·.1) ∧ (∀ p ∈ kvs, p.1 < 128) ∧ Reps T K (some a) hH (kvs.map (·.2)) (kv'.map (·.2))
  | _, _ => False
theorem WsR.mono {T : Nat → Str} {K : PySem.W.Frag} {hH hH' H H' : Hp} {wa : Option Addr} {ws : WS} (h : WsR T K hH H wa ws) (e : Same hH hH') (e2 : ∀ a o, wa = some a → H a = some o → H' a = some o) : WsR T K hH' H' wa ws := by
  cases wa with
  | none =>
    cases ws with
    | none => trivial
    | some _ => exact h.elim
  | some a =>
    cases ws with
    | none => exact h.elim
    | some kvs =>
      obtain ⟨kv', h1, h2, h3, h4⟩ := h
      exact ⟨kv', e2 _ _ rfl h1, h2, h3, h4.mono e⟩

/-! ### a frame's state -/
def SlotR (T : Nat → Str) (K : PySem.W.Frag) (wa : Option Addr) (hH H : Hp) (ω : Nat → Option Addr) (σ : L2.St) (i : Nat) : Slot → Prop
  | .un => True
  | .va d => ∃ v, σ[i]? = some (some v) ∧ Rep T K wa hH d v
  | .ow d => ∃ a, ω i = some a ∧ σ[i]? = some (some (.ref a)) ∧ OwnAt T K wa hH H d a
structure StR (T : Nat → Str) (K : PySem.W.Frag) (O : Addr → Prop) (wa : Option Addr) (env : Env) (ω : Nat → Option Addr) (ws : WS) (σ : L2.St) (H : Hp) : Prop where
  len : σ.length = env.length
  slot : ∀ i, SlotR T K wa (hid (SS O ω wa) H) H ω σ i (eg env i)
  own : ∀ i a, ω i = some a → (∃ d, eg env i = .ow d) ∧ ¬ O a ∧ wa ≠ some a
  inj : ∀ i j a, ω i = some a → ω j = some a → i = j
  dom : ∀ a, O a → H a ≠ none
  wsr : WsR T K (hid (SS O ω wa) H) H wa ws
section
variable {T : Nat → Str} {K : PySem.W.Frag} {O O' : Addr → Prop} {wa : Option Addr} {env : Env} {ω : Nat → Option Addr} {ws ws' : WS} {σ : L2.St} {H H' H1 H2 : Hp}
theorem StR.sdom (h : StR T K O wa env ω ws σ H) {a : Addr} (s : SS O ω wa a) : H a ≠ none := by
  rcases s with s | ⟨i, s⟩ | s
  · exact h.dom a s
  · obtain ⟨⟨d, hd⟩, _⟩ := h.own i a s
    have q := h.slot i
    rw [hd] at q
    obtain ⟨b, e1, _, e2⟩ := q
    rw [s] at e1
    cases e1
    exact e2.dom
  · have q := h.wsr
    rw [s] at q
    cases ws with
    | none => exact q.elim
    | some kvs =>
      obtain ⟨kv', e, _⟩ := q
      rw [e]; simp
theorem StR.fresh (h : StR T K O wa env ω ws σ H) {a : Addr} (n : H a = none) : ¬ SS O ω wa a := fun s => h.sdom s n
/-- the heap grows -/
theorem StR.grow (h : StR T K O wa env ω ws σ H) (e : Same H H') : StR T K O wa env ω ws σ H' := by
  have m : Same (hid (SS O ω wa) H) (hid (SS O ω wa) H') := hid_mono (fun a o _ q => e a o q) fun _ q => q
  refine ⟨h.len, fun i => ?_, h.own, h.inj, fun a q z => h.dom a q (e.free z), h.wsr.mono m fun a o _ q => e a o q⟩
  have q := h.slot i
  cases hs : eg env i with
  | un => trivial
  | va d =>
    rw [hs] at q
    obtain ⟨v, h1, h2⟩ := q
    exact ⟨v, h1, h2.mono m⟩
  | ow d =>
    rw [hs] at q
    obtain ⟨a, h1, h2, h3⟩ := q
    exact ⟨a, h1, h2, h3.mono m fun o q => e a o q⟩
/-- less is hidden -/
theorem StR.less (h : StR T K O wa env ω ws σ H) (s : ∀ a, O' a → O a) : StR T K O' wa env ω ws σ H := by
  have m : Same (hid (SS O ω wa) H) (hid (SS O' ω wa) H) := hid_mono (fun a o _ q => q) fun a q => q.elim (fun z => .inl (s a z)) .inr
  refine ⟨h.len, fun i => ?_, fun i a q => ⟨(h.own i a q).1, fun z => (h.own i a q).2.1 (s a z), (h.own i a q).2.2⟩, h.inj, fun a q z => h.dom a (s a q) z, h.wsr.mono m fun a o _ q => q⟩
  have q := h.slot i
  cases hs : eg env i with
  | un => trivial
  | va d =>
    rw [hs] at q
    obtain ⟨v, h1, h2⟩ := q
    exact ⟨v, h1, h2.mono m⟩
  | ow d =>
    rw [hs] at q
    obtain ⟨a, h1, h2, h3⟩ := q
    exact ⟨a, h1, h2, h3.mono m fun o q => q⟩
/-- a new object is hidden -/
theorem StR.more (h : StR T K O wa env ω ws σ H) {p : Addr} (n : H p = none) (o : HO) : StR T K (fun x => O x ∨ x = p) wa env ω ws σ (upd H p o) := by
  have hf := h.fresh n
  have m : Same (hid (SS O ω wa) H) (hid (SS (fun x => O x ∨ x = p) ω wa) (upd H p o)) := fun a u q => by
    obtain ⟨q1, q2⟩ := hid_in q
    have ne : a ≠ p := ne_of_none q1 n
    refine hid_of (by rw [upd_ne ne]; exact q1) fun z => ?_
    rcases z with (z | z) | z
    · exact q2 (.inl z)
    · exact ne z
    · exact q2 (.inr z)
  have e : Same H (upd H p o) := fun a u q => by rw [upd_ne (ne_of_none q n)]; exact q
  refine ⟨h.len, fun i => ?_, fun i a q => ⟨(h.own i a q).1, fun z => ?_, (h.own i a q).2.2⟩, h.inj, fun a q z => ?_, h.wsr.mono m fun a o _ q => e _ _ q⟩
  · have q := h.slot i
    cases hs : eg env i with
    | un => trivial
    | va d =>
      rw [hs] at q
      obtain ⟨v, h1, h2⟩ := q
      exact ⟨v, h1, h2.mono m⟩
    | ow d =>
      rw [hs] at q
      obtain ⟨a, h1, h2, h3⟩ := q
      exact ⟨a, h1, h2, h3.mono m fun o q => e _ _ q⟩
  · rcases z with z | z
    · exact (h.own i a q).2.1 z
    · subst z
      exact hf (.inr (.inl ⟨i, q⟩))
  · rcases q with q | q
    · exact h.dom a q (e.free z)
    · subst q
      rw [upd_same] at z; cases z
end
end Pv

set_option Elab.async false
set_option linter.all false
set_option maxRecDepth 100000
set_option maxHeartbeats 4000000
/-! Pv2: the readings and the rules for expressions. -/
namespace Pv
open PySem PySem.Spec PyProof.Rows L2

def Stp (wa : Option Addr) (H H' : Hp) : Prop := ∀ a o, wa ≠ some a → H a = some o → H' a = some o
theorem Stp.refl (wa : Option Addr) (H : Hp) : Stp wa H H := fun _ _ _ h => h
theorem Stp.trans {wa : Option Addr} {H H1 H2 : Hp} (a : Stp wa H H1) (b : Stp wa H1 H2) : Stp wa H H2 := fun x o n h => b x o n (a x o n h)
theorem Stp.of {wa : Option Addr} {H H' : Hp} (e : Same H H') : Stp wa H H' := fun a o _ h => e a o h
theorem Stp.hid {O : Addr → Prop} {ω : Nat → Option Addr} {wa : Option Addr} {H H' : Hp} (e : Stp wa H H') : Same (hid (SS O ω wa) H) (hid (SS O ω wa) H') :=
  hid_mono (fun a o s h => e a o (fun z => s (.inr (.inr z))) h) fun _ q => q

/-- a value that is looked at: frozen, or an own object -/
def RepB (T : Nat → Str) (K : PySem.W.Frag) (wa : Option Addr) (hH H : Hp) (d : D) (v : V) : Prop :=
  Rep T K wa hH d v ∨ ∃ a, v = .ref a ∧ wa ≠ some a ∧ OwnAt T K wa hH H d a
theorem RepB.mono {T : Nat → Str} {K : PySem.W.Frag} {O : Addr → Prop} {ω : Nat → Option Addr} {wa : Option Addr} {H H' : Hp} {d : D} {v : V} (e : Stp wa H H')
    (h : RepB T K wa (hid (SS O ω wa) H) H d v) : RepB T K wa (hid (SS O ω wa) H') H' d v := by
  rcases h with h | ⟨a, h1, h2, h3⟩
  · exact .inl (h.mono e.hid)
  · exact .inr ⟨a, h1, h2, h3.mono e.hid fun o q => e a o h2 q⟩
/-- .. as it stands in the whole heap -/
theorem RepB.rep {T : Nat → Str} {K : PySem.W.Frag} {S : Addr → Prop} {wa : Option Addr} {H : Hp} {d : D} {v : V} (h : RepB T K wa (hid S H) H d v) : Rep T K wa H d v := by
  rcases h with h | ⟨a, h1, h2, h3⟩
  · exact h.mono hid_le
  · subst h1
    exact h3.rep hid_le fun _ q => q
theorem RepB.lst {T : Nat → Str} {K : PySem.W.Frag} {S : Addr → Prop} {wa : Option Addr} {H : Hp} {ds : List D} {v : V} (h : RepB T K wa (hid S H) H (.lst ds) v) :
    ∃ a vs, v = .ref a ∧ H a = some (.lst vs) ∧ Reps T K wa (hid S H) ds vs := by
  rcases h with h | ⟨a, h1, h2, vs, h3, h4⟩
  · cases h with
    | lst h r => exact ⟨_, _, rfl, (hid_in h).1, r⟩
  · exact ⟨a, vs, h1, h3, h4⟩
theorem RepB.dic {T : Nat → Str} {K : PySem.W.Frag} {S : Addr → Prop} {wa : Option Addr} {H : Hp} {ks ds : List D} {v : V} (h : RepB T K wa (hid S H) H (.dic ks ds) v) :
    ∃ a kvs, v = .ref a ∧ H a = some (.dK kvs) ∧ ks.map (keyOf T) = kvs.map (fun p => some p.1) ∧ Reps T K wa (hid S H) ds (kvs.map (·.2)) := by
  rcases h with h | ⟨a, h1, h2, vs, h3, h4, h5⟩
  · cases h with
    | dic h k r => exact ⟨_, _, rfl, (hid_in h).1, k, r⟩
  · exact ⟨a, vs, h1, h3, h4, h5⟩
theorem RepB.tup {T : Nat → Str} {K : PySem.W.Frag} {S : Addr → Prop} {wa : Option Addr} {H : Hp} {ds : List D} {v : V} (h : RepB T K wa (hid S H) H (.tup ds) v) :
    ∃ a vs, v = .ref a ∧ SqT K H a vs ∧ PlT K (hid S H) a vs ∧ Reps T K wa (hid S H) ds vs := by
  rcases h with h | ⟨a, h1, h2, h3⟩
  · cases h with
    | tup h r => exact ⟨_, _, rfl, (h.mono hid_le).sq, h, r⟩
  · exact h3.elim
theorem RepB.scr {T : Nat → Str} {K : PySem.W.Frag} {S : Addr → Prop} {wa : Option Addr} {H : Hp} {ns : List Int} {v : V} (h : RepB T K wa (hid S H) H (.scr ns) v) :
    ∃ a, v = .ref a ∧ SqL K H a (ns.map V.int) := by
  rcases h with h | ⟨a, h1, h2, h3⟩
  · cases h with
    | scr h => exact ⟨_, rfl, Same.seq hid_le h⟩
  · exact h3.elim
section
variable {T : Nat → Str} {K : PySem.W.Frag} {hH H : Hp} {wa : Option Addr} {v : V}
theorem RepB.int {i : Int} (h : RepB T K wa hH H (.int i) v) : v = .int i := by
  rcases h with h | ⟨a, h1, h2, h3⟩
  · cases h; rfl
  · exact h3.elim
theorem RepB.bl {i : Bool} (h : RepB T K wa hH H (.bl i) v) : v = .bl i := by
  rcases h with h | ⟨a, h1, h2, h3⟩
  · cases h; rfl
  · exact h3.elim
theorem RepB.non (h : RepB T K wa hH H .non v) : v = .non := by
  rcases h with h | ⟨a, h1, h2, h3⟩
  · cases h; rfl
  · exact h3.elim
theorem RepB.str {n : Nat} (h : RepB T K wa hH H (.str n) v) : v = .str (T n) := by
  rcases h with h | ⟨a, h1, h2, h3⟩
  · cases h; rfl
  · exact h3.elim
theorem RepB.wd (h : RepB T K wa hH H .wd v) : ∃ a, v = .ref a ∧ wa = some a := by
  rcases h with h | ⟨a, h1, h2, h3⟩
  · cases h; exact ⟨_, rfl, by assumption⟩
  · exact h3.elim
end

/-! ### readings -/
abbrev EvF := Env → WS → Option (D × WS)
abbrev EvTF := Env → WS → Option (Bool × WS)
abbrev EvAF := Env → WS → Option (List D × WS)
def tE (T : Nat → Str) (K : PySem.W.Frag) (f : EvF) : TE := fun σ H Q => ∃ O wa env ω ws d ws', StR T K O wa env ω ws σ H ∧ f env ws = some (d, ws') ∧
  ∀ v H', StR T K O wa env ω ws' σ H' → Stp wa H H' → Rep T K wa (hid (SS O ω wa) H') d v → Q v H'
def tB (T : Nat → Str) (K : PySem.W.Frag) (f : EvF) : TE := fun σ H Q => ∃ O wa env ω ws d ws', StR T K O wa env ω ws σ H ∧ f env ws = some (d, ws') ∧
  ∀ v H', StR T K O wa env ω ws' σ H' → Stp wa H H' → RepB T K wa (hid (SS O ω wa) H') H' d v → Q v H'
def tF (T : Nat → Str) (K : PySem.W.Frag) (f : EvF) : TE := fun σ H Q => ∃ O wa env ω ws d ws', StR T K O wa env ω ws σ H ∧ f env ws = some (d, ws') ∧
  ∀ a H', StR T K (fun x => O x ∨ x = a) wa env ω ws' σ H' → Stp wa H H' → ¬ SS O ω wa a → H a = none → OwnAt T K wa (hid (SS (fun x => O x ∨ x = a) ω wa) H') H' d a → Q (.ref a) H'
def tT (T : Nat → Str) (K : PySem.W.Frag) (f : EvTF) : TT := fun σ H Q => ∃ O wa env ω ws d ws', StR T K O wa env ω ws σ H ∧ f env ws = some (d, ws') ∧
  ∀ H', StR T K O wa env ω ws' σ H' → Stp wa H H' → Q d H'
def tA (T : Nat → Str) (K : PySem.W.Frag) (f : EvAF) : TA := fun σ H Q => ∃ O wa env ω ws d ws', StR T K O wa env ω ws σ H ∧ f env ws = some (d, ws') ∧
  ∀ v H', StR T K O wa env ω ws' σ H' → Stp wa H H' → Reps T K wa (hid (SS O ω wa) H') d v → Q v H'

theorem PE.mono {X : Cx} {e : Expr} {t t' : TE} (h : PE X e t) (m : ∀ σ H Q, t' σ H Q → t σ H Q) : PE X e t' := ⟨fun pins s σ H Q I q => h.run pins s σ H Q I (m σ H Q q)⟩
theorem PT.mono {X : Cx} {e : Expr} {t t' : TT} (h : PT X e t) (m : ∀ σ H Q, t' σ H Q → t σ H Q) : PT X e t' := ⟨fun pins s σ H Q I q => h.run pins s σ H Q I (m σ H Q q)⟩
theorem PA.mono {X : Cx} {e : List Expr} {t t' : TA} (h : PA X e t) (m : ∀ σ H Q, t' σ H Q → t σ H Q) : PA X e t' := ⟨fun pos pins s σ H Q I q => h.run pos pins s σ H Q I (m σ H Q q)⟩
theorem PW.mono {X : Cx} {e : Expr} {t t' : TT} (h : PW X e t) (m : ∀ σ H Q, t' σ H Q → t σ H Q) : PW X e t' := ⟨fun wh pins s σ H Q I q => h.run wh pins s σ H Q I (m σ H Q q)⟩
theorem PI.mono {X : Cx} {tg e : Expr} {t t' : TI} (h : PI X tg e t) (m : ∀ σ H Q, t' σ H Q → t σ H Q) : PI X tg e t' := ⟨fun pins s σ H Q I q => h.run pins s σ H Q I (m σ H Q q)⟩
theorem PS.mono {X : Cx} {e : Stmt} {t t' : TS} (h : PS X e t) (m : ∀ D σ H, t' D σ H → t D σ H) : PS X e t' := ⟨fun pins s σ H D I q => h.run pins s σ H D I (m D σ H q)⟩
theorem PSs.mono {X : Cx} {e : List Stmt} {t t' : TS} (h : PSs X e t) (m : ∀ D σ H, t' D σ H → t D σ H) : PSs X e t' := ⟨fun pins s σ H D I q => h.run pins s σ H D I (m D σ H q)⟩

section
variable {T : Nat → Str} {X : Cx} {e a b c : Expr} {fa fb fc : EvF} {pos : Pos}
theorem StR.back {T : Nat → Str} {K : PySem.W.Frag} {O : Addr → Prop} {wa : Option Addr} {env : Env} {ω : Nat → Option Addr} {ws : WS} {σ : L2.St} {H H' : Hp} (st : StR T K O wa env ω ws σ H') (sp : Stp wa H H') {p : Addr} (n : H' p = none) : H p = none := by
  cases c : H p with
  | none => rfl
  | some o =>
    by_cases nw : wa = some p
    · exact absurd (.inr (.inr nw)) (st.fresh n)
    · rw [sp p o nw c] at n; cases n
theorem tE_tB (h : PE X e (tE T X.K fa)) : PE X e (tB T X.K fa) :=
  PE.mono h fun σ H Q ⟨O, wa, env, ω, ws, d, ws', st, hf, k⟩ => ⟨O, wa, env, ω, ws, d, ws', st, hf, fun v H' st' sp r => k v H' st' sp (.inl r)⟩
theorem SS.weak {O : Addr → Prop} {ω : Nat → Option Addr} {wa : Option Addr} {a x : Addr} (h : SS O ω wa x) : SS (fun x => O x ∨ x = a) ω wa x :=
  h.elim (fun z => .inl (.inl z)) .inr
theorem tF_tE (h : PE X e (tF T X.K fa)) : PE X e (tE T X.K fa) :=
  PE.mono h fun σ H Q ⟨O, wa, env, ω, ws, d, ws', st, hf, k⟩ => ⟨O, wa, env, ω, ws, d, ws', st, hf, fun a H' st' sp ns _ ow =>
    k _ H' (st'.less fun _ z => .inl z) sp (ow.rep (hid_mono (fun _ _ _ q => q) fun _ => SS.weak) fun o q => hid_of q ns)⟩
theorem bor_none {env : Env} {ws : WS} {r : Option (D × WS)} : bor none env ws r = r := rfl

/-! ### constants, names -/
theorem pe_k {d : D} {v : V} (h : PE X e (tC v)) (r : ∀ wa H, Rep T X.K wa H d v) : PE X e (tE T X.K fun _ ws => some (d, ws)) :=
  PE.mono h fun σ H Q ⟨O, wa, env, ω, ws, d', ws', st, hf, k⟩ => by
    cases hf
    exact k v H st (Stp.refl _ _) (r _ _)
theorem pe_va {i : Nat} (h : PE X e (tVar i)) : PE X e (tE T X.K fun env ws => match eg env i with
    | .va d => some (d, ws)
    | _ => none) :=
  PE.mono h fun σ H Q ⟨O, wa, env, ω, ws, d', ws', st, hf, k⟩ => by
    have q := st.slot i
    dsimp only at hf
    split at hf
    · rename_i d hd
      cases hf
      rw [hd] at q
      obtain ⟨v, q1, q2⟩ := q
      exact ⟨v, q1, k v H st (Stp.refl _ _) q2⟩
    · cases hf
theorem pe_vb {i : Nat} {r : EvF} (h : PE X e (tVar i)) : PE X e (tB T X.K fun env ws => bor (some i) env ws (r env ws)) :=
  PE.mono h fun σ H Q ⟨O, wa, env, ω, ws, d', ws', st, hf, k⟩ => by
    have q := st.slot i
    simp only [bor] at hf
    split at hf
    · rename_i d hd
      cases hf
      rw [hd] at q
      obtain ⟨v, q1, q2⟩ := q
      exact ⟨v, q1, k v H st (Stp.refl _ _) (.inl q2)⟩
    · rename_i d hd
      cases hf
      rw [hd] at q
      obtain ⟨a, q0, q1, q2⟩ := q
      exact ⟨_, q1, k _ H st (Stp.refl _ _) (.inr ⟨a, rfl, (st.own i a q0).2.2, q2⟩)⟩
    · cases hf

/-! ### two parts, one part -/
def two (fa fb : EvF) (g : WS → D → D → Option D) : EvF := fun env ws => match fa env ws with
  | none => none
  | some (x, ws1) => match fb env ws1 with
    | none => none
    | some (y, ws2) => match g ws2 x y with
      | none => none
      | some z => some (z, ws2)
def un1 (fa : EvF) (g : D → Option D) : EvF := fun env ws => match fa env ws with
  | none => none
  | some (x, ws1) => match g x with
    | none => none
    | some z => some (z, ws1)
def ROk (T : Nat → Str) (K : PySem.W.Frag) (r : R2) (g : WS → D → D → Option D) : Prop :=
  ∀ (O : Addr → Prop) (wa : Option Addr) (env : Env) (ω : Nat → Option Addr) (ws : WS) (σ : L2.St) (H : Hp) (x y : V) (d1 d2 z : D) (Q : VK), StR T K O wa env ω ws σ H →
    RepB T K wa (hid (SS O ω wa) H) H d1 x → RepB T K wa (hid (SS O ω wa) H) H d2 y → g ws d1 d2 = some z →
    (∀ v H', Same H H' → Rep T K wa (hid (SS O ω wa) H') z v → Q v H') → r x y H Q
def UOk (T : Nat → Str) (K : PySem.W.Frag) (r : V → Hp → VK → Prop) (g : D → Option D) : Prop :=
  ∀ (O : Addr → Prop) (wa : Option Addr) (env : Env) (ω : Nat → Option Addr) (ws : WS) (σ : L2.St) (H : Hp) (x : V) (d1 z : D) (Q : VK), StR T K O wa env ω ws σ H →
    RepB T K wa (hid (SS O ω wa) H) H d1 x → g d1 = some z →
    (∀ v H', Same H H' → Rep T K wa (hid (SS O ω wa) H') z v → Q v H') → r x H Q
/-- .. making an object -/
def UFOk (T : Nat → Str) (K : PySem.W.Frag) (r : V → Hp → VK → Prop) (g : D → Option D) : Prop :=
  ∀ (O : Addr → Prop) (wa : Option Addr) (env : Env) (ω : Nat → Option Addr) (ws : WS) (σ : L2.St) (H : Hp) (x : V) (d1 z : D) (Q : VK), StR T K O wa env ω ws σ H →
    RepB T K wa (hid (SS O ω wa) H) H d1 x → g d1 = some z →
    (∀ p o, H p = none → OwnAt T K wa (hid (SS O ω wa) H) (upd H p o) z p → Q (.ref p) (upd H p o)) → r x H Q
theorem new_at {K : PySem.W.Frag} {O : Addr → Prop} {wa : Option Addr} {env : Env} {ω : Nat → Option Addr} {ws : WS} {σ : L2.St} {H : Hp} {p : Addr} {o : HO} (st : StR T K O wa env ω ws σ H) (n : H p = none) :
    Same (hid (SS O ω wa) H) (hid (SS (fun x => O x ∨ x = p) ω wa) (upd H p o)) := fun a u q => by
  obtain ⟨q1, q2⟩ := hid_in q
  have ne : a ≠ p := ne_of_none q1 n
  refine hid_of (by rw [upd_ne ne]; exact q1) fun z => ?_
  rcases z with (z | z) | z
  · exact q2 (.inl z)
  · exact ne z
  · exact q2 (.inr z)
theorem new_same {H : Hp} {p : Addr} {o : HO} (n : H p = none) : Same H (upd H p o) := fun a u q => by rw [upd_ne (ne_of_none q n)]; exact q
theorem pe_two {g : WS → D → D → Option D} {r : R2} (ht : ∀ ta tb, PE X a ta → PE X b tb → PE X e (tOp r ta tb)) (hr : ROk T X.K r g) (ha : PE X a (tB T X.K fa)) (hb : PE X b (tB T X.K fb)) :
    PE X e (tE T X.K (two fa fb g)) :=
  PE.mono (ht _ _ ha hb) fun σ H Q ⟨O, wa, env, ω, ws, d, ws', st, hf, k⟩ => by
    unfold two at hf
    split at hf
    · cases hf
    · rename_i x ws1 e1
      split at hf
      · cases hf
      · rename_i y ws2 e2
        split at hf
        · cases hf
        · rename_i z e3
          cases hf
          refine ⟨O, wa, env, ω, ws, x, ws1, st, e1, fun v1 H1 st1 sp1 r1 => ?_⟩
          refine ⟨O, wa, env, ω, ws1, y, _, st1, e2, fun v2 H2 st2 sp2 r2 => ?_⟩
          refine hr O wa env ω _ σ H2 v1 v2 x y _ Q st2 (r1.mono sp2) r2 e3 fun v H' sm rz => ?_
          exact k v H' (st2.grow sm) ((sp1.trans sp2).trans (Stp.of sm)) rz
theorem pe_un1 {g : D → Option D} {r : V → Hp → VK → Prop} (ht : ∀ ta, PE X a ta → PE X e (tUn r ta)) (hr : UOk T X.K r g) (ha : PE X a (tB T X.K fa)) : PE X e (tE T X.K (un1 fa g)) :=
  PE.mono (ht _ ha) fun σ H Q ⟨O, wa, env, ω, ws, d, ws', st, hf, k⟩ => by
    unfold un1 at hf
    split at hf
    · cases hf
    · rename_i x ws1 e1
      split at hf
      · cases hf
      · rename_i z e3
        cases hf
        refine ⟨O, wa, env, ω, ws, x, _, st, e1, fun v1 H1 st1 sp1 r1 => ?_⟩
        refine hr O wa env ω _ σ H1 v1 x _ Q st1 r1 e3 fun v H' sm rz => ?_
        exact k v H' (st1.grow sm) (sp1.trans (Stp.of sm)) rz
theorem pe_unF {g : D → Option D} {r : V → Hp → VK → Prop} (ht : ∀ ta, PE X a ta → PE X e (tUn r ta)) (hr : UFOk T X.K r g) (ha : PE X a (tB T X.K fa)) : PE X e (tF T X.K (un1 fa g)) :=
  PE.mono (ht _ ha) fun σ H Q ⟨O, wa, env, ω, ws, d, ws', st, hf, k⟩ => by
    unfold un1 at hf
    split at hf
    · cases hf
    · rename_i x ws1 e1
      split at hf
      · cases hf
      · rename_i z e3
        cases hf
        refine ⟨O, wa, env, ω, ws, x, _, st, e1, fun v1 H1 st1 sp1 r1 => ?_⟩
        refine hr O wa env ω _ σ H1 v1 x _ Q st1 r1 e3 fun p o n ow => ?_
        exact k p _ (st1.more n o) (sp1.trans (Stp.of (new_same n))) (st1.fresh n) (st1.back sp1 n) (ow.mono (new_at st1 n) fun _ q => q)
end
end Pv

set_option Elab.async false
set_option linter.all false
set_option maxRecDepth 100000
set_option maxHeartbeats 4000000
/-! Pv3: the operations by values. -/
namespace Pv
open PySem PySem.Spec PyProof.Rows L2

/-! ### the texts -/
structure TOk (T : Nat → Str) : Prop where
  inj : ∀ n m, n < 128 → m < 128 → T n = T m → n = m
  ok : ∀ n, n < 128 → PyData.strOk (T n) = true

mutual
def toPy (T : Nat → Str) : D → PyData
  | .non => .none
  | .bl b => .bool b
  | .int i => .int i
  | .str n => .str (T n)
  | .tup xs => .tuple (toPys T xs)
  | .lst xs => .list (toPys T xs)
  | .dic _ _ => .dict []
  | .scr _ => .dict []
  | .wd => .dict []
def toPys (T : Nat → Str) : List D → List PyData
  | [] => []
  | x :: xs => toPy T x :: toPys T xs
end
section
variable {T : Nat → Str} {K : PySem.W.Frag} {wa : Option Addr} {H : Hp}
mutual
theorem dp_of : ∀ {d : D} {v : V} {n : Nat}, Rep T K wa H d v → okq d n = true → Dp K H v (toPy T d)
  | _, _, _, .non, _ => by simp only [toPy]; exact .non
  | _, _, _, .bl b, _ => by simp only [toPy]; exact .bl b
  | _, _, _, .int i, _ => by simp only [toPy]; exact .int i
  | _, _, _, .str k, _ => by simp only [toPy]; exact .str _
  | _, _, 0, .tup h r, e => by simp [okq] at e
  | _, _, n + 1, .tup h r, e => by simp only [toPy]; exact .tup h.sq (dps_of r (by simpa [okq] using e))
  | _, _, 0, .lst h r, e => by simp [okq] at e
  | _, _, n + 1, .lst h r, e => by simp only [toPy]; exact .lst (.inl (.inl h)) (dps_of r (by simpa [okq] using e))
  | _, _, _, .dic _ _ _, e => by simp [okq] at e
  | _, _, _, .scr _, e => by simp [okq] at e
  | _, _, _, .wd _, e => by simp [okq] at e
theorem dps_of : ∀ {ds : List D} {vs : List V} {n : Nat}, Reps T K wa H ds vs → okqs ds n = true → DpAll K H vs (toPys T ds)
  | _, _, _, .nil, _ => by simp only [toPys]; exact .nil
  | _, _, n, .cons r t, e => by
    simp only [okqs, Bool.and_eq_true] at e
    simp only [toPys]
    exact .cons (dp_of r e.1) (dps_of t e.2)
end
mutual
theorem lay_of (hT : TOk T) : ∀ (d : D) (n : Nat), okq d n = true → (toPy T d).canLay0 = true ∧ (toPy T d).depth ≤ n
  | .non, _, _ => by simp [toPy, PyData.canLay0, PyData.depth]
  | .bl b, _, _ => by simp [toPy, PyData.canLay0, PyData.depth]
  | .int i, _, _ => by simp [toPy, PyData.canLay0, PyData.depth]
  | .str k, _, e => by
    simp only [okq, decide_eq_true_eq] at e
    simp [toPy, PyData.canLay0, PyData.depth, hT.ok k e]
  | .tup xs, 0, e => by simp [okq] at e
  | .tup xs, n + 1, e => by
    have := lays_of hT xs n (by simpa [okq] using e)
    simp only [toPy, PyData.canLay0, PyData.depth]
    exact ⟨this.1, Nat.succ_le_succ this.2⟩
  | .lst xs, 0, e => by simp [okq] at e
  | .lst xs, n + 1, e => by
    have := lays_of hT xs n (by simpa [okq] using e)
    simp only [toPy, PyData.canLay0, PyData.depth]
    exact ⟨this.1, Nat.succ_le_succ this.2⟩
  | .dic _ _, _, e => by simp [okq] at e
  | .scr _, _, e => by simp [okq] at e
  | .wd, _, e => by simp [okq] at e
theorem lays_of (hT : TOk T) : ∀ (ds : List D) (n : Nat), okqs ds n = true → PyData.canLayAll0 (toPys T ds) = true ∧ PyData.depthAll (toPys T ds) ≤ n
  | [], _, _ => by simp [toPys, PyData.canLayAll0, PyData.depthAll]
  | x :: xs, n, e => by
    simp only [okqs, Bool.and_eq_true] at e
    have h1 := lay_of hT x n e.1
    have h2 := lays_of hT xs n e.2
    simp only [toPys, PyData.canLayAll0, PyData.depthAll, Bool.and_eq_true]
    exact ⟨⟨h1.1, h2.1⟩, Nat.max_le.mpr ⟨h1.2, h2.2⟩⟩
end
mutual
theorem deq_py (hT : TOk T) : ∀ (d e : D) (n m : Nat), okq d n = true → okq e m = true → PyData.eqv (toPy T d) (toPy T e) = deq d e
  | .str x, .str y, _, _, hd, he => by
    simp only [okq, decide_eq_true_eq] at hd he
    simp only [toPy, PyData.eqv, deq]
    by_cases h : x = y
    · subst h; simp
    · have h' : T x ≠ T y := fun z => h (hT.inj x y hd he z)
      simp [h, h']
  | .tup xs, .tup ys, 0, _, hd, he => by simp [okq] at hd
  | .tup xs, .tup ys, _ + 1, 0, hd, he => by simp [okq] at he
  | .tup xs, .tup ys, n + 1, m + 1, hd, he => by
    simp only [toPy, PyData.eqv, deq]
    exact deqs_py hT xs ys n m (by simpa [okq] using hd) (by simpa [okq] using he)
  | .lst xs, .lst ys, 0, _, hd, he => by simp [okq] at hd
  | .lst xs, .lst ys, _ + 1, 0, hd, he => by simp [okq] at he
  | .lst xs, .lst ys, n + 1, m + 1, hd, he => by
    simp only [toPy, PyData.eqv, deq]
    exact deqs_py hT xs ys n m (by simpa [okq] using hd) (by simpa [okq] using he)
  | .int i, .int j, _, _, _, _ => by simp only [toPy, PyData.eqv, deq]; exact Bool.beq_eq_decide_eq i j
  | .non, .non, _, _, _, _ | .non, .bl _, _, _, _, _ | .non, .int _, _, _, _, _ | .non, .str _, _, _, _, _ | .non, .tup _, _, _, _, _ | .non, .lst _, _, _, _, _ => by simp [toPy, PyData.eqv, deq]
  | .bl _, .non, _, _, _, _ | .bl _, .bl _, _, _, _, _ | .bl _, .int _, _, _, _, _ | .bl _, .str _, _, _, _, _ | .bl _, .tup _, _, _, _, _ | .bl _, .lst _, _, _, _, _ => by simp [toPy, PyData.eqv, deq]
  | .int _, .non, _, _, _, _ | .int _, .bl _, _, _, _, _ | .int _, .str _, _, _, _, _ | .int _, .tup _, _, _, _, _ | .int _, .lst _, _, _, _, _ => by simp [toPy, PyData.eqv, deq]
  | .str _, .non, _, _, _, _ | .str _, .bl _, _, _, _, _ | .str _, .int _, _, _, _, _ | .str _, .tup _, _, _, _, _ | .str _, .lst _, _, _, _, _ => by simp [toPy, PyData.eqv, deq]
  | .tup _, .non, _, _, _, _ | .tup _, .bl _, _, _, _, _ | .tup _, .int _, _, _, _, _ | .tup _, .str _, _, _, _, _ | .tup _, .lst _, _, _, _, _ => by simp [toPy, PyData.eqv, deq]
  | .lst _, .non, _, _, _, _ | .lst _, .bl _, _, _, _, _ | .lst _, .int _, _, _, _, _ | .lst _, .str _, _, _, _, _ | .lst _, .tup _, _, _, _, _ => by simp [toPy, PyData.eqv, deq]
  | .dic _ _, _, _, _, h, _ => by simp [okq] at h
  | .scr _, _, _, _, h, _ => by simp [okq] at h
  | .wd, _, _, _, h, _ => by simp [okq] at h
  | .non, .dic _ _, _, _, _, h | .bl _, .dic _ _, _, _, _, h | .int _, .dic _ _, _, _, _, h | .str _, .dic _ _, _, _, _, h | .tup _, .dic _ _, _, _, _, h | .lst _, .dic _ _, _, _, _, h => by simp [okq] at h
  | .non, .scr _, _, _, _, h | .bl _, .scr _, _, _, _, h | .int _, .scr _, _, _, _, h | .str _, .scr _, _, _, _, h | .tup _, .scr _, _, _, _, h | .lst _, .scr _, _, _, _, h => by simp [okq] at h
  | .non, .wd, _, _, _, h | .bl _, .wd, _, _, _, h | .int _, .wd, _, _, _, h | .str _, .wd, _, _, _, h | .tup _, .wd, _, _, _, h | .lst _, .wd, _, _, _, h => by simp [okq] at h
theorem deqs_py (hT : TOk T) : ∀ (ds es : List D) (n m : Nat), okqs ds n = true → okqs es m = true → PyData.eqvAll (toPys T ds) (toPys T es) = deqs ds es
  | [], [], _, _, _, _ => by simp [toPys, PyData.eqvAll, deqs]
  | [], _ :: _, _, _, _, _ => by simp [toPys, PyData.eqvAll, deqs]
  | _ :: _, [], _, _, _, _ => by simp [toPys, PyData.eqvAll, deqs]
  | x :: xs, y :: ys, n, m, hd, he => by
    simp only [okqs, Bool.and_eq_true] at hd he
    simp only [toPys, PyData.eqvAll, deqs]
    rw [deq_py hT x y n m hd.1 he.1, deqs_py hT xs ys n m hd.2 he.2]
end
theorem shaped_of (hT : TOk T) {d : D} (h : okq d 64 = true) : SeqAt.shaped (toPy T d) = true := by
  have := lay_of hT d 64 h
  unfold SeqAt.shaped
  rw [this.1, Bool.true_and]
  exact decide_eq_true this.2
end

/-! ### tuples made here bear no dict -/
section
variable {X : Cx}
/-- the object of a new tuple -/
def tupO (us : List Value) : Obj := { cls := .type "tuple", data := .seq us.toArray }
theorem tup_new {pins : List (Addr × Obj)} {σ : L2.St} {H : Hp} {s : Shared} {Q : VK} {zs : List V} {us : List Value} (I : Inv X pins σ H s) (rz : Vals zs us) (hz : zs.length ≤ sizeLine)
    (q : ∀ p o, H p = none → o.dict = none → Q (.ref p) (upd H p (.frz o (.tup zs)))) : EP X pins σ Q (.ref s.heap.objs.size) { s with heap := s.heap.push (tupO us) } := by
  have at_ : (s.heap.push (tupO us)).get? s.heap.objs.size = some (tupO us) := Heap.get?_push_size _ rfl
  refine ⟨.ref s.heap.objs.size, upd H s.heap.objs.size (.frz (tupO us) (.tup zs)), I.laid (t' := s.toks) (fun c oc hc => Heap.get?_push_of_some _ hc) (Nat.le_refl _) ⟨at_, hz, us, rz, ⟨_, at_, rfl, _, rfl⟩⟩, rfl, ?_⟩
  exact q _ _ (I.hok.fresh (Nat.le_refl _)) rfl
def tTupP (t : TA) : TE := fun σ H Q => t σ H fun xs H1 => xs.length ≤ sizeLine ∧ ∀ p o, H1 p = none → o.dict = none → Q (.ref p) (upd H1 p (.frz o (.tup xs)))
theorem pe_tupP {es : List Expr} {t : TA} {pos : Pos} {x1} (h : PA X es t) : PE X (.Tuple es x1 pos) (tTupP t) :=
  ⟨fun pins s σ H Q I hq => wpAny_Tuple_spliced (thn (h.run pos pins s σ H _ I hq) fun us s1 ⟨zs, H1, I1, rz, hz, q⟩ => ⟨by rw [← rz.length]; exact hz, tup_new I1 rz hz q⟩)⟩
def rTupP (K : PySem.W.Frag) : List V → Hp → VK → Prop := fun xs H Q => ∃ p zs, xs = [.ref p] ∧ ((SqL K H p zs ∧ ∀ l o, H l = none → o.dict = none → Q (.ref l) (upd H l (.frz o (.tup zs)))) ∨ (SqT K H p zs ∧ Q (.ref p) H))
theorem call_tupP : CallR X (.type "tuple") (rTupP X.K) := by
  intro pins s σ H xs us Q I rs h
  obtain ⟨p, zs, ex, h⟩ := h
  subst ex
  obtain ⟨u, eu, ru⟩ := vals1 rs
  subst eu
  cases ru
  rcases h with ⟨hl, q⟩ | ⟨ht, q⟩
  · obtain ⟨its, rz, pl, hz⟩ := I.list hl
    have el := rz.length
    refine call_tuple_list pl.isList (fun hp kp => ?_) (by simp only [List.size_toArray]; omega)
    exact tup_new (I.kept (t' := s.toks) kp) rz hz q
  · exact call_tupleT pins s σ H [.ref p] _ Q I (.cons rfl .nil) ⟨p, zs, rfl, ht, q⟩
def rSlP (K : PySem.W.Frag) : V → Option Int → Option Int → Hp → VK → Prop := fun x lo hi H Q => ∃ a zs, x = .ref a ∧ SqT K H a zs ∧
  (HT.sIx zs.length 0 lo = 0 ∧ HT.sIx zs.length zs.length hi = zs.length → Q (.ref a) H) ∧ (¬ (HT.sIx zs.length 0 lo = 0 ∧ HT.sIx zs.length zs.length hi = zs.length) → ∀ p o, H p = none → o.dict = none → Q (.ref p) (upd H p (.frz o (.tup (cutV zs lo hi)))))
theorem sl_tupP : SlR X (rSlP X.K) := by
  intro pins s σ H x v vl vu lo hi sl Q I rx hs pl pu h
  obtain ⟨a, zs, ex, ht, q1, q2⟩ := h
  by_cases hw : HT.sIx zs.length 0 lo = 0 ∧ HT.sIx zs.length zs.length hi = zs.length
  · exact sl_tupA pins s σ H x v vl vu lo hi sl Q I rx hs pl pu ⟨a, zs, ex, ht, q1, fun nw => absurd hw nw⟩
  · subst ex
    cases rx
    obtain ⟨its, rz, tt, hz⟩ := I.tuple ht
    have el : its.toArray.size = zs.length := by rw [List.size_toArray, rz.length]
    refine ⟨_, _, PyProof.Rows.slot_tuple_getitem.lookup, tt.typeIs, HT.getItem_tuple_cut tt hs pl pu (by rw [el]; exact hw) ?_ (by rw [el]; exact hz)⟩
    rw [el]
    exact tup_new I ((rz.drop _).take _) (Nat.le_trans (cutV_length zs lo hi) hz) (q2 hw)
def rCatP (K : PySem.W.Frag) : R2 := fun x y H Q => ∃ a b xs ys, x = .ref a ∧ y = .ref b ∧ SqT K H a xs ∧ SqT K H b ys ∧ xs.length + ys.length ≤ sizeLine ∧
  (xs = [] → Q (.ref b) H) ∧ (xs ≠ [] → ys = [] → Q (.ref a) H) ∧ (xs ≠ [] → ys ≠ [] → ∀ p o, H p = none → o.dict = none → Q (.ref p) (upd H p (.frz o (.tup (xs ++ ys)))))
theorem op_catP : OpR X (binaryOp .Add) (rCatP X.K) := by
  intro pins s σ H x y v u Q I rx ry h
  obtain ⟨a, b, xs, ys, ex, ey, ta, tb, hz, q0, q1, q2⟩ := h
  by_cases hx : xs = []
  · exact op_catA pins s σ H x y v u Q I rx ry ⟨a, b, xs, ys, ex, ey, ta, tb, hz, q0, q1, fun n => absurd hx n⟩
  · by_cases hy : ys = []
    · exact op_catA pins s σ H x y v u Q I rx ry ⟨a, b, xs, ys, ex, ey, ta, tb, hz, q0, q1, fun _ n => absurd hy n⟩
    · subst ex ey
      cases rx
      cases ry
      obtain ⟨i1, r1, p1, _⟩ := I.tuple ta
      obtain ⟨i2, r2, p2, _⟩ := I.tuple tb
      exact HT.cat_tup p1 p2 (fun z => hx (r1.nil_iff.mp z)) (fun z => absurd (r2.nil_iff.mp z) hy) (fun _ => tup_new I (r1.append r2) (by rw [List.length_append]; exact hz) (q2 hx hy)) (by rw [← r1.length, ← r2.length]; exact hz)
end
/-! ### binary operations -/
theorem lt_big {i : Int} (h : okI i = true) : i.natAbs < 2 ^ 4000 := by
  have := of_decide_eq_true h
  unfold big at this
  exact this
theorem len_ok {n : Nat} (h : okLen n = true) : n ≤ sizeLine := Nat.le_trans (of_decide_eq_true h) (by decide)
theorem len_lt {n : Nat} (h : okLen n = true) : n < sizeLine := Nat.lt_of_le_of_lt (of_decide_eq_true h) (by decide)
def bopO : Bop → Operator
  | .add => .Add | .sub => .Sub | .mul => .Mult | .fdiv => .FloorDiv | .mod => .Mod | .shl => .LShift | .shr => .RShift | .pow => .Pow
def bopR (K : PySem.W.Frag) : Bop → R2
  | .add => fun x y H Q => (rI0 (fun i j => .int (i + j)) x y H Q ∨ rCatP K x y H Q) ∨ rCat x y H Q
  | .sub => rI0 fun i j => .int (i - j)
  | .mul => rI CMulW fun i j => .int (i * j)
  | .fdiv => rI CDivW fun i j => .int (i / j)
  | .mod => rI (fun _ j => 0 < j) fun i j => .int (i % j)
  | .shl => rI CPow fun i j => .int (i * 2 ^ j.toNat)
  | .shr => rI (fun _ j => 0 ≤ j) fun i j => .int (i / 2 ^ j.toNat)
  | .pow => rI CPow fun i j => .int (i ^ j.toNat)
theorem bop_opr {X : Cx} : ∀ o : Bop, OpR X (binaryOp (bopO o)) (bopR X.K o)
  | .add => OpR.or (OpR.or op_add op_catP) op_cat
  | .sub => op_sub
  | .mul => op_mulW
  | .fdiv => op_fdivW
  | .mod => op_mod
  | .shl => op_shl
  | .shr => op_shr
  | .pow => op_pow
section
variable {T : Nat → Str} {K : PySem.W.Frag} {S : Addr → Prop} {wa : Option Addr} {H : Hp}
theorem hid_new {p : Addr} {o : HO} {O : Addr → Prop} {env : Env} {ω : Nat → Option Addr} {ws : WS} {σ : L2.St} (st : StR T K O wa env ω ws σ H) (n : H p = none) :
    hid (SS O ω wa) (upd H p o) p = some o := hid_of upd_same (st.fresh n)
theorem hid_newS {p : Addr} {o : HO} {O : Addr → Prop} {env : Env} {ω : Nat → Option Addr} {ws : WS} {σ : L2.St} (st : StR T K O wa env ω ws σ H) (n : H p = none) :
    Same (hid (SS O ω wa) H) (hid (SS O ω wa) (upd H p o)) := hid_mono (fun a u _ q => new_same n a u q) fun _ q => q
end
theorem bop_ok {T : Nat → Str} {K : PySem.W.Frag} (o : Bop) : ROk T K (bopR K o) (fun _ => bop o) := by
  intro O wa env ω ws σ H x y d1 d2 z Q st r1 r2 e k
  dsimp only at e
  cases o with
  | add =>
    unfold bop at e
    split at e
    all_goals first | (rename_i h; cases h; done) | skip
    · cases e
      rename_i i j _
      exact .inl (.inl ⟨i, j, r1.int, r2.int, k _ H (fun _ _ h => h) (.int _)⟩)
    · rename_i xs ys _
      split at e
      · rename_i hl
        cases e
        obtain ⟨a, vs, rfl, h1, h1', q1⟩ := r1.tup
        obtain ⟨b, us, rfl, h2, h2', q2⟩ := r2.tup
        refine .inl (.inr ⟨a, b, vs, us, rfl, rfl, h1, h2, ?_, fun e => ?_, fun e e' => ?_, fun e e' p o n nd => ?_⟩)
        · rw [← q1.len, ← q2.len]; exact len_ok hl
        · subst e
          cases q1
          exact k _ H (fun _ _ h => h) (.tup h2' (by simpa using q2))
        · subst e'
          cases q2
          exact k _ H (fun _ _ h => h) (.tup h1' (by simpa using q1))
        · exact k _ _ (new_same n) (.tup (.inl ⟨o, hid_new st n, nd⟩) ((q1.app q2).mono (hid_newS st n)))
      · cases e
    · rename_i xs ys _
      split at e
      · rename_i hl
        cases e
        obtain ⟨a, vs, rfl, h1, q1⟩ := r1.lst
        obtain ⟨b, us, rfl, h2, q2⟩ := r2.lst
        refine .inr ⟨a, b, vs, us, rfl, rfl, h1, h2, ?_, fun p n => ?_⟩
        · rw [← q1.len, ← q2.len]; exact len_ok hl
        · exact k _ _ (new_same n) (.lst (hid_new st n) ((q1.app q2).mono (hid_newS st n)))
      · cases e
    all_goals cases e
  | sub =>
    cases d1 <;> cases d2 <;> simp only [bop] at e <;> try cases e
    exact ⟨_, _, r1.int, r2.int, k _ H (fun _ _ h => h) (.int _)⟩
  | mul =>
    cases d1 <;> cases d2 <;> simp only [bop] at e <;> try cases e
    split at e
    · rename_i hl
      rw [Bool.and_eq_true] at hl
      cases e
      exact ⟨_, _, r1.int, r2.int, wide_mul (lt_big hl.1) (lt_big hl.2) (by decide) (by decide) (by decide), k _ H (fun _ _ h => h) (.int _)⟩
    · cases e
  | fdiv =>
    cases d1 <;> cases d2 <;> simp only [bop] at e <;> try cases e
    split at e
    · rename_i hl
      rw [Bool.and_eq_true] at hl
      cases e
      exact ⟨_, _, r1.int, r2.int, wide_div (of_decide_eq_true hl.1) (lt_big hl.2) (by decide) (by decide), k _ H (fun _ _ h => h) (.int _)⟩
    · cases e
  | mod =>
    cases d1 <;> cases d2 <;> simp only [bop] at e <;> try cases e
    split at e
    · rename_i hl
      cases e
      exact ⟨_, _, r1.int, r2.int, of_decide_eq_true hl, k _ H (fun _ _ h => h) (.int _)⟩
    · cases e
  | shl =>
    cases d1 <;> cases d2 <;> simp only [bop] at e <;> try cases e
    split at e
    · rename_i hl
      rw [Bool.and_eq_true, Bool.and_eq_true, decide_eq_true_eq, decide_eq_true_eq, decide_eq_true_eq] at hl
      cases e
      exact ⟨_, _, r1.int, r2.int, ⟨hl.1.1, by omega, hl.2⟩, k _ H (fun _ _ h => h) (.int _)⟩
    · cases e
  | shr =>
    cases d1 <;> cases d2 <;> simp only [bop] at e <;> try cases e
    split at e
    · rename_i hl
      cases e
      exact ⟨_, _, r1.int, r2.int, of_decide_eq_true hl, k _ H (fun _ _ h => h) (.int _)⟩
    · cases e
  | pow =>
    cases d1 <;> cases d2 <;> simp only [bop] at e <;> try cases e
    split at e
    · rename_i hl
      rw [Bool.and_eq_true, Bool.and_eq_true, decide_eq_true_eq, decide_eq_true_eq, decide_eq_true_eq] at hl
      cases e
      exact ⟨_, _, r1.int, r2.int, ⟨hl.1.1, by omega, hl.2⟩, k _ H (fun _ _ h => h) (.int _)⟩
    · cases e
end Pv

set_option Elab.async false
set_option linter.all false
set_option maxRecDepth 100000
set_option maxHeartbeats 4000000
/-! Pv4: keys and dicts, comparisons, subscripts, slices. -/
namespace Pv
open PySem PySem.Spec PyProof.Rows L2

section
variable {T : Nat → Str} {K : PySem.W.Frag} {wa : Option Addr} {H hH : Hp}
/-! ### keys -/
theorem isK_key : ∀ {k : D}, isK k = true → ∃ q, keyOf T k = some q
  | .int i, _ => ⟨_, rfl⟩
  | .str n, h => ⟨.inr (T n), by simp only [keyOf]; exact if_pos (of_decide_eq_true h)⟩
  | .non, h | .bl _, h | .tup _, h | .lst _, h | .dic _ _, h | .scr _, h | .wd, h => by simp [isK] at h
theorem key_rep {k : D} {q : Key} {v : V} (h : keyOf T k = some q) (r : RepB T K wa hH H k v) : v = kV q := by
  cases k <;> simp only [keyOf] at h <;> try cases h
  · exact r.int
  · split at h
    · cases h; exact r.str
    · cases h
theorem keq_key (hT : TOk T) {k x : D} {p q : Key} (hk : keyOf T k = some p) (hx : keyOf T x = some q) : keq k x = decide (p = q) := by
  cases k <;> simp only [keyOf] at hk <;> try cases hk
  · cases x <;> simp only [keyOf] at hx <;> try cases hx
    · rename_i i j
      simp only [keq]
      by_cases e : i = j
      · subst e; simp
      · simp [e]
    · split at hx
      · cases hx; simp [keq]
      · cases hx
  · split at hk
    · rename_i i hi
      cases hk
      cases x <;> simp only [keyOf] at hx <;> try cases hx
      · simp [keq]
      · split at hx
        · rename_i j hj
          cases hx
          simp only [keq]
          by_cases e : i = j
          · subst e; simp
          · have : T i ≠ T j := fun z => e (hT.inj _ _ hi hj z)
            simp [e, this]
        · cases hx
    · cases hk
theorem dget_ok (hT : TOk T) {x : D} {q : Key} (hx : keyOf T x = some q) : ∀ {ks ds : List D} {kvs : List (Key × V)}, ks.map (keyOf T) = kvs.map (fun p => some p.1) → Reps T K wa H ds (kvs.map (·.2)) →
    (∀ d, dget ks ds x = some d → ∃ v, valV kvs q = some v ∧ Rep T K wa H d v) ∧ (dget ks ds x = none → valV kvs q = none)
  | [], _, [], _, _ => ⟨fun d h => by simp [dget] at h, fun _ => rfl⟩
  | [], _, _ :: _, h, _ => by simp at h
  | _ :: _, _, [], h, _ => by simp at h
  | k :: ks, ds, p :: kvs, h, r => by
    simp only [List.map_cons, List.cons.injEq] at h
    cases r with
    | cons r t =>
      have ih := dget_ok hT hx h.2 t
      have e := keq_key hT h.1 hx
      by_cases c : p.1 = q
      · rw [decide_eq_true c] at e
        simp only [dget, e, if_true]
        refine ⟨fun d h => ?_, fun h => by cases h⟩
        cases h
        exact ⟨p.2, valV_pos c, r⟩
      · rw [decide_eq_false c] at e
        simp only [dget, e]
        rw [valV_neg c]
        exact ih
theorem has_any (hT : TOk T) {x : D} {q : Key} (hx : keyOf T x = some q) : ∀ {ks : List D} {kvs : List (Key × V)}, ks.map (keyOf T) = kvs.map (fun p => some p.1) →
    has ks x = kvs.any fun kv => decide (kv.1 = q)
  | [], [], _ => rfl
  | [], _ :: _, h => by simp at h
  | _ :: _, [], h => by simp at h
  | k :: ks, p :: kvs, h => by
    simp only [List.map_cons, List.cons.injEq] at h
    have ih := has_any hT hx h.2
    have e := keq_key hT h.1 hx
    unfold has at ih ⊢
    rw [List.any_cons, List.any_cons, e, ih]
theorem repl_ok (hT : TOk T) {x y : D} {v : V} {q : Key} (hx : keyOf T x = some q) (ry : Rep T K wa H y v) : ∀ {ks ds : List D} {kvs : List (Key × V)}, ks.map (keyOf T) = kvs.map (fun p => some p.1) → Reps T K wa H ds (kvs.map (·.2)) →
    Reps T K wa H (repl ks ds x y) ((kvs.map (fun kv => if kv.1 = q then (kv.1, v) else kv)).map (·.2))
  | [], _, [], _, r => by simpa [repl] using r
  | [], _, _ :: _, h, _ => by simp at h
  | _ :: _, _, [], h, _ => by simp at h
  | k :: ks, ds, p :: kvs, h, r => by
    simp only [List.map_cons, List.cons.injEq] at h
    cases r with
    | cons r t =>
      have ih := repl_ok hT hx ry h.2 t
      have e := keq_key hT h.1 hx
      simp only [repl, List.map_cons]
      refine .cons ?_ ih
      by_cases c : p.1 = q
      · rw [e, decide_eq_true c, if_pos rfl, if_pos c]; exact ry
      · rw [e, decide_eq_false c, if_neg (by decide), if_neg c]; exact r
theorem put_ok (hT : TOk T) {x y : D} {v : V} {q : Key} (hx : keyOf T x = some q) (ry : Rep T K wa H y v) {ks ds : List D} {kvs : List (Key × V)} (h : ks.map (keyOf T) = kvs.map (fun p => some p.1)) (r : Reps T K wa H ds (kvs.map (·.2))) :
    (dputK ks x).map (keyOf T) = (putK kvs q v).map (fun p => some p.1) ∧ Reps T K wa H (dputV ks ds x y) ((putK kvs q v).map (·.2)) := by
  have e := has_any hT hx h
  unfold dputK dputV putK
  by_cases c : (kvs.any fun kv => decide (kv.1 = q)) = true
  · rw [e, if_pos c, if_pos c, if_pos c]
    refine ⟨?_, repl_ok hT hx ry h r⟩
    rw [h, List.map_map]
    refine List.map_congr_left fun p _ => ?_
    show some p.1 = some (if p.1 = q then (p.1, v) else p).1
    split <;> rfl
  · rw [e, if_neg c, if_neg c, if_neg c]
    refine ⟨?_, ?_⟩
    · rw [List.map_append, List.map_append, h, List.map_singleton, List.map_singleton, hx]
    · rw [List.map_append]
      exact r.app (.cons ry .nil)
theorem dput_len (ks : List D) (x : D) : (dputK ks x).length ≤ ks.length + 1 := by
  unfold dputK
  split
  · exact Nat.le_succ _
  · simp
/-! ### flat values -/
theorem flat_rep {d : D} {v : V} (r : RepB T K wa hH H d v) (f : isFlat d = true) : flatV v = true := by
  cases d <;> simp only [isFlat] at f <;> try cases f
  · rw [r.non]; rfl
  · rw [r.bl]; rfl
  · rw [r.int]; rfl
  · rw [r.str]; rfl
theorem flat_eq (hT : TOk T) {wa' : Option Addr} {hH' H' : Hp} {d e : D} {v u : V} (r : RepB T K wa hH H d v) (r' : RepB T K wa' hH' H' e u) (f : isFlat d = true) (f' : isFlat e = true) : eqV v u = deq d e := by
  cases d <;> simp only [isFlat] at f <;> try cases f
  all_goals (cases e <;> simp only [isFlat] at f' <;> try cases f')
  all_goals first
    | rw [r.non, r'.non] | rw [r.non, r'.bl] | rw [r.non, r'.int] | rw [r.non, r'.str]
    | rw [r.bl, r'.non] | rw [r.bl, r'.bl] | rw [r.bl, r'.int] | rw [r.bl, r'.str]
    | rw [r.int, r'.non] | rw [r.int, r'.bl] | rw [r.int, r'.int] | rw [r.int, r'.str]
    | rw [r.str, r'.non] | rw [r.str, r'.bl] | rw [r.str, r'.int] | rw [r.str, r'.str]
  all_goals simp only [eqV, deq]
  · exact Bool.beq_eq_decide_eq _ _
  · rename_i i j
    simp only [decide_eq_true_eq] at f f'
    by_cases c : i = j
    · subst c; simp
    · have : T i ≠ T j := fun z => c (hT.inj _ _ f f' z)
      simp [c, this]
theorem flat_in (hT : TOk T) {x : D} {v : V} (rx : RepB T K wa hH H x v) (fx : isFlat x = true) : ∀ {ys : List D} {us : List V}, Reps T K wa H ys us → ys.all isFlat = true →
    us.all flatV = true ∧ inV v us = ys.any fun y => deq y x
  | _, _, .nil, _ => ⟨rfl, rfl⟩
  | y :: ys, u :: us, .cons r t, f => by
    rw [List.all_cons, Bool.and_eq_true] at f
    have ih := flat_in hT rx fx t f.2
    have r' : RepB T K wa H H y u := .inl r
    refine ⟨?_, ?_⟩
    · rw [List.all_cons, flat_rep r' f.1, ih.1]; rfl
    · have h2 := ih.2
      unfold inV at h2 ⊢
      rw [List.any_cons, List.any_cons, flat_eq hT r' rx f.1 fx, h2]
end

/-! ### comparisons -/
def copO : Cop → CmpOp
  | .eq => .Eq | .ne => .NotEq | .lt => .Lt | .le => .LtE | .gt => .Gt | .ge => .GtE | .isN => .Is | .notN => .IsNot | .isB => .Is | .isin => .In | .notin => .NotIn
def rDI (neg : Bool) : R2 := fun x y H Q => ∃ a o, y = .ref a ∧ DGet H a x o ∧ Q (.bl (if neg then !o.isSome else o.isSome)) H
theorem op_dI {X : Cx} (hu : X.A.units + 1 < cLine) : OpR X (compareOp .In) (rDI false) := by
  intro pins s σ H x y v u Q I rx ry h
  obtain ⟨a, o, rfl, g, q⟩ := h
  cases ry
  exact d_in hu I g rx fun s' I' => ⟨.bl o.isSome, H, I', rfl, q⟩
theorem op_dNI {X : Cx} (hu : X.A.units + 1 < cLine) : OpR X (compareOp .NotIn) (rDI true) := by
  intro pins s σ H x y v u Q I rx ry h
  obtain ⟨a, o, rfl, g, q⟩ := h
  cases ry
  exact d_notIn hu I g rx fun s' I' => ⟨.bl (!o.isSome), H, I', rfl, q⟩
def copR (K : PySem.W.Frag) : Cop → R2
  | .eq => rEqD K
  | .ne => rNeD K
  | .lt => rI0 fun i j => .bl (decide (i < j))
  | .le => rI0 fun i j => .bl (decide (i ≤ j))
  | .gt => rI0 fun i j => .bl (decide (j < i))
  | .ge => rI0 fun i j => .bl (decide (j ≤ i))
  | .isN => rIsB
  | .notN => rNotB
  | .isB => rIsB
  | .isin => fun x y H Q => rIn K false x y H Q ∨ rDI false x y H Q
  | .notin => fun x y H Q => rIn K true x y H Q ∨ rDI true x y H Q
theorem cop_opr {X : Cx} (hu : X.A.units + 64 < cLine) : ∀ o : Cop, OpR X (compareOp (copO o)) (copR X.K o)
  | .eq => op_eqD hu
  | .ne => op_neD hu
  | .lt => op_lt
  | .le => op_le
  | .gt => op_gt
  | .ge => op_ge
  | .isN => op_isBl
  | .notN => op_notBl
  | .isB => op_isBl
  | .isin => OpR.or op_in_seq (op_dI (by omega))
  | .notin => OpR.or op_notIn_seq (op_dNI (by omega))
def copD (o : Cop) (x y : D) : Option D := match cop o x y with
  | none => none
  | some z => some (.bl z)
theorem dget_of {T : Nat → Str} (hT : TOk T) {K : PySem.W.Frag} {wa : Option Addr} {H hH : Hp} {x : D} {v : V} {a : Addr} {ks ds : List D} {kvs : List (Key × V)} (rx : RepB T K wa hH H x v) (k : isK x = true) (h : H a = some (.dK kvs))
    (hk : ks.map (keyOf T) = kvs.map (fun p => some p.1)) (r : Reps T K wa hH ds (kvs.map (·.2))) :
    ∃ o, DGet H a v o ∧ (∀ d, dget ks ds x = some d → ∃ u, o = some u ∧ Rep T K wa hH d u) ∧ (dget ks ds x = none → o = none) ∧ o.isSome = has ks x := by
  obtain ⟨q, hq⟩ := isK_key (T := T) k
  have ev := key_rep hq rx
  subst ev
  have h1 := dget_ok hT hq hk r
  refine ⟨_, DGet.k h, h1.1, h1.2, ?_⟩
  rw [← valV_any, has_any hT hq hk]
theorem cop_ok {T : Nat → Str} (hT : TOk T) {K : PySem.W.Frag} (o : Cop) : ROk T K (copR K o) (fun _ => copD o) := by
  intro O wa env ω ws σ H x y d1 d2 z Q st r1 r2 e k
  dsimp only [copD] at e
  split at e
  · cases e
  rename_i b eb
  cases e
  cases o with
  | eq =>
    simp only [cop] at eb
    split at eb
    · rename_i hl
      rw [Bool.and_eq_true] at hl
      cases eb
      refine ⟨_, _, dp_of r1.rep hl.1, dp_of r2.rep hl.2, shaped_of hT hl.1, shaped_of hT hl.2, ?_⟩
      rw [deq_py hT _ _ _ _ hl.1 hl.2]
      exact k _ H (fun _ _ h => h) (.bl _)
    · cases eb
  | ne =>
    simp only [cop] at eb
    split at eb
    · rename_i hl
      rw [Bool.and_eq_true] at hl
      cases eb
      refine ⟨_, _, dp_of r1.rep hl.1, dp_of r2.rep hl.2, shaped_of hT hl.1, shaped_of hT hl.2, ?_⟩
      rw [deq_py hT _ _ _ _ hl.1 hl.2]
      exact k _ H (fun _ _ h => h) (.bl _)
    · cases eb
  | lt =>
    cases d1 <;> cases d2 <;> simp only [cop] at eb <;> cases eb
    exact ⟨_, _, r1.int, r2.int, k _ H (fun _ _ h => h) (.bl _)⟩
  | le =>
    cases d1 <;> cases d2 <;> simp only [cop] at eb <;> cases eb
    exact ⟨_, _, r1.int, r2.int, k _ H (fun _ _ h => h) (.bl _)⟩
  | gt =>
    cases d1 <;> cases d2 <;> simp only [cop] at eb <;> cases eb
    exact ⟨_, _, r1.int, r2.int, k _ H (fun _ _ h => h) (.bl _)⟩
  | ge =>
    cases d1 <;> cases d2 <;> simp only [cop] at eb <;> cases eb
    exact ⟨_, _, r1.int, r2.int, k _ H (fun _ _ h => h) (.bl _)⟩
  | isN => simp [cop] at eb
  | notN => simp [cop] at eb
  | isB =>
    cases d1 <;> cases d2 <;> simp only [cop] at eb <;> cases eb
    exact ⟨_, _, r1.bl, r2.bl, k _ H (fun _ _ h => h) (.bl _)⟩
  | isin =>
    cases d2 <;> simp only [cop] at eb <;> try cases eb
    · split at eb
      · rename_i hl
        rw [Bool.and_eq_true] at hl
        cases eb
        obtain ⟨a, us, rfl, h1, h1', q1⟩ := r2.tup
        have h3 := flat_in hT (.inl r1.rep) hl.1 (q1.mono hid_le) hl.2
        refine .inl ⟨a, us, rfl, .inr h1, flat_rep r1 hl.1, h3.1, ?_⟩
        rw [if_neg (by decide), h3.2]
        exact k _ H (fun _ _ h => h) (.bl _)
      · cases eb
    · split at eb
      · rename_i hl
        rw [Bool.and_eq_true] at hl
        cases eb
        obtain ⟨a, us, rfl, h1, q1⟩ := r2.lst
        have h3 := flat_in hT (.inl r1.rep) hl.1 (q1.mono hid_le) hl.2
        refine .inl ⟨a, us, rfl, .inl (.inl (.inl h1)), flat_rep r1 hl.1, h3.1, ?_⟩
        rw [if_neg (by decide), h3.2]
        exact k _ H (fun _ _ h => h) (.bl _)
      · cases eb
    · split at eb
      · rename_i hl
        cases eb
        obtain ⟨a, kvs, rfl, h1, h2, q1⟩ := r2.dic
        obtain ⟨o, g, _, _, h5⟩ := dget_of hT r1 hl h1 h2 q1
        refine .inr ⟨a, o, rfl, g, ?_⟩
        rw [if_neg (by decide), h5]
        exact k _ H (fun _ _ h => h) (.bl _)
      · cases eb
  | notin =>
    cases d2 <;> simp only [cop] at eb <;> try cases eb
    · split at eb
      · rename_i hl
        rw [Bool.and_eq_true] at hl
        cases eb
        obtain ⟨a, us, rfl, h1, h1', q1⟩ := r2.tup
        have h3 := flat_in hT (.inl r1.rep) hl.1 (q1.mono hid_le) hl.2
        refine .inl ⟨a, us, rfl, .inr h1, flat_rep r1 hl.1, h3.1, ?_⟩
        rw [if_pos rfl, h3.2]
        exact k _ H (fun _ _ h => h) (.bl _)
      · cases eb
    · split at eb
      · rename_i hl
        rw [Bool.and_eq_true] at hl
        cases eb
        obtain ⟨a, us, rfl, h1, q1⟩ := r2.lst
        have h3 := flat_in hT (.inl r1.rep) hl.1 (q1.mono hid_le) hl.2
        refine .inl ⟨a, us, rfl, .inl (.inl (.inl h1)), flat_rep r1 hl.1, h3.1, ?_⟩
        rw [if_pos rfl, h3.2]
        exact k _ H (fun _ _ h => h) (.bl _)
      · cases eb
    · split at eb
      · rename_i hl
        cases eb
        obtain ⟨a, kvs, rfl, h1, h2, q1⟩ := r2.dic
        obtain ⟨o, g, _, _, h5⟩ := dget_of hT r1 hl h1 h2 q1
        refine .inr ⟨a, o, rfl, g, ?_⟩
        rw [if_pos rfl, h5]
        exact k _ H (fun _ _ h => h) (.bl _)
      · cases eb

/-! ### is None -/
theorem isNone_rep {T : Nat → Str} {K : PySem.W.Frag} {wa : Option Addr} {hH H : Hp} {d : D} {v : V} (r : RepB T K wa hH H d v) : decide (v = V.non) = isNone d := by
  rcases r with r | ⟨a, rfl, _, _⟩
  · cases r <;> rfl
  · cases d <;> first | rfl | (rename_i h; exact h.elim)

/-! ### subscripts -/
def ixR (K : PySem.W.Frag) : R2 := fun x y H Q => rIxL K x y H Q ∨ rIxT K x y H Q
theorem ix_okr {X : Cx} : IxR X (ixR X.K) := IxR.or ix_list ix_tup
def ixS : D → D → Option D
  | .tup xs, .int i => atD xs i
  | .lst xs, .int i => atD xs i
  | .scr ns, .int i => (L2.atI ns i).map .int
  | _, _ => none
theorem at_rep {T : Nat → Str} {K : PySem.W.Frag} {wa : Option Addr} {H : Hp} {ds : List D} {vs : List V} {i : Int} {d : D} (r : Reps T K wa H ds vs) (h : atD ds i = some d) : ∃ v, atI vs i = some v ∧ Rep T K wa H d v := by
  unfold atD atI at h
  cases e : ixN ds.length i with
  | none => rw [e] at h; cases h
  | some j =>
    rw [e] at h
    obtain ⟨v, h1, h2⟩ := r.get (i := j) h
    refine ⟨v, ?_, h2⟩
    unfold atI
    rw [← r.len, e]
    exact h1
theorem ix_ok {T : Nat → Str} {K : PySem.W.Frag} : ROk T K (ixR K) (fun _ => ixS) := by
  intro O wa env ω ws σ H x y d1 d2 z Q st r1 r2 e k
  dsimp only at e
  unfold ixS at e
  split at e
  · obtain ⟨a, us, rfl, h1, h1', q1⟩ := r1.tup
    obtain ⟨v, h2, h3⟩ := at_rep q1 e
    exact .inr ⟨a, us, _, v, rfl, r2.int, h1, h2, k v H (fun _ _ h => h) h3⟩
  · obtain ⟨a, us, rfl, h1, q1⟩ := r1.lst
    obtain ⟨v, h2, h3⟩ := at_rep q1 e
    exact .inl ⟨a, us, _, v, rfl, r2.int, .inl (.inl h1), h2, k v H (fun _ _ h => h) h3⟩
  · rename_i ns i
    obtain ⟨a, rfl, h1⟩ := r1.scr
    obtain ⟨n, h2, rfl⟩ := Option.map_eq_some_iff.mp e
    refine .inl ⟨a, _, _, .int n, rfl, r2.int, h1, ?_, k _ H (fun _ _ h => h) (.int n)⟩
    unfold atI at h2 ⊢
    rw [List.length_map]
    cases c : ixN ns.length i with
    | none => rw [c] at h2; cases h2
    | some j =>
      rw [c] at h2
      show (ns.map V.int)[j]? = some (V.int n)
      rw [List.getElem?_map, show ns[j]? = some n from h2]
      rfl
  · cases e
def rDG : R2 := fun x y H Q => ∃ a v, x = .ref a ∧ DGet H a y (some v) ∧ Q v H
def ixG (ws : WS) : D → D → Option D
  | .dic ks vs, k => if isK k then dget ks vs k else none
  | .wd, .str k => match ws with
    | some kvs => wg kvs k
    | none => none
  | _, _ => none
theorem wg_ok {T : Nat → Str} (hT : TOk T) {K : PySem.W.Frag} {wa : Option Addr} {H : Hp} {n : Nat} {d : D} (hn : n < 128) : ∀ {kvs : List (Nat × D)} {kv' : List (Key × V)}, kvs.map (fun p => (Sum.inr (T p.1) : Key)) = kv'.map (·.1) → (∀ p ∈ kvs, p.1 < 128) →
    Reps T K wa H (kvs.map (·.2)) (kv'.map (·.2)) → wg kvs n = some d → ∃ v, valV kv' (Sum.inr (T n)) = some v ∧ Rep T K wa H d v
  | [], _, _, _, _, h => by simp [wg] at h
  | _ :: _, [], h, _, _, _ => by simp at h
  | p :: kvs, q :: kv', h, hm, r, e => by
    simp only [List.map_cons, List.cons.injEq] at h
    cases r with
    | cons r t =>
      simp only [wg] at e
      split at e
      · rename_i c
        cases e
        exact ⟨q.2, valV_pos (by rw [← h.1, c]), r⟩
      · rename_i c
        have ne : ¬ q.1 = Sum.inr (T n) := fun z => by
          rw [← h.1] at z
          exact c (hT.inj _ _ (hm p List.mem_cons_self) hn (Sum.inr.inj z))
        rw [valV_neg ne]
        exact wg_ok hT hn h.2 (fun x hx => hm x (List.mem_cons_of_mem _ hx)) t e
theorem wg_mem : ∀ {kvs : List (Nat × D)} {n : Nat} {d : D}, wg kvs n = some d → ∃ p ∈ kvs, p.1 = n
  | [], _, _, h => by simp [wg] at h
  | p :: r, n, d, h => by
    simp only [wg] at h
    split at h
    · rename_i c; exact ⟨p, List.mem_cons_self, c⟩
    · obtain ⟨q, h1, h2⟩ := wg_mem h
      exact ⟨q, List.mem_cons_of_mem _ h1, h2⟩
theorem ixG_ok {T : Nat → Str} (hT : TOk T) {K : PySem.W.Frag} : ROk T K rDG ixG := by
  intro O wa env ω ws σ H x y d1 d2 z Q st r1 r2 e k
  unfold ixG at e
  split at e
  · split at e
    · rename_i hl
      obtain ⟨a, kvs, rfl, h1, h2, q1⟩ := r1.dic
      obtain ⟨o, g, h3, _, _⟩ := dget_of hT r2 hl h1 h2 q1
      obtain ⟨u, rfl, h4⟩ := h3 _ e
      exact ⟨a, u, rfl, g, k u H (fun _ _ h => h) h4⟩
    · cases e
  · split at e
    · rename_i kvs
      obtain ⟨a, rfl, ea⟩ := r1.wd
      have w := st.wsr
      subst ea
      obtain ⟨kv', h1, h2, h3, h4⟩ := w
      obtain ⟨p, hp, ep⟩ := wg_mem e
      obtain ⟨v, h5, h6⟩ := wg_ok hT (by rw [← ep]; exact h3 p hp) h2 h3 h4 e
      refine ⟨a, v, rfl, ?_, k v H (fun _ _ h => h) h6⟩
      rw [r2.str, ← h5]
      exact DGet.k (k := Sum.inr _) h1
    · cases e
  · cases e
end Pv

set_option Elab.async false
set_option linter.all false
set_option maxRecDepth 100000
set_option maxHeartbeats 4000000
/-! Pv5: slices, calls of built-ins, displays, arguments, tests. -/
namespace Pv
open PySem PySem.Spec PyProof.Rows L2

/-! ### slices -/
def tP (T : Nat → Str) (K : PySem.W.Frag) (n : Bool) (f : EvF) : TO := fun σ H Q => ∃ O wa env ω ws d o ws', StR T K O wa env ω ws σ H ∧ f env ws = some (d, ws') ∧ bnd n d = some o ∧
  ∀ H', StR T K O wa env ω ws' σ H' → Stp wa H H' → Q o H'
def sl3 (fa fl fh : EvF) (n1 n2 : Bool) : EvF := fun env ws => match fa env ws with
  | none => none
  | some (x, ws1) => match fl env ws1 with
    | none => none
    | some (l, ws2) => match fh env ws2 with
      | none => none
      | some (h, ws3) => match bnd n1 l with
        | none => none
        | some lo' => match bnd n2 h with
          | none => none
          | some hi' => match slD x lo' hi' with
            | none => none
            | some z => some (z, ws3)
section
variable {T : Nat → Str} {X : Cx} {e a b c : Expr} {fa fb fc fl fh : EvF} {pos p2 : Pos} {lo hi : Option Expr} {n1 n2 : Bool}
theorem PO.mono {e : Option Expr} {t t' : TO} (h : PO X e t) (m : ∀ σ H Q, t' σ H Q → t σ H Q) : PO X e t' := ⟨fun pins s σ H Q I q => h.run pins s σ H Q I (m σ H Q q)⟩
theorem po_n : PO X none (tP T X.K true fun _ ws => some (.non, ws)) :=
  PO.mono po_none fun σ H Q ⟨O, wa, env, ω, ws, d, o, ws', st, hf, hb, k⟩ => by
    cases hf
    cases hb
    exact k H st (Stp.refl _ _)
theorem po_s (h : PE X e (tE T X.K fa)) : PO X (some e) (tP T X.K false fa) :=
  PO.mono (po_some h) fun σ H Q ⟨O, wa, env, ω, ws, d, o, ws', st, hf, hb, k⟩ => by
    refine ⟨O, wa, env, ω, ws, d, ws', st, hf, fun v H' st' sp r => ?_⟩
    cases d <;> simp only [bnd] at hb <;> cases hb
    cases r
    exact ⟨_, rfl, k H' st' sp⟩
def slR (K : PySem.W.Frag) : V → Option Int → Option Int → Hp → VK → Prop := fun x lo hi H Q => rSlL K x lo hi H Q ∨ rSlP K x lo hi H Q
theorem cut_whole {xs : List V} {lo hi : Option Int} (h : HT.sIx xs.length 0 lo = 0 ∧ HT.sIx xs.length xs.length hi = xs.length) : cutV xs lo hi = xs := by
  unfold cutV
  rw [h.1, h.2, List.drop_zero, Nat.sub_zero, List.take_length]
theorem pe_slc (ha : PE X a (tB T X.K fa)) (hl : PO X lo (tP T X.K n1 fl)) (hh : PO X hi (tP T X.K n2 fh)) :
    PE X (.Subscript a (.Slice lo hi none p2) pos) (tE T X.K (sl3 fa fl fh n1 n2)) :=
  PE.mono (pe_slice (SlR.or sl_list sl_tupP) ha hl hh) fun σ H Q ⟨O, wa, env, ω, ws, d, ws', st, hf, k⟩ => by
    unfold sl3 at hf
    split at hf
    · cases hf
    rename_i x ws1 e1
    split at hf
    · cases hf
    rename_i l ws2 e2
    split at hf
    · cases hf
    rename_i h ws3 e3
    split at hf
    · cases hf
    rename_i lo' e4
    split at hf
    · cases hf
    rename_i hi' e5
    split at hf
    · cases hf
    rename_i z e6
    cases hf
    refine ⟨O, wa, env, ω, ws, x, _, st, e1, fun v1 H1 st1 sp1 r1 => ?_⟩
    refine ⟨O, wa, env, ω, _, l, lo', _, st1, e2, e4, fun H2 st2 sp2 => ?_⟩
    refine ⟨O, wa, env, ω, _, h, hi', _, st2, e3, e5, fun H3 st3 sp3 => ?_⟩
    have r3 := r1.mono (sp2.trans sp3)
    have sp := (sp1.trans sp2).trans sp3
    cases x <;> simp only [slD] at e6 <;> cases e6
    · obtain ⟨p, vs, rfl, h1, h1', q1⟩ := r3.tup
      refine .inr ⟨p, vs, rfl, h1, fun hw => ?_, fun hw p o n nd => ?_⟩
      · refine k _ H3 st3 sp (.tup (vs := vs) h1' ?_)
        have := q1.cut lo' hi'
        rw [cut_whole hw] at this
        exact this
      · exact k _ _ (st3.grow (new_same n)) (sp.trans (Stp.of (new_same n))) (.tup (.inl ⟨o, hid_new st3 n, nd⟩) ((q1.cut _ _).mono (hid_newS st3 n)))
    · obtain ⟨p, vs, rfl, h1, q1⟩ := r3.lst
      refine .inl ⟨p, vs, rfl, .inl (.inl h1), fun p n => ?_⟩
      exact k _ _ (st3.grow (new_same n)) (sp.trans (Stp.of (new_same n))) (.lst (hid_new st3 n) ((q1.cut _ _).mono (hid_newS st3 n)))
end

/-! ### no star -/
def noStar : Expr → Bool
  | .Starred .. => false
  | _ => true
theorem star_cons {e : Expr} (h : noStar e = true) (es : List Expr) (env : PySem.Env) : starEach (e :: es) env = (false, eval e env) :: starEach es env := by
  cases e <;> first | rfl | (simp [noStar] at h)
theorem star_any {pos : Pos} (env : PySem.Env) : ∀ {es : List Expr}, es.all noStar = true → (backTo pos (starEach es env)).any (·.1) = false
  | [], _ => rfl
  | e :: es, h => by
    rw [List.all_cons, Bool.and_eq_true] at h
    rw [star_cons h.1]
    exact star_any env h.2

/-! ### built-ins of one argument -/
section
variable {T : Nat → Str} {X : Cx} {e a b c : Expr} {fa fb fc fl fh : EvF} {pos p2 p : Pos}
theorem ht_b {id : String} {x : Str} {r : List V → Hp → VK → Prop} (hc : CallR X (.builtin id) r) (hg : Gl X x) (hm : X.mg x = none) (hv : bootBuiltins x = some (.builtin id)) (hn : x ≠ "__name__") (hdb : (x == ("__debug__" : Str)) = false) (hs : noStar a = true) :
    ∀ ta, PE X a ta → PE X (.Call (.Name x p) [a] [] pos) (tUn (fun x H Q => r [x] H Q) ta) := fun ta ha =>
  pe_callB hc hg hm hv (pa_cons ha pa_nil (star_cons hs _ _)) hn hdb (star_cons hs _ _)
theorem ht_t {id : String} {x : Str} {r : List V → Hp → VK → Prop} (hc : CallR X (.type id) r) (hg : Gl X x) (hm : X.mg x = none) (hv : bootBuiltins x = some (.type id)) (hn : x ≠ "__name__") (hdb : (x == ("__debug__" : Str)) = false) (hs : noStar a = true) :
    ∀ ta, PE X a ta → PE X (.Call (.Name x p) [a] [] pos) (tUn (fun x H Q => r [x] H Q) ta) := fun ta ha =>
  pe_callTy hc hg hm hv (pa_cons ha pa_nil (star_cons hs _ _)) hn hdb (star_cons hs _ _)
theorem ht_b2 {id : String} {x : Str} {r : List V → Hp → VK → Prop} (hc : CallR X (.builtin id) r) (hg : Gl X x) (hm : X.mg x = none) (hv : bootBuiltins x = some (.builtin id)) (hn : x ≠ "__name__") (hdb : (x == ("__debug__" : Str)) = false) (hs : noStar a = true) (hs2 : noStar b = true) :
    ∀ ta tb, PE X a ta → PE X b tb → PE X (.Call (.Name x p) [a, b] [] pos) (tOp (fun x y H Q => r [x, y] H Q) ta tb) := fun ta tb ha hb =>
  pe_callB hc hg hm hv (pa_cons ha (pa_cons hb pa_nil (star_cons hs2 _ _)) (star_cons hs _ _)) hn hdb (star_cons hs _ _) (star_any _ (by rw [List.all_cons, hs2]; rfl))
end
/-! #### what they give -/
section
variable {T : Nat → Str} {K : PySem.W.Frag}
def lenR (K : PySem.W.Frag) : List V → Hp → VK → Prop := fun xs H Q => (∃ x n, xs = [x] ∧ LenV K x H n ∧ Q (.int n) H) ∨ (∃ a kvs, xs = [V.ref a] ∧ H a = some (.dK kvs) ∧ Q (.int kvs.length) H)
theorem len_okr {X : Cx} : CallR X (.builtin "len") (lenR X.K) := CallR.or call_len call_lenD
theorem len_okU : UOk T K (fun x H Q => lenR K [x] H Q) (bf1 .len) := by
  intro O wa env ω ws σ H x d1 z Q st r e k
  cases d1 <;> simp only [bf1] at e <;> cases e
  · obtain ⟨a, vs, rfl, h1, h1', q1⟩ := r.tup
    refine .inl ⟨_, vs.length, rfl, .inr ⟨_, h1, rfl⟩, ?_⟩
    rw [← q1.len]
    exact k _ H (fun _ _ h => h) (.int _)
  · obtain ⟨a, vs, rfl, h1, q1⟩ := r.lst
    refine .inl ⟨_, vs.length, rfl, .inl ⟨_, .inl (.inl h1), rfl⟩, ?_⟩
    rw [← q1.len]
    exact k _ H (fun _ _ h => h) (.int _)
  · obtain ⟨a, kvs, rfl, h1, h2, q1⟩ := r.dic
    refine .inr ⟨a, kvs, rfl, h1, ?_⟩
    have := congrArg List.length h2
    rw [List.length_map, List.length_map] at this
    rw [← this]
    exact k _ H (fun _ _ h => h) (.int _)
  · obtain ⟨a, rfl, h1⟩ := r.scr
    refine .inl ⟨_, _, rfl, .inl ⟨_, h1, rfl⟩, ?_⟩
    rw [List.length_map]
    exact k _ H (fun _ _ h => h) (.int _)
theorem abs_okU : UOk T K (fun x H Q => (fun xs H (Q : VK) => ∃ i, xs = [V.int i] ∧ Q (.int (if i < 0 then -i else i)) H) [x] H Q) (bf1 .abs) := by
  intro O wa env ω ws σ H x d1 z Q st r e k
  cases d1 <;> simp only [bf1] at e <;> cases e
  exact ⟨_, congrArg (fun z => [z]) r.int, k _ H (fun _ _ h => h) (.int _)⟩
theorem int_okU : UOk T K (fun x H Q => (fun xs H (Q : VK) => (∃ i, xs = [V.int i] ∧ Q (.int i) H) ∨ ∃ k, xs = [V.bl k] ∧ Q (.int (if k then 1 else 0)) H) [x] H Q) (bf1 .int) := by
  intro O wa env ω ws σ H x d1 z Q st r e k
  cases d1 <;> simp only [bf1] at e <;> cases e
  · exact .inr ⟨_, congrArg (fun z => [z]) r.bl, k _ H (fun _ _ h => h) (.int _)⟩
  · exact .inl ⟨_, congrArg (fun z => [z]) r.int, k _ H (fun _ _ h => h) (.int _)⟩
theorem tup_okU : UOk T K (fun x H Q => rTupP K [x] H Q) (bf1 .tupOf) := by
  intro O wa env ω ws σ H x d1 z Q st r e k
  cases d1 <;> simp only [bf1] at e <;> cases e
  · obtain ⟨a, vs, rfl, h1, h1', q1⟩ := r.tup
    exact ⟨a, vs, rfl, .inr ⟨h1, k _ H (fun _ _ h => h) (.tup h1' q1)⟩⟩
  · obtain ⟨a, vs, rfl, h1, q1⟩ := r.lst
    exact ⟨a, vs, rfl, .inl ⟨.inl (.inl h1), fun p o n nd => k _ _ (new_same n) (.tup (.inl ⟨o, hid_new st n, nd⟩) (q1.mono (hid_newS st n)))⟩⟩
theorem all_okU : UOk T K (fun x H Q => rAll K [x] H Q) (bf1 .all) := by
  intro O wa env ω ws σ H x d1 z Q st r e k
  cases d1 <;> simp only [bf1] at e <;> try cases e
  split at e
  · rename_i bs hb
    cases e
    obtain ⟨a, vs, rfl, h1, q1⟩ := r.lst
    have := q1.bls hb
    subst this
    exact ⟨a, bs, rfl, .inl (.inl h1), k _ H (fun _ _ h => h) (.bl _)⟩
  · cases e
theorem any_okU : UOk T K (fun x H Q => rAny K [x] H Q) (bf1 .any) := by
  intro O wa env ω ws σ H x d1 z Q st r e k
  cases d1 <;> simp only [bf1] at e <;> try cases e
  split at e
  · rename_i bs hb
    cases e
    obtain ⟨a, vs, rfl, h1, q1⟩ := r.lst
    have := q1.bls hb
    subst this
    exact ⟨a, bs, rfl, .inl (.inl h1), k _ H (fun _ _ h => h) (.bl _)⟩
  · cases e
/-- list(..) -/
def lstR (K : PySem.W.Frag) : List V → Hp → VK → Prop := fun xs H Q => (∃ p ys, xs = [.ref p] ∧ (SqL K H p ys ∨ SqT K H p ys) ∧ ∀ l, H l = none → Q (.ref l) (upd H l (.lst ys))) ∨
  (∃ (a : Addr) (kvs : List (Key × V)), xs = [.ref a] ∧ Rd H a (.dK kvs) ∧ ∀ p, H p = none → Q (.ref p) (upd H p (.lst (kvs.map fun kv => kV kv.1))))
theorem lst_okr {X : Cx} (hc : X.calm = true) : CallR X (.type "list") (lstR X.K) := CallR.or call_list_of (call_listD hc)
theorem keys_rep {wa : Option Addr} {H : Hp} : ∀ {ks : List D} {kvs : List (Key × V)}, ks.map (keyOf T) = kvs.map (fun p => some p.1) → Reps T K wa H ks (kvs.map fun kv => kV kv.1)
  | [], [], _ => .nil
  | [], _ :: _, h => by simp at h
  | _ :: _, [], h => by simp at h
  | k :: ks, p :: kvs, h => by
    simp only [List.map_cons, List.cons.injEq] at h
    refine .cons ?_ (keys_rep h.2)
    have e := h.1
    show Rep T K wa H k (kV p.1)
    cases k <;> simp only [keyOf] at e <;> try cases e
    · rw [← Option.some.inj e]; exact .int _
    · split at e
      · rw [← Option.some.inj e]; exact .str _
      · cases e
theorem lst_okF : UFOk T K (fun x H Q => lstR K [x] H Q) (bf1 .lstOf) := by
  intro O wa env ω ws σ H x d1 z Q st r e k
  cases d1 <;> simp only [bf1] at e <;> cases e
  · obtain ⟨a, vs, rfl, h1, h1', q1⟩ := r.tup
    exact .inl ⟨a, vs, rfl, .inr h1, fun p n => k p _ n ⟨vs, upd_same, q1⟩⟩
  · obtain ⟨a, vs, rfl, h1, q1⟩ := r.lst
    exact .inl ⟨a, vs, rfl, .inl (.inl (.inl h1)), fun p n => k p _ n ⟨vs, upd_same, q1⟩⟩
  · obtain ⟨a, kvs, rfl, h1, h2, q1⟩ := r.dic
    exact .inr ⟨a, kvs, rfl, .inl h1, fun p n => k p _ n ⟨_, upd_same, keys_rep h2⟩⟩
/-! sorted -/
theorem ins_perm (x : Int) : ∀ ys : List Int, (ins x ys).Perm (x :: ys)
  | [] => .refl _
  | y :: ys => by
    unfold ins
    split
    · exact .refl _
    · exact ((ins_perm x ys).cons y).trans (.swap x y ys)
theorem isort_perm : ∀ xs : List Int, (isort xs).Perm xs
  | [] => .refl _
  | x :: xs => (ins_perm x _).trans ((isort_perm xs).cons x)
theorem ins_sorted (x : Int) : ∀ {ys : List Int}, ys.Pairwise (· ≤ ·) → (ins x ys).Pairwise (· ≤ ·)
  | [], _ => by simp [ins]
  | y :: ys, h => by
    unfold ins
    rw [List.pairwise_cons] at h
    split
    · rename_i c
      refine .cons (fun z hz => ?_) (.cons h.1 h.2)
      rcases List.mem_cons.mp hz with rfl | hz
      · exact c
      · exact Int.le_trans c (h.1 z hz)
    · rename_i c
      refine .cons (fun z hz => ?_) (ins_sorted x h.2)
      rcases List.mem_cons.mp ((ins_perm x ys).mem_iff.mp hz) with rfl | hz
      · omega
      · exact h.1 z hz
theorem isort_sorted : ∀ xs : List Int, (isort xs).Pairwise (· ≤ ·)
  | [] => .nil
  | x :: xs => ins_sorted x (isort_sorted xs)
theorem sorted_one : ∀ {l1 l2 : List Int}, l1.Perm l2 → l1.Pairwise (· ≤ ·) → l2.Pairwise (· ≤ ·) → l1 = l2
  | [], l2, h, _, _ => by
    have := h.length_eq
    cases l2 with
    | nil => rfl
    | cons _ _ => simp at this
  | x :: xs, [], h, _, _ => by
    have := h.length_eq
    simp at this
  | x :: xs, y :: ys, h, s1, s2 => by
    rw [List.pairwise_cons] at s1 s2
    have hx : x ∈ y :: ys := h.mem_iff.mp List.mem_cons_self
    have hy : y ∈ x :: xs := h.mem_iff.mpr List.mem_cons_self
    have e : x = y := by
      rcases List.mem_cons.mp hx with e | hx
      · exact e
      · rcases List.mem_cons.mp hy with e | hy
        · exact e.symm
        · have h1 := s1.1 y hy
          have h2 := s2.1 x hx
          omega
    subst e
    rw [sorted_one (List.Perm.cons_inv h) s1.2 s2.2]
def srtR (K : PySem.W.Frag) : List V → Hp → VK → Prop := fun xs H Q => rSorted K xs H Q ∨ (∃ (a : Addr) (kvs : List (Key × V)) (ks : List Int), xs = [.ref a] ∧ Rd H a (.dK kvs) ∧ kvs.map (·.1) = ks.map Sum.inl ∧ ks.length < 64 ∧
  ∀ (ys : List Int) (p : Addr), ys.Perm ks → ys.Pairwise (· ≤ ·) → H p = none → Q (.ref p) (upd H p (.lst (ys.map V.int))))
theorem srt_okr {X : Cx} (hc : X.calm = true) : CallR X (.builtin "sorted") (srtR X.K) := CallR.or cr_sorted (call_sortedDI hc)
theorem keys_ints : ∀ {ks : List D} {kvs : List (Key × V)} {ns : List Int}, ks.map (keyOf T) = kvs.map (fun p => some p.1) → intsOf ks = some ns → kvs.map (·.1) = ns.map Sum.inl
  | [], [], ns, _, e => by simp [intsOf] at e; subst e; rfl
  | [], _ :: _, _, h, _ => by simp at h
  | _ :: _, [], _, h, _ => by simp at h
  | k :: ks, p :: kvs, ns, h, e => by
    simp only [List.map_cons, List.cons.injEq] at h
    cases k <;> simp only [intsOf] at e <;> try cases e
    split at e
    · rename_i i is hi
      cases e
      have := h.1
      simp only [keyOf] at this
      rw [List.map_cons, List.map_cons, ← Option.some.inj this, keys_ints h.2 hi]
    · cases e
theorem srt_okF : UFOk T K (fun x H Q => srtR K [x] H Q) (bf1 .sorted) := by
  intro O wa env ω ws σ H x d1 z Q st r e k
  cases d1 <;> simp only [bf1] at e <;> try cases e
  · split at e
    · rename_i ns hn
      split at e
      · rename_i hl
        cases e
        obtain ⟨a, vs, rfl, h1, q1⟩ := r.lst
        have := q1.ints hn
        subst this
        refine .inl ⟨a, ns, rfl, .inl (.inl h1), of_decide_eq_true hl, fun ns' p hp hs n => k p _ n ⟨_, upd_same, ?_⟩⟩
        rw [sorted_one (hp.trans (isort_perm ns).symm) hs (isort_sorted ns)]
        exact reps_ints _
      · cases e
    · cases e
  · split at e
    · rename_i ns hn
      split at e
      · rename_i hl
        cases e
        obtain ⟨a, kvs, rfl, h1, h2, q1⟩ := r.dic
        refine .inr ⟨a, kvs, ns, rfl, .inl h1, keys_ints h2 hn, of_decide_eq_true hl, fun ns' p hp hs n => k p _ n ⟨_, upd_same, ?_⟩⟩
        rw [sorted_one (hp.trans (isort_perm ns).symm) hs (isort_sorted ns)]
        exact reps_ints _
      · cases e
    · cases e
/-! two ints -/
theorem max_ok : ROk T K (fun x y H Q => (fun xs H (Q : VK) => ∃ i j, xs = [V.int i, V.int j] ∧ Q (.int (if j > i then j else i)) H) [x, y] H Q) (fun _ => bf2 .max) := by
  intro O wa env ω ws σ H x y d1 d2 z Q st r1 r2 e k
  cases d1 <;> cases d2 <;> simp only [bf2] at e <;> cases e
  exact ⟨_, _, by rw [r1.int, r2.int], k _ H (fun _ _ h => h) (.int _)⟩
theorem min_ok : ROk T K (fun x y H Q => (fun xs H (Q : VK) => ∃ i j, xs = [V.int i, V.int j] ∧ Q (.int (if j < i then j else i)) H) [x, y] H Q) (fun _ => bf2 .min) := by
  intro O wa env ω ws σ H x y d1 d2 z Q st r1 r2 e k
  cases d1 <;> cases d2 <;> simp only [bf2] at e <;> cases e
  exact ⟨_, _, by rw [r1.int, r2.int], k _ H (fun _ _ h => h) (.int _)⟩
theorem neg_okU : UOk T K (rU fun i => .int (-i)) (fun d => match d with
    | .int i => some (.int (-i))
    | _ => none) := by
  intro O wa env ω ws σ H x d1 z Q st r e k
  cases d1 <;> simp only [] at e <;> cases e
  exact ⟨_, r.int, k _ H (fun _ _ h => h) (.int _)⟩
/-! isinstance -/
def tyN : Ty → String
  | .int => "int" | .bool => "bool" | .tuple => "tuple" | .list => "list" | .dict => "dict" | .str => "str"
theorem ty_rep {wa : Option Addr} {S : Addr → Prop} {H : Hp} {t : Ty} {d : D} {v : V} {z : Bool} (r : RepB T K wa (hid S H) H d v) (e : isiD t d = some z) :
    ∃ u, TyX K H v u ∧ PySem.W.kitOne K u (.type (tyN t)) = some z := by
  have tupK : ∀ {a : Addr} {vs : List V}, SqT K H a vs → TyX K H (.ref a) (.type "tuple") := fun h => by
    rcases h with (h | ⟨o, h⟩) | ⟨o, its, n, hk, hc, _⟩
    · exact .base (.tup h)
    · exact .fTuple h
    · exact .kTuple hk hc
  cases d with
  | non =>
    rw [r.non]
    refine ⟨_, .base .non, kit_ty ?_⟩
    cases t <;> simp only [isiD] at e <;> cases e <;> decide +kernel
  | bl b =>
    rw [r.bl]
    refine ⟨_, .base (.bl b), kit_ty ?_⟩
    cases t <;> simp only [isiD] at e <;> cases e <;> decide +kernel
  | int b =>
    rw [r.int]
    refine ⟨_, .base (.int b), kit_ty ?_⟩
    cases t <;> simp only [isiD] at e <;> cases e <;> decide +kernel
  | str b =>
    rw [r.str]
    refine ⟨_, .base (.str _), kit_ty ?_⟩
    cases t <;> simp only [isiD] at e <;> cases e <;> decide +kernel
  | tup b =>
    obtain ⟨a, vs, rfl, h1, _, _⟩ := r.tup
    refine ⟨_, tupK h1, kit_ty ?_⟩
    cases t <;> simp only [isiD] at e <;> cases e <;> decide +kernel
  | lst b =>
    obtain ⟨a, vs, rfl, h1, _⟩ := r.lst
    refine ⟨_, .base (.lst h1), kit_ty ?_⟩
    cases t <;> simp only [isiD] at e <;> cases e <;> decide +kernel
  | dic b c =>
    obtain ⟨a, vs, rfl, h1, _⟩ := r.dic
    refine ⟨_, .base (.dK h1), kit_ty ?_⟩
    cases t <;> simp only [isiD] at e <;> cases e <;> decide +kernel
  | scr b => cases t <;> simp only [isiD] at e <;> cases e
  | wd => cases t <;> simp only [isiD] at e <;> cases e
theorem isi_okU (t : Ty) : UOk T K (fun x H Q => rIsi K [x, .ty (tyN t)] H Q) (fun d => match isiD t d with
    | none => none
    | some z => some (.bl z)) := by
  intro O wa env ω ws σ H x d1 z Q st r e k
  dsimp only at e
  split at e
  · cases e
  · rename_i b hb
    cases e
    obtain ⟨u, h1, h2⟩ := ty_rep r hb
    exact ⟨x, .ty (tyN t), u, .type (tyN t), b, rfl, .ty _, h1, h2, k _ H (fun _ _ h => h) (.bl b)⟩
end
end Pv

set_option Elab.async false
set_option linter.all false
set_option maxRecDepth 100000
set_option maxHeartbeats 4000000
/-! Pv6: arguments, displays, calls, get, tests. -/
namespace Pv
open PySem PySem.Spec PyProof.Rows L2

section
variable {T : Nat → Str} {K : PySem.W.Frag} {O : Addr → Prop} {wa : Option Addr} {env : Env} {ω : Nat → Option Addr} {ws : WS} {σ : L2.St} {H : Hp}
/-- a hidden object is written -/
theorem StR.wr (h : StR T K O wa env ω ws σ H) {p : Addr} (o : HO) (hp : O p) (nw : wa ≠ some p) : StR T K O wa env ω ws σ (upd H p o) := by
  have m : Same (hid (SS O ω wa) H) (hid (SS O ω wa) (upd H p o)) := hid_mono (fun a u s q => by rw [upd_ne (fun z => s (by rw [z]; exact .inl hp))]; exact q) fun _ q => q
  refine ⟨h.len, fun i => ?_, h.own, h.inj, fun a q z => ?_, h.wsr.mono m fun a u e q => by rw [upd_ne (fun z => nw (by rw [← z]; exact e))]; exact q⟩
  · have q := h.slot i
    cases hs : eg env i with
    | un => trivial
    | va d =>
      rw [hs] at q
      obtain ⟨v, h1, h2⟩ := q
      exact ⟨v, h1, h2.mono m⟩
    | ow d =>
      rw [hs] at q
      obtain ⟨a, h1, h2, h3⟩ := q
      exact ⟨a, h1, h2, h3.mono m fun u q => by rw [upd_ne (fun z => (h.own i a h1).2.1 (by rw [z]; exact hp))]; exact q⟩
  · by_cases e : a = p
    · subst e; rw [upd_same] at z; cases z
    · rw [upd_ne e] at z; exact h.dom a q z
end

section
variable {T : Nat → Str} {X : Cx} {e a b c : Expr} {es : List Expr} {fa fb fc : EvF} {ga : EvAF} {pos p2 p : Pos}
/-! ### arguments -/
def consA (fa : EvF) (ga : EvAF) : EvAF := fun env ws => match fa env ws with
  | none => none
  | some (d, ws1) => match ga env ws1 with
    | none => none
    | some (ds, ws2) => some (d :: ds, ws2)
theorem pa_n : PA X [] (tA T X.K fun _ ws => some ([], ws)) :=
  PA.mono pa_nil fun σ H Q ⟨O, wa, env, ω, ws, d, ws', st, hf, k⟩ => by
    cases hf
    exact k [] H st (Stp.refl _ _) .nil
theorem pa_c (ha : PE X a (tE T X.K fa)) (hr : PA X es (tA T X.K ga)) (hs : noStar a = true) : PA X (a :: es) (tA T X.K (consA fa ga)) :=
  PA.mono (pa_cons ha hr (star_cons hs _ _)) fun σ H Q ⟨O, wa, env, ω, ws, d, ws', st, hf, k⟩ => by
    unfold consA at hf
    split at hf
    · cases hf
    rename_i x ws1 e1
    split at hf
    · cases hf
    rename_i xs ws2 e2
    cases hf
    refine ⟨O, wa, env, ω, ws, x, _, st, e1, fun v1 H1 st1 sp1 r1 => ?_⟩
    refine ⟨O, wa, env, ω, _, xs, _, st1, e2, fun v2 H2 st2 sp2 r2 => ?_⟩
    exact k _ H2 st2 (sp1.trans sp2) (.cons (r1.mono sp2.hid) r2)
/-! ### displays -/
def dispT (ga : EvAF) : EvF := fun env ws => match ga env ws with
  | none => none
  | some (ds, ws1) => some (.tup ds, ws1)
def dispL (ga : EvAF) : EvF := fun env ws => match ga env ws with
  | none => none
  | some (ds, ws1) => some (.lst ds, ws1)
theorem pe_dt {x1} (h : PA X es (tA T X.K ga)) (hl : okLen es.length = true) (hga : ∀ env ws ds ws', ga env ws = some (ds, ws') → ds.length = es.length) : PE X (.Tuple es x1 pos) (tE T X.K (dispT ga)) :=
  PE.mono (pe_tupP h) fun σ H Q ⟨O, wa, env, ω, ws, d, ws', st, hf, k⟩ => by
    unfold dispT at hf
    split at hf
    · cases hf
    rename_i ds ws1 e1
    cases hf
    refine ⟨O, wa, env, ω, ws, ds, _, st, e1, fun vs H1 st1 sp1 r1 => ⟨?_, fun p o n nd => ?_⟩⟩
    · rw [← r1.len, hga _ _ _ _ e1]; exact len_ok hl
    · exact k _ _ (st1.grow (new_same n)) (sp1.trans (Stp.of (new_same n))) (.tup (.inl ⟨o, hid_new st1 n, nd⟩) (r1.mono (hid_newS st1 n)))
theorem pe_dl (h : PA X es (tA T X.K ga)) (hl : okLen es.length = true) (hga : ∀ env ws ds ws', ga env ws = some (ds, ws') → ds.length = es.length) : PE X (.List es pos) (tF T X.K (dispL ga)) :=
  PE.mono (pe_lst h) fun σ H Q ⟨O, wa, env, ω, ws, d, ws', st, hf, k⟩ => by
    unfold dispL at hf
    split at hf
    · cases hf
    rename_i ds ws1 e1
    cases hf
    refine ⟨O, wa, env, ω, ws, ds, _, st, e1, fun vs H1 st1 sp1 r1 => ⟨?_, fun p n => ?_⟩⟩
    · rw [← r1.len, hga _ _ _ _ e1]; exact len_ok hl
    · exact k p _ (st1.more n _) (sp1.trans (Stp.of (new_same n))) (st1.fresh n) (st1.back sp1 n) ⟨vs, upd_same, r1.mono (new_at st1 n)⟩
theorem pe_d0 : PE X (.Dict [] [] pos) (tF T X.K fun _ ws => some (.dic [] [], ws)) :=
  PE.mono pe_dnewK fun σ H Q ⟨O, wa, env, ω, ws, d, ws', st, hf, k⟩ => by
    cases hf
    intro p n
    exact k p _ (st.more n _) (Stp.of (new_same n)) (st.fresh n) n ⟨[], upd_same, rfl, .nil⟩
def dispD (fa fb : EvF) : EvF := fun env ws => match fa env ws with
  | none => none
  | some (kd, ws1) => match fb env ws1 with
    | none => none
    | some (vd, ws2) => if isK kd then some (.dic [kd] [vd], ws2) else none
theorem pe_d1 (ha : PE X a (tE T X.K fa)) (hb : PE X b (tE T X.K fb)) : PE X (.Dict [some a] [b] pos) (tF T X.K (dispD fa fb)) :=
  PE.mono (pe_disp (pps_cons ha hb pps_nil) rfl rfl (by simp) (show 1 ≤ 15 by decide)) fun σ H Q ⟨O, wa, env, ω, ws, d, ws', st, hf, k⟩ => by
    unfold dispD at hf
    split at hf
    · cases hf
    rename_i x ws1 e1
    split at hf
    · cases hf
    rename_i y ws2 e2
    split at hf
    · rename_i hk
      cases hf
      intro p n
      have nw : wa ≠ some p := fun z => st.fresh n (.inr (.inr z))
      refine ⟨_, wa, env, ω, ws, x, _, st.more n _, e1, fun v1 H1 st1 sp1 r1 => ?_⟩
      refine ⟨_, wa, env, ω, _, y, _, st1, e2, fun v2 H2 st2 sp2 r2 => ?_⟩
      obtain ⟨q, hq⟩ := isK_key (T := T) hk
      have e3 : v1 = kV q := key_rep (H := H2) (hH := hid (SS (fun x => O x ∨ x = p) ω wa) H2) hq (.inl (r1.mono sp2.hid))
      have e4 : H2 p = some (.dK []) := sp2 _ _ nw (sp1 _ _ nw upd_same)
      subst e3
      refine ⟨e4, [(q, v2)], rfl, (show 1 ≤ 15 by decide), ?_⟩
      have sp : Stp wa H (upd H2 p (.dK [(q, v2)])) := fun c o nc hc => by
        rw [upd_ne (ne_of_none hc n)]
        exact sp2 _ _ nc (sp1 _ _ nc (new_same n _ _ hc))
      refine k p _ (st2.wr _ (.inr rfl) nw) sp (st.fresh n) n ⟨[(q, v2)], upd_same, by simp [hq], .cons (r2.mono ?_) .nil⟩
      exact hid_mono (fun c o s hc => by rw [upd_ne (fun z => s (.inl (.inr z)))]; exact hc) fun _ q => q
    · cases hf
/-! ### get -/
def noCall : Expr → Bool
  | .Call .. => false
  | _ => true
theorem attr_plain {o : Expr} (h : noCall o = true) (m : Str) (env : PySem.Env) (w : Sem Value) : attributeBase o m env w = w := by
  cases o <;> first | rfl | (simp [noCall] at h)
def getF (fd fk fe : EvF) : EvF := fun env ws => match fd env ws with
  | some (.dic ks vs, ws1) => match fk env ws1 with
    | none => none
    | some (kd, ws2) => match fe env ws2 with
      | none => none
      | some (ed, ws3) => if isK kd then some ((dget ks vs kd).getD ed, ws3) else none
  | _ => none
theorem m2_of {o : Expr} {m : Str} {apos cpos : Pos} (ho : noCall o = true) (ha : noStar a = true) (hb : noStar b = true) (hl : (apos.endLine == cpos.line) = true) : M2 X o m apos a b cpos where
  base := attr_plain ho _ _ _
  few := by rw [star_cons ha, star_cons hb]; rfl
  line := hl
  trees := by rw [star_cons ha, star_cons hb]; rfl
theorem pe_get {o : Expr} {fd fk fe : EvF} {apos cpos : Pos} (hT : TOk T) (hu : X.A.units + 1 < cLine) (ho : PE X o (tB T X.K fd)) (hk : PE X a (tE T X.K fk)) (he : PE X b (tE T X.K fe)) (no : noCall o = true) (na : noStar a = true) (nb : noStar b = true) (hl : (apos.endLine == cpos.line) = true) :
    PE X (.Call (.Attribute o "get" apos) [a, b] [] cpos) (tE T X.K (getF fd fk fe)) :=
  PE.mono (pe_dget2 hu ho hk he (m2_of no na nb hl)) fun σ H Q ⟨O, wa, env, ω, ws, d, ws', st, hf, k⟩ => by
    unfold getF at hf
    split at hf
    · rename_i ks vs ws1 e1
      split at hf
      · cases hf
      rename_i kd ws2 e2
      split at hf
      · cases hf
      rename_i ed ws3 e3
      split at hf
      · rename_i hk
        cases hf
        refine ⟨O, wa, env, ω, ws, _, _, st, e1, fun v1 H1 st1 sp1 r1 => ?_⟩
        obtain ⟨p, kvs, rfl, h1, h2, q1⟩ := r1.dic
        refine ⟨p, rfl, .inl ⟨kvs, .inl h1⟩, ?_⟩
        refine ⟨O, wa, env, ω, _, _, _, st1, e2, fun v2 H2 st2 sp2 r2 => ?_⟩
        refine ⟨O, wa, env, ω, _, _, _, st2, e3, fun v3 H3 st3 sp3 r3 => ?_⟩
        obtain ⟨p', kvs', ep, h1', h2', q1'⟩ := (r1.mono (sp2.trans sp3)).dic
        cases ep
        obtain ⟨o', g, h3, h4, _⟩ := dget_of (H := H3) hT (RepB.mono (O := O) (ω := ω) sp3 (.inl r2)) hk h1' h2' q1'
        refine ⟨o', g, k _ H3 st3 ((sp1.trans sp2).trans sp3) ?_⟩
        cases hd : dget ks vs kd with
        | none =>
          rw [h4 hd]
          exact r3
        | some d =>
          obtain ⟨u, rfl, h5⟩ := h3 d hd
          exact h5
      · cases hf
    · cases hf
/-! ### truth, tests -/
theorem truth_rep {wa : Option Addr} {hH H : Hp} {d : D} {v : V} {k : Bool} (r : RepB T X.K wa hH H d v) (h : truth d = some k) : TruV X.K v H k := by
  cases d <;> simp only [truth] at h <;> cases h
  · rw [r.non]; rfl
  · rw [r.bl]; rfl
  · rw [r.int]; rfl
def valT (fa : EvF) : EvTF := fun env ws => match fa env ws with
  | none => none
  | some (d, ws1) => match truth d with
    | none => none
    | some b => some (b, ws1)
def plainT : Expr → Bool
  | .UnaryOp .Not .. => false
  | .BoolOp .. => false
  | .IfExp .. => false
  | .Compare .. => false
  | _ => true
theorem isTrue_plain (h : plainT a = true) (env : PySem.Env) (whole : Sem Value) : isTrue a env whole = (do let v ← whole; standAt a.pos; holding [v] (truthy v)) := by
  cases a <;> first | rfl | (simp [plainT] at h; done) | skip
  rename_i op x p
  cases op <;> first | rfl | (simp [plainT] at h; done)
theorem pt_v (ha : PE X a (tE T X.K fa)) (h : plainT a = true) : PT X a (tT T X.K (valT fa)) :=
  PT.mono (pt_truth ha (isTrue_plain h _)) fun σ H Q ⟨O, wa, env, ω, ws, d, ws', st, hf, k⟩ => by
    unfold valT at hf
    split at hf
    · cases hf
    rename_i x ws1 e1
    split at hf
    · cases hf
    rename_i z e2
    cases hf
    refine ⟨O, wa, env, ω, ws, x, _, st, e1, fun v H1 st1 sp1 r1 => ⟨_, truth_rep (.inl r1) e2, k H1 st1 sp1⟩⟩
/-- a comparison, by its value -/
def bT (f : EvF) : EvTF := fun env ws => match f env ws with
  | some (.bl z, ws1) => some (z, ws1)
  | _ => none
def twoT (fa fb : EvF) (o : Cop) : EvTF := fun env ws => match fa env ws with
  | none => none
  | some (x, ws1) => match fb env ws1 with
    | none => none
    | some (y, ws2) => match cop o x y with
      | none => none
      | some z => some (z, ws2)
theorem pt_two {o : Cop} {r : R2} (ht : ∀ ta tb, PE X a ta → PE X b tb → PT X e (tTest (tOp r ta tb))) (hr : ROk T X.K r (fun _ => copD o)) (ha : PE X a (tB T X.K fa)) (hb : PE X b (tB T X.K fb)) : PT X e (tT T X.K (twoT fa fb o)) :=
  PT.mono (ht _ _ ha hb) fun σ H Q ⟨O, wa, env, ω, ws, d, ws', st, hf, k⟩ => by
    unfold twoT at hf
    split at hf
    · cases hf
    rename_i x ws1 e1
    split at hf
    · cases hf
    rename_i y ws2 e2
    split at hf
    · cases hf
    rename_i z e3
    cases hf
    refine ⟨O, wa, env, ω, ws, x, _, st, e1, fun v1 H1 st1 sp1 r1 => ?_⟩
    refine ⟨O, wa, env, ω, _, y, _, st1, e2, fun v2 H2 st2 sp2 r2 => ?_⟩
    refine hr O wa env ω _ σ H2 v1 v2 x y (.bl d) _ st2 (r1.mono sp2) r2 (by dsimp only [copD]; rw [e3]) fun v H' sm rz => ?_
    cases rz
    exact ⟨_, rfl, k H' (st2.grow sm) ((sp1.trans sp2).trans (Stp.of sm))⟩
/-- is None -/
def oneT (fa : EvF) (neg : Bool) : EvTF := fun env ws => match fa env ws with
  | none => none
  | some (x, ws1) => some (if neg then !isNone x else isNone x, ws1)
theorem pt_none {neg : Bool} {op : CmpOp} {j : Nat} {p1 : Pos} (ho : op = if neg then .IsNot else .Is) (ha : PE X a (tB T X.K fa)) : PT X (.Compare a [op] [.Constant .none j p1] pos) (tT T X.K (oneT fa neg)) := by
  cases neg
  · have ho : op = .Is := ho
    subst ho
    refine PT.mono (pt_cmpR op_isN ha pe_non (nomark _)) fun σ H Q ⟨O, wa, env, ω, ws, d, ws', st, hf, k⟩ => ?_
    unfold oneT at hf
    split at hf
    · cases hf
    rename_i x ws1 e1
    cases hf
    refine ⟨O, wa, env, ω, ws, x, _, st, e1, fun v1 H1 st1 sp1 r1 => ⟨rfl, _, rfl, ?_⟩⟩
    rw [isNone_rep r1]
    exact k H1 st1 sp1
  · have ho : op = .IsNot := ho
    subst ho
    refine PT.mono (pt_cmpR op_notN ha pe_non (nomark _)) fun σ H Q ⟨O, wa, env, ω, ws, d, ws', st, hf, k⟩ => ?_
    unfold oneT at hf
    split at hf
    · cases hf
    rename_i x ws1 e1
    cases hf
    refine ⟨O, wa, env, ω, ws, x, _, st, e1, fun v1 H1 st1 sp1 r1 => ⟨rfl, _, rfl, ?_⟩⟩
    rw [isNone_rep r1]
    exact k H1 st1 sp1
def oneV (fa : EvF) (neg : Bool) : EvF := fun env ws => match fa env ws with
  | none => none
  | some (x, ws1) => some (.bl (if neg then !isNone x else isNone x), ws1)
theorem pe_none {neg : Bool} {op : CmpOp} {j : Nat} {p1 : Pos} (ho : op = if neg then .IsNot else .Is) (ha : PE X a (tB T X.K fa)) : PE X (.Compare a [op] [.Constant .none j p1] pos) (tE T X.K (oneV fa neg)) := by
  cases neg
  · have ho : op = .Is := ho
    subst ho
    refine PE.mono (pe_cmpR op_isN ha pe_non (nomark _)) fun σ H Q ⟨O, wa, env, ω, ws, d, ws', st, hf, k⟩ => ?_
    unfold oneV at hf
    split at hf
    · cases hf
    rename_i x ws1 e1
    cases hf
    refine ⟨O, wa, env, ω, ws, x, _, st, e1, fun v1 H1 st1 sp1 r1 => ⟨rfl, ?_⟩⟩
    rw [isNone_rep r1]
    exact k _ H1 st1 sp1 (.bl _)
  · have ho : op = .IsNot := ho
    subst ho
    refine PE.mono (pe_cmpR op_notN ha pe_non (nomark _)) fun σ H Q ⟨O, wa, env, ω, ws, d, ws', st, hf, k⟩ => ?_
    unfold oneV at hf
    split at hf
    · cases hf
    rename_i x ws1 e1
    cases hf
    refine ⟨O, wa, env, ω, ws, x, _, st, e1, fun v1 H1 st1 sp1 r1 => ⟨rfl, ?_⟩⟩
    rw [isNone_rep r1]
    exact k _ H1 st1 sp1 (.bl _)
/-! and, or, not, if .. else -/
def notT (fa : EvTF) : EvTF := fun env ws => match fa env ws with
  | none => none
  | some (b, ws1) => some (!b, ws1)
def andT (fa fb : EvTF) : EvTF := fun env ws => match fa env ws with
  | none => none
  | some (t, ws1) => if t then fb env ws1 else some (false, ws1)
def orT (fa fb : EvTF) : EvTF := fun env ws => match fa env ws with
  | none => none
  | some (t, ws1) => if t then some (true, ws1) else fb env ws1
def iteT' (fc fa fb : EvTF) : EvTF := fun env ws => match fc env ws with
  | none => none
  | some (t, ws1) => if t then fa env ws1 else fb env ws1
def iteV (fc : EvTF) (fa fb : EvF) : EvF := fun env ws => match fc env ws with
  | none => none
  | some (t, ws1) => if t then fa env ws1 else fb env ws1
variable {ta tb tc : EvTF} {rest : List Expr}
theorem pt_n (ha : PT X a (tT T X.K ta)) : PT X (.UnaryOp .Not a pos) (tT T X.K (notT ta)) :=
  PT.mono (pt_not ha) fun σ H Q ⟨O, wa, env, ω, ws, d, ws', st, hf, k⟩ => by
    unfold notT at hf
    split at hf
    · cases hf
    rename_i x ws1 e1
    cases hf
    exact ⟨O, wa, env, ω, ws, x, _, st, e1, fun H1 st1 sp1 => k H1 st1 sp1⟩
theorem tAnd_of (σ : L2.St) (H : Hp) (Q : Bool → Hp → Prop) (h : tT T X.K (andT ta tb) σ H Q) : tAnd (tT T X.K ta) (tT T X.K tb) σ H Q := by
  obtain ⟨O, wa, env, ω, ws, d, ws', st, hf, k⟩ := h
  unfold andT at hf
  split at hf
  · cases hf
  rename_i x ws1 e1
  refine ⟨O, wa, env, ω, ws, x, _, st, e1, fun H1 st1 sp1 => ?_⟩
  cases x
  · rw [if_neg (by decide)] at hf ⊢
    cases hf
    exact k H1 st1 sp1
  · rw [if_pos rfl] at hf ⊢
    exact ⟨O, wa, env, ω, _, d, ws', st1, hf, fun H2 st2 sp2 => k H2 st2 (sp1.trans sp2)⟩
theorem tOr_of (σ : L2.St) (H : Hp) (Q : Bool → Hp → Prop) (h : tT T X.K (orT ta tb) σ H Q) : tOr (tT T X.K ta) (tT T X.K tb) σ H Q := by
  obtain ⟨O, wa, env, ω, ws, d, ws', st, hf, k⟩ := h
  unfold orT at hf
  split at hf
  · cases hf
  rename_i x ws1 e1
  refine ⟨O, wa, env, ω, ws, x, _, st, e1, fun H1 st1 sp1 => ?_⟩
  cases x
  · rw [if_neg (by decide)] at hf ⊢
    exact ⟨O, wa, env, ω, _, d, ws', st1, hf, fun H2 st2 sp2 => k H2 st2 (sp1.trans sp2)⟩
  · rw [if_pos rfl] at hf ⊢
    cases hf
    exact k H1 st1 sp1
theorem pw_a1 (ha : PT X a (tT T X.K ta)) : PW X (.BoolOp .And [a] pos) (tT T X.K ta) := pw_and1 ha
theorem pw_o1 (ha : PT X a (tT T X.K ta)) : PW X (.BoolOp .Or [a] pos) (tT T X.K ta) := pw_or1 ha
theorem pw_a (ha : PT X a (tT T X.K ta)) (hb : PW X (.BoolOp .And (b :: rest) pos) (tT T X.K tb)) : PW X (.BoolOp .And (a :: b :: rest) pos) (tT T X.K (andT ta tb)) := PW.mono (pw_and ha hb) tAnd_of
theorem pw_o (ha : PT X a (tT T X.K ta)) (hb : PW X (.BoolOp .Or (b :: rest) pos) (tT T X.K tb)) : PW X (.BoolOp .Or (a :: b :: rest) pos) (tT T X.K (orT ta tb)) := PW.mono (pw_or ha hb) tOr_of
theorem pe_ie (hc : PT X c (tT T X.K tc)) (ha : PE X a (tE T X.K fa)) (hb : PE X b (tE T X.K fb)) : PE X (.IfExp c a b pos) (tE T X.K (iteV tc fa fb)) :=
  PE.mono (pe_ifExp hc ha hb) fun σ H Q ⟨O, wa, env, ω, ws, d, ws', st, hf, k⟩ => by
    unfold iteV at hf
    split at hf
    · cases hf
    rename_i x ws1 e1
    refine ⟨O, wa, env, ω, ws, x, _, st, e1, fun H1 st1 sp1 => ?_⟩
    cases x
    · rw [if_neg (by decide)] at hf ⊢
      exact ⟨O, wa, env, ω, _, d, ws', st1, hf, fun v H2 st2 sp2 r => k v H2 st2 (sp1.trans sp2) r⟩
    · rw [if_pos rfl] at hf ⊢
      exact ⟨O, wa, env, ω, _, d, ws', st1, hf, fun v H2 st2 sp2 r => k v H2 st2 (sp1.trans sp2) r⟩
/-! .. as values -/
def andV (fa fb : EvF) : EvF := fun env ws => match fa env ws with
  | some (.bl true, ws1) => fb env ws1
  | some (.bl false, ws1) => some (.bl false, ws1)
  | _ => none
def orV (fa fb : EvF) : EvF := fun env ws => match fa env ws with
  | some (.bl true, ws1) => some (.bl true, ws1)
  | some (.bl false, ws1) => fb env ws1
  | _ => none
def notV (fa : EvF) : EvF := fun env ws => match fa env ws with
  | some (.bl b, ws1) => some (.bl (!b), ws1)
  | _ => none
theorem pe_av (ha : PE X a (tE T X.K fa)) (hb : PE X (.BoolOp .And (b :: rest) pos) (tE T X.K fb)) : PE X (.BoolOp .And (a :: b :: rest) pos) (tE T X.K (andV fa fb)) :=
  PE.mono (pe_and ha hb) fun σ H Q ⟨O, wa, env, ω, ws, d, ws', st, hf, k⟩ => by
    unfold andV at hf
    split at hf
    · rename_i ws1 e1
      refine ⟨O, wa, env, ω, ws, _, _, st, e1, fun v H1 st1 sp1 r => ?_⟩
      cases r
      refine ⟨true, rfl, ?_⟩
      rw [if_pos rfl]
      exact ⟨O, wa, env, ω, _, d, ws', st1, hf, fun v H2 st2 sp2 r => k v H2 st2 (sp1.trans sp2) r⟩
    · rename_i ws1 e1
      cases hf
      refine ⟨O, wa, env, ω, ws, _, _, st, e1, fun v H1 st1 sp1 r => ?_⟩
      cases r
      refine ⟨false, rfl, ?_⟩
      rw [if_neg (by decide)]
      exact k _ H1 st1 sp1 (.bl _)
    · cases hf
theorem pe_ov (ha : PE X a (tE T X.K fa)) (hb : PE X (.BoolOp .Or (b :: rest) pos) (tE T X.K fb)) : PE X (.BoolOp .Or (a :: b :: rest) pos) (tE T X.K (orV fa fb)) :=
  PE.mono (pe_or ha hb) fun σ H Q ⟨O, wa, env, ω, ws, d, ws', st, hf, k⟩ => by
    unfold orV at hf
    split at hf
    · rename_i ws1 e1
      cases hf
      refine ⟨O, wa, env, ω, ws, _, _, st, e1, fun v H1 st1 sp1 r => ?_⟩
      cases r
      refine ⟨true, rfl, ?_⟩
      rw [if_pos rfl]
      exact k _ H1 st1 sp1 (.bl _)
    · rename_i ws1 e1
      refine ⟨O, wa, env, ω, ws, _, _, st, e1, fun v H1 st1 sp1 r => ?_⟩
      cases r
      refine ⟨false, rfl, ?_⟩
      rw [if_neg (by decide)]
      exact ⟨O, wa, env, ω, _, d, ws', st1, hf, fun v H2 st2 sp2 r => k v H2 st2 (sp1.trans sp2) r⟩
    · cases hf
theorem pe_nv (ha : PE X a (tE T X.K fa)) : PE X (.UnaryOp .Not a pos) (tE T X.K (notV fa)) :=
  PE.mono (pe_not ha) fun σ H Q ⟨O, wa, env, ω, ws, d, ws', st, hf, k⟩ => by
    unfold notV at hf
    split at hf
    · rename_i z ws1 e1
      cases hf
      refine ⟨O, wa, env, ω, ws, _, _, st, e1, fun v H1 st1 sp1 r => ?_⟩
      cases r
      exact ⟨z, rfl, k _ H1 st1 sp1 (.bl _)⟩
    · cases hf
end
end Pv

set_option Elab.async false
set_option linter.all false
set_option maxRecDepth 100000
set_option maxHeartbeats 4000000
/-! Pv7: slots set and wiped, what a loop walks, comprehensions. -/
namespace Pv
open PySem PySem.Spec PyProof.Rows L2

/-! ### slots -/
theorem es_len : ∀ (env : Env) (i : Nat) (s : Slot), (es env i s).length = env.length
  | [], _, _ => rfl
  | _ :: _, 0, _ => rfl
  | _ :: r, i + 1, s => congrArg (· + 1) (es_len r i s)
theorem eg_ne : ∀ (env : Env) (i j : Nat) (s : Slot), j ≠ i → eg (es env i s) j = eg env j
  | [], _, _, _, _ => rfl
  | _ :: _, 0, 0, _, h => absurd rfl h
  | _ :: _, 0, j + 1, _, _ => rfl
  | _ :: _, i + 1, 0, _, _ => rfl
  | _ :: r, i + 1, j + 1, s, h => eg_ne r i j s (fun e => h (by rw [e]))
theorem eg_out : ∀ (env : Env) (i : Nat), env.length ≤ i → eg env i = .un
  | [], _, _ => rfl
  | _ :: r, 0, h => absurd h (by simp)
  | _ :: r, i + 1, h => eg_out r i (Nat.le_of_succ_le_succ h)
theorem eg_eq : ∀ (env : Env) (i : Nat) (s : Slot), i < env.length → eg (es env i s) i = s
  | [], _, _, h => absurd h (by simp)
  | _ :: _, 0, _, _ => rfl
  | _ :: r, i + 1, s, h => eg_eq r i s (Nat.lt_of_succ_lt_succ h)
def om (ω : Nat → Option Addr) (i : Nat) : Nat → Option Addr := fun j => if j = i then none else ω j
theorem om_some {ω : Nat → Option Addr} {i j : Nat} {a : Addr} (h : om ω i j = some a) : ω j = some a ∧ j ≠ i := by
  unfold om at h
  split at h
  · cases h
  · exact ⟨h, by assumption⟩
section
variable {T : Nat → Str} {K : PySem.W.Frag} {O : Addr → Prop} {wa : Option Addr} {env : Env} {ω : Nat → Option Addr} {ws : WS} {σ : L2.St} {H : Hp}
theorem SS_om {i : Nat} {a : Addr} (h : SS O (om ω i) wa a) : SS O ω wa a := by
  rcases h with h | ⟨j, h⟩ | h
  · exact .inl h
  · exact .inr (.inl ⟨j, (om_some h).1⟩)
  · exact .inr (.inr h)
/-- a name is stored -/
theorem StR.set (h : StR T K O wa env ω ws σ H) (i : Nat) {d : D} {v : V} (r : Rep T K wa (hid (SS O ω wa) H) d v) :
    StR T K O wa (es env i (.va d)) (om ω i) ws (σ.set i (some v)) H := by
  have m : Same (hid (SS O ω wa) H) (hid (SS O (om ω i) wa) H) := hid_mono (fun _ _ _ q => q) fun _ => SS_om
  refine ⟨by rw [List.length_set, es_len]; exact h.len, fun j => ?_, fun j a q => ?_, fun j l a q q' => h.inj j l a (om_some q).1 (om_some q').1, h.dom, h.wsr.mono m fun _ _ _ q => q⟩
  · by_cases e : j = i
    · subst e
      by_cases hl : j < env.length
      · rw [eg_eq env j _ hl]
        exact ⟨v, by rw [List.getElem?_set_self (by rw [h.len]; exact hl)], r.mono m⟩
      · rw [eg_out _ _ (by rw [es_len]; omega)]
        trivial
    · rw [eg_ne env i j _ e]
      have q := h.slot j
      cases hs : eg env j with
      | un => trivial
      | va d =>
        rw [hs] at q
        obtain ⟨v, h1, h2⟩ := q
        exact ⟨v, by rw [List.getElem?_set_ne (Ne.symm e)]; exact h1, h2.mono m⟩
      | ow d =>
        rw [hs] at q
        obtain ⟨a, h1, h2, h3⟩ := q
        exact ⟨a, by unfold om; rw [if_neg e]; exact h1, by rw [List.getElem?_set_ne (Ne.symm e)]; exact h2, h3.mono m fun _ q => q⟩
  · obtain ⟨q, e⟩ := om_some q
    rw [eg_ne env i j _ e]
    exact h.own j a q
/-- a name is forgotten, what it owned is hidden -/
theorem StR.forget (h : StR T K O wa env ω ws σ H) (i : Nat) : StR T K (fun a => O a ∨ ω i = some a) wa (es env i .un) (om ω i) ws (σ.set i none) H := by
  have m : Same (hid (SS O ω wa) H) (hid (SS (fun a => O a ∨ ω i = some a) (om ω i) wa) H) := hid_mono (fun _ _ _ q => q) fun a q => by
    rcases q with (q | q) | ⟨j, q⟩ | q
    · exact .inl q
    · exact .inr (.inl ⟨i, q⟩)
    · exact .inr (.inl ⟨j, (om_some q).1⟩)
    · exact .inr (.inr q)
  refine ⟨by rw [List.length_set, es_len]; exact h.len, fun j => ?_, fun j a q => ?_, fun j l a q q' => h.inj j l a (om_some q).1 (om_some q').1, fun a q => ?_, h.wsr.mono m fun _ _ _ q => q⟩
  · by_cases e : j = i
    · subst e
      by_cases hl : j < env.length
      · rw [eg_eq env j _ hl]
        trivial
      · rw [eg_out _ _ (by rw [es_len]; omega)]
        trivial
    · rw [eg_ne env i j _ e]
      have q := h.slot j
      cases hs : eg env j with
      | un => trivial
      | va d =>
        rw [hs] at q
        obtain ⟨v, h1, h2⟩ := q
        exact ⟨v, by rw [List.getElem?_set_ne (Ne.symm e)]; exact h1, h2.mono m⟩
      | ow d =>
        rw [hs] at q
        obtain ⟨a, h1, h2, h3⟩ := q
        exact ⟨a, by unfold om; rw [if_neg e]; exact h1, by rw [List.getElem?_set_ne (Ne.symm e)]; exact h2, h3.mono m fun _ q => q⟩
  · obtain ⟨q, e⟩ := om_some q
    rw [eg_ne env i j _ e]
    have z := h.own j a q
    exact ⟨z.1, fun y => y.elim z.2.1 fun y => e (h.inj j i a q y), z.2.2⟩
  · rcases q with q | q
    · exact h.dom a q
    · exact h.sdom (.inr (.inl ⟨i, q⟩))
def oms (ω : Nat → Option Addr) : List Nat → Nat → Option Addr
  | [] => ω
  | i :: is => om (oms ω is) i
theorem oms_some {ω : Nat → Option Addr} : ∀ {is : List Nat} {j : Nat} {a : Addr}, oms ω is j = some a → ω j = some a ∧ j ∉ is
  | [], _, _, h => ⟨h, by simp⟩
  | i :: is, j, a, h => by
    obtain ⟨h1, h2⟩ := om_some h
    obtain ⟨h3, h4⟩ := oms_some (is := is) h1
    exact ⟨h3, by simp [h2, h4]⟩
theorem StR.iff {O' : Addr → Prop} (h : StR T K O wa env ω ws σ H) (e : ∀ a, O' a ↔ O a) : StR T K O' wa env ω ws σ H := by
  have : O' = O := funext fun a => propext (e a)
  rw [this]; exact h
theorem StR.wipe (h : StR T K O wa env ω ws σ H) : ∀ is : List Nat, StR T K (fun a => O a ∨ ∃ i ∈ is, ω i = some a) wa (wipeE env is) (oms ω is) ws (L2.wipe σ is) H
  | [] => h.iff fun a => by simp
  | i :: is => by
    refine ((h.wipe is).forget i).iff fun a => ?_
    constructor
    · rintro (q | ⟨j, hj, q⟩)
      · exact .inl (.inl q)
      · rcases List.mem_cons.mp hj with e | hj
        · subst e
          by_cases hm : j ∈ is
          · exact .inl (.inr ⟨j, hm, q⟩)
          · refine .inr ?_
            have : ∀ l : List Nat, j ∉ l → oms ω l j = some a := by
              intro l
              induction l with
              | nil => intro _; exact q
              | cons x l ih =>
                intro hl
                simp only [List.mem_cons, not_or] at hl
                show om (oms ω l) x j = some a
                unfold om
                rw [if_neg hl.1]
                exact ih hl.2
            exact this is hm
        · exact .inl (.inr ⟨j, hj, q⟩)
    · rintro ((q | ⟨j, hj, q⟩) | q)
      · exact .inl q
      · exact .inr ⟨j, List.mem_cons_of_mem _ hj, q⟩
      · exact .inr ⟨i, List.mem_cons_self, (oms_some q).1⟩
/-- another heap, the same but for what is hidden from outside, and the record -/
theorem StR.evolve {ws' : WS} {H' : Hp} (h : StR T K O wa env ω ws σ H) (e : ∀ a o, ¬ O a → wa ≠ some a → H a = some o → H' a = some o) (ed : ∀ a, O a → H' a ≠ none) (w : WsR T K (hid (SS O ω wa) H') H' wa ws') :
    StR T K O wa env ω ws' σ H' := by
  have m : Same (hid (SS O ω wa) H) (hid (SS O ω wa) H') := hid_mono (fun a o s q => e a o (fun z => s (.inl z)) (fun z => s (.inr (.inr z))) q) fun _ q => q
  refine ⟨h.len, fun i => ?_, h.own, h.inj, ed, w⟩
  have q := h.slot i
  cases hs : eg env i with
  | un => trivial
  | va d =>
    rw [hs] at q
    obtain ⟨v, h1, h2⟩ := q
    exact ⟨v, h1, h2.mono m⟩
  | ow d =>
    rw [hs] at q
    obtain ⟨a, h1, h2, h3⟩ := q
    exact ⟨a, h1, h2, h3.mono m fun o q => e a o (h.own i a h1).2.1 (h.own i a h1).2.2 q⟩
/-! ### targets -/
def gNames : List Nat → TGs
  | [] => gNil
  | i :: is => gCons (gName i) (gNames is)
def gT (K : PySem.W.Frag) : Tg → TG
  | .nm i => gName i
  | .tp is => gTup K is.length (gNames is)
theorem wipe_set {σ : L2.St} {i : Nat} {x : Option V} : ∀ {vs : List Nat}, i ∈ vs → L2.wipe (σ.set i x) vs = L2.wipe σ vs
  | [], h => by simp at h
  | v :: vs, h => by
    show (L2.wipe (σ.set i x) vs).set v none = (L2.wipe σ vs).set v none
    by_cases hm : i ∈ vs
    · rw [wipe_set hm]
    · have e : i = v := by
        rcases List.mem_cons.mp h with e | h
        · exact e
        · exact absurd h hm
      subst e
      have : ∀ (vs : List Nat) (σ : L2.St), i ∉ vs → L2.wipe (σ.set i x) vs = (L2.wipe σ vs).set i x := by
        intro vs
        induction vs with
        | nil => intro σ _; rfl
        | cons w vs ih =>
          intro σ hw
          simp only [List.mem_cons, not_or] at hw
          show (L2.wipe (σ.set i x) vs).set w none = ((L2.wipe σ vs).set w none).set i x
          rw [ih σ hw.2, List.set_comm _ _ hw.1]
      rw [this vs σ hm, List.set_set]
theorem wipe_idem (σ : L2.St) : ∀ vs : List Nat, L2.wipe (L2.wipe σ vs) vs = L2.wipe σ vs := by
  have key : ∀ (us vs : List Nat) (σ : L2.St), (∀ v ∈ us, v ∈ vs) → L2.wipe (L2.wipe σ us) vs = L2.wipe σ vs := by
    intro us
    induction us with
    | nil => intro vs σ _; rfl
    | cons u us ih =>
      intro vs σ h
      show L2.wipe ((L2.wipe σ us).set u none) vs = L2.wipe σ vs
      rw [wipe_set (h u List.mem_cons_self), ih vs σ fun v hv => h v (List.mem_cons_of_mem _ hv)]
  exact fun vs => key vs vs σ fun _ h => h
theorem setAll_ok {vs0 : List Nat} : ∀ {is : List Nat} {ds : List D} {vs : List V} {env env1 : Env} {ω : Nat → Option Addr} {σ : L2.St} {Q : L2.St → Hp → Prop}, StR T K O wa env ω ws σ H → Reps T K wa (hid (SS O ω wa) H) ds vs → setAll env is ds = some env1 →
    (∀ σ1 ω1, StR T K O wa env1 ω1 ws σ1 H → (∀ j, j ∉ is → ω1 j = ω j) → (∀ j a, ω1 j = some a → ω j = some a) → ((∀ i ∈ is, i ∈ vs0) → L2.wipe σ1 vs0 = L2.wipe σ vs0) → Q σ1 H) → vs.length = is.length ∧ gNames is vs σ H Q
  | [], [], _, env, env1, ω, σ, Q, st, .nil, e, k => by
    cases e
    exact ⟨rfl, rfl, k σ ω st (fun _ _ => rfl) (fun _ _ h => h) fun _ => rfl⟩
  | [], _ :: _, _, _, _, _, _, _, _, _, e, _ => by simp [setAll] at e
  | _ :: _, [], _, _, _, _, _, _, _, _, e, _ => by simp [setAll] at e
  | i :: is, d :: ds, _, env, env1, ω, σ, Q, st, .cons (v := v) (vs := vs) r t, e, k => by
    simp only [setAll] at e
    have st1 := st.set i r
    have m : Same (hid (SS O ω wa) H) (hid (SS O (om ω i) wa) H) := hid_mono (fun _ _ _ q => q) fun _ => SS_om
    have ih := setAll_ok (vs0 := vs0) (Q := Q) st1 (t.mono m) e fun σ1 ω1 st2 h1 h2 h3 => k σ1 ω1 st2 (fun j hj => ?_) (fun j a q => (om_some (h2 j a q)).1) fun hm => ?_
    · exact ⟨by rw [List.length_cons, List.length_cons, ih.1], v, vs, rfl, ih.2⟩
    · simp only [List.mem_cons, not_or] at hj
      rw [h1 j hj.2]
      unfold om
      rw [if_neg hj.1]
    · rw [h3 fun x hx => hm x (List.mem_cons_of_mem _ hx), wipe_set (hm i List.mem_cons_self)]
theorem bindT_ok {vs0 : List Nat} {tg : Tg} {d : D} {v : V} {env1 : Env} {Q : L2.St → Hp → Prop} (st : StR T K O wa env ω ws σ H) (r : Rep T K wa (hid (SS O ω wa) H) d v) (e : bindT env tg d = some env1)
    (k : ∀ σ1 ω1, StR T K O wa env1 ω1 ws σ1 H → (∀ j, j ∉ tgs tg → ω1 j = ω j) → (∀ j a, ω1 j = some a → ω j = some a) → ((∀ i ∈ tgs tg, i ∈ vs0) → L2.wipe σ1 vs0 = L2.wipe σ vs0) → Q σ1 H) : gT K tg v σ H Q := by
  cases tg with
  | nm i =>
    simp only [bindT] at e
    cases e
    refine k _ _ (st.set i r) (fun j hj => ?_) (fun j a q => (om_some q).1) fun hm => wipe_set (hm i (by simp [tgs]))
    unfold om
    rw [if_neg (by simpa [tgs] using hj)]
  | tp is =>
    cases d <;> simp only [bindT] at e <;> try cases e
    cases r with
    | tup h r =>
      have := setAll_ok (vs0 := vs0) (Q := Q) st r e k
      exact ⟨_, _, rfl, (h.mono hid_le).sq, this.1, this.2⟩
end

/-! ### what is walked -/
def ItOk (M : Addr → Prop) (J : It) (vs : List V) (H : Hp) : Prop :=
  ∀ H1, (∀ b o, ¬ M b → H b = some o → H1 b = some o) → ∀ i, (i < vs.length → J.go i H1 ∧ ∀ x H2, J.yld i H1 x H2 → H2 = H1 ∧ vs[i]? = some x) ∧ (vs.length ≤ i → J.stop i H1)
theorem itok_l {K : PySem.W.Frag} {M : Addr → Prop} {a : Addr} {vs : List V} {H : Hp} (h : ∀ H1, (∀ b o, ¬ M b → H b = some o → H1 b = some o) → SqL K H1 a vs) : ItOk M (Itl K a) vs H := fun H1 k i =>
  have q := h H1 k
  ⟨fun hi => ⟨⟨vs, vs[i], q, List.getElem?_eq_getElem hi⟩, fun x H2 y => ⟨y.1, y.2 vs q⟩⟩, fun hi => ⟨vs, q, hi⟩⟩
theorem itok_t {K : PySem.W.Frag} {M : Addr → Prop} {a : Addr} {vs : List V} {H : Hp} (h : ∀ H1, (∀ b o, ¬ M b → H b = some o → H1 b = some o) → SqT K H1 a vs) : ItOk M (Itt K a) vs H := fun H1 k i =>
  have q := h H1 k
  ⟨fun hi => ⟨⟨vs, vs[i], q, List.getElem?_eq_getElem hi⟩, fun x H2 y => ⟨y.1, y.2 vs q⟩⟩, fun hi => ⟨vs, q, hi⟩⟩
def tI (T : Nat → Str) (K : PySem.W.Frag) (fz : Bool) (f : EvF) : TI := fun σ H R => ∃ O wa env ω ws x ds ws', StR T K O wa env ω ws σ H ∧ f env ws = some (x, ws') ∧ itemsOf x = some ds ∧
  ∀ J H' vs, StR T K O wa env ω ws' σ H' → Stp wa H H' → Reps T K wa (hid (SS O ω wa) H') ds vs → ItOk (fun b => if fz then SS O ω wa b else wa = some b) J vs H' → R J H'
section
variable {T : Nat → Str} {X : Cx} {tg e a b : Expr} {fa fb : EvF} {pos p : Pos} {fz : Bool}
theorem PI.or {t t' : TI} (h : PI X tg e t) (h' : PI X tg e t') : PI X tg e (fun σ H R => t σ H R ∨ t' σ H R) :=
  ⟨fun pins s σ H R I q => q.elim (h.run pins s σ H R I) (h'.run pins s σ H R I)⟩
theorem mfz {O : Addr → Prop} {wa : Option Addr} {ω : Nat → Option Addr} {b : Addr} (s : ¬ SS O ω wa b) : ¬ (if fz then SS O ω wa b else wa = some b) := by
  cases fz
  · exact fun z => s (.inr (.inr (by simpa using z)))
  · simpa using s
theorem pi_v (ha : PE X a (if fz then tE T X.K fa else tB T X.K fa)) : PI X tg a (tI T X.K fz fa) :=
  PI.mono (PI.or (pi_list ha) (pi_tup ha)) fun σ H R ⟨O, wa, env, ω, ws, x, ds, ws', st, hf, hi, k⟩ => by
    -- the value, whatever kind it is
    have go : ∀ (W : V → Hp → Prop), (∀ v H', StR T X.K O wa env ω ws' σ H' → Stp wa H H' → (if fz then Rep T X.K wa (hid (SS O ω wa) H') x v else RepB T X.K wa (hid (SS O ω wa) H') H' x v) → W v H') → (if fz then tE T X.K fa else tB T X.K fa) σ H W := by
      intro W w
      cases fz
      · exact ⟨O, wa, env, ω, ws, x, ws', st, hf, fun v H' st' sp r => w v H' st' sp r⟩
      · exact ⟨O, wa, env, ω, ws, x, ws', st, hf, fun v H' st' sp r => w v H' st' sp r⟩
    have tb : ∀ {H' : Hp} {v : V}, (if fz then Rep T X.K wa (hid (SS O ω wa) H') x v else RepB T X.K wa (hid (SS O ω wa) H') H' x v) → RepB T X.K wa (hid (SS O ω wa) H') H' x v := fun h => by
      cases fz
      · exact h
      · exact .inl h
    cases x <;> simp only [itemsOf] at hi <;> cases hi
    · refine .inr (go _ fun v H' st' sp r => ?_)
      obtain ⟨p, vs, rfl, h1, h1', q1⟩ := (tb r).tup
      refine ⟨p, rfl, ⟨vs, h1⟩, k _ H' vs st' sp q1 (itok_t fun H1 kk => ?_)⟩
      rcases h1' with ⟨o, h, nd⟩ | h
      · exact .inl (.inr ⟨o, kk _ _ (mfz (hid_in h).2) (hid_in h).1⟩)
      · exact PlT.sq (H := H1) (.inr h)
    · refine .inl (go _ fun v H' st' sp r => ?_)
      cases fz
      · have r : RepB T X.K wa (hid (SS O ω wa) H') H' _ v := r
        rcases r with r | ⟨p, rfl, nw, vs, h1, q1⟩
        · cases r with
          | lst h q1 =>
            exact ⟨_, rfl, ⟨_, .inl (.inl (hid_in h).1)⟩, k _ H' _ st' sp q1 (itok_l fun H1 kk => .inl (.inl (kk _ _ (mfz (hid_in h).2) (hid_in h).1)))⟩
        · exact ⟨p, rfl, ⟨vs, .inl (.inl h1)⟩, k _ H' vs st' sp q1 (itok_l fun H1 kk => .inl (.inl (kk _ _ (by simpa using nw) h1)))⟩
      · have r : Rep T X.K wa (hid (SS O ω wa) H') _ v := r
        cases r with
        | lst h q1 =>
          exact ⟨_, rfl, ⟨_, .inl (.inl (hid_in h).1)⟩, k _ H' _ st' sp q1 (itok_l fun H1 kk => .inl (.inl (kk _ _ (mfz (hid_in h).2) (hid_in h).1)))⟩
    · refine .inl (go _ fun v H' st' sp r => ?_)
      rcases tb r with r | ⟨p, rfl, nw, r⟩
      · cases r with
        | scr h =>
          refine ⟨_, rfl, ⟨_, Same.seq hid_le h⟩, k _ H' _ st' sp (reps_ints _) (itok_l fun H1 kk => ?_)⟩
          rcases h with (h | ⟨o, h⟩) | h
          · exact .inl (.inl (kk _ _ (mfz (hid_in h).2) (hid_in h).1))
          · exact .inl (.inr ⟨o, kk _ _ (mfz (hid_in h).2) (hid_in h).1⟩)
          · exact .inr h
      · exact r.elim
def rngF (fa : EvF) : EvF := fun env ws => match fa env ws with
  | some (.int j, ws1) => if decide (-100000 ≤ j) && decide (j ≤ 100000) then some (.lst ((List.range j.toNat).map fun k : Nat => .int (0 + (k : Int))), ws1) else none
  | _ => none
def rng2F (fa fb : EvF) : EvF := fun env ws => match fa env ws with
  | some (.int i, ws1) => match fb env ws1 with
    | some (.int j, ws2) => if decide (-100000 ≤ i) && decide (i ≤ 100000) && decide (-100000 ≤ j) && decide (j ≤ 100000) then
        some (.lst ((List.range (j - i).toNat).map fun k : Nat => .int (i + (k : Int))), ws2) else none
    | _ => none
  | _ => none
theorem itok_r {M : Addr → Prop} {lo : Int} {n : Nat} {H : Hp} : ItOk M (Itr lo n) ((List.range n).map fun k : Nat => V.int (lo + (k : Int))) H := fun H1 _ i => by
  rw [List.length_map, List.length_range]
  refine ⟨fun hi => ⟨hi, fun x H2 y => ⟨y.1, ?_⟩⟩, fun hi => hi⟩
  rw [List.getElem?_map, List.getElem?_range hi, y.2]
  rfl
theorem reps_rng {T : Nat → Str} {K : PySem.W.Frag} {wa : Option Addr} {H : Hp} (lo : Int) (l : List Nat) : Reps T K wa H (l.map fun k : Nat => D.int (lo + (k : Int))) (l.map fun k : Nat => V.int (lo + (k : Int))) := by
  induction l with
  | nil => exact .nil
  | cons x l ih => exact .cons (.int _) ih
theorem pi_r1 (hg : Gl X "range") (hm : X.mg "range" = none) (ha : PE X a (tE T X.K fa)) (hs : noStar a = true) : PI X tg (.Call (.Name "range" p) [a] [] pos) (tI T X.K fz (rngF fa)) :=
  PI.mono (pi_range1 hg hm (pa_cons ha pa_nil (star_cons hs _ _)) (star_cons hs _ _)) fun σ H R ⟨O, wa, env, ω, ws, x, ds, ws', st, hf, hi, k⟩ => by
    unfold rngF at hf
    split at hf
    · rename_i j ws1 e1
      split at hf
      · rename_i hb
        rw [Bool.and_eq_true, decide_eq_true_eq, decide_eq_true_eq] at hb
        cases hf
        simp only [itemsOf] at hi
        cases hi
        refine ⟨O, wa, env, ω, ws, _, _, st, e1, fun v H1 st1 sp1 r => ?_⟩
        cases r
        refine ⟨j, rfl, by omega, by omega, k _ H1 _ st1 sp1 (reps_rng 0 _) itok_r⟩
      · cases hf
    · cases hf
theorem pi_r2 (hg : Gl X "range") (hm : X.mg "range" = none) (ha : PE X a (tE T X.K fa)) (hb : PE X b (tE T X.K fb)) (hs : noStar a = true) (hs2 : noStar b = true) : PI X tg (.Call (.Name "range" p) [a, b] [] pos) (tI T X.K fz (rng2F fa fb)) :=
  PI.mono (pi_range2 hg hm (pa_cons ha (pa_cons hb pa_nil (star_cons hs2 _ _)) (star_cons hs _ _)) (by rw [star_cons hs, star_cons hs2]; rfl) (star_cons hs2 _ _)) fun σ H R ⟨O, wa, env, ω, ws, x, ds, ws', st, hf, hi, k⟩ => by
    unfold rng2F at hf
    split at hf
    · rename_i i ws1 e1
      split at hf
      · rename_i j ws2 e2
        split at hf
        · rename_i hb
          rw [Bool.and_eq_true, Bool.and_eq_true, Bool.and_eq_true, decide_eq_true_eq, decide_eq_true_eq, decide_eq_true_eq, decide_eq_true_eq] at hb
          cases hf
          simp only [itemsOf] at hi
          cases hi
          refine ⟨O, wa, env, ω, ws, _, _, st, e1, fun v H1 st1 sp1 r => ?_⟩
          cases r
          refine ⟨O, wa, env, ω, _, _, _, st1, e2, fun v H2 st2 sp2 r => ?_⟩
          cases r
          refine ⟨i, j, rfl, ⟨by omega, by omega, by omega, by omega⟩, k _ H2 _ st2 (sp1.trans sp2) (reps_rng i _) itok_r⟩
        · cases hf
      · cases hf
    · cases hf
end
end Pv

set_option Elab.async false
set_option linter.all false
set_option maxRecDepth 100000
set_option maxHeartbeats 4000000
/-! Pv8: comprehensions, calls of defs. -/
namespace Pv
open PySem PySem.Spec PyProof.Rows L2

def compF (fi : EvF) (ft : EvTF) (fe : EvF) (tg : Tg) : EvF := fun env ws => match fi env ws with
  | none => none
  | some (x, ws1) => match itemsOf x with
    | none => none
    | some ds => if okLen ds.length then match compL ft fe tg (wipeE env (tgs tg)) ds ws1 with
      | none => none
      | some (r, ws2) => some (.lst r, ws2) else none
theorem compL_len {ft : EvTF} {fe : EvF} {tg : Tg} {env : Env} : ∀ {ds : List D} {ws : WS} {r : List D} {ws' : WS}, compL ft fe tg env ds ws = some (r, ws') → r.length ≤ ds.length
  | [], _, _, _, h => by simp only [compL] at h; cases h; exact Nat.le_refl _
  | d :: ds, ws, r, ws', h => by
    simp only [compL] at h
    split at h
    · cases h
    split at h
    · cases h
    · exact Nat.le_succ_of_le (compL_len h)
    · split at h
      · cases h
      split at h
      · cases h
      rename_i e
      cases h
      exact Nat.succ_le_succ (compL_len e)
section
variable {T : Nat → Str} {K : PySem.W.Frag} {fi fe : EvF} {ft : EvTF} {tg : Tg}
theorem lc_read (σ : L2.St) (H : Hp) (Q : VK) (h : tF T K (compF fi ft fe tg) σ H Q) : tLc (tI T K false fi) (gT K tg) (tT T K ft) (tE T K fe) (tgs tg) σ H Q := by
  obtain ⟨O, wa, env, ω, ws, d, ws', st, hf, k⟩ := h
  unfold compF at hf
  split at hf
  · cases hf
  rename_i x ws1 e1
  split at hf
  · cases hf
  rename_i ds e2
  split at hf
  case isFalse => cases hf
  rename_i hlen
  split at hf
  · cases hf
  rename_i res ws2 e3
  cases hf
  refine ⟨O, wa, env, ω, ws, x, ds, ws1, st, e1, e2, fun J H1 vs st1 sp1 rs it D hD => ?_⟩
  have lds := rs.len
  have nwD : wa ≠ some D := fun z => st1.fresh hD (.inr (.inr z))
  have nS := st1.fresh hD
  -- the block's owners
  let O2 : Addr → Prop := fun a => (O a ∨ a = D) ∨ ∃ i ∈ tgs tg, ω i = some a
  have stD : StR T K (fun a => O a ∨ a = D) wa env ω ws1 σ (upd H1 D (.lst [])) := st1.more hD _
  have stB : StR T K O2 wa (wipeE env (tgs tg)) (oms ω (tgs tg)) ws1 (L2.wipe σ (tgs tg)) (upd H1 D (.lst [])) := stD.wipe (tgs tg)
  have seq : ∀ a, SS O2 (oms ω (tgs tg)) wa a ↔ SS (fun a => O a ∨ a = D) ω wa a := fun a => by
    constructor
    · rintro ((q | ⟨i, _, q⟩) | ⟨i, q⟩ | q)
      · exact .inl q
      · exact .inr (.inl ⟨i, q⟩)
      · exact .inr (.inl ⟨i, (oms_some q).1⟩)
      · exact .inr (.inr q)
    · rintro (q | ⟨i, q⟩ | q)
      · exact .inl (.inl q)
      · by_cases hm : i ∈ tgs tg
        · exact .inl (.inr ⟨i, hm, q⟩)
        · refine .inr (.inl ⟨i, ?_⟩)
          have : ∀ l : List Nat, i ∉ l → oms ω l i = some a := by
            intro l
            induction l with
            | nil => intro _; exact q
            | cons x l ih =>
              intro hl
              simp only [List.mem_cons, not_or] at hl
              show om (oms ω l) x i = some a
              unfold om
              rw [if_neg hl.1]
              exact ih hl.2
          exact this _ hm
      · exact .inr (.inr q)
  have hidE : ∀ Hc : Hp, hid (SS O2 (oms ω (tgs tg)) wa) Hc = hid (SS (fun a => O a ∨ a = D) ω wa) Hc := fun Hc => by
    have : SS O2 (oms ω (tgs tg)) wa = SS (fun a => O a ∨ a = D) ω wa := funext fun a => propext (seq a)
    rw [this]
  have rsD : Reps T K wa (hid (SS O2 (oms ω (tgs tg)) wa) (upd H1 D (.lst []))) ds vs := by
    rw [hidE]; exact rs.mono (new_at st1 hD)
  -- the word
  let W : Nat → Nat → Hp → Prop := fun i m Hc => ∃ wsc acc accd rest, StR T K O2 wa (wipeE env (tgs tg)) (oms ω (tgs tg)) wsc (L2.wipe σ (tgs tg)) Hc ∧
    (∀ b o, b ≠ D → wa ≠ some b → H1 b = some o → Hc b = some o) ∧ Hc D = some (.lst acc) ∧ Reps T K wa (hid (SS O2 (oms ω (tgs tg)) wa) Hc) accd acc ∧ accd.length ≤ i ∧
    Reps T K wa (hid (SS O2 (oms ω (tgs tg)) wa) Hc) ds vs ∧
    compL ft fe tg (wipeE env (tgs tg)) (ds.drop i) wsc = some (rest, ws') ∧ accd ++ rest = res ∧ m = ds.length - i ∧ i ≤ ds.length
  refine ⟨W, ⟨ds.length, ws1, [], [], res, stB, fun b o nb _ q => ?_, upd_same, .nil, Nat.le_refl _, rsD, by simpa using e3, rfl, by omega, Nat.zero_le _⟩, ?_⟩
  · rw [upd_ne nb]; exact q
  rintro i m Hc ⟨wsc, acc, accd, rest, stc, keep, hacc, racc, hal, rsc, hc, hres, rfl, hi⟩
  have itc := it Hc (fun b o nM q => keep b o (fun z => by rw [z, hD] at q; cases q) (by simpa using nM) q) i
  by_cases hlt : i < ds.length
  · -- a turn
    obtain ⟨hgo, hyld⟩ := itc.1 (by rw [← lds]; exact hlt)
    refine .inr ⟨hgo, fun H' => ∃ m', m' < ds.length - i ∧ W (i + 1) m' H', fun H' q => q, fun v H2 hy => ?_⟩
    obtain ⟨rfl, hv⟩ := hyld v H2 hy
    have hdrop : ds.drop i = ds[i] :: ds.drop (i + 1) := List.drop_eq_getElem_cons hlt
    rw [hdrop] at hc
    obtain ⟨v', hv', rv⟩ := rsc.get (i := i) (d := ds[i]) (List.getElem?_eq_getElem hlt)
    rw [hv] at hv'
    cases hv'
    simp only [compL] at hc
    split at hc
    · cases hc
    rename_i env1 eb
    refine bindT_ok (vs0 := tgs tg) stc rv eb fun σ1 ω1 st2 h1 h2 h3 => ?_
    refine ⟨by rw [h3 fun _ h => h, wipe_idem], ?_⟩
    have same_om : ω1 = oms ω (tgs tg) := by
      funext j
      by_cases hm : j ∈ tgs tg
      · cases q : oms ω (tgs tg) j with
        | none =>
          cases q2 : ω1 j with
          | none => rfl
          | some a => rw [h2 j a q2] at q; cases q
        | some a => exact absurd hm (oms_some q).2
      · exact h1 j hm
    subst same_om
    -- what the block may own is what it owned
    have back : ∀ {Hn : Hp} {wsn : WS}, StR T K O2 wa env1 (oms ω (tgs tg)) wsn σ1 Hn → Stp wa H2 Hn → StR T K O2 wa (wipeE env (tgs tg)) (oms ω (tgs tg)) wsn (L2.wipe σ (tgs tg)) Hn := fun {Hn wsn} sn sp =>
      stc.evolve (fun a o _ nw q => sp a o nw q) (fun a q => sn.dom a q) sn.wsr
    split at hc
    · cases hc
    · -- the test says no
      rename_i ws3 et
      refine ⟨O2, wa, env1, _, wsc, false, ws3, st2, et, fun H3 st3 sp3 => ?_⟩
      dsimp only
      rw [if_neg (by decide)]
      refine ⟨ds.length - (i + 1), by omega, ws3, acc, accd, rest, back st3 sp3, fun b o nb nw q => sp3 b o nw (keep b o nb nw q), sp3 _ _ nwD hacc, racc.mono sp3.hid, by omega, rsc.mono sp3.hid, hc, hres, rfl, hlt⟩
    · rename_i ws3 et
      split at hc
      · cases hc
      rename_i y ws4 ee
      split at hc
      · cases hc
      rename_i rest' ws5 er
      cases hc
      refine ⟨O2, wa, env1, _, wsc, true, ws3, st2, et, fun H3 st3 sp3 => ?_⟩
      dsimp only
      rw [if_pos rfl]
      refine ⟨O2, wa, env1, _, ws3, y, ws4, st3, ee, fun u H4 st4 sp4 ry => ?_⟩
      have hacc4 : H4 D = some (.lst acc) := sp4 _ _ nwD (sp3 _ _ nwD hacc)
      refine ⟨acc, hacc4, ?_, ?_⟩
      · rw [← racc.len]; exact Nat.lt_of_le_of_lt (Nat.le_trans hal (Nat.le_of_lt hlt)) (len_lt hlen)
      · have sp := sp3.trans sp4
        have st5 := (back st4 sp).wr (p := D) (.lst (acc ++ [u])) (.inl (.inr rfl)) nwD
        have mm : Same (hid (SS O2 (oms ω (tgs tg)) wa) H4) (hid (SS O2 (oms ω (tgs tg)) wa) (upd H4 D (.lst (acc ++ [u])))) := hid_mono (fun a o s q => by rw [upd_ne (fun z => s (by rw [z]; exact .inl (.inl (.inr rfl))))]; exact q) fun _ q => q
        refine ⟨ds.length - (i + 1), by omega, ws4, acc ++ [u], accd ++ [y], rest', st5, fun b o nb nw q => ?_, upd_same, ((racc.mono sp.hid).app (.cons ry .nil)).mono mm, by rw [List.length_append, List.length_singleton]; omega, (rsc.mono sp.hid).mono mm, er, by rw [← hres, List.append_assoc]; rfl, rfl, hlt⟩
        rw [upd_ne nb]
        exact sp b o nw (keep b o nb nw q)
  · -- the end
    have ei : i = ds.length := by omega
    subst ei
    refine .inl ⟨itc.2 (by rw [← lds]; exact Nat.le_refl _), ?_⟩
    rw [List.drop_length] at hc
    simp only [compL] at hc
    cases hc
    rw [List.append_nil] at hres
    subst hres
    refine k D Hc ?_ ?_ nS (st1.back sp1 hD) ⟨acc, hacc, ?_⟩
    · refine stD.evolve (fun a o nO nw q => ?_) (fun a q => stc.dom a (.inl q)) ?_
      · have ne : a ≠ D := fun z => nO (.inr z)
        rw [upd_ne ne] at q
        exact keep a o ne nw q
      · have := stc.wsr
        rw [hidE] at this
        exact this
    · exact fun b o nw q => keep b o (fun z => by rw [← z] at hD; rw [sp1 b o nw q] at hD; cases hD) nw (sp1 b o nw q)
    · rw [hidE] at racc
      exact racc
end
section
variable {T : Nat → Str} {X : Cx} {elt tge iter : Expr} {ifs : List Expr} {scope : Scope} {own : List (Str × Nat)} {pos : Pos} {fi fe : EvF} {ft : EvTF} {tg : Tg}
theorem pe_cm (hc : X.calm = true) (hN : X.N.Nodup) (hi : PI X tge iter (tI T X.K false fi)) (ok : BlkOk X.N X.env.scope scope own) (hown : own.map (·.2) = tgs tg)
    (hg : ∀ (s : Shared) (H : Hp) (C : Addr) (cl : List (Str × Addr)) (fp : List Addr), PG (X.blk s H scope (compEnvC scope cl C X.env) fp) tge (gT X.K tg))
    (ht : ∀ (s : Shared) (H : Hp) (C : Addr) (cl : List (Str × Addr)) (fp : List Addr), PTs (X.blk s H scope (compEnvC scope cl C X.env) fp) ifs (tT T X.K ft))
    (he : ∀ (s : Shared) (H : Hp) (C : Addr) (cl : List (Str × Addr)) (fp : List Addr), PE (X.blk s H scope (compEnvC scope cl C X.env) fp) elt (tE T X.K fe)) (hs : ∀ x, foldedSetIterable iter X.env x = pure x) :
    PE X (.ListComp elt [⟨tge, iter, ifs, 0⟩] scope pos) (tF T X.K (compF fi ft fe tg)) := by
  have := pe_lc (pos := pos) hc hN hi ok hg ht he hs
  rw [hown] at this
  exact PE.mono this lc_read
theorem pts_n : PTs X [] (tT T X.K fun _ ws => some (true, ws)) :=
  ⟨fun pins s σ H Q I h => pts_nil.run pins s σ H Q I (by
    obtain ⟨O, wa, env, ω, ws, d, ws', st, hf, k⟩ := h
    cases hf
    exact k H st (Stp.refl _ _))⟩
end

/-! ### what a def keeps -/
def O2S (O : Addr → Prop) (wa : Option Addr) : Addr → Prop := SS O (fun _ => none) wa
def spO (T : Nat → Str) (K : PySem.W.Frag) (P : Nat → Option Def) (n f : Nat) : Sp := fun vs H Q _ => ∃ O wa ws ds d ws', (∀ a, O a → H a ≠ none) ∧ WsR T K (hid (O2S O wa) H) H wa ws ∧
  Reps T K wa (hid (O2S O wa) H) ds vs ∧ callO P n f ds ws = some (d, ws') ∧
  ∀ v H', Stp wa H H' → WsR T K (hid (O2S O wa) H') H' wa ws' → Rep T K wa (hid (O2S O wa) H') d v → Q v H'
section
variable {T : Nat → Str} {X : Cx} {P : Nat → Option Def} {n f : Nat} {ga : EvAF} {es : List Expr} {e : Expr} {pos p : Pos} {x : Str} {fA : Addr} {fd : FuncData} {ps : List Str}
def callF (Φ : Fns) (f : Nat) (ga : EvAF) : EvF := fun env ws => match ga env ws with
  | none => none
  | some (ds, ws1) => Φ f ds ws1
theorem call_read (σ : L2.St) (H : Hp) (Q : VK) (h : tE T X.K (callF (callO P n) f ga) σ H Q) : tCall (spO T X.K P n f) [] E0 (tA T X.K ga) σ H Q := by
  obtain ⟨O, wa, env, ω, ws, d, ws', st, hf, k⟩ := h
  unfold callF at hf
  split at hf
  · cases hf
  rename_i ds ws1 e1
  refine ⟨O, wa, env, ω, ws, ds, ws1, st, e1, fun vs H1 st1 sp1 r1 => ?_⟩
  dsimp only
  rw [List.append_nil]
  have heq : O2S (fun a => O a ∨ ∃ i, ω i = some a) wa = SS O ω wa := funext fun a => propext ⟨fun q => by
      rcases q with (q | q) | ⟨i, q⟩ | q
      · exact .inl q
      · exact .inr (.inl q)
      · cases q
      · exact .inr (.inr q), fun q => by
      rcases q with q | q | q
      · exact .inl (.inl q)
      · exact .inl (.inr q)
      · exact .inr (.inr q)⟩
  refine ⟨fun a => O a ∨ ∃ i, ω i = some a, wa, ws1, ds, d, ws', fun a q => ?_, ?_, ?_, hf, fun v H2 sp2 w2 r2 => ?_⟩
  · exact st1.sdom (q.elim .inl fun z => .inr (.inl z))
  · rw [heq]; exact st1.wsr
  · rw [heq]; exact r1
  · rw [heq] at w2 r2
    refine k v H2 (st1.evolve (fun a o _ nw q => sp2 a o nw q) (fun a q z => ?_) w2) (sp1.trans sp2) r2
    cases c : H1 a with
    | none => exact st1.dom a q c
    | some o =>
      by_cases nw : wa = some a
      · have := w2
        rw [nw] at this
        cases ws' with
        | none => exact this
        | some kvs =>
          obtain ⟨kv', h1, _⟩ := this
          rw [h1] at z; cases z
      · rw [sp2 a o nw c] at z; cases z
theorem pe_cl (F : FnOk X.prog X.w X.K X.mg X.base CX0 n fA fd ps (spO T X.K P n f)) (hr : Room n X.A) (hg : Gl X x) (hm : X.mg x = some (.ref fA)) (hk : PySem.W.keepIn X.K (.ref fA) = true) (hb : Binds X.K fd ps [])
    (ha : PA X (e :: es) (tA T X.K ga)) (hdb : (x == ("__debug__" : Str)) = false) (hs : noStar e = true) (hss : es.all noStar = true) : PE X (.Call (.Name x p) (e :: es) [] pos) (tE T X.K (callF (callO P n) f ga)) :=
  PE.mono (pe_call F hr hg hm hk hb .nil pass0 ha hdb (star_cons hs _ _) (star_any _ hss)) call_read
end
end Pv

set_option Elab.async false
set_option linter.all false
set_option maxRecDepth 100000
set_option maxHeartbeats 4000000
/-! Pv9: statements. -/
namespace Pv
open PySem PySem.Spec PyProof.Rows L2

/-! ### from one state of a frame to a later one -/
structure Evo (ω : Nat → Option Addr) (wa : Option Addr) (H : Hp) (ω' : Nat → Option Addr) (wa' : Option Addr) (H' : Hp) : Prop where
  keep : ∀ b o, wa ≠ some b → (∀ i, ω i ≠ some b) → H b = some o → H' b = some o
  dom : ∀ b, H b ≠ none → H' b ≠ none
  own : ∀ i a, ω' i = some a → (∃ j, ω j = some a) ∨ H a = none
  rc : ∀ a, wa' = some a → wa = some a ∨ H a = none
  was : wa = none ∨ wa' = wa
theorem Evo.refl (ω : Nat → Option Addr) (wa : Option Addr) (H : Hp) : Evo ω wa H ω wa H := ⟨fun _ _ _ _ h => h, fun _ h => h, fun i _ h => .inl ⟨i, h⟩, fun _ h => .inl h, .inr rfl⟩
theorem Evo.trans {ω ω1 ω2 : Nat → Option Addr} {wa wa1 wa2 : Option Addr} {H H1 H2 : Hp} (a : Evo ω wa H ω1 wa1 H1) (b : Evo ω1 wa1 H1 ω2 wa2 H2) : Evo ω wa H ω2 wa2 H2 := by
  have nn : ∀ {x : Addr}, H1 x = none → H x = none := fun {x} h => by
    cases c : H x with
    | none => rfl
    | some o => exact absurd h (a.dom x (by rw [c]; simp))
  refine ⟨fun x o nw no h => ?_, fun x h => b.dom x (a.dom x h), fun i x h => ?_, fun x h => ?_, ?_⟩
  · refine b.keep x o (fun z => ?_) (fun i z => ?_) (a.keep x o nw no h)
    · rcases a.rc x z with q | q
      · exact nw q
      · rw [h] at q; cases q
    · rcases a.own i x z with ⟨j, q⟩ | q
      · exact no j q
      · rw [h] at q; cases q
  · rcases b.own i x h with ⟨j, q⟩ | q
    · exact a.own j x q
    · exact .inr (nn q)
  · rcases b.rc x h with q | q
    · exact a.rc x q
    · exact .inr (nn q)
  · rcases a.was with q | q
    · exact .inl q
    · rcases b.was with r | r
      · rw [← q]; exact .inl r
      · exact .inr (r.trans q)
theorem Stp.evo {ω : Nat → Option Addr} {wa : Option Addr} {H H' : Hp} (e : Stp wa H H') (hw : ∀ a, wa = some a → H' a ≠ none) : Evo ω wa H ω wa H' := by
  refine ⟨fun b o nw _ h => e b o nw h, fun b h => ?_, fun i _ h => .inl ⟨i, h⟩, fun _ h => .inl h, .inr rfl⟩
  cases c : H b with
  | none => exact absurd c h
  | some o =>
    by_cases nw : wa = some b
    · exact hw b nw
    · rw [e b o nw c]; simp
section
variable {T : Nat → Str} {K : PySem.W.Frag} {O : Addr → Prop} {wa : Option Addr} {env : Env} {ω : Nat → Option Addr} {ws ws' : WS} {σ : L2.St} {H H' : Hp}
theorem StR.evoS (h : StR T K O wa env ω ws' σ H') (e : Stp wa H H') : Evo ω wa H ω wa H' := e.evo fun a z => h.sdom (.inr (.inr z))
theorem es_out : ∀ (env : Env) (i : Nat) (s : Slot), env.length ≤ i → es env i s = env
  | [], _, _, _ => rfl
  | _ :: _, 0, _, h => absurd h (by simp)
  | x :: r, i + 1, s, h => congrArg (x :: ·) (es_out r i s (Nat.le_of_succ_le_succ h))
/-- a name takes an object of its own -/
def ow1 (env : Env) (ω : Nat → Option Addr) (i : Nat) (a : Addr) : Nat → Option Addr := fun j => if j = i then (if i < env.length then some a else none) else ω j
theorem ow1_some {i j : Nat} {a b : Addr} (h : ow1 env ω i a j = some b) : (j = i ∧ i < env.length ∧ a = b) ∨ (j ≠ i ∧ ω j = some b) := by
  unfold ow1 at h
  split at h
  · split at h
    · exact .inl ⟨by assumption, by assumption, Option.some.inj h⟩
    · cases h
  · exact .inr ⟨by assumption, h⟩
theorem StR.take {a : Addr} {d : D} (h : StR T K (fun x => O x ∨ x = a) wa env ω ws σ H) (i : Nat) (ns : ¬ SS O ω wa a) (o : OwnAt T K wa (hid (SS (fun x => O x ∨ x = a) ω wa) H) H d a) :
    StR T K O wa (es env i (.ow d)) (ow1 env ω i a) ws (σ.set i (some (.ref a))) H := by
  have m : Same (hid (SS (fun x => O x ∨ x = a) ω wa) H) (hid (SS O (ow1 env ω i a) wa) H) := hid_mono (fun _ _ _ q => q) fun b q => by
    rcases q with q | ⟨j, q⟩ | q
    · exact .inl (.inl q)
    · rcases ow1_some q with ⟨_, _, e⟩ | ⟨_, e⟩
      · exact .inl (.inr e.symm)
      · exact .inr (.inl ⟨j, e⟩)
    · exact .inr (.inr q)
  refine ⟨by rw [List.length_set, es_len]; exact h.len, fun j => ?_, fun j b q => ?_, fun j l b q q' => ?_, fun b q => h.dom b (.inl q), h.wsr.mono m fun _ _ _ q => q⟩
  · by_cases e : j = i
    · subst e
      by_cases hl : j < env.length
      · rw [eg_eq env j _ hl]
        exact ⟨a, by unfold ow1; rw [if_pos rfl, if_pos hl], by rw [List.getElem?_set_self (by rw [h.len]; exact hl)], o.mono m fun _ q => q⟩
      · rw [eg_out _ _ (by rw [es_len]; omega)]
        trivial
    · rw [eg_ne env i j _ e]
      have q := h.slot j
      cases hs : eg env j with
      | un => trivial
      | va d =>
        rw [hs] at q
        obtain ⟨v, h1, h2⟩ := q
        exact ⟨v, by rw [List.getElem?_set_ne (Ne.symm e)]; exact h1, h2.mono m⟩
      | ow d =>
        rw [hs] at q
        obtain ⟨b, h1, h2, h3⟩ := q
        exact ⟨b, by unfold ow1; rw [if_neg e]; exact h1, by rw [List.getElem?_set_ne (Ne.symm e)]; exact h2, h3.mono m fun _ q => q⟩
  · rcases ow1_some q with ⟨e, hl, rfl⟩ | ⟨e, q⟩
    · subst e
      rw [eg_eq env j _ hl]
      exact ⟨⟨d, rfl⟩, fun z => ns (.inl z), fun z => ns (.inr (.inr z))⟩
    · rw [eg_ne env i j _ e]
      have z := h.own j b q
      exact ⟨z.1, fun y => z.2.1 (.inl y), z.2.2⟩
  · rcases ow1_some q with ⟨e, hl, e2⟩ | ⟨e, q⟩
    · rcases ow1_some q' with ⟨e', _, _⟩ | ⟨e', q'⟩
      · rw [e, e']
      · exact absurd (.inr (.inl ⟨l, by rw [e2]; exact q'⟩)) ns
    · rcases ow1_some q' with ⟨e', _, e2⟩ | ⟨e', q'⟩
      · exact absurd (.inr (.inl ⟨j, by rw [e2]; exact q⟩)) ns
      · exact h.inj j l b q q'
/-- an own object is written -/
theorem StR.put {i : Nat} {a : Addr} {d d' : D} {o : HO} (h : StR T K O wa env ω ws σ H) (hi : ω i = some a) (he : eg env i = .ow d) (own : OwnAt T K wa (hid (SS O ω wa) (upd H a o)) (upd H a o) d' a) :
    StR T K O wa (es env i (.ow d')) ω ws σ (upd H a o) := by
  have hS : SS O ω wa a := .inr (.inl ⟨i, hi⟩)
  have nw := (h.own i a hi).2.2
  have m : Same (hid (SS O ω wa) H) (hid (SS O ω wa) (upd H a o)) := hid_mono (fun b u s q => by rw [upd_ne (fun z => s (by rw [z]; exact hS))]; exact q) fun _ q => q
  have hl : i < env.length := by
    by_cases c : i < env.length
    · exact c
    · rw [eg_out _ _ (by omega)] at he; cases he
  refine ⟨by rw [es_len]; exact h.len, fun j => ?_, fun j b q => ?_, h.inj, fun b q z => ?_, h.wsr.mono m fun b u e q => by rw [upd_ne (fun z => nw (by rw [← z]; exact e))]; exact q⟩
  · by_cases e : j = i
    · subst e
      rw [eg_eq env j _ hl]
      have q := h.slot j
      rw [he] at q
      obtain ⟨b, h1, h2, h3⟩ := q
      rw [hi] at h1
      cases h1
      exact ⟨a, hi, h2, own⟩
    · rw [eg_ne env i j _ e]
      have q := h.slot j
      cases hs : eg env j with
      | un => trivial
      | va d =>
        rw [hs] at q
        obtain ⟨v, h1, h2⟩ := q
        exact ⟨v, h1, h2.mono m⟩
      | ow d =>
        rw [hs] at q
        obtain ⟨b, h1, h2, h3⟩ := q
        exact ⟨b, h1, h2, h3.mono m fun u q => by rw [upd_ne (fun z => e (h.inj j i a (by rw [← z]; exact h1) hi))]; exact q⟩
  · by_cases e : j = i
    · subst e
      rw [eg_eq env j _ hl]
      exact ⟨⟨d', rfl⟩, (h.own j b q).2⟩
    · rw [eg_ne env i j _ e]
      exact h.own j b q
  · by_cases e : b = a
    · subst e; rw [upd_same] at z; cases z
    · rw [upd_ne e] at z; exact h.dom b q z
theorem evo_put {i : Nat} {a : Addr} {o : HO} (hi : ω i = some a) : Evo ω wa H ω wa (upd H a o) :=
  ⟨fun b u _ no q => by rw [upd_ne (fun z => no i (by rw [z]; exact hi))]; exact q, fun b q z => by
    by_cases e : b = a
    · subst e; rw [upd_same] at z; cases z
    · rw [upd_ne e] at z; exact q z, fun j _ h => .inl ⟨j, h⟩, fun _ h => .inl h, .inr rfl⟩
theorem evo_om (i : Nat) : Evo ω wa H (om ω i) wa H := ⟨fun _ _ _ _ h => h, fun _ h => h, fun j _ h => .inl ⟨j, (om_some h).1⟩, fun _ h => .inl h, .inr rfl⟩
theorem evo_sub {ω' : Nat → Option Addr} (h : ∀ j a, ω' j = some a → ω j = some a) : Evo ω wa H ω' wa H := ⟨fun _ _ _ _ h => h, fun _ h => h, fun j a q => .inl ⟨j, h j a q⟩, fun _ h => .inl h, .inr rfl⟩
/-- nothing is one's own any longer -/
theorem StR.frz (h : StR T K O wa env ω ws σ H) : StR T K O wa (frzA env) (fun _ => none) ws σ H := by
  have m : Same (hid (SS O ω wa) H) (hid (SS O (fun _ => none) wa) H) := hid_mono (fun _ _ _ q => q) fun b q => by
    rcases q with q | ⟨j, q⟩ | q
    · exact .inl q
    · cases q
    · exact .inr (.inr q)
  have eg_frz : ∀ (env : Env) (i : Nat), eg (frzA env) i = frzS (eg env i) := by
    intro env
    induction env with
    | nil => intro i; rfl
    | cons s r ih =>
      intro i
      cases i with
      | zero => rfl
      | succ i => exact ih i
  refine ⟨by unfold frzA; rw [List.length_map]; exact h.len, fun i => ?_, fun i a q => (by cases q), fun i j a q => (by cases q), h.dom, h.wsr.mono m fun _ _ _ q => q⟩
  rw [eg_frz]
  have q := h.slot i
  cases hs : eg env i with
  | un => trivial
  | va d =>
    rw [hs] at q
    obtain ⟨v, h1, h2⟩ := q
    exact ⟨v, h1, h2.mono m⟩
  | ow d =>
    rw [hs] at q
    obtain ⟨a, h1, h2, h3⟩ := q
    refine ⟨_, h2, h3.rep m fun o q => hid_of q fun z => ?_⟩
    rcases z with z | ⟨j, z⟩ | z
    · exact (h.own i a h1).2.1 z
    · cases z
    · exact (h.own i a h1).2.2 z
theorem StR.frz1 (h : StR T K O wa env ω ws σ H) (i : Nat) : StR T K O wa (es env i (frzS (eg env i))) (om ω i) ws σ H := by
  have m : Same (hid (SS O ω wa) H) (hid (SS O (om ω i) wa) H) := hid_mono (fun _ _ _ q => q) fun _ => SS_om
  refine ⟨by rw [es_len]; exact h.len, fun j => ?_, fun j a q => ?_, fun j l a q q' => h.inj j l a (om_some q).1 (om_some q').1, h.dom, h.wsr.mono m fun _ _ _ q => q⟩
  · by_cases e : j = i
    · subst e
      by_cases hl : j < env.length
      · rw [eg_eq env j _ hl]
        have q := h.slot j
        cases hs : eg env j with
        | un => trivial
        | va d =>
          rw [hs] at q
          obtain ⟨v, h1, h2⟩ := q
          exact ⟨v, h1, h2.mono m⟩
        | ow d =>
          rw [hs] at q
          obtain ⟨a, h1, h2, h3⟩ := q
          refine ⟨_, h2, h3.rep m fun o q => hid_of q fun z => ?_⟩
          rcases z with z | ⟨l, z⟩ | z
          · exact (h.own j a h1).2.1 z
          · obtain ⟨z1, z2⟩ := om_some z
            exact z2 (h.inj l j a z1 h1)
          · exact (h.own j a h1).2.2 z
      · rw [eg_out _ _ (by rw [es_len]; omega)]
        trivial
    · rw [eg_ne env i j _ e]
      have q := h.slot j
      cases hs : eg env j with
      | un => trivial
      | va d =>
        rw [hs] at q
        obtain ⟨v, h1, h2⟩ := q
        exact ⟨v, h1, h2.mono m⟩
      | ow d =>
        rw [hs] at q
        obtain ⟨a, h1, h2, h3⟩ := q
        exact ⟨a, by unfold om; rw [if_neg e]; exact h1, h2, h3.mono m fun _ q => q⟩
  · obtain ⟨q, e⟩ := om_some q
    rw [eg_ne env i j _ e]
    exact h.own j a q
end

/-! ### what a statement is to reach -/
def KS (T : Nat → Str) (K : PySem.W.Frag) (O : Addr → Prop) (ω : Nat → Option Addr) (wa : Option Addr) (H : Hp) (D : Ends) : Fl → Env → WS → Prop
  | .nx, env', ws' => ∀ σ' H' wa' ω', StR T K O wa' env' ω' ws' σ' H' → Evo ω wa H ω' wa' H' → D.nx σ' H'
  | .br, env', ws' => ∀ σ' H' wa' ω', StR T K O wa' env' ω' ws' σ' H' → Evo ω wa H ω' wa' H' → D.bk σ' H'
  | .ct, env', ws' => ∀ σ' H' wa' ω', StR T K O wa' env' ω' ws' σ' H' → Evo ω wa H ω' wa' H' → D.ct σ' H'
  | .rt d, _, ws' => ∀ v H' wa', Evo ω wa H (fun _ => none) wa' H' → WsR T K (hid (O2S O wa') H') H' wa' ws' → Rep T K wa' (hid (O2S O wa') H') d v → D.rt v H'
theorem KS.trans {T : Nat → Str} {K : PySem.W.Frag} {O : Addr → Prop} {ω ω1 : Nat → Option Addr} {wa wa1 : Option Addr} {H H1 : Hp} {D : Ends} {fl : Fl} {env' : Env} {ws' : WS} (k : KS T K O ω wa H D fl env' ws') (e : Evo ω wa H ω1 wa1 H1) :
    KS T K O ω1 wa1 H1 D fl env' ws' := by
  cases fl with
  | nx => exact fun σ' H' wa' ω' st ev => k σ' H' wa' ω' st (e.trans ev)
  | br => exact fun σ' H' wa' ω' st ev => k σ' H' wa' ω' st (e.trans ev)
  | ct => exact fun σ' H' wa' ω' st ev => k σ' H' wa' ω' st (e.trans ev)
  | rt d => exact fun v H' wa' ev w r => k v H' wa' (e.trans ev) w r
abbrev SF := Env → WS → Out
def tS (T : Nat → Str) (K : PySem.W.Frag) (f : SF) : TS := fun D σ H => ∃ O wa env ω ws fl env' ws', StR T K O wa env ω ws σ H ∧ f env ws = some (fl, env', ws') ∧ KS T K O ω wa H D fl env' ws'
section
variable {T : Nat → Str} {X : Cx} {st : Stmt} {rest : List Stmt} {fe fk fc : EvF} {ft : EvTF} {fs fr : SF} {tg : Tg} {i : Nat} {e : Expr} {pos : Pos}
/-! blocks -/
def seqF (fs fr : SF) : SF := fun env ws => match fs env ws with
  | none => none
  | some (.nx, env1, ws1) => fr env1 ws1
  | some (fl, env1, ws1) => some (fl, env1, ws1)
theorem pss_n : PSs X [] (tS T X.K fun env ws => some (.nx, env, ws)) :=
  PSs.mono pss_nil fun D σ H ⟨O, wa, env, ω, ws, fl, env', ws', s, hf, k⟩ => by
    cases hf
    exact k σ H wa ω s (Evo.refl _ _ _)
theorem pss_c (h1 : PS X st (tS T X.K fs)) (h2 : PSs X rest (tS T X.K fr)) : PSs X (st :: rest) (tS T X.K (seqF fs fr)) :=
  PSs.mono (pss_cons h1 h2) fun D σ H ⟨O, wa, env, ω, ws, fl, env', ws', s, hf, k⟩ => by
    unfold seqF at hf
    split at hf
    · cases hf
    · rename_i env1 ws1 e1
      exact ⟨O, wa, env, ω, ws, .nx, env1, ws1, s, e1, fun σ' H' wa' ω' s' ev => ⟨O, wa', env1, ω', ws1, fl, env', ws', s', hf, k.trans ev⟩⟩
    · rename_i fl1 env1 ws1 hn e1
      cases hf
      refine ⟨O, wa, env, ω, ws, _, _, _, s, e1, ?_⟩
      cases fl with
      | nx => exact absurd rfl hn
      | br => exact k
      | ct => exact k
      | rt d => exact k
/-- a ghost: what stands at a name is its own no longer -/
theorem pss_frz (h2 : PSs X rest (tS T X.K fr)) : PSs X rest (tS T X.K (seqF (fun env ws => some (.nx, es env i (frzS (eg env i)), ws)) fr)) :=
  PSs.mono h2 fun D σ H ⟨O, wa, env, ω, ws, fl, env', ws', s, hf, k⟩ =>
    ⟨O, wa, _, _, ws, fl, env', ws', s.frz1 i, hf, k.trans (evo_om i)⟩
/-! simple ones -/
theorem ps_pa : PS X (.Pass pos) (tS T X.K fun env ws => some (.nx, env, ws)) :=
  PS.mono ps_pass fun D σ H ⟨O, wa, env, ω, ws, fl, env', ws', s, hf, k⟩ => by
    cases hf
    exact k σ H wa ω s (Evo.refl _ _ _)
theorem ps_br : PS X (.Break pos) (tS T X.K fun env ws => some (.br, env, ws)) :=
  PS.mono ps_break fun D σ H ⟨O, wa, env, ω, ws, fl, env', ws', s, hf, k⟩ => by
    cases hf
    exact k σ H wa ω s (Evo.refl _ _ _)
theorem ps_co : PS X (.Continue pos) (tS T X.K fun env ws => some (.ct, env, ws)) :=
  PS.mono ps_continue fun D σ H ⟨O, wa, env, ω, ws, fl, env', ws', s, hf, k⟩ => by
    cases hf
    exact k σ H wa ω s (Evo.refl _ _ _)
theorem ps_bad : PS X st (tS T X.K fun _ _ => none) := PS.mono ps_never fun D σ H ⟨O, wa, env, ω, ws, fl, env', ws', s, hf, k⟩ => by cases hf
def retF (fe : EvF) : SF := fun env ws => match fe (frzA env) ws with
  | none => none
  | some (d, ws1) => some (.rt d, env, ws1)
theorem hid_O2 {O : Addr → Prop} {wa : Option Addr} {H : Hp} : hid (SS O (fun _ => none) wa) H = hid (O2S O wa) H := rfl
theorem ps_re (he : PE X e (tE T X.K fe)) : PS X (.Return (some e) pos) (tS T X.K (retF fe)) :=
  PS.mono (ps_ret he) fun D σ H ⟨O, wa, env, ω, ws, fl, env', ws', s, hf, k⟩ => by
    unfold retF at hf
    split at hf
    · cases hf
    rename_i d ws1 e1
    cases hf
    exact ⟨O, wa, _, _, ws, d, _, s.frz, e1, fun v H' s' sp r => k v H' wa ((evo_sub (fun j a q => by cases q)).trans (s'.evoS sp)) s'.wsr r⟩
theorem ps_rn : PS X (.Return none pos) (tS T X.K fun env ws => some (.rt .non, env, ws)) :=
  PS.mono ps_retN fun D σ H ⟨O, wa, env, ω, ws, fl, env', ws', s, hf, k⟩ => by
    cases hf
    exact k .non H wa (evo_sub (fun j a q => by cases q)) s.frz.wsr .non
def dropF (fe : EvF) : SF := fun env ws => match fe env ws with
  | none => none
  | some (_, ws1) => some (.nx, env, ws1)
theorem ps_dr (he : PE X e (tE T X.K fe)) (hs : swapsWith e none pos.line X.env = pure false) : PS X (.Expr e pos) (tS T X.K (dropF fe)) :=
  PS.mono (ps_expr he hs) fun D σ H ⟨O, wa, env, ω, ws, fl, env', ws', s, hf, k⟩ => by
    unfold dropF at hf
    split at hf
    · cases hf
    rename_i d ws1 e1
    cases hf
    exact ⟨O, wa, _, _, ws, d, _, s, e1, fun v H' s' sp r => k σ H' wa ω s' (s'.evoS sp)⟩
/-! stores -/
def setF (fe : EvF) (tg : Tg) : SF := fun env ws => match fe env ws with
  | none => none
  | some (d, ws1) => match bindT env tg d with
    | none => none
    | some env1 => some (.nx, env1, ws1)
theorem ps_st (h : PS X st (tAsg (tE T X.K fe) (gT X.K tg))) : PS X st (tS T X.K (setF fe tg)) :=
  PS.mono h fun D σ H ⟨O, wa, env, ω, ws, fl, env', ws', s, hf, k⟩ => by
    unfold setF at hf
    split at hf
    · cases hf
    rename_i d ws1 e1
    split at hf
    · cases hf
    rename_i env1 e2
    cases hf
    refine ⟨O, wa, _, _, ws, d, _, s, e1, fun v H' s' sp r => ?_⟩
    exact bindT_ok (vs0 := []) s' r e2 fun σ1 ω1 s1 _ h2 _ => k σ1 H' wa ω1 s1 ((s'.evoS sp).trans (evo_sub h2))
def ownF (fe : EvF) (i : Nat) : SF := fun env ws => match fe env ws with
  | none => none
  | some (d, ws1) => some (.nx, es env i (.ow d), ws1)
theorem evo_take {ω : Nat → Option Addr} {wa : Option Addr} {H H' : Hp} {env : Env} {a : Addr} (i : Nat) (e : Evo ω wa H ω wa H') (n : H a = none) : Evo ω wa H (ow1 env ω i a) wa H' :=
  ⟨e.keep, e.dom, fun j b q => by
    rcases ow1_some q with ⟨_, _, rfl⟩ | ⟨_, q⟩
    · exact .inr n
    · exact .inl ⟨j, q⟩, e.rc, e.was⟩
theorem StR.evoF {T : Nat → Str} {K : PySem.W.Frag} {O : Addr → Prop} {wa : Option Addr} {env : Env} {ω : Nat → Option Addr} {ws : WS} {σ : L2.St} {H H' : Hp} (s : StR T K O wa env ω ws σ H') (e : Stp wa H H') : Evo ω wa H ω wa H' := s.evoS e
theorem ps_ow (h : PS X st (tAsg (tF T X.K fe) (gName i))) : PS X st (tS T X.K (ownF fe i)) :=
  PS.mono h fun D σ H ⟨O, wa, env, ω, ws, fl, env', ws', s, hf, k⟩ => by
    unfold ownF at hf
    split at hf
    · cases hf
    rename_i d ws1 e1
    cases hf
    refine ⟨O, wa, _, _, ws, d, _, s, e1, fun a H' s' sp ns n ow => ?_⟩
    exact k _ H' wa _ (s'.take i ns ow) (evo_take i (s'.evoF sp) n)
end
end Pv

set_option Elab.async false
set_option linter.all false
set_option maxRecDepth 100000
set_option maxHeartbeats 4000000
/-! Pv10: statements that write, branch, loop. -/
namespace Pv
open PySem PySem.Spec PyProof.Rows L2

section
variable {T : Nat → Str} {X : Cx} {st : Stmt} {a b e c : Expr} {rest : List Stmt} {fe fk fc fi : EvF} {ft : EvTF} {fs fr : SF} {tg : Tg} {i : Nat} {pos pos' p : Pos}
/-! ### name op= e -/
def aopO : Bop → Operator := bopO
def aopR : Bop → R2
  | .add => rI0 fun i j => .int (i + j)
  | .sub => rI0 fun i j => .int (i - j)
  | .mul => rI CMul fun i j => .int (i * j)
  | _ => fun _ _ _ _ => False
theorem aop_opr : ∀ o : Bop, PIp X (bopO o) (aopR o)
  | .add => iop_add
  | .sub => iop_sub
  | .mul => iop_mul
  | .fdiv => fun _ _ _ _ _ _ _ _ _ _ _ _ h => h.elim
  | .mod => fun _ _ _ _ _ _ _ _ _ _ _ _ h => h.elim
  | .shl => fun _ _ _ _ _ _ _ _ _ _ _ _ h => h.elim
  | .shr => fun _ _ _ _ _ _ _ _ _ _ _ _ h => h.elim
  | .pow => fun _ _ _ _ _ _ _ _ _ _ _ _ h => h.elim
theorem aop_ok {o : Bop} {x y z : Int} {H : Hp} {Q : VK} (h : aop o x y = some z) (q : Q (.int z) H) : aopR o (.int x) (.int y) H Q := by
  cases o <;> simp only [aop] at h <;> try cases h
  · exact ⟨x, y, rfl, rfl, q⟩
  · exact ⟨x, y, rfl, rfl, q⟩
  · split at h
    · rename_i hl
      cases h
      have := of_decide_eq_true hl
      exact ⟨x, y, rfl, rfl, .inr (by omega), q⟩
    · cases h
def augF (i : Nat) (o : Bop) (fe : EvF) : SF := fun env ws => match eg env i with
  | .va x => match fe env ws with
    | none => none
    | some (y, ws1) => match x, y with
      | .int a, .int b => match aop o a b with
        | none => none
        | some z => some (.nx, es env i (.va (.int z)), ws1)
      | _, _ => none
  | _ => none
theorem ps_au {x : Str} {o : Bop} (hN : X.N.Nodup) (hi : X.N[i]? = some x) (hx : Loc X.env.scope x) (he : PE X e (tE T X.K fe)) (hf : X.fn x = true ∨ X.env.scope.names.lookup x = some .local) :
    PS X (.AugAssign (.Name x pos') (bopO o) e pos) (tS T X.K (augF i o fe)) :=
  PS.mono (ps_aug hN hi hx he (aop_opr o) hf) fun D σ H ⟨O, wa, env, ω, ws, fl, env', ws', s, hf, k⟩ => by
    unfold augF at hf
    split at hf
    · rename_i x hx
      split at hf
      · cases hf
      rename_i y ws1 e1
      split at hf
      · rename_i n m
        split at hf
        · cases hf
        rename_i z e2
        cases hf
        have q := s.slot i
        rw [hx] at q
        obtain ⟨v, h1, h2⟩ := q
        cases h2
        refine ⟨_, h1, O, wa, _, _, ws, _, _, s, e1, fun v H' s' sp r => ?_⟩
        cases r
        exact aop_ok e2 (k _ H' wa _ (s'.set i (.int z)) ((s'.evoS sp).trans (evo_om i)))
      · cases hf
    · cases hf
/-! ### name[k] = e, an own dict -/
theorem swaps_sub (v o i : Expr) (p : Pos) (l : Nat) (env : PySem.Env) : swapsWith v (some (.Subscript o i p)) l env = pure false := by
  cases v <;> rfl
def dputF (i : Nat) (fk fe : EvF) : SF := fun env ws => match fe env ws with
  | none => none
  | some (y, ws1) => match fk env ws1 with
    | none => none
    | some (kd, ws2) => match eg env i with
      | .ow (.dic ks vs) => if isK kd && okLen ks.length then some (.nx, es env i (.ow (.dic (dputK ks kd) (dputV ks vs kd y))), ws2) else none
      | _ => none
theorem ps_dp {o : Expr} (hT : TOk T) (hu : X.A.units + 1 < cLine) (ho : PE X o (tVar i)) (hk : PE X a (tE T X.K fk)) (he : PE X e (tE T X.K fe)) : PS X (.Assign [.Subscript o a pos'] e pos) (tS T X.K (dputF i fk fe)) :=
  PS.mono (ps_dput hu ho hk he (swaps_sub _ _ _ _ _ _)) fun D σ H ⟨O, wa, env, ω, ws, fl, env', ws', s, hf, k⟩ => by
    unfold dputF at hf
    split at hf
    · cases hf
    rename_i y ws1 e1
    split at hf
    · cases hf
    rename_i kd ws2 e2
    split at hf
    · rename_i ks vs hx
      split at hf
      · rename_i hl
        rw [Bool.and_eq_true] at hl
        cases hf
        refine ⟨O, wa, _, _, ws, _, _, s, e1, fun v H1 s1 sp1 r1 => ?_⟩
        have q := s1.slot i
        rw [hx] at q
        obtain ⟨p, h1, h2, kvs, h3, h4, h5⟩ := q
        refine ⟨_, h2, O, wa, _, _, _, _, _, s1, e2, fun u H2 s2 sp2 r2 => ?_⟩
        obtain ⟨q, hq⟩ := isK_key (T := T) hl.1
        have nw := (s1.own i p h1).2.2
        have h3' : H2 p = some (.dK kvs) := sp2 _ _ nw h3
        have eu : u = kV q := key_rep (H := H2) (hH := hid (SS O ω wa) H2) hq (.inl r2)
        subst eu
        have hlen : kvs.length < sizeLine := by
          have := congrArg List.length h4
          rw [List.length_map, List.length_map] at this
          rw [← this]; exact len_lt hl.2
        refine ⟨p, _, rfl, DPut.k h3' hlen, ?_⟩
        have hput := put_ok hT hq (r1.mono sp2.hid) h4 (h5.mono sp2.hid)
        have mm : Same (hid (SS O ω wa) H2) (hid (SS O ω wa) (upd H2 p (.dK (putK kvs q v)))) := hid_mono (fun b o sn qq => by rw [upd_ne (fun z => sn (by rw [z]; exact .inr (.inl ⟨i, h1⟩)))]; exact qq) fun _ q => q
        refine k σ _ wa ω (s2.put (i := i) (o := .dK (putK kvs q v)) h1 hx ⟨_, upd_same, hput.1, hput.2.mono mm⟩) (((s1.evoS sp1).trans (s2.evoS sp2)).trans (evo_put h1))
      · cases hf
    · cases hf
/-! ### the record's fields -/
theorem wp_keys (n : Nat) (d : D) : ∀ kvs : List (Nat × D), (wp kvs n d).map (·.1) = kvs.map (·.1)
  | [] => rfl
  | (k, x) :: r => congrArg (k :: ·) (wp_keys n d r)
theorem wp_ok {T : Nat → Str} (hT : TOk T) {K : PySem.W.Frag} {wa : Option Addr} {H : Hp} {n : Nat} {d : D} {v : V} (hn : n < 128) (rv : Rep T K wa H d v) : ∀ {kvs : List (Nat × D)} {kv' : List (Key × V)}, kvs.map (fun p => (Sum.inr (T p.1) : Key)) = kv'.map (·.1) → (∀ p ∈ kvs, p.1 < 128) →
    Reps T K wa H (kvs.map (·.2)) (kv'.map (·.2)) → Reps T K wa H ((wp kvs n d).map (·.2)) ((kv'.map (fun kv => if kv.1 = Sum.inr (T n) then (kv.1, v) else kv)).map (·.2))
  | [], [], _, _, _ => .nil
  | [], _ :: _, h, _, _ => by simp at h
  | _ :: _, [], h, _, _ => by simp at h
  | (k, x) :: kvs, q :: kv', h, hm, r => by
    simp only [List.map_cons, List.cons.injEq] at h
    cases r with
    | cons r t =>
      have key : (q.1 = Sum.inr (T n)) ↔ k = n := by
        rw [← h.1]
        constructor
        · intro z; exact hT.inj _ _ (hm (k, x) List.mem_cons_self) hn (Sum.inr.inj z)
        · intro z; rw [z]
      have ih := wp_ok hT hn rv h.2 (fun z hz => hm z (List.mem_cons_of_mem _ hz)) t
      unfold wp
      simp only [List.map_cons]
      by_cases c : k = n
      · rw [if_pos c, if_pos (key.mpr c)]
        exact .cons rv ih
      · rw [if_neg c, if_neg (fun z => c (key.mp z))]
        exact .cons r ih
/-- the record takes a field's new value -/
theorem wsr_put {T : Nat → Str} (hT : TOk T) {K : PySem.W.Frag} {hH H : Hp} {a : Addr} {kvs : List (Nat × D)} {n : Nat} {d x : D} {v : V} (w : WsR T K hH H (some a) (some kvs)) (hx : wg kvs n = some x) (rv : Rep T K (some a) hH d v) (hl : kvs.length < sizeLine) :
    ∃ H', DPut H a (.str (T n)) v H' ∧ (∀ b, b ≠ a → H' b = H b) ∧ (∀ hH', Same hH hH' → WsR T K hH' H' (some a) (some (wp kvs n d))) := by
  obtain ⟨kv', h1, h2, h3, h4⟩ := w
  obtain ⟨p, hp, ep⟩ := wg_mem hx
  have hn : n < 128 := by rw [← ep]; exact h3 p hp
  have hl' : kv'.length < sizeLine := by
    have := congrArg List.length h2
    rw [List.length_map, List.length_map] at this
    rw [← this]; exact hl
  refine ⟨_, DPut.k (k := Sum.inr (T n)) h1 hl', fun b ne => upd_ne ne, fun hH' m => ?_⟩
  have hany : (kv'.any fun kv => decide (kv.1 = (Sum.inr (T n) : Key))) = true := by
    rw [List.any_eq_true]
    have : (Sum.inr (T n) : Key) ∈ kv'.map (·.1) := by
      rw [← h2]
      exact List.mem_map.mpr ⟨p, hp, by rw [ep]⟩
    obtain ⟨q, hq, e⟩ := List.mem_map.mp this
    exact ⟨q, hq, decide_eq_true e⟩
  refine ⟨_, upd_same, ?_, fun q hq => ?_, ?_⟩
  · unfold putK
    rw [if_pos hany, List.map_map]
    have e1 : kvs.map (fun p => (Sum.inr (T p.1) : Key)) = (wp kvs n d).map (fun p => (Sum.inr (T p.1) : Key)) := by
      have := congrArg (List.map fun m => (Sum.inr (T m) : Key)) (wp_keys n d kvs)
      rw [List.map_map, List.map_map] at this
      exact this.symm
    rw [← e1, h2]
    refine List.map_congr_left fun p _ => ?_
    show p.1 = (if p.1 = Sum.inr (T n) then (p.1, v) else p).1
    split <;> rfl
  · have : q.1 ∈ kvs.map (·.1) := by
      rw [← wp_keys n d kvs]; exact List.mem_map.mpr ⟨q, hq, rfl⟩
    obtain ⟨z, hz, e⟩ := List.mem_map.mp this
    rw [← e]; exact h3 z hz
  · unfold putK
    rw [if_pos hany]
    exact wp_ok hT hn (rv.mono m) h2 h3 (h4.mono m)
section
variable {T : Nat → Str} {X : Cx} {st : Stmt} {a b e c o : Expr} {rest : List Stmt} {fa fb fe fk fc fi : EvF} {ft : EvTF} {fs fr : SF} {tg : Tg} {i : Nat} {pos pos' p : Pos}
def waugF (i k : Nat) (o : Bop) (fe : EvF) : SF := fun env ws => match eg env i with
  | .va .wd => match ws with
    | none => none
    | some kvs => match wg kvs k with
      | none => none
      | some x => match fe env ws with
        | none => none
        | some (y, ws1) => match x, y, ws1 with
          | .int a, .int b, some kvs1 => if okLen kvs1.length && (wg kvs1 k).isSome then match o with
            | .add => some (.nx, env, some (wp kvs1 k (.int (a + b))))
            | .sub => some (.nx, env, some (wp kvs1 k (.int (a - b))))
            | _ => none
            else none
          | _, _, _ => none
  | _ => none
def rW : Bop → V → V → Hp → VK → Prop
  | .add => rAdd
  | .sub => rSub
  | _ => fun _ _ _ _ => False
theorem rW_in : ∀ o : Bop, InOp X (bopO o) (rW o)
  | .add => in_add
  | .sub => in_sub
  | .mul => fun _ _ _ _ _ _ _ _ _ _ _ _ h => h.elim
  | .fdiv => fun _ _ _ _ _ _ _ _ _ _ _ _ h => h.elim
  | .mod => fun _ _ _ _ _ _ _ _ _ _ _ _ h => h.elim
  | .shl => fun _ _ _ _ _ _ _ _ _ _ _ _ h => h.elim
  | .shr => fun _ _ _ _ _ _ _ _ _ _ _ _ h => h.elim
  | .pow => fun _ _ _ _ _ _ _ _ _ _ _ _ h => h.elim
theorem ps_wa {k : Nat} {op : Bop} {tpos : Pos} (hT : TOk T) (hu : X.A.units + 1 < cLine) (ho : PE X o (tVar i)) (hk : PE X a (tC (.str (T k)))) (he : PE X e (tE T X.K fe))
    (ha : ∀ ov iv new, augStore a ov iv new = (do holding [new, ov, iv] (setItem ov iv new); release [new, ov, iv] []; pure .next)) :
    PS X (.AugAssign (.Subscript o a tpos) (bopO op) e pos) (tS T X.K (waugF i k op fe)) :=
  PS.mono (ps_daug hu ho hk he (rW_in op) ha) fun D σ H ⟨O, wa, env, ω, ws, fl, env', ws', s, hf, kk⟩ => by
    unfold waugF at hf
    split at hf
    · rename_i hx
      split at hf
      · cases hf
      rename_i kvs
      split at hf
      · cases hf
      rename_i x e0
      split at hf
      · cases hf
      rename_i y ws1 e1
      split at hf
      · rename_i n m kvs1
        split at hf
        · rename_i hl
          rw [Bool.and_eq_true] at hl
          have q := s.slot i
          rw [hx] at q
          obtain ⟨v, h1, h2⟩ := q
          cases h2 with
          | @wd wr ea =>
            subst ea
            obtain ⟨kv', g1, g2, g3, g4⟩ := s.wsr
            obtain ⟨p, hp, ep⟩ := wg_mem e0
            have hn : k < 128 := by rw [← ep]; exact g3 p hp
            obtain ⟨u, g5, g6⟩ := wg_ok hT hn g2 g3 g4 e0
            cases g6
            refine ⟨_, h1, wr, .int n, rfl, ?_, O, some wr, _, _, _, _, _, s, e1, fun w1 H3 s3 sp3 r3 => ?_⟩
            · rw [← g5]; exact DGet.k (k := Sum.inr _) g1
            cases r3
            -- the field is still there
            obtain ⟨kv2, f1, f2, f3, f4⟩ := s3.wsr
            have fin : ∀ z : Int, (∃ x, wg kvs1 k = some x) → ((.nx : Fl), env, some (wp kvs1 k (.int z))) = (fl, env', ws') → ∃ H5, DPut H3 wr (.str (T k)) (.int z) H5 ∧ D.nx σ H5 := by
              rintro z ⟨x0, hx0⟩ ez
              cases ez
              obtain ⟨H5, d1, d2, d3⟩ := wsr_put (d := .int z) (v := .int z) hT s3.wsr hx0 (.int z) (len_lt hl.1)
              refine ⟨H5, d1, kk σ H5 (some wr) ω (s3.evolve (fun a o _ nw q => ?_) (fun a q z => ?_) (d3 _ ?_)) ((s3.evoS sp3).trans ⟨fun b o nw _ q => ?_, fun b q z => ?_, fun i _ h => .inl ⟨i, h⟩, fun _ h => .inl h, .inr rfl⟩)⟩
              · rw [d2 a (fun e => nw (by rw [e]))]; exact q
              · by_cases e : a = wr
                · subst e
                  obtain ⟨kk', y1, _⟩ := d3 _ (fun _ _ q => q)
                  rw [y1] at z; cases z
                · rw [d2 a e] at z; exact s3.dom a q z
              · exact hid_mono (fun a o sn q => by rw [d2 a (fun e => sn (.inr (.inr (by rw [e]))))]; exact q) fun _ q => q
              · rw [d2 b (fun e => nw (by rw [e]))]; exact q
              · by_cases e : b = wr
                · subst e
                  obtain ⟨kk', y1, _⟩ := d3 _ (fun _ _ q => q)
                  rw [y1] at z; cases z
                · rw [d2 b e] at z; exact q z
            have there : ∃ x, wg kvs1 k = some x := Option.isSome_iff_exists.mp hl.2
            cases op with
            | add => exact ⟨n, m, rfl, rfl, fin _ there (Option.some.inj hf)⟩
            | sub => exact ⟨n, m, rfl, rfl, fin _ there (Option.some.inj hf)⟩
            | _ => cases hf
        · cases hf
      · cases hf
    · cases hf
end
end
end Pv

set_option Elab.async false
set_option linter.all false
set_option maxRecDepth 100000
set_option maxHeartbeats 4000000
/-! Pv11: the record made, lists grown, several stores at once, if, while, for. -/
namespace Pv
open PySem PySem.Spec PyProof.Rows L2

section
variable {T : Nat → Str} {K : PySem.W.Frag} {H : Hp}
mutual
theorem Rep.wa0 {wa : Option Addr} : ∀ {d : D} {v : V}, Rep T K none H d v → Rep T K wa H d v
  | _, _, .non => .non
  | _, _, .bl b => .bl b
  | _, _, .int i => .int i
  | _, _, .str n => .str n
  | _, _, .tup h r => .tup h (Reps.wa0 r)
  | _, _, .lst h r => .lst h (Reps.wa0 r)
  | _, _, .dic h k r => .dic h k (Reps.wa0 r)
  | _, _, .scr h => .scr h
  | _, _, .wd h => by cases h
theorem Reps.wa0 {wa : Option Addr} : ∀ {d : List D} {v : List V}, Reps T K none H d v → Reps T K wa H d v
  | _, _, .nil => .nil
  | _, _, .cons r t => .cons (Rep.wa0 r) (Reps.wa0 t)
end
theorem OwnAt.wa0 {wa : Option Addr} {hH : Hp} {d : D} {a : Addr} (h : OwnAt T K none hH H d a) : OwnAt T K wa hH H d a := by
  cases d with
  | lst ds =>
    obtain ⟨vs, h1, h2⟩ := h
    exact ⟨vs, h1, h2.wa0⟩
  | dic ks ds =>
    obtain ⟨vs, h1, h2, h3⟩ := h
    exact ⟨vs, h1, h2, h3.wa0⟩
  | _ => exact h.elim
end
section
variable {T : Nat → Str} {X : Cx} {st : Stmt} {a b e c o : Expr} {rest : List Stmt} {fa fb fe fk fc fi : EvF} {ft : EvTF} {fs fr : SF} {tg : Tg} {i : Nat} {pos pos' p cpos apos : Pos}
/-! ### the record -/
def mkwF (i k l : Nat) (fa fb : EvF) : SF := fun env ws => match ws with
  | some _ => none
  | none => match fa env none with
    | some (x, none) => match fb env none with
      | some (y, none) => if decide (k < 128) && decide (l < 128) && !decide (k = l) then some (.nx, es env i (.va .wd), some [(k, x), (l, y)]) else none
      | _ => none
    | _ => none
theorem ps_mw {k l : Nat} (hT : TOk T) (h : PS X st (tAsg (tDisp [(tC (.str (T k)), tE T X.K fa), (tC (.str (T l)), tE T X.K fb)]) (gName i))) : PS X st (tS T X.K (mkwF i k l fa fb)) :=
  PS.mono h fun D σ H ⟨O, wa, env, ω, ws, fl, env', ws', s, hf, kk⟩ => by
    unfold mkwF at hf
    split at hf
    · cases hf
    split at hf
    · rename_i x e1
      split at hf
      · rename_i y e2
        split at hf
        · rename_i hl
          rw [Bool.and_eq_true, Bool.and_eq_true, decide_eq_true_eq, decide_eq_true_eq] at hl
          cases hf
          cases wa with
          | some _ => exact s.wsr.elim
          | none =>
          intro p n
          refine ⟨_, none, env, ω, _, x, _, s.more n _, e1, fun v1 H1 s1 sp1 r1 => ?_⟩
          refine ⟨_, none, env, ω, _, y, _, s1, e2, fun v2 H2 s2 sp2 r2 => ?_⟩
          have ne : T k ≠ T l := fun z => by
            have := hT.inj _ _ hl.1.1 hl.1.2 z
            have h3 := hl.2
            rw [this] at h3
            simp at h3
          have e4 : H2 p = some (.dK []) := sp2 _ _ (by simp) (sp1 _ _ (by simp) upd_same)
          refine ⟨e4, [(.inr (T k), v1), (.inr (T l), v2)], rfl, (show 2 ≤ 15 by decide), ?_⟩
          have em : mergeK [] [((.inr (T k) : Key), v1), (.inr (T l), v2)] = [(.inr (T k), v1), (.inr (T l), v2)] := by
            simp [mergeK, putK, ne]
          rw [em]
          -- the frame's state with the record
          have r1' := r1.mono (sp2.hid (O := fun x => O x ∨ x = p) (ω := ω))
          let H3 := upd H2 p (.dK [((.inr (T k) : Key), v1), (.inr (T l), v2)])
          have m : Same (hid (SS (fun x => O x ∨ x = p) ω none) H2) (hid (SS O (om ω i) (some p)) H3) := hid_mono (fun b o sn q => by
            show upd H2 p _ b = some o
            rw [upd_ne (fun z => sn (.inl (.inr z)))]; exact q) fun b q => by
            rcases q with q | ⟨j, q⟩ | q
            · exact .inl (.inl q)
            · exact .inr (.inl ⟨j, (om_some q).1⟩)
            · exact .inl (.inr (Option.some.inj q).symm)
          have hnS := s.fresh n
          refine kk _ _ (some p) (om ω i) ⟨?_, fun j => ?_, fun j b q => ?_, fun j l b q q' => s2.inj j l b (om_some q).1 (om_some q').1, fun b q z => ?_, ⟨_, upd_same, rfl, fun q hq => ?_, .cons (r1'.wa0.mono m) (.cons (r2.wa0.mono m) .nil)⟩⟩ ?_
          · rw [List.length_set, es_len]; exact s2.len
          · by_cases ej : j = i
            · subst ej
              by_cases hlen : j < env.length
              · rw [eg_eq env j _ hlen]
                exact ⟨_, by rw [List.getElem?_set_self (by rw [s2.len]; exact hlen)], .wd rfl⟩
              · rw [eg_out _ _ (by rw [es_len]; omega)]
                trivial
            · rw [eg_ne env i j _ ej]
              have q := s2.slot j
              cases hs : eg env j with
              | un => trivial
              | va d =>
                rw [hs] at q
                obtain ⟨v, h1, h2⟩ := q
                exact ⟨v, by rw [List.getElem?_set_ne (Ne.symm ej)]; exact h1, (h2.mono m).wa0⟩
              | ow d =>
                rw [hs] at q
                obtain ⟨b, h1, h2, h3⟩ := q
                refine ⟨b, by unfold om; rw [if_neg ej]; exact h1, by rw [List.getElem?_set_ne (Ne.symm ej)]; exact h2, (h3.mono m fun o q => ?_).wa0⟩
                rw [upd_ne (fun z => (s2.own j b h1).2.1 (.inr z))]; exact q
          · obtain ⟨q, ej⟩ := om_some q
            rw [eg_ne env i j _ ej]
            have z := s2.own j b q
            exact ⟨z.1, fun y => z.2.1 (.inl y), fun y => z.2.1 (.inr (Option.some.inj y).symm)⟩
          · by_cases eb : b = p
            · subst eb; rw [upd_same] at z; cases z
            · rw [upd_ne eb] at z; exact s2.dom b (.inl q) z
          · rcases List.mem_cons.mp hq with e | hq
            · rw [e]; exact hl.1.1
            · rcases List.mem_cons.mp hq with e | hq
              · rw [e]; exact hl.1.2
              · cases hq
          · refine ⟨fun b o _ _ q => ?_, fun b q z => ?_, fun j b q => .inl ⟨j, (om_some q).1⟩, fun b q => .inr (by cases q; exact n), .inl rfl⟩
            · rw [upd_ne (ne_of_none q n)]
              exact sp2 b o (by simp) (sp1 b o (by simp) (new_same n b o q))
            · by_cases eb : b = p
              · subst eb; rw [upd_same] at z; cases z
              · rw [upd_ne eb] at z
                cases hb : H b with
                | none => exact q hb
                | some ob =>
                  rw [sp2 b ob (by simp) (sp1 b ob (by simp) (new_same n b ob hb))] at z
                  cases z
        · cases hf
      · cases hf
    · cases hf
/-! ### lists grown -/
theorem few1 {e : Expr} (h : noStar e = true) (cpos : Pos) (env : PySem.Env) : ((backTo cpos (starEach [e] env)).all (fun x => !x.1) && (backToKw cpos (keywordEach [] env)).all (fun x => x.1.isSome)
      && decide (([e] : List Expr).length + ([] : List Keyword).length + (if ([] : List Keyword).isEmpty then 0 else 1) < 30)) = true := by
  rw [star_cons h]; rfl
def appF (i : Nat) (fe : EvF) : SF := fun env ws => match fe env ws with
  | none => none
  | some (y, ws1) => match eg env i with
    | .ow (.lst xs) => if okLen xs.length then some (.nx, es env i (.ow (.lst (xs ++ [y]))), ws1) else none
    | _ => none
theorem ps_ap (ho : PE X o (tVar i)) (he : PE X e (tE T X.K fe)) (nc : noCall o = true) (ns : noStar e = true) (hl : (apos.endLine == cpos.line) = true) (hs : swapsWith (.Call (.Attribute o "append" apos) [e] [] cpos) none pos.line X.env = pure false) :
    PS X (.Expr (.Call (.Attribute o "append" apos) [e] [] cpos) pos) (tS T X.K (appF i fe)) :=
  PS.mono (ps_expr (pe_bm PySem.F.plainAttrs_list PySem.F.slot_list_append PySem.F.type_list_append mt_append ho (pa_cons he pa_nil (star_cons ns _ _)) (attr_plain nc _ _ _) (few1 ns _ _) hl (star_cons ns _ _) rfl) hs) fun D σ H ⟨O, wa, env, ω, ws, fl, env', ws', s, hf, k⟩ => by
    unfold appF at hf
    split at hf
    · cases hf
    rename_i y ws1 e1
    split at hf
    · rename_i xs hx
      split at hf
      · rename_i hl
        cases hf
        have q := s.slot i
        rw [hx] at q
        obtain ⟨p, h1, h2, vs, h3, h4⟩ := q
        have nw := (s.own i p h1).2.2
        refine ⟨_, h2, .inl ⟨rfl, vs, .inl (.inl h3)⟩, O, wa, _, _, ws, _, _, s, e1, fun v H1 s1 sp1 r1 => ?_⟩
        have h3' := sp1 _ _ nw h3
        refine ⟨p, vs, v, rfl, rfl, h3', by rw [← h4.len]; exact len_lt hl, ?_⟩
        have mm : Same (hid (SS O ω wa) H1) (hid (SS O ω wa) (upd H1 p (.lst (vs ++ [v])))) := hid_mono (fun b o sn qq => by rw [upd_ne (fun z => sn (by rw [z]; exact .inr (.inl ⟨i, h1⟩)))]; exact qq) fun _ q => q
        exact k σ _ wa ω (s1.put (i := i) h1 hx ⟨_, upd_same, ((h4.mono sp1.hid).app (.cons r1 .nil)).mono mm⟩) ((s1.evoS sp1).trans (evo_put h1))
      · cases hf
    · cases hf
def extF (i : Nat) (fe : EvF) : SF := fun env ws => match fe env ws with
  | some (.lst ys, ws1) => match eg env i with
    | .ow (.lst xs) => if okLen (xs.length + ys.length) then some (.nx, es env i (.ow (.lst (xs ++ ys))), ws1) else none
    | _ => none
  | _ => none
theorem ps_ex (ho : PE X o (tVar i)) (he : PE X e (tE T X.K fe)) (nc : noCall o = true) (ns : noStar e = true) (hl : (apos.endLine == cpos.line) = true) (hs : swapsWith (.Call (.Attribute o "extend" apos) [e] [] cpos) none pos.line X.env = pure false) :
    PS X (.Expr (.Call (.Attribute o "extend" apos) [e] [] cpos) pos) (tS T X.K (extF i fe)) :=
  PS.mono (ps_expr (pe_bm PySem.F.plainAttrs_list PySem.F.slot_list_extend PySem.F.type_list_extend mt_extend ho (pa_cons he pa_nil (star_cons ns _ _)) (attr_plain nc _ _ _) (few1 ns _ _) hl (star_cons ns _ _) rfl) hs) fun D σ H ⟨O, wa, env, ω, ws, fl, env', ws', s, hf, k⟩ => by
    unfold extF at hf
    split at hf
    · rename_i ys ws1 e1
      split at hf
      · rename_i xs hx
        split at hf
        · rename_i hl
          cases hf
          have q := s.slot i
          rw [hx] at q
          obtain ⟨p, h1, h2, vs, h3, h4⟩ := q
          have nw := (s.own i p h1).2.2
          refine ⟨_, h2, .inl ⟨rfl, vs, .inl (.inl h3)⟩, O, wa, _, _, ws, _, _, s, e1, fun v H1 s1 sp1 r1 => ?_⟩
          have h3' := sp1 _ _ nw h3
          cases r1 with
          | @lst b zs _ hb r2 =>
            refine ⟨p, b, vs, zs, rfl, rfl, h3', (hid_in hb).1, by rw [← h4.len, ← r2.len]; exact len_ok hl, ?_⟩
            have mm : Same (hid (SS O ω wa) H1) (hid (SS O ω wa) (upd H1 p (.lst (vs ++ zs)))) := hid_mono (fun b o sn qq => by rw [upd_ne (fun z => sn (by rw [z]; exact .inr (.inl ⟨i, h1⟩)))]; exact qq) fun _ q => q
            exact k σ _ wa ω (s1.put (i := i) h1 hx ⟨_, upd_same, ((h4.mono sp1.hid).app r2).mono mm⟩) ((s1.evoS sp1).trans (evo_put h1))
        · cases hf
      · cases hf
    · cases hf
def popF (tg : Tg) (i : Nat) : SF := fun env ws => match eg env i with
  | .ow (.lst xs) => match xs.getLast? with
    | none => none
    | some y => match bindT (es env i (.ow (.lst xs.dropLast))) tg y with
      | none => none
      | some env1 => some (.nx, env1, ws)
  | _ => none
theorem ps_po (h : PS X st (tAsg (tBM0 X.K "list" rPop (tVar i)) (gT X.K tg))) : PS X st (tS T X.K (popF tg i)) :=
  PS.mono h fun D σ H ⟨O, wa, env, ω, ws, fl, env', ws', s, hf, k⟩ => by
    unfold popF at hf
    split at hf
    · rename_i xs hx
      split at hf
      · cases hf
      rename_i y e1
      split at hf
      · cases hf
      rename_i env1 e2
      cases hf
      have q := s.slot i
      rw [hx] at q
      obtain ⟨p, h1, h2, vs, h3, h4⟩ := q
      rw [List.getLast?_eq_getElem?] at e1
      obtain ⟨v, g1, g2⟩ := h4.get e1
      refine ⟨_, h2, .inl ⟨rfl, vs, .inl (.inl h3)⟩, p, vs, v, rfl, rfl, h3, by rw [← h4.len]; exact g1, ?_⟩
      have mm : Same (hid (SS O ω wa) H) (hid (SS O ω wa) (upd H p (.lst vs.dropLast))) := hid_mono (fun b o sn qq => by rw [upd_ne (fun z => sn (by rw [z]; exact .inr (.inl ⟨i, h1⟩)))]; exact qq) fun _ q => q
      have s1 := s.put (i := i) (d' := .lst xs.dropLast) (o := .lst vs.dropLast) h1 hx ⟨_, upd_same, h4.dropLast.mono mm⟩
      exact bindT_ok (vs0 := []) s1 (g2.mono mm) e2 fun σ1 ω1 s2 _ hh _ => k σ1 _ wa ω1 s2 ((evo_put h1).trans (evo_sub hh))
    · cases hf
/-! ### if, while, for -/
def iteF (ft : EvTF) (fs fr : SF) : SF := fun env ws => match ft env ws with
  | none => none
  | some (t, ws1) => if t then fs env ws1 else fr env ws1
theorem ps_it {sa sb : List Stmt} (hc : PT X c (tT T X.K ft)) (ha : PSs X sa (tS T X.K fs)) (hb : PSs X sb (tS T X.K fr)) : PS X (.If c sa sb pos) (tS T X.K (iteF ft fs fr)) :=
  PS.mono (ps_if hc ha hb) fun D σ H ⟨O, wa, env, ω, ws, fl, env', ws', s, hf, k⟩ => by
    unfold iteF at hf
    split at hf
    · cases hf
    rename_i t ws1 e1
    refine ⟨O, wa, env, ω, ws, t, ws1, s, e1, fun H1 s1 sp1 => ?_⟩
    have k' := k.trans (s1.evoS sp1)
    cases t
    · dsimp only
      rw [if_neg (by decide)] at hf ⊢
      exact ⟨O, wa, env, ω, ws1, fl, env', ws', s1, hf, k'⟩
    · dsimp only
      rw [if_pos rfl] at hf ⊢
      exact ⟨O, wa, env, ω, ws1, fl, env', ws', s1, hf, k'⟩
theorem ps_wh {sb : List Stmt} {n : Nat} (hp : PassesOwn (model X.prog X.w) X.A X.env X.xe) (hc : PT X c (tT T X.K ft)) (hb : PSs X sb (tS T X.K fs)) : PS X (.While c sb [] pos) (tS T X.K fun env ws => whlN ft fs n env ws) :=
  PS.mono (ps_while hp hc hb) fun D σ H ⟨O, wa, env, ω, ws, fl, env', ws', s, hf, k⟩ => by
    refine ⟨fun m σ1 H1 => ∃ wa1 env1 ω1 ws1, StR T X.K O wa1 env1 ω1 ws1 σ1 H1 ∧ Evo ω wa H ω1 wa1 H1 ∧ whlN ft fs m env1 ws1 = some (fl, env', ws'), ⟨n, wa, env, ω, ws, s, Evo.refl _ _ _, hf⟩, ?_⟩
    rintro m σ1 H1 ⟨wa1, env1, ω1, ws1, s1, ev1, hf1⟩
    cases m with
    | zero => simp [whlN] at hf1
    | succ m =>
      simp only [whlN] at hf1
      split at hf1
      · cases hf1
      · rename_i ws2 e1
        cases hf1
        refine ⟨O, wa1, _, ω1, ws1, false, _, s1, e1, fun H2 s2 sp2 => ?_⟩
        dsimp only
        rw [if_neg (by decide)]
        exact k σ1 H2 wa1 ω1 s2 (ev1.trans (s2.evoS sp2))
      · rename_i ws2 e1
        refine ⟨O, wa1, env1, ω1, ws1, true, ws2, s1, e1, fun H2 s2 sp2 => ?_⟩
        dsimp only
        rw [if_pos rfl]
        have ev2 := ev1.trans (s2.evoS sp2)
        refine ⟨fun σ' H' => ∃ wa1 env1 ω1 ws1, StR T X.K O wa1 env1 ω1 ws1 σ' H' ∧ Evo ω wa H ω1 wa1 H' ∧ whlN ft fs m env1 ws1 = some (fl, env', ws'), fun σ' H' q => ⟨m, Nat.lt_succ_self m, q⟩, ?_⟩
        split at hf1
        · cases hf1
        · rename_i env2 ws3 e2
          exact ⟨O, wa1, env1, ω1, ws2, .nx, env2, ws3, s2, e2, fun σ3 H3 wa3 ω3 s3 ev3 => ⟨wa3, env2, ω3, ws3, s3, ev2.trans ev3, hf1⟩⟩
        · rename_i env2 ws3 e2
          exact ⟨O, wa1, env1, ω1, ws2, .ct, env2, ws3, s2, e2, fun σ3 H3 wa3 ω3 s3 ev3 => ⟨wa3, env2, ω3, ws3, s3, ev2.trans ev3, hf1⟩⟩
        · rename_i env2 ws3 e2
          cases hf1
          exact ⟨O, wa1, env1, ω1, ws2, .br, _, _, s2, e2, fun σ3 H3 wa3 ω3 s3 ev3 => k σ3 H3 wa3 ω3 s3 (ev2.trans ev3)⟩
        · rename_i v env2 ws3 e2
          cases hf1
          exact ⟨O, wa1, env1, ω1, ws2, .rt v, _, _, s2, e2, fun u H3 wa3 ev3 w r => k u H3 wa3 (ev2.trans ev3) w r⟩
def forF (fi : EvF) (tg : Tg) (fs : SF) : SF := fun env ws => match fi env ws with
  | none => none
  | some (x, ws1) => match itemsOf x with
    | none => none
    | some ds => forL fs tg ds env ws1
theorem ps_fo {sb : List Stmt} {tge iter : Expr} (hp : PassesOwn (model X.prog X.w) X.A X.env X.xe) (hc : X.calm = true) (hi : PI X tge iter (tI T X.K true fi)) (hg : PG X tge (gT X.K tg)) (hb : PSs X sb (tS T X.K fs)) (hs : ∀ x, foldedSetIterable iter X.env x = pure x) :
    PS X (.For tge iter sb [] pos) (tS T X.K (forF fi tg fs)) :=
  PS.mono (ps_for hp hc hi hg hb hs) fun D σ H ⟨O, wa, env, ω, ws, fl, env', ws', s, hf, k⟩ => by
    unfold forF at hf
    split at hf
    · cases hf
    rename_i x ws0 e1
    split at hf
    · cases hf
    rename_i ds e2
    refine ⟨O, wa, env, ω, ws, x, ds, ws0, s, e1, e2, fun J H0 vs s0 sp0 rs it => ?_⟩
    have lds := rs.len
    have ev0 := s0.evoS sp0
    let W : Nat → Nat → L2.St → Hp → Prop := fun i m σ1 H1 => m = ds.length - i ∧ i ≤ ds.length ∧ ∃ wa1 env1 ω1 ws1, StR T X.K O wa1 env1 ω1 ws1 σ1 H1 ∧ Evo ω wa H0 ω1 wa1 H1 ∧ (∀ b o, ¬ SS O ω wa b → H0 b = some o → H1 b = some o) ∧
      Reps T X.K wa1 (hid (SS O ω1 wa1) H1) ds vs ∧ forL fs tg (ds.drop i) env1 ws1 = some (fl, env', ws')
    refine ⟨W, ⟨ds.length, by simp, Nat.zero_le _, wa, env, ω, ws0, s0, Evo.refl _ _ _, fun _ _ _ q => q, rs, by simpa using hf⟩, ?_⟩
    rintro i m σ1 H1 ⟨rfl, hi, wa1, env1, ω1, ws1, s1, ev1, keep, rs1, hf1⟩
    have it1 := it H1 (fun b o nM q => keep b o (by simpa using nM) q) i
    by_cases hlt : i < ds.length
    · obtain ⟨hgo, hyld⟩ := it1.1 (by rw [← lds]; exact hlt)
      refine .inr ⟨hgo, fun σ' H' => W (i + 1) (ds.length - (i + 1)) σ' H', fun σ' H' q => ⟨ds.length - (i + 1), by omega, q⟩, fun v H2 hy => ?_⟩
      obtain ⟨rfl, hv⟩ := hyld v H2 hy
      rw [List.drop_eq_getElem_cons hlt] at hf1
      simp only [forL] at hf1
      split at hf1
      · cases hf1
      rename_i env2 eb
      obtain ⟨v', hv', rv⟩ := rs1.get (i := i) (d := ds[i]) (List.getElem?_eq_getElem hlt)
      rw [hv] at hv'
      cases hv'
      refine bindT_ok (vs0 := []) s1 rv eb fun σ2 ω2 s2 _ hh _ => ?_
      have ev2 : Evo ω wa H0 ω2 wa1 H2 := ev1.trans (evo_sub hh)
      have rs2 : Reps T X.K wa1 (hid (SS O ω2 wa1) H2) ds vs := rs1.mono (hid_mono (fun _ _ _ q => q) fun b q => by
        rcases q with q | ⟨j, q⟩ | q
        · exact .inl q
        · exact .inr (.inl ⟨j, hh j b q⟩)
        · exact .inr (.inr q))
      -- what the body leaves as it was
      have next : ∀ {σ3 : L2.St} {H3 : Hp} {wa3 : Option Addr} {ω3 : Nat → Option Addr} {env3 : Env} {ws3 : WS}, StR T X.K O wa3 env3 ω3 ws3 σ3 H3 → Evo ω2 wa1 H2 ω3 wa3 H3 → forL fs tg (ds.drop (i + 1)) env3 ws3 = some (fl, env', ws') → W (i + 1) (ds.length - (i + 1)) σ3 H3 := by
        intro σ3 H3 wa3 ω3 env3 ws3 s3 ev3 hf3
        have ev03 := ev2.trans ev3
        have rs3 : Reps T X.K wa3 (hid (SS O ω3 wa3) H3) ds vs := by
          -- nothing that was visible is hidden now
          have m : Same (hid (SS O ω2 wa1) H2) (hid (SS O ω3 wa3) H3) := fun b o q => by
            obtain ⟨q1, q2⟩ := hid_in q
            refine hid_of (ev3.keep b o (fun z => q2 (.inr (.inr z))) (fun j z => q2 (.inr (.inl ⟨j, z⟩))) q1) fun z => ?_
            rcases z with z | ⟨j, z⟩ | z
            · exact q2 (.inl z)
            · rcases ev3.own j b z with ⟨l, y⟩ | y
              · exact q2 (.inr (.inl ⟨l, y⟩))
              · rw [q1] at y; cases y
            · rcases ev3.rc b z with y | y
              · exact q2 (.inr (.inr y))
              · rw [q1] at y; cases y
          rcases ev3.was with z | z
          · subst z; exact (rs2.mono m).wa0
          · subst z; exact rs2.mono m
        refine ⟨rfl, hlt, wa3, env3, ω3, ws3, s3, ev03, fun b o sn q => ?_, rs3, hf3⟩
        exact ev03.keep b o (fun z => sn (.inr (.inr z))) (fun j z => sn (.inr (.inl ⟨j, z⟩))) q
      split at hf1
      · cases hf1
      · rename_i env3 ws3 e3
        exact ⟨O, wa1, env2, ω2, ws1, .nx, env3, ws3, s2, e3, fun σ3 H3 wa3 ω3 s3 ev3 => next s3 ev3 hf1⟩
      · rename_i env3 ws3 e3
        exact ⟨O, wa1, env2, ω2, ws1, .ct, env3, ws3, s2, e3, fun σ3 H3 wa3 ω3 s3 ev3 => next s3 ev3 hf1⟩
      · rename_i env3 ws3 e3
        cases hf1
        exact ⟨O, wa1, env2, ω2, ws1, .br, _, _, s2, e3, fun σ3 H3 wa3 ω3 s3 ev3 => k σ3 H3 wa3 ω3 s3 (ev0.trans (ev2.trans ev3))⟩
      · rename_i u env3 ws3 e3
        cases hf1
        exact ⟨O, wa1, env2, ω2, ws1, .rt u, _, _, s2, e3, fun v3 H3 wa3 ev3 w r => k v3 H3 wa3 (ev0.trans (ev2.trans ev3)) w r⟩
    · have ei : i = ds.length := by omega
      subst ei
      rw [List.drop_length] at hf1
      simp only [forL] at hf1
      cases hf1
      exact .inl ⟨it1.2 (by rw [← lds]; exact Nat.le_refl _), k σ1 H1 wa1 ω1 s1 (ev0.trans ev1)⟩
end
end Pv

set_option Elab.async false
set_option linter.all false
set_option maxRecDepth 100000
set_option maxHeartbeats 4000000
/-! Pv12: several stores at once. -/
namespace Pv
open PySem PySem.Spec PyProof.Rows L2

def tL (T : Nat → Str) (K : PySem.W.Frag) : List (Bool × EvF) → TA
  | [] => tNil
  | (true, f) :: r => tCons (tF T K f) (tL T K r)
  | (false, f) :: r => tCons (tE T K f) (tL T K r)
def evL : List (Bool × EvF) → EvAF
  | [], _, ws => some ([], ws)
  | (_, f) :: r, env, ws => match f env ws with
    | none => none
    | some (d, ws1) => match evL r env ws1 with
      | none => none
      | some (ds, ws2) => some (d :: ds, ws2)
inductive ParR (T : Nat → Str) (K : PySem.W.Frag) (wa : Option Addr) (hH H : Hp) : List Bool → List D → List V → List Addr → Prop
  | nil : ParR T K wa hH H [] [] [] []
  | va {d : D} {v : V} {bs : List Bool} {ds : List D} {vs : List V} {L : List Addr} : Rep T K wa hH d v → ParR T K wa hH H bs ds vs L → ParR T K wa hH H (false :: bs) (d :: ds) (v :: vs) L
  | ow {d : D} {a : Addr} {bs : List Bool} {ds : List D} {vs : List V} {L : List Addr} : OwnAt T K wa hH H d a → a ∉ L → ParR T K wa hH H bs ds vs L → ParR T K wa hH H (true :: bs) (d :: ds) (.ref a :: vs) (a :: L)
section
variable {T : Nat → Str} {K : PySem.W.Frag} {O : Addr → Prop} {wa : Option Addr} {env : Env} {ω : Nat → Option Addr} {ws ws' : WS} {σ : L2.St} {H H' hH hH' : Hp}
theorem ParR.mono (e : Same hH hH') : ∀ {bs : List Bool} {ds : List D} {vs : List V} {L : List Addr}, ParR T K wa hH H bs ds vs L → ParR T K wa hH' H bs ds vs L
  | _, _, _, _, .nil => .nil
  | _, _, _, _, .va r t => .va (r.mono e) (ParR.mono e t)
  | _, _, _, _, .ow o n t => .ow (o.mono e fun _ q => q) n (ParR.mono e t)
theorem tL_ok : ∀ {l : List (Bool × EvF)} {O : Addr → Prop} {ws : WS} {H : Hp} {ds : List D} {ws' : WS} {Q : List V → Hp → Prop}, StR T K O wa env ω ws σ H → evL l env ws = some (ds, ws') →
    (∀ vs L H', StR T K (fun x => O x ∨ x ∈ L) wa env ω ws' σ H' → Stp wa H H' → (∀ a ∈ L, H a = none ∧ ¬ SS O ω wa a) → ParR T K wa (hid (SS (fun x => O x ∨ x ∈ L) ω wa) H') H' (l.map (·.1)) ds vs L → Q vs H') → tL T K l σ H Q
  | [], O, ws, H, ds, ws', Q, st, e, k => by
    simp only [evL] at e
    cases e
    exact k [] [] H (st.iff fun a => by simp) (Stp.refl _ _) (by simp) .nil
  | (true, f) :: r, O, ws, H, ds, ws', Q, st, e, k => by
    simp only [evL] at e
    split at e
    · cases e
    rename_i d ws1 e1
    split at e
    · cases e
    rename_i ds' ws2 e2
    cases e
    refine ⟨O, wa, env, ω, ws, d, ws1, st, e1, fun a H1 st1 sp1 ns hn ow => ?_⟩
    refine tL_ok (l := r) st1 e2 fun vs L H2 st2 sp2 hL p => ?_
    have nwa : wa ≠ some a := fun z => ns (.inr (.inr z))
    have eqO : ∀ x, ((O x ∨ x = a) ∨ x ∈ L) ↔ (O x ∨ x ∈ a :: L) := fun x => by
      rw [List.mem_cons]
      constructor
      · rintro ((q | q) | q)
        · exact .inl q
        · exact .inr (.inl q)
        · exact .inr (.inr q)
      · rintro (q | q | q)
        · exact .inl (.inl q)
        · exact .inl (.inr q)
        · exact .inr q
    have eqS : (fun x => (O x ∨ x = a) ∨ x ∈ L) = fun x => O x ∨ x ∈ a :: L := funext fun x => propext (eqO x)
    rw [eqS] at st2 p
    refine k (.ref a :: vs) (a :: L) H2 st2 (sp1.trans sp2) (fun b hb => ?_) (.ow (ow.mono ?_ fun o q => sp2 a o nwa q) (fun hm => (hL a hm).2 (.inl (.inr rfl))) p)
    · rcases List.mem_cons.mp hb with e | hb
      · rw [e]; exact ⟨hn, ns⟩
      · exact ⟨st1.back sp1 (hL b hb).1, fun z => (hL b hb).2 z.weak⟩
    · intro x o q
      obtain ⟨q1, q2⟩ := hid_in q
      refine hid_of (sp2 x o (fun z => q2 (.inr (.inr z))) q1) fun z => ?_
      rcases z with (z | z) | z
      · exact q2 (.inl (.inl z))
      · rcases List.mem_cons.mp z with z | z
        · exact q2 (.inl (.inr z))
        · rw [(hL x z).1] at q1; cases q1
      · exact q2 (.inr z)
  | (false, f) :: r, O, ws, H, ds, ws', Q, st, e, k => by
    simp only [evL] at e
    split at e
    · cases e
    rename_i d ws1 e1
    split at e
    · cases e
    rename_i ds' ws2 e2
    cases e
    refine ⟨O, wa, env, ω, ws, d, ws1, st, e1, fun v H1 st1 sp1 rv => ?_⟩
    refine tL_ok (l := r) st1 e2 fun vs L H2 st2 sp2 hL p => ?_
    refine k (v :: vs) L H2 st2 (sp1.trans sp2) (fun b hb => ⟨st1.back sp1 (hL b hb).1, (hL b hb).2⟩) (.va (rv.mono ?_) p)
    intro x o q
    obtain ⟨q1, q2⟩ := hid_in q
    refine hid_of (sp2 x o (fun z => q2 (.inr (.inr z))) q1) fun z => ?_
    rcases z with (z | z) | z
    · exact q2 (.inl z)
    · rw [(hL x z).1] at q1; cases q1
    · exact q2 (.inr z)
def setS : L2.St → List Nat → List V → L2.St
  | σ, i :: is, v :: vs => setS (σ.set i (some v)) is vs
  | σ, _, _ => σ
theorem par_set : ∀ {is : List (Nat × Bool)} {ds : List D} {vs : List V} {L : List Addr} {env env1 : Env} {ω : Nat → Option Addr} {σ : L2.St}, StR T K (fun x => O x ∨ x ∈ L) wa env ω ws σ H → (∀ a ∈ L, ¬ SS O ω wa a) →
    ParR T K wa (hid (SS (fun x => O x ∨ x ∈ L) ω wa) H) H (is.map (·.2)) ds vs L → setPar env is ds = some env1 →
    vs.length = is.length ∧ ∃ ω1, StR T K O wa env1 ω1 ws (setS σ (is.map (·.1)) vs) H ∧ ∀ j a, ω1 j = some a → (∃ i, ω i = some a) ∨ a ∈ L
  | [], _, _, _, env, env1, ω, σ, st, hL, .nil, e => by
    simp only [setPar] at e
    cases e
    exact ⟨rfl, ω, st.iff fun a => by simp, fun j a q => .inl ⟨j, q⟩⟩
  | (i, false) :: is, _, _, L, env, env1, ω, σ, st, hL, .va r p, e => by
    simp only [setPar] at e
    have st1 := st.set i r
    have m : Same (hid (SS (fun x => O x ∨ x ∈ L) ω wa) H) (hid (SS (fun x => O x ∨ x ∈ L) (om ω i) wa) H) := hid_mono (fun _ _ _ q => q) fun _ => SS_om
    obtain ⟨h1, ω1, h2, h3⟩ := par_set st1 (fun a ha z => hL a ha (SS_om z)) (p.mono m) e
    refine ⟨by rw [List.length_cons, List.length_cons, h1], ω1, h2, fun j a q => ?_⟩
    rcases h3 j a q with ⟨l, z⟩ | z
    · exact .inl ⟨l, (om_some z).1⟩
    · exact .inr z
  | (i, true) :: is, ds0, vs0, L0, env, env1, ω, σ, st, hL, p0, e => by
    have p0 : ParR T K wa (hid (SS (fun x => O x ∨ x ∈ L0) ω wa) H) H (true :: is.map (·.2)) ds0 vs0 L0 := p0
    cases p0 with
    | @ow d a _ ds vs L o n p =>
    simp only [setPar] at e
    have eqS : (fun x => O x ∨ x ∈ a :: L) = fun x => (O x ∨ x ∈ L) ∨ x = a := funext fun x => propext (by
      rw [List.mem_cons]
      constructor
      · rintro (q | q | q)
        · exact .inl (.inl q)
        · exact .inr q
        · exact .inl (.inr q)
      · rintro ((q | q) | q)
        · exact .inl q
        · exact .inr (.inr q)
        · exact .inr (.inl q))
    rw [eqS] at st o p
    have nS : ¬ SS (fun x => O x ∨ x ∈ L) ω wa a := fun z => by
      rcases z with (z | z) | z
      · exact hL a List.mem_cons_self (.inl z)
      · exact n z
      · exact hL a List.mem_cons_self (.inr z)
    have st1 := st.take i nS o
    have m : Same (hid (SS (fun x => (O x ∨ x ∈ L) ∨ x = a) ω wa) H) (hid (SS (fun x => O x ∨ x ∈ L) (ow1 env ω i a) wa) H) := hid_mono (fun _ _ _ q => q) fun b q => by
      rcases q with q | ⟨j, q⟩ | q
      · exact .inl (.inl q)
      · rcases ow1_some q with ⟨_, _, e⟩ | ⟨_, e⟩
        · exact .inl (.inr e.symm)
        · exact .inr (.inl ⟨j, e⟩)
      · exact .inr (.inr q)
    obtain ⟨h1, ω1, h2, h3⟩ := par_set st1 (fun b hb z => by
      rcases z with z | ⟨j, z⟩ | z
      · exact hL b (List.mem_cons_of_mem _ hb) (.inl z)
      · rcases ow1_some z with ⟨_, _, e⟩ | ⟨_, e⟩
        · rw [← e] at hb; exact n hb
        · exact hL b (List.mem_cons_of_mem _ hb) (.inr (.inl ⟨j, e⟩))
      · exact hL b (List.mem_cons_of_mem _ hb) (.inr (.inr z))) (p.mono m) e
    refine ⟨by rw [List.length_cons, List.length_cons, h1], ω1, h2, fun j b q => ?_⟩
    rcases h3 j b q with ⟨l, z⟩ | z
    · rcases ow1_some z with ⟨_, _, e⟩ | ⟨_, e⟩
      · exact .inr (by rw [← e]; exact List.mem_cons_self)
      · exact .inl ⟨l, e⟩
    · exact .inr (List.mem_cons_of_mem _ z)
theorem gNames_set {Q : L2.St → Hp → Prop} : ∀ {is : List Nat} {vs : List V} {σ : L2.St}, vs.length = is.length → Q (setS σ is vs) H → gNames is vs σ H Q
  | [], [], σ, _, q => ⟨rfl, q⟩
  | [], _ :: _, _, h, _ => by simp at h
  | _ :: _, [], _, h, _ => by simp at h
  | i :: is, v :: vs, σ, h, q => ⟨v, vs, rfl, gNames_set (by simpa using h) q⟩
end
section
variable {T : Nat → Str} {X : Cx} {st : Stmt} {l : List (Bool × EvF)} {is : List (Nat × Bool)}
def parF (is : List (Nat × Bool)) (ga : EvAF) : SF := fun env ws => match ga env ws with
  | none => none
  | some (ds, ws1) => match setPar env is ds with
    | none => none
    | some env1 => some (.nx, env1, ws1)
theorem par_read {D : Ends} {σ : L2.St} {H : Hp} (hb : l.map (·.1) = is.map (·.2)) (h : tS T X.K (parF is (evL l)) D σ H) :
    tL T X.K l σ H fun vs H1 => vs.length = is.length ∧ (∀ p, H1 p = none → D.nx (setS σ (is.map (·.1)) vs) (upd H1 p (.tup vs))) ∧ D.nx (setS σ (is.map (·.1)) vs) H1 := by
  obtain ⟨O, wa, env, ω, ws, fl, env', ws', s, hf, k⟩ := h
  unfold parF at hf
  split at hf
  · cases hf
  rename_i ds ws1 e1
  split at hf
  · cases hf
  rename_i env1 e2
  cases hf
  refine tL_ok s e1 fun vs L H1 s1 sp1 hL p => ?_
  rw [hb] at p
  obtain ⟨h1, ω1, h2, h3⟩ := par_set s1 (fun a ha => (hL a ha).2) p e2
  have ev : Evo ω wa H ω1 wa H1 := by
    have e0 := s1.evoS sp1
    exact ⟨e0.keep, e0.dom, fun j a q => (h3 j a q).elim .inl fun z => .inr (hL a z).1, e0.rc, e0.was⟩
  refine ⟨h1, fun q n => ?_, k _ H1 wa ω1 h2 ev⟩
  exact k _ _ wa ω1 (h2.grow (new_same n)) (ev.trans ⟨fun b o _ _ q => new_same n b o q, fun b q z => q ((new_same n).free z), fun i _ h => .inl ⟨i, h⟩, fun _ h => .inl h, .inr rfl⟩)
theorem ps_p2 {i j : Nat} {b1 b2 : Bool} {f1 f2 : EvF} (h : PS X st (tPar i j (tL T X.K [(b1, f1), (b2, f2)]))) : PS X st (tS T X.K (parF [(i, b1), (j, b2)] (evL [(b1, f1), (b2, f2)]))) :=
  PS.mono h fun D σ H q => by
    have := par_read (T := T) (X := X) (l := [(b1, f1), (b2, f2)]) (is := [(i, b1), (j, b2)]) rfl q
    refine tL_mono this fun vs H1 ⟨h1, _, h3⟩ => ?_
    obtain ⟨v, w, rfl⟩ : ∃ v w, vs = [v, w] := by
      cases vs with
      | nil => simp at h1
      | cons v r => cases r with
        | nil => simp at h1
        | cons w r => cases r with
          | nil => exact ⟨v, w, rfl⟩
          | cons _ _ => simp at h1
    exact ⟨v, w, rfl, h3⟩
where
  tL_mono : ∀ {T : Nat → Str} {K : PySem.W.Frag} {l : List (Bool × EvF)} {σ : L2.St} {H : Hp} {Q Q' : List V → Hp → Prop}, tL T K l σ H Q → (∀ vs H', Q vs H' → Q' vs H') → tL T K l σ H Q'
  | _, _, [], _, _, _, _, h, m => m _ _ h
  | T, K, (true, f) :: r, σ, H, Q, Q', h, m => by
    obtain ⟨O, wa, env, ω, ws, d, ws', st, hf, k⟩ := h
    exact ⟨O, wa, env, ω, ws, d, ws', st, hf, fun a H' s1 s2 s3 s4 s5 => tL_mono (k a H' s1 s2 s3 s4 s5) fun vs H2 q => m _ _ q⟩
  | T, K, (false, f) :: r, σ, H, Q, Q', h, m => by
    obtain ⟨O, wa, env, ω, ws, d, ws', st, hf, k⟩ := h
    exact ⟨O, wa, env, ω, ws, d, ws', st, hf, fun a H' s1 s2 s3 => tL_mono (k a H' s1 s2 s3) fun vs H2 q => m _ _ q⟩
theorem ps_p3 {i j m : Nat} {b1 b2 b3 : Bool} {f1 f2 f3 : EvF} (h : PS X st (tPar3 i j m (tL T X.K [(b1, f1), (b2, f2), (b3, f3)]))) : PS X st (tS T X.K (parF [(i, b1), (j, b2), (m, b3)] (evL [(b1, f1), (b2, f2), (b3, f3)]))) :=
  PS.mono h fun D σ H q => by
    have := par_read (T := T) (X := X) (l := [(b1, f1), (b2, f2), (b3, f3)]) (is := [(i, b1), (j, b2), (m, b3)]) rfl q
    refine ps_p2.tL_mono this fun vs H1 ⟨h1, _, h3⟩ => ?_
    obtain ⟨v, w, z, rfl⟩ : ∃ v w z, vs = [v, w, z] := by
      cases vs with
      | nil => simp at h1
      | cons v r => cases r with
        | nil => simp at h1
        | cons w r => cases r with
          | nil => simp at h1
          | cons z r => cases r with
            | nil => exact ⟨v, w, z, rfl⟩
            | cons _ _ => simp at h1
    exact ⟨v, w, z, rfl, h3⟩
theorem ps_pn (hb : l.map (·.1) = is.map (·.2)) (hl : okLen is.length = true) (h : PS X st (tAsg (tTup (tL T X.K l)) (gT X.K (.tp (is.map (·.1)))))) : PS X st (tS T X.K (parF is (evL l))) :=
  PS.mono h fun D σ H q => by
    have := par_read (T := T) (X := X) hb q
    refine ps_p2.tL_mono this fun vs H1 ⟨h1, h2, _⟩ => ⟨by rw [h1]; exact len_ok hl, fun p n => ?_⟩
    exact ⟨p, vs, rfl, .inl (.inl upd_same), by rw [h1, List.length_map], gNames_set (by rw [h1, List.length_map]) (h2 p n)⟩
theorem pa_l0 : PA X [] (tL T X.K []) := pa_nil
theorem pa_lF {e : Expr} {es : List Expr} {f : EvF} (he : PE X e (tF T X.K f)) (hr : PA X es (tL T X.K l)) (ns : noStar e = true) : PA X (e :: es) (tL T X.K ((true, f) :: l)) := pa_cons he hr (star_cons ns _ _)
theorem pa_lE {e : Expr} {es : List Expr} {f : EvF} (he : PE X e (tE T X.K f)) (hr : PA X es (tL T X.K l)) (ns : noStar e = true) : PA X (e :: es) (tL T X.K ((false, f) :: l)) := pa_cons he hr (star_cons ns _ _)
end
end Pv

set_option Elab.async false
set_option linter.all false
set_option maxRecDepth 100000
set_option maxHeartbeats 4000000
/-! Pv13: dict(rows of pairs). -/
namespace Pv
open PySem PySem.Spec PyProof.Rows L2

theorem prs_of {X : Cx} {pins : List (Addr × Obj)} {σ : L2.St} {H : Hp} {s : Shared} (I : Inv X pins σ H s) : ∀ {ps : List Addr} {kvs : List (Key × V)}, Paired (fun p kv => SqT X.K H p [kV kv.1, kv.2]) ps kvs →
    ∃ (vs : List (Value × Value)) (prs : List (Key × Value)), KV kvs prs ∧ vs.length = ps.length ∧ prs.length = ps.length ∧
      ∀ (j : Nat) (k v : Value), vs[j]? = some (k, v) → ∃ b q, ps[j]? = some b ∧ prs[j]? = some (q, v) ∧ IsTup s.heap b #[k, v] ∧ keyIs q k = true
  | _, _, .nil => ⟨[], [], .nil, rfl, rfl, fun j k v e => by simp at e⟩
  | _, _, .cons (a := p) (b := kv) h t => by
    obtain ⟨vs, prs, r1, l1, l2, g⟩ := prs_of I t
    obtain ⟨its, rv, tt, _⟩ := I.tuple h
    obtain ⟨u, y, ei, ru, ry⟩ := vals2 rv
    subst ei
    refine ⟨(u, y) :: vs, (kv.1, y) :: prs, .cons ⟨rfl, ry⟩ r1, by simp [l1], by simp [l2], fun j k v e => ?_⟩
    cases j with
    | zero =>
      have e' : (u, y) = (k, v) := by simpa using e
      cases e'
      exact ⟨p, kv.1, rfl, rfl, tt, kV_is (P := X.prog) (w := X.w) ru⟩
    | succ j =>
      obtain ⟨b, q, e1, e2, e3⟩ := g j k v (by simpa using e)
      exact ⟨b, q, by simpa using e1, by simpa using e2, e3⟩
/-- dict(t), t a tuple of pairs -/
theorem call_dictT {X : Cx} (hc : X.calm = true) : CallR X (.type "dict") (fun xs H Q => ∃ (a : Addr) (ps : List Addr) (kvs : List (Key × V)), xs = [.ref a] ∧ PlT X.K H a (ps.map V.ref) ∧ Paired (fun p kv => SqT X.K H p [kV kv.1, kv.2]) ps kvs ∧
    ∀ p, H p = none → Q (.ref p) (upd H p (.dK (mergeK [] kvs)))) := by
  intro pins s σ H xs us Q I rs ⟨a, ps, kvs, ex, ha, hp, q⟩
  subst ex
  obtain ⟨u, eu, ru⟩ := vals1 rs
  subst eu
  cases ru
  -- the tuple's object
  obtain ⟨o, its, n, ho, hcl, hd, hdat, rv, hz⟩ : ∃ (o : Obj) (its : List Value) (n : Nat), s.heap.get? a = some o ∧ o.cls = .type "tuple" ∧ o.dict = none ∧ o.data = .seq its.toArray n ∧ Vals (ps.map V.ref) its ∧ ps.length ≤ sizeLine := by
    rcases ha with ⟨o, h, nd⟩ | ⟨o, its, n, h1, h2, h3, h4, h5, h6⟩
    · obtain ⟨g1, g2, its, g3, o', g4, g5, n, g6⟩ := I.hok a _ h
      rw [g1] at g4
      cases g4
      exact ⟨o, its, n, g1, g5, nd, g6, g3, by simpa using g2⟩
    · refine ⟨o, its.toList, n, I.kIn a o h1, h2, h6, by simpa using h3, h5, ?_⟩
      have := h5.length
      simp only [List.length_map, Array.length_toList] at this
      omega
  have ei := refs_at rv
  subst ei
  obtain ⟨vs, prs, r1, l1, l2, g⟩ := prs_of I hp
  have P := PySem.PairArg.tuple (prog := X.prog) (w := X.w) a (ps.map Value.ref).toArray (fun j => ps.getD j 0) vs
  refine PySem.call_dict_pairs (knd := mixKind X.prog X.w) (kvs := prs) P (I.ok.hd hc) ⟨⟨o, n, ho, hcl, hd, hdat⟩, by simp [l1], fun j k v e => ?_⟩ ⟨by rw [l2, l1], fun i k v e => ?_⟩ (by rw [l1]; exact hz) fun h' tk hd' hk => ?_
  · obtain ⟨b, q', e1, e2, e3, e4⟩ := g j k v e
    have eb : ps.getD j 0 = b := by rw [List.getD_eq_getElem?_getD, e1]; rfl
    refine ⟨?_, ?_⟩
    · dsimp only; rw [eb]; simp [e1]
    · dsimp only; rw [eb]; exact .inl e3
  · obtain ⟨b, q', e1, e2, e3, e4⟩ := g i k v e
    exact ⟨q', e2, e4⟩
  · have hlen : (mergeK [] kvs).length ≤ sizeLine := by
      have h1 := length_mergeK kvs []
      have h2 : kvs.length = prs.length := r1.length
      rw [List.length_nil, Nat.zero_add] at h1
      omega
    have hm : (s.heap.objs.size == sysModules) = false := beq_eq_false_iff_ne.mpr (Nat.ne_of_gt I.big)
    have kk : ∀ b u, s.heap.get? b = some u → h'.get? b = some u := fun b u e => hk b u (by simp) e
    exact ⟨.ref s.heap.objs.size, _, I.laid (t' := tk) (o := .dK (mergeK [] kvs)) kk (Nat.le_refl _) ⟨hlen, hm, merged [] prs, KV.merge r1 .nil, hd'⟩, rfl, q _ (I.hok.fresh (Nat.le_refl _))⟩

section
variable {T : Nat → Str} {K : PySem.W.Frag}
def dctR (K : PySem.W.Frag) : List V → Hp → VK → Prop := fun xs H Q => ((∃ (a : Addr) (ps : List Addr) (kvs : List (Key × V)), xs = [.ref a] ∧ SqL K H a (ps.map V.ref) ∧ Paired (fun p kv => SqT K H p [kV kv.1, kv.2]) ps kvs ∧
    ∀ p, H p = none → Q (.ref p) (upd H p (.dK (mergeK [] kvs)))) ∨ (∃ (a : Addr) (ps : List Addr) (kvs : List (Key × V)), xs = [.ref a] ∧ PlT K H a (ps.map V.ref) ∧ Paired (fun p kv => SqT K H p [kV kv.1, kv.2]) ps kvs ∧
    ∀ p, H p = none → Q (.ref p) (upd H p (.dK (mergeK [] kvs))))) ∨ (∃ (a : Addr) (kvs : List (Key × V)), xs = [.ref a] ∧ Rd H a (.dK kvs) ∧ ∀ p, H p = none → Q (.ref p) (upd H p (.dK kvs)))
theorem dct_okr {X : Cx} (hc : X.calm = true) : CallR X (.type "dict") (dctR X.K) := CallR.or (CallR.or (call_dictP hc) (call_dictT hc)) call_dictD
/-- the pairs -/
theorem dfold_ok (hT : TOk T) {wa : Option Addr} {H : Hp} : ∀ {rows : List D} {vs : List V} {ks ds ks' ds' : List D} {acc : List (Key × V)}, Reps T K wa H rows vs → dfold rows ks ds = some (ks', ds') → ks.map (keyOf T) = acc.map (fun p => some p.1) → Reps T K wa H ds (acc.map (·.2)) →
    ∃ (ps : List Addr) (kvs : List (Key × V)), vs = ps.map V.ref ∧ Paired (fun p kv => SqT K H p [kV kv.1, kv.2]) ps kvs ∧ ks'.map (keyOf T) = (mergeK acc kvs).map (fun p => some p.1) ∧ Reps T K wa H ds' ((mergeK acc kvs).map (·.2))
  | [], _, _, _, _, _, _, .nil, e, hk, hd => by
    simp only [dfold] at e
    cases e
    exact ⟨[], [], rfl, .nil, hk, hd⟩
  | row :: rows, _, ks, ds, ks', ds', acc, .cons r t, e, hk, hd => by
    unfold dfold at e
    split at e
    · rename_i e0
      cases e0
    · rename_i k v r' e0
      cases e0
      split at e
      · rename_i hik
        cases r with
        | tup h q =>
          cases q with
          | cons q1 q =>
            cases q with
            | cons q2 q =>
              cases q
              obtain ⟨kk, hq⟩ := isK_key (T := T) hik
              have ek := key_rep (H := H) (hH := H) hq (.inl q1)
              subst ek
              have hp := put_ok hT hq q2 hk hd
              obtain ⟨ps, kvs, e1, e2, e3, e4⟩ := dfold_ok hT t e hp.1 hp.2
              rename_i a b
              exact ⟨_ :: ps, (kk, b) :: kvs, by rw [e1]; rfl, .cons h.sq e2, e3, e4⟩
      · cases e
    · cases e
theorem dct_okF (hT : TOk T) : UFOk T K (fun x H Q => dctR K [x] H Q) (bf1 .dictOf) := by
  intro O wa env ω ws σ H x d1 z Q st r e k
  cases d1 <;> simp only [bf1] at e <;> try cases e
  · split at e
    · rename_i ks vs hf
      cases e
      obtain ⟨a, us, rfl, h1, h1', q1⟩ := r.tup
      obtain ⟨ps, kvs, rfl, e2, e3, e4⟩ := dfold_ok (acc := []) hT q1 hf rfl .nil
      refine .inl (.inr ⟨a, ps, kvs, rfl, h1'.mono hid_le, ?_, fun p n => k p _ n ⟨_, upd_same, e3, e4⟩⟩)
      exact Paired.mapP e2 fun _ _ h => sqT_mono hid_le h
    · cases e
  · split at e
    · rename_i ks vs hf
      cases e
      obtain ⟨a, us, rfl, h1, q1⟩ := r.lst
      obtain ⟨ps, kvs, rfl, e2, e3, e4⟩ := dfold_ok (acc := []) hT q1 hf rfl .nil
      refine .inl (.inl ⟨a, ps, kvs, rfl, .inl (.inl h1), ?_, fun p n => k p _ n ⟨_, upd_same, e3, e4⟩⟩)
      exact Paired.mapP e2 fun _ _ h => sqT_mono hid_le h
    · cases e
  · obtain ⟨a, kvs, rfl, h1, h2, q1⟩ := r.dic
    exact .inr ⟨a, kvs, rfl, .inl h1, fun p n => k p _ n ⟨kvs, upd_same, h2, q1⟩⟩
end
end Pv

set_option Elab.async false
set_option linter.all false
set_option maxRecDepth 100000
set_option maxHeartbeats 4000000
/-! Ps1: set(list of ints) as a set whose order is known. -/
namespace Pv
open PySem PySem.Spec PyProof.Rows L2
/-- a set that was made just now -/
abbrev sO (w : World) : Obj := { cls := .type "set", dict := none, data := .set #[] 0 (.fresh 0 0 (!w.params.followText "set-order")) }
section
variable {P : Program} {w : World} {A : Around} {E : Value → Shared → Prop} {s : Shared}
theorem call_set_lstI {b0 : Addr} {arr : Array Value} (qs : List Int) {Q : Value → Shared → Prop} (nh : A.handled = none) (al : s.heap.IsList b0 arr) (ia : IntsAre arr.toList qs) (room : qs.length + 1 < scanBound)
    (h : ∀ (hp2 : Heap) (n2 c : Nat), SetR w hp2 s.heap.objs.size (fun j => decide (j ∈ qs)) c → c ≤ qs.length → (∀ b o, s.heap.get? b = some o → hp2.get? b = some o) → Q (.ref s.heap.objs.size) { s with heap := hp2, toks := n2 }) :
    wpAny (model P w) A (call (.type "set") [.ref b0]) Q E s := by
  have arn : arr.size = qs.length := by
    have q := IntsAre.length ia
    rw [Array.length_toList] at q
    exact q
  obtain ⟨c, mt, m0⟩ := F.called_set.mro
  have m1 := F.called_set.made
  have m2 := F.called_set.sub
  refine wpAny_call (codeAny_of_tree ?_)
  show wpAny _ _ (callAny (.type "set") _) _ _ _
  refine wpAny_pure ⟨Code.quiet_builtin _ (by decide +kernel), codeAny_builtin F.entry_type_call ?_⟩
  rw [Around.under_plain (weight_type_call_type "set" [.ref b0] []) rfl]
  have w1 := F.called_set.notType
  have w2 := F.called_set.canCreate
  have w3 := F.typeCall_set_1 (.ref b0)
  repeat (any_goals (first | wp_step | assumption))

  refine codeAny_mono (code_set_led1 (.ref b0) (E := E) (Q₁ := fun ob0 t1 => ob0 = .ref s.heap.objs.size ∧ t1 = { s with heap := s.heap.push (sO w) }) ⟨rfl, rfl⟩) fun rv t1 gr => ?_
  cases rv with
  | error e => exact gr
  | ok f1 =>
    cases f1 with
    | ret ob0 =>
      obtain ⟨rfl, rfl⟩ := gr
      have oS : (s.heap.push (sO w)).get? s.heap.objs.size = some (sO w) := Heap.get?_push_size _ rfl
      have oT : Shared.TypeIs { s with heap := s.heap.push (sO w) } (.ref s.heap.objs.size) "set" := ⟨_, oS, rfl⟩
      have ii1 := F.called_set.init.lookup
      have ii2 := F.called_set.init.bind (.ref s.heap.objs.size)
      repeat (any_goals (first | wp_step | assumption))

      refine codeAny_mono (codeAny_call_builtin (R := wants (fun rv t2 => rv = .none ∧ ∃ hp2 n2 c, t2 = { s with heap := hp2, toks := n2 } ∧ SetR w hp2 s.heap.objs.size (fun j => decide (j ∈ qs)) c ∧ c ≤ qs.length ∧
          (∀ b o, s.heap.get? b = some o → hp2.get? b = some o)) E) F.called_set.init.plain F.entry_set_init (check_set_init_1 oT ?_)) fun rw2 t2 gw2 => ?_
      · obtain ⟨lo, lo1, lo2, lo3, lo4⟩ := al
        obtain ⟨z1, z2, z3, z4⟩ := lo
        simp only at lo2 lo4
        subst lo2; subst lo4
        have lo5 : (s.heap.push (sO w)).get? b0 = some { cls := .type "list", dict := z2, data := .seq arr lo3, slots := z4 } := Heap.get?_push_of_some _ lo1
        have u1 := F.sub_list_set
        have u2 := F.sub_list_frozenset
        have u3 : (Value.type "list" == Value.type "dict") = false := by decide
        have u4 : (s.heap.push (sO w)).IsList b0 arr := ⟨_, lo5, rfl, lo3, rfl⟩
        unfold Builtin.«set.__init__» noKeywords Builtin.Frozenset.updateFrom
        generalize ePI : pyIter = pI
        wp_walk
        subst ePI

        refine wpAny_pyIter_list u4 ?_
        refine wpAny_bind (wpAny_runValue ?_)
        have v1 : b0 < s.heap.objs.size := Heap.lt_size lo1
        have v2 : A.in1.in1.in1.handled = none := by simp [nh]
        have v3 : (s.heap.push (sO w)).objs.size = s.heap.objs.size + 1 := Heap.size_push ..
        have v4 : b0 ≠ (s.heap.push (sO w)).objs.size := by
          rw [Heap.size_push]; exact Nat.ne_of_lt (Nat.lt_succ_of_lt v1)
        have v5 : s.heap.objs.size ∉ [(s.heap.push (sO w)).objs.size, b0] := by
          rw [Heap.size_push]; simp only [List.mem_cons, List.mem_singleton, List.not_mem_nil, or_false, not_or]
          exact ⟨Nat.ne_of_lt (Nat.lt_succ_self _), Nat.ne_of_gt v1⟩
        have v6 : ∀ (i : Nat) (v : Value), arr[i]? = some v → ∃ k t, qs[i]? = some k ∧ v = .int k t := fun i v e6 => by
          have i6 : i < qs.length := by rw [← arn]; exact (Array.getElem?_eq_some_iff.mp e6).1
          obtain ⟨t, e⟩ := PyProof.Rows.IntsAre.int_at ia i v (by rw [Array.getElem?_toList]; exact e6)
          refine ⟨qs[i], t, List.getElem?_eq_getElem i6, ?_⟩
          rw [e, List.getD_eq_getElem?_getD, List.getElem?_eq_getElem i6] <;> rfl
        refine set_update_ints ((Walks.list v2 _ b0 v4 arr).toS) s.heap.objs.size
          v5 qs arn room v6 (arr.size - 0) 0 _ (by omega) (Nat.zero_le _)
          ⟨⟨_, Heap.get?_push_size _ rfl, rfl, rfl⟩, (u4.push _)⟩ ?hS0 ?hR
        case hS0 =>
          have g7 : ((s.heap.push (sO w)).push { cls := .type "list_iterator", data := .fields #[.ref b0, .int 0 0] }).get? s.heap.objs.size
              = some (sO w) := Heap.get?_push_of_some _ oS
          exact ⟨0, Nat.le_refl 0, setR_new_at g7⟩
        case hR =>
          intro t3 c2 mv oc2 oS2
          obtain ⟨hp2, gg, dd, nn, oo⟩ := t3
          have q1 : gg = s.gens := mv.gens
          have q2 : dd = s.drawn := mv.drawn
          have q3 : oo = s.os := mv.os
          subst q1; subst q2; subst q3
          show wpAny _ _ _ _ _ _
          refine wpAny_pure ?_
          show wpAny _ _ (ret Value.none) _ _ _
          rw [arn] at oc2
          refine wpAny_pure ⟨rfl, hp2, nn, c2, rfl, oS2, oc2, fun b o e => ?_⟩
          have y0 : b < s.heap.objs.size := Heap.lt_size e
          have y1 : b ≠ s.heap.objs.size := Nat.ne_of_lt y0
          have y2 : b ≠ (s.heap.push (sO w)).objs.size := by
            rw [Heap.size_push]; exact Nat.ne_of_lt (Nat.lt_succ_of_lt y0)
          exact mv.heap b o (by simp only [List.mem_cons, List.mem_singleton, List.not_mem_nil, or_false, not_or]; exact ⟨y1, y2⟩) (Heap.get?_push_of_some _ (Heap.get?_push_of_some _ e))

      · cases rw2 with
        | error e => exact gw2
        | ok f2 =>
          cases f2 with
          | ret rv =>
            obtain ⟨rfl, hp2, n2, c2, rfl, oS2, oc2, kk⟩ := gw2
            repeat (any_goals (first | wp_step | assumption))
            exact h _ _ _ oS2 oc2 kk
          | _ => exact gw2.elim
    | _ => exact gr.elim

end
end Pv

set_option Elab.async false
set_option linter.all false
set_option maxRecDepth 100000
set_option maxHeartbeats 4000000
/-! Ps2: sorted(set(list of ints)). -/
namespace Pv
open PySem PySem.Spec PyProof.Rows L2
def rSetL1 (w : World) : List V → Hp → VK → Prop := fun xs H Q => ∃ (a : Addr) (ns : List Int), xs = [.ref a] ∧ H a = some (.lst (ns.map V.int)) ∧ ns.length < 64 ∧ ∀ p c, H p = none → c < 64 → Q (.ref p) (upd H p (SetO w p (fun j => decide (j ∈ ns)) c))
theorem cr_setL1 {X : Cx} (hc : X.calm = true) : CallR X (.type "set") (rSetL1 X.w) := by
  intro pins s σ H xs us Q I rs ⟨a, ns, ex, ha, hl, q⟩
  subst ex
  obtain ⟨u, eu, ru⟩ := vals1 rs
  subst eu
  cases ru
  obtain ⟨its, rv, ⟨o, n, g1, g2, g3, g4⟩, hz⟩ := I.list (.inl (.inl ha))
  have hi : IntsAre its.toArray.toList ns := ints_of_vals rv
  refine call_set_lstI ns (I.ok.hd hc) ⟨o, g1, g2, n, g4⟩ hi (by unfold scanBound; omega) fun hp2 n2 c R lc kp => ?_
  exact ⟨.ref s.heap.objs.size, _, I.laid (t' := n2) kp (Nat.le_refl _) (setO_new R), rfl, q _ c (I.hok.fresh (Nat.le_refl _)) (by omega)⟩
theorem insU_mem (x z : Int) : ∀ ys : List Int, z ∈ insU x ys ↔ z = x ∨ z ∈ ys
  | [] => by simp [insU]
  | y :: ys => by
    unfold insU
    split
    · simp
    · split
      · rename_i h; subst h; simp
      · simp only [List.mem_cons, insU_mem x z ys]
        constructor
        · rintro (h | h | h)
          · exact .inr (.inl h)
          · exact .inl h
          · exact .inr (.inr h)
        · rintro (h | h | h)
          · exact .inr (.inl h)
          · exact .inl h
          · exact .inr (.inr h)
theorem usort_mem (z : Int) : ∀ xs : List Int, z ∈ usort xs ↔ z ∈ xs
  | [] => Iff.rfl
  | x :: xs => by unfold usort; rw [insU_mem, usort_mem z xs, List.mem_cons]
theorem insU_up (x : Int) : ∀ {ys : List Int}, ys.Pairwise (· < ·) → (insU x ys).Pairwise (· < ·)
  | [], _ => by simp [insU]
  | y :: ys, h => by
    have h' := List.pairwise_cons.mp h
    unfold insU
    split
    · rename_i c
      refine .cons (fun z hz => ?_) h
      rcases List.mem_cons.mp hz with q | q
      · omega
      · have := h'.1 z q; omega
    · split
      · exact h
      · rename_i c c'
        refine .cons (fun z hz => ?_) (insU_up x h'.2)
        rcases (insU_mem x z ys).mp hz with q | q
        · omega
        · exact h'.1 z q
theorem usort_up : ∀ xs : List Int, (usort xs).Pairwise (· < ·)
  | [] => .nil
  | x :: xs => insU_up x (usort_up xs)
theorem up_one : ∀ {l1 l2 : List Int}, (∀ z, z ∈ l1 ↔ z ∈ l2) → l1.Pairwise (· < ·) → l2.Pairwise (· < ·) → l1 = l2
  | [], [], _, _, _ => rfl
  | [], y :: _, h, _, _ => by have := (h y).mpr List.mem_cons_self; cases this
  | x :: _, [], h, _, _ => by have := (h x).mp List.mem_cons_self; cases this
  | x :: xs, y :: ys, h, s1, s2 => by
    rw [List.pairwise_cons] at s1 s2
    have e : x = y := by
      rcases List.mem_cons.mp ((h x).mp List.mem_cons_self) with e | hx
      · exact e
      · rcases List.mem_cons.mp ((h y).mpr List.mem_cons_self) with e | hy
        · exact e.symm
        · have h1 := s1.1 y hy
          have h2 := s2.1 x hx
          omega
    subst e
    rw [up_one (fun z => ?_) s1.2 s2.2]
    constructor
    · intro hz
      rcases List.mem_cons.mp ((h z).mp (List.mem_cons_of_mem _ hz)) with q | q
      · subst q; have := s1.1 z hz; omega
      · exact q
    · intro hz
      rcases List.mem_cons.mp ((h z).mpr (List.mem_cons_of_mem _ hz)) with q | q
      · subst q; have := s2.1 z hz; omega
      · exact q
theorem pe_ss {T : Nat → Str} {X : Cx} {a : Expr} {fa : EvF} {x y : Str} {p p1 p2 pos : Pos} (hc : X.calm = true) (hx : x = "sorted") (hy : y = "set") (g1 : Gl X x) (g2 : Gl X y) (m1 : X.mg x = none) (m2 : X.mg y = none) (hs : noStar a = true) (ha : PE X a (tB T X.K fa)) :
    PE X (.Call (.Name x p) [.Call (.Name y p1) [a] [] p2] [] pos) (tF T X.K (un1 fa (bf1 .sortedSet))) := by
  subst hx
  subst hy
  refine PE.mono (ht_b (cr_sortedSet hc) g1 m1 boot_sorted (by decide +kernel) (by decide +kernel) rfl _ (ht_t (cr_setL1 hc) g2 m2 boot_set (by decide +kernel) (by decide +kernel) hs _ ha)) fun σ H Q ⟨O, wa, env, ω, ws, d, ws', st, hf, k⟩ => ?_
  unfold un1 at hf
  split at hf
  · cases hf
  rename_i xd ws1 e1
  split at hf
  · cases hf
  rename_i z e3
  cases hf
  refine ⟨O, wa, env, ω, ws, xd, _, st, e1, fun v1 H1 st1 sp1 r1 => ?_⟩
  cases xd <;> simp only [bf1] at e3 <;> try cases e3
  split at e3
  · rename_i ns hn
    split at e3
    · rename_i hl
      cases e3
      obtain ⟨a1, vs, rfl, h1, q1⟩ := r1.lst
      have := q1.ints hn
      subst this
      refine ⟨a1, ns, rfl, h1, of_decide_eq_true hl, fun p c n hc => ?_⟩
      refine ⟨p, _, c, rfl, upd_same, hc, fun ms p2 up mem _ n2 => ?_⟩
      have st2 := st1.grow (new_same (o := SetO X.w p (fun j => decide (j ∈ ns)) c) n)
      have em : ms = usort ns := up_one (fun z => by rw [mem z, usort_mem, decide_eq_true_eq]) up (usort_up ns)
      subst em
      refine k p2 _ (st2.more n2 _) (sp1.trans ((Stp.of (new_same n)).trans (Stp.of (new_same n2)))) (st2.fresh n2) (st1.back sp1 (st2.back (Stp.of (new_same n)) n2)) ⟨_, upd_same, reps_ints _⟩
    · cases e3
  · cases e3
end Pv

set_option Elab.async false
set_option linter.all false
set_option maxRecDepth 100000
set_option maxHeartbeats 4000000
/-! Pv14: when an Ex is what a text's expression says. -/
namespace Pv
open PySem PySem.Spec PyProof.Rows L2

mutual
def sameD : D → D → Bool
  | .non, .non => true
  | .bl a, .bl b => decide (a = b)
  | .int a, .int b => decide (a = b)
  | .str a, .str b => decide (a = b)
  | .tup a, .tup b => sameDs a b
  | .lst a, .lst b => sameDs a b
  | _, _ => false
def sameDs : List D → List D → Bool
  | [], [] => true
  | x :: xs, y :: ys => sameD x y && sameDs xs ys
  | _, _ => false
end
mutual
theorem sameD_eq : ∀ {a b : D}, sameD a b = true → a = b
  | .non, .non, _ => rfl
  | .bl a, .bl b, h => by simp only [sameD, decide_eq_true_eq] at h; rw [h]
  | .int a, .int b, h => by simp only [sameD, decide_eq_true_eq] at h; rw [h]
  | .str a, .str b, h => by simp only [sameD, decide_eq_true_eq] at h; rw [h]
  | .tup a, .tup b, h => by simp only [sameD] at h; rw [sameDs_eq h]
  | .lst a, .lst b, h => by simp only [sameD] at h; rw [sameDs_eq h]
  | .non, .bl _, h | .non, .int _, h | .non, .str _, h | .non, .tup _, h | .non, .lst _, h | .non, .dic _ _, h | .non, .scr _, h | .non, .wd, h => by simp [sameD] at h
  | .bl _, .non, h | .bl _, .int _, h | .bl _, .str _, h | .bl _, .tup _, h | .bl _, .lst _, h | .bl _, .dic _ _, h | .bl _, .scr _, h | .bl _, .wd, h => by simp [sameD] at h
  | .int _, .non, h | .int _, .bl _, h | .int _, .str _, h | .int _, .tup _, h | .int _, .lst _, h | .int _, .dic _ _, h | .int _, .scr _, h | .int _, .wd, h => by simp [sameD] at h
  | .str _, .non, h | .str _, .bl _, h | .str _, .int _, h | .str _, .tup _, h | .str _, .lst _, h | .str _, .dic _ _, h | .str _, .scr _, h | .str _, .wd, h => by simp [sameD] at h
  | .tup _, .non, h | .tup _, .bl _, h | .tup _, .int _, h | .tup _, .str _, h | .tup _, .lst _, h | .tup _, .dic _ _, h | .tup _, .scr _, h | .tup _, .wd, h => by simp [sameD] at h
  | .lst _, .non, h | .lst _, .bl _, h | .lst _, .int _, h | .lst _, .str _, h | .lst _, .tup _, h | .lst _, .dic _ _, h | .lst _, .scr _, h | .lst _, .wd, h => by simp [sameD] at h
  | .dic _ _, _, h => by simp [sameD] at h
  | .scr _, _, h => by simp [sameD] at h
  | .wd, _, h => by simp [sameD] at h
theorem sameDs_eq : ∀ {a b : List D}, sameDs a b = true → a = b
  | [], [], _ => rfl
  | x :: xs, y :: ys, h => by
    simp only [sameDs, Bool.and_eq_true] at h
    rw [sameD_eq h.1, sameDs_eq h.2]
  | [], _ :: _, h => by simp [sameDs] at h
  | _ :: _, [], h => by simp [sameDs] at h
end

structure Cf where
  N : List Str
  T : Nat → Str
  fn : Nat → Option Str
  co : Nat → Option (Str × D)
def isVis (sc : Scope) (x : Str) : Bool := match sc.names.lookup x with
  | some .local => true
  | some .cell => true
  | some .free => true
  | _ => false
theorem isVis_ok {sc : Scope} {x : Str} (h : isVis sc x = true) : Vis sc x := by
  unfold isVis at h
  split at h
  · exact .inl (by assumption)
  · exact .inr (.inl (by assumption))
  · exact .inr (.inr (by assumption))
  · cases h
def isLoc (sc : Scope) (x : Str) : Bool := match sc.names.lookup x with
  | some .local => true
  | some .cell => true
  | _ => false
theorem isLoc_ok {sc : Scope} {x : Str} (h : isLoc sc x = true) : Loc sc x := by
  unfold isLoc at h
  split at h
  · exact .inl (by assumption)
  · exact .inr (by assumption)
  · cases h
def isLo (sc : Scope) (x : Str) : Bool := match sc.names.lookup x with
  | some .local => true
  | _ => false
theorem isLo_ok {sc : Scope} {x : Str} (h : isLo sc x = true) : sc.names.lookup x = some .local := by
  unfold isLo at h
  split at h
  · assumption
  · cases h
def isGl (sc : Scope) (x : Str) : Bool := match sc.names.lookup x with
  | some .globalImplicit => true
  | _ => false
def plainN (x : Str) : Bool := !(x == ("__debug__" : Str)) && !(x == ("__classdict__" : Str)) && !decide (x = ("__name__" : Str))
theorem plainN_ok {x : Str} (h : plainN x = true) : (x == ("__debug__" : Str)) = false ∧ (x == ("__classdict__" : Str)) = false ∧ x ≠ "__name__" := by
  unfold plainN at h
  rw [Bool.and_eq_true, Bool.and_eq_true, Bool.not_eq_true', Bool.not_eq_true', Bool.not_eq_true', decide_eq_false_iff_not] at h
  exact ⟨h.1.1, h.1.2, h.2⟩
/-! names of built-ins -/
def b1N : B1 → Str
  | .len => "len" | .abs => "abs" | .int => "int" | .lstOf => "list" | .tupOf => "tuple" | .dictOf => "dict" | .sorted => "sorted" | .sortedSet => "sorted" | .all => "all" | .any => "any"
def b2N : B2 → Str
  | .max => "max" | .min => "min"
def tyS (t : Ty) : Str := Str.ofString (tyN t)
def noSlice : Expr → Bool
  | .Slice .. => false
  | _ => true
def noSet : Expr → Bool
  | .Set .. => false
  | _ => true
def isCN : Expr → Bool
  | .Constant .none _ _ => true
  | _ => false
def relS' (scope sc : Scope) : Scope := L2.relS scope sc
/-- a target: the names of slots -/
def okNm (N : List Str) (p : Str → Bool) (i : Nat) : Expr → Bool
  | .Name x _ => decide (N[i]? = some x) && p x
  | _ => false
def okNms (N : List Str) (p : Str → Bool) : List Nat → List Expr → Bool
  | [], [] => true
  | i :: is, e :: es => okNm N p i e && okNms N p is es
  | _, _ => false
def okTg (N : List Str) (p : Str → Bool) : Tg → Expr → Bool
  | .nm i, e => okNm N p i e
  | .tp is, .Tuple es _ _ => okNms N p is es
  | _, _ => false
def ownOf (N : List Str) (tg : Tg) : List (Str × Nat) := (tgs tg).map fun i => (N.getD i "", i)

/-- a chain of and, or -/
def isB2 : Tx → Bool
  | .and2 _ _ => true
  | .or2 _ _ => true
  | .one _ => true
  | _ => false
mutual
def okE (cf : Cf) : Ex → Scope → Expr → Bool
  | .bad, _, _ => true
  | .non, _, e => isCN e
  | .tt b, _, e => match e with
    | .Constant (.bool c) _ _ => decide (b = c)
    | _ => false
  | .num i, _, e => match e with
    | .Constant (.int j) _ _ => decide (i = j)
    | _ => false
  | .txt n, _, e => match e with
    | .Constant (.str s) _ _ => decide (cf.T n = s)
    | _ => false
  | .var i, sc, e => match e with
    | .Name x _ => decide (cf.N[i]? = some x) && isVis sc x && plainN x
    | _ => false
  | .con k d, sc, e => match e with
    | .Name x _ => (match cf.co k with
      | some (y, d') => decide (y = x) && sameD d' d
      | none => false) && isGl sc x && plainN x
    | _ => false
  | .bin o a b, sc, e => match e with
    | .BinOp a' op b' _ => decide (bopO o = op) && okE cf a sc a' && okE cf b sc b'
    | _ => false
  | .neg a, sc, e => match e with
    | .UnaryOp .USub a' _ => okE cf a sc a'
    | _ => false
  | .cmp o a b, sc, e => match e with
    | .Compare a' [op] [b'] _ => decide (copO o = op) && okE cf a sc a' && (if o = .isN ∨ o = .notN then isCN b' else okE cf b sc b' && noSet b')
    | _ => false
  | .andv a r, sc, e => match e with
    | .BoolOp .And (x :: y :: rest) pos => okE cf a sc x && okE cf r sc (.BoolOp .And (y :: rest) pos)
    | _ => false
  | .orv a r, sc, e => match e with
    | .BoolOp .Or (x :: y :: rest) pos => okE cf a sc x && okE cf r sc (.BoolOp .Or (y :: rest) pos)
    | _ => false
  | .one a, sc, e => match e with
    | .BoolOp _ [x] _ => okE cf a sc x
    | _ => false
  | .notv a, sc, e => match e with
    | .UnaryOp .Not x _ => okE cf a sc x
    | _ => false
  | .ite c a b, sc, e => match e with
    | .IfExp c' a' b' _ => okT cf c sc c' && okE cf a sc a' && okE cf b sc b'
    | _ => false
  | .tup es, sc, e => match e with
    | .Tuple es' _ _ => okEs cf es sc es' && okLen es'.length
    | _ => false
  | .lst es, sc, e => match e with
    | .List es' _ => okEs cf es sc es' && okLen es'.length
    | _ => false
  | .dic ks vs, sc, e => match ks, vs with
    | .nil, .nil => (match e with
      | .Dict [] [] _ => true
      | _ => false)
    | .cons k .nil, .cons v .nil => (match e with
      | .Dict [some k'] [v'] _ => okE cf k sc k' && okE cf v sc v'
      | _ => false)
    | _, _ => false
  | .ix a b, sc, e => match e with
    | .Subscript a' b' _ => okE cf a sc a' && okE cf b sc b' && noSlice b'
    | _ => false
  | .sl a lo hi, sc, e => match e with
    | .Subscript a' (.Slice l h none _) _ => okE cf a sc a' && (match l with
      | none => isN lo
      | some l' => !isN lo && okE cf lo sc l') && (match h with
      | none => isN hi
      | some h' => !isN hi && okE cf hi sc h')
    | _ => false
  | .call f args, sc, e => match e with
    | .Call (.Name x _) (a :: as) [] _ => decide (cf.fn f = some x) && isGl sc x && plainN x && okEs cf args sc (a :: as)
    | _ => false
  | .b1 f a, sc, e => match e with
    | .Call (.Name x _) [a'] [] _ => if f = .sortedSet then (match a' with
        | .Call (.Name y _) [a2] [] _ => decide (x = "sorted") && decide (y = "set") && isGl sc x && isGl sc y && okE cf a sc a2 && noStar a2
        | _ => false)
        else decide (x = b1N f) && isGl sc x && okE cf a sc a' && noStar a'
    | _ => false
  | .b2 f a b, sc, e => match e with
    | .Call (.Name x _) [a', b'] [] _ => decide (x = b2N f) && isGl sc x && okE cf a sc a' && okE cf b sc b' && noStar a' && noStar b'
    | _ => false
  | .isi t a, sc, e => match e with
    | .Call (.Name x _) [a', .Name y _] [] _ => decide (x = "isinstance") && decide (y = tyS t) && isGl sc x && isGl sc y && okE cf a sc a' && noStar a'
    | _ => false
  | .get2 d k x, sc, e => match e with
    | .Call (.Attribute o m ap) [k', x'] [] cp => decide (m = "get") && okE cf d sc o && okE cf k sc k' && okE cf x sc x' && noCall o && noStar k' && noStar x' && (ap.endLine == cp.line)
    | _ => false
  | .rng a, _, _ => false
  | .rng2 a b, _, _ => false
  | .comp tg it elt, sc, e => match e with
    | .ListComp elt' [⟨tg', it', [], 0⟩] scope _ => (okIt cf it sc it' || okE cf it sc it') && noSet it' && blkC cf.N sc scope (ownOf cf.N tg) && okTg cf.N (isLo (relS' scope sc)) tg tg' && okE cf elt (relS' scope sc) elt'
    | _ => false
  | .compIf tg it c elt, sc, e => match e with
    | .ListComp elt' [⟨tg', it', [c'], 0⟩] scope _ => (okIt cf it sc it' || okE cf it sc it') && noSet it' && blkC cf.N sc scope (ownOf cf.N tg) && okTg cf.N (isLo (relS' scope sc)) tg tg' && okE cf elt (relS' scope sc) elt' && okT cf c (relS' scope sc) c'
    | _ => false
/-- what is walked -/
def okIt (cf : Cf) : Ex → Scope → Expr → Bool
  | .rng a, sc, e => match e with
    | .Call (.Name x _) [a'] [] _ => decide (x = "range") && isGl sc x && okE cf a sc a' && noStar a'
    | _ => false
  | .rng2 a b, sc, e => match e with
    | .Call (.Name x _) [a', b'] [] _ => decide (x = "range") && isGl sc x && okE cf a sc a' && okE cf b sc b' && noStar a' && noStar b'
    | _ => false
  | _, _, _ => false
def okEs (cf : Cf) : Exs → Scope → List Expr → Bool
  | .nil, _, es => match es with
    | [] => true
    | _ => false
  | .cons e r, sc, es => match es with
    | e' :: r' => okE cf e sc e' && noStar e' && okEs cf r sc r'
    | _ => false
def okT (cf : Cf) : Tx → Scope → Expr → Bool
  | .val a, sc, e => okE cf a sc e && plainT e
  | .cmp o a b, sc, e => match e with
    | .Compare a' [op] [b'] _ => decide (copO o = op) && okE cf a sc a' && (if o = .isN ∨ o = .notN then isCN b' else okE cf b sc b' && noSet b')
    | _ => false
  | .not a, sc, e => match e with
    | .UnaryOp .Not x _ => okT cf a sc x
    | _ => false
  | .and2 a r, sc, e => match e with
    | .BoolOp .And (x :: y :: rest) pos => okT cf a sc x && okT cf r sc (.BoolOp .And (y :: rest) pos) && isB2 r
    | _ => false
  | .or2 a r, sc, e => match e with
    | .BoolOp .Or (x :: y :: rest) pos => okT cf a sc x && okT cf r sc (.BoolOp .Or (y :: rest) pos) && isB2 r
    | _ => false
  | .one a, sc, e => match e with
    | .BoolOp _ [x] _ => okT cf a sc x
    | _ => false
  | .ite .., _, _ => false
end
end Pv

set_option Elab.async false
set_option linter.all false
set_option maxRecDepth 100000
set_option maxHeartbeats 8000000
/-! Pv15: what matches is read. -/
namespace Pv
open PySem PySem.Spec PyProof.Rows L2

def bNames : List Str := ["len", "abs", "int", "list", "tuple", "dict", "sorted", "set", "all", "any", "max", "min", "isinstance", "range", "bool", "str"]
/-- what is known where a def's body (or a comprehension's block) runs -/
structure XOk (cf : Cf) (P : Nat → Option Def) (n : Nat) (X : Cx) (sc : Scope) : Prop where
  env : X.env.scope = sc
  N : X.N = cf.N
  nd : X.N.Nodup
  calm : X.calm = true
  room : Room n X.A
  T : TOk cf.T
  fns : ∀ f x, cf.fn f = some x → ∃ fA fd ps, FnOk X.prog X.w X.K X.mg X.base CX0 n fA fd ps (spO cf.T X.K P n f) ∧ X.mg x = some (.ref fA) ∧ PySem.W.keepIn X.K (.ref fA) = true ∧ Binds X.K fd ps []
  blt : ∀ x ∈ bNames, X.mg x = none
  con : ∀ k x d, cf.co k = some (x, d) → ∃ v u, X.mg x = some u ∧ RelV v u ∧ ∀ wa H, Rep cf.T X.K wa H d v
section
variable {cf : Cf} {P : Nat → Option Def} {n : Nat} {X : Cx} {sc : Scope}
theorem XOk.gl (h : XOk cf P n X sc) {x : Str} (g : isGl sc x = true) : Gl X x := by
  unfold isGl at g
  split at g
  · rename_i q
    show X.env.scope.names.lookup x = _
    rw [h.env]; exact q
  · cases g
theorem XOk.nm (h : XOk cf P n X sc) {x : Str} {i : Nat} {pos : Pos} (hi : cf.N[i]? = some x) (hv : isVis sc x = true) (hp : plainN x = true) : PE X (.Name x pos) (tVar i) := by
  have hv := isVis_ok hv
  rw [← h.env] at hv
  exact pe_var (by rw [h.N]; exact hi) hv (plainN_ok hp).1 (plainN_ok hp).2.1
theorem XOk.blk (h : XOk cf P n X sc) (s : Shared) (H : Hp) (scope : Scope) (C : Addr) (cl : List (Str × Addr)) (fp : List Addr) : XOk cf P n (X.blk s H scope (compEnvC scope cl C X.env) fp) (relS' scope sc) := by
  refine ⟨?_, h.N, h.nd, h.calm, h.room, h.T, h.fns, h.blt, h.con⟩
  show relabel scope X.env = L2.relS scope sc
  rw [← h.env]
  rfl
theorem okNm_ok {X : Cx} {N : List Str} {p : Str → Bool} {i : Nat} {e : Expr} (hN : X.N = N) (nd : X.N.Nodup) (hp : ∀ x, p x = true → Loc X.env.scope x ∧ (X.fn x = true ∨ X.env.scope.names.lookup x = some .local)) (h : okNm N p i e = true) : PG X e (gName i) := by
  unfold okNm at h
  split at h
  · rw [Bool.and_eq_true, decide_eq_true_eq] at h
    exact pg_name nd (by rw [hN]; exact h.1) (hp _ h.2).1 (hp _ h.2).2
  · cases h
theorem okNms_ok {X : Cx} {N : List Str} {p : Str → Bool} (hN : X.N = N) (nd : X.N.Nodup) (hp : ∀ x, p x = true → Loc X.env.scope x ∧ (X.fn x = true ∨ X.env.scope.names.lookup x = some .local)) : ∀ {is : List Nat} {es : List Expr}, okNms N p is es = true →
    PGs X es (gNames is) ∧ es.length = is.length ∧ (assignEach es X.env).length = is.length ∧ (assignEach es X.env).findIdx? (·.1) = none
  | [], [], _ => ⟨pgs_nil, rfl, rfl, rfl⟩
  | [], _ :: _, h => by simp [okNms] at h
  | _ :: _, [], h => by simp [okNms] at h
  | i :: is, e :: es, h => by
    simp only [okNms, Bool.and_eq_true] at h
    obtain ⟨g1, g2, g3, g4⟩ := okNms_ok hN nd hp h.2
    have ha : assignEach (e :: es) X.env = (false, assign e X.env) :: assignEach es X.env := by
      have := h.1
      unfold okNm at this
      split at this
      · rfl
      · cases this
    refine ⟨pgs_cons (okNm_ok hN nd hp h.1) g1 (by rw [ha]; rfl), by rw [List.length_cons, List.length_cons, g2], by rw [ha, List.length_cons, List.length_cons, g3], ?_⟩
    rw [ha, List.findIdx?_cons]
    simp [g4]
theorem okTg_ok {X : Cx} {N : List Str} {p : Str → Bool} {tg : Tg} {e : Expr} (hN : X.N = N) (nd : X.N.Nodup) (hc : X.calm = true) (hp : ∀ x, p x = true → Loc X.env.scope x ∧ (X.fn x = true ∨ X.env.scope.names.lookup x = some .local)) (h : okTg N p tg e = true) : PG X e (gT X.K tg) := by
  unfold okTg at h
  split at h
  · exact okNm_ok hN nd hp h
  · obtain ⟨g1, g2, g3, g4⟩ := okNms_ok hN nd hp h
    exact pg_tup hc g1 g3 g4
  · cases h
theorem okEs_len {sc : Scope} {Φ : Fns} : ∀ {es : Exs} {es' : List Expr}, okEs cf es sc es' = true → es'.all noStar = true ∧ ∀ env ws ds ws', evs Φ es env ws = some (ds, ws') → ds.length = es'.length
  | .nil, es', h => by
    simp only [okEs] at h
    split at h
    · refine ⟨rfl, fun env ws ds ws' e => ?_⟩
      simp only [evs] at e
      cases e
      rfl
    · cases h
  | .cons e r, es', h => by
    simp only [okEs] at h
    split at h
    · rename_i e' r'
      rw [Bool.and_eq_true, Bool.and_eq_true] at h
      obtain ⟨g1, g2⟩ := okEs_len (Φ := Φ) h.2
      refine ⟨by rw [List.all_cons, h.1.2, g1]; rfl, fun env ws ds ws' q => ?_⟩
      simp only [evs] at q
      split at q
      · cases q
      split at q
      · cases q
      rename_i e2
      cases q
      rw [List.length_cons, List.length_cons, g2 _ _ _ _ e2]
    · cases h
def fresh : Ex → Bool
  | .lst _ => true
  | .dic _ _ => true
  | .comp .. => true
  | .compIf .. => true
  | .b1 f _ => match f with
    | .lstOf => true
    | .dictOf => true
    | .sorted => true
    | .sortedSet => true
    | _ => false
  | _ => false
theorem borrow {e : Expr} {a : Ex} {Φ : Fns} (h : XOk cf P n X sc) (ok : okE cf a sc e = true) (he : PE X e (tE cf.T X.K (ev Φ a))) : PE X e (tB cf.T X.K fun env ws => bor (vi a) env ws (ev Φ a env ws)) := by
  cases hv : vi a with
  | none =>
    have e : (fun (env : Env) (ws : WS) => bor none env ws (ev Φ a env ws)) = ev Φ a := funext fun env => funext fun ws => bor_none
    rw [e]
    exact tE_tB he
  | some i =>
    have ea : a = .var i := by
      unfold vi at hv
      split at hv
      · cases hv; rfl
      · cases hv
    subst ea
    simp only [okE] at ok
    split at ok
    · rw [Bool.and_eq_true, Bool.and_eq_true, decide_eq_true_eq] at ok
      exact pe_vb (h.nm ok.1.1 ok.1.2 ok.2)
    · cases ok
theorem fold_plain {e : Expr} (h : noSet e = true) (env : PySem.Env) : ∀ x, foldedSetIterable e env x = pure x := by
  intro x
  cases e <;> first | rfl | (simp [noSet] at h)
theorem slice_plain {e : Expr} (h : noSlice e = true) : ∀ o i, subscripted e false o i = operate [o, i] (getItem o i) := by
  intro o i
  cases e <;> first | rfl | (simp [noSlice] at h)
theorem marks_plain {op : CmpOp} {e : Expr} (h : noSet e = true) : behindInMarks op e = false := by
  cases e <;> first | rfl | (simp [noSet] at h)
variable {T : Nat → Str}
theorem b1_pe {f : B1} {a : Ex} {a' : Expr} {pos p : Pos} {x : Str} {Φ : Fns} (h : XOk cf P n X sc) (hf : f ≠ .sortedSet) (hx : x = b1N f) (hg : isGl sc x = true) (hs : noStar a' = true) (ha : PE X a' (tB cf.T X.K fun env ws => bor (vi a) env ws (ev Φ a env ws))) :
    PE X (.Call (.Name x p) [a'] [] pos) (tE cf.T X.K (un1 (fun env ws => bor (vi a) env ws (ev Φ a env ws)) (bf1 f))) ∧
    (fresh (.b1 f a) = true → PE X (.Call (.Name x p) [a'] [] pos) (tF cf.T X.K (un1 (fun env ws => bor (vi a) env ws (ev Φ a env ws)) (bf1 f)))) := by
  subst hx
  have g := h.gl hg
  cases f with
  | len => exact ⟨pe_un1 (ht_b len_okr g (h.blt "len" (by decide +kernel)) PySem.boot_len (by decide +kernel) (by decide +kernel) hs) len_okU ha, fun z => by cases z⟩
  | abs => exact ⟨pe_un1 (ht_b call_abs g (h.blt "abs" (by decide +kernel)) boot_abs (by decide +kernel) (by decide +kernel) hs) abs_okU ha, fun z => by cases z⟩
  | int => exact ⟨pe_un1 (ht_t call_int1 g (h.blt "int" (by decide +kernel)) boot_int (by decide +kernel) (by decide +kernel) hs) int_okU ha, fun z => by cases z⟩
  | lstOf =>
    have := pe_unF (T := cf.T) (ht_t (p := p) (pos := pos) (lst_okr h.calm) g (h.blt "list" (by decide +kernel)) boot_list (by decide +kernel) (by decide +kernel) hs) lst_okF ha
    exact ⟨tF_tE this, fun _ => this⟩
  | tupOf => exact ⟨pe_un1 (ht_t call_tupP g (h.blt "tuple" (by decide +kernel)) boot_tuple (by decide +kernel) (by decide +kernel) hs) tup_okU ha, fun z => by cases z⟩
  | dictOf =>
    have := pe_unF (T := cf.T) (ht_t (p := p) (pos := pos) (dct_okr h.calm) g (h.blt "dict" (by decide +kernel)) boot_dict (by decide +kernel) (by decide +kernel) hs) (dct_okF h.T) ha
    exact ⟨tF_tE this, fun _ => this⟩
  | sorted =>
    have := pe_unF (T := cf.T) (ht_b (p := p) (pos := pos) (srt_okr h.calm) g (h.blt "sorted" (by decide +kernel)) boot_sorted (by decide +kernel) (by decide +kernel) hs) srt_okF ha
    exact ⟨tF_tE this, fun _ => this⟩
  | sortedSet => exact absurd rfl hf
  | all => exact ⟨pe_un1 (ht_b (cr_all h.calm) g (h.blt "all" (by decide +kernel)) boot_all (by decide +kernel) (by decide +kernel) hs) all_okU ha, fun z => by cases z⟩
  | any => exact ⟨pe_un1 (ht_b (cr_any h.calm) g (h.blt "any" (by decide +kernel)) boot_any (by decide +kernel) (by decide +kernel) hs) any_okU ha, fun z => by cases z⟩
theorem isi_pe {t : Ty} {a : Ex} {a' : Expr} {pos p p2 : Pos} {x y : Str} {Φ : Fns} (h : XOk cf P n X sc) (hx : x = "isinstance") (hy : y = tyS t) (hg : isGl sc x = true) (hgy : isGl sc y = true) (hs : noStar a' = true) (ha : PE X a' (tB cf.T X.K fun env ws => bor (vi a) env ws (ev Φ a env ws))) :
    PE X (.Call (.Name x p) [a', .Name y p2] [] pos) (tE cf.T X.K (un1 (fun env ws => bor (vi a) env ws (ev Φ a env ws)) (fun d => match isiD t d with
      | none => none
      | some z => some (.bl z)))) := by
  subst hx
  subst hy
  have bt : ∃ u, bootBuiltins (tyS t) = some u ∧ RelV (.ty (tyN t)) u ∧ X.mg (tyS t) = none ∧ tyS t ≠ "__name__" ∧ (tyS t == ("__debug__" : Str)) = false := by
    cases t
    · exact ⟨_, boot_int, rfl, h.blt "int" (by decide +kernel), by decide, by decide⟩
    · exact ⟨_, boot_bool, rfl, h.blt "bool" (by decide +kernel), by decide, by decide⟩
    · exact ⟨_, boot_tuple, rfl, h.blt "tuple" (by decide +kernel), by decide, by decide⟩
    · exact ⟨_, boot_list, rfl, h.blt "list" (by decide +kernel), by decide, by decide⟩
    · exact ⟨_, boot_dict, rfl, h.blt "dict" (by decide +kernel), by decide, by decide⟩
    · exact ⟨_, boot_str, rfl, h.blt "str" (by decide +kernel), by decide, by decide⟩
  obtain ⟨u, h1, h2, h3, h4, h5⟩ := bt
  refine pe_un1 (r := fun x H Q => rIsi X.K [x, .ty (tyN t)] H Q) (fun ta hta => ?_) (isi_okU t) ha
  exact pe_callB call_isi (h.gl hg) (h.blt "isinstance" (by decide +kernel)) boot_isinstance (pa_cons hta (pa_cons (pe_bltn (h.gl hgy) h3 h1 h2 h4 h5) pa_nil (star_cons rfl _ _)) (star_cons hs _ _)) (by decide +kernel) (by decide +kernel) (star_cons hs _ _) rfl
end
end Pv

set_option Elab.async false
set_option linter.all false
set_option maxRecDepth 100000
set_option maxHeartbeats 8000000
/-! Pv16: every expression that matches is read. -/
namespace Pv
open PySem PySem.Spec PyProof.Rows L2
section
variable {cf : Cf} {P : Nat → Option Def} {n : Nat}
theorem isCN_ok {e : Expr} (h : isCN e = true) : ∃ j p, e = .Constant .none j p := by
  unfold isCN at h
  split at h
  · exact ⟨_, _, rfl⟩
  · cases h
theorem copN {o : Cop} (h : o = .isN ∨ o = .notN) : copO o = if decide (o = .notN) then .IsNot else .Is := by
  rcases h with h | h <;> subst h <;> rfl
theorem cmpV {X : Cx} {sc : Scope} {o : Cop} {a b : Ex} {a' b' : Expr} {op : CmpOp} {pos : Pos} {Φ : Fns} (h : XOk cf P n X sc) (ho : copO o = op) (ha : PE X a' (tB cf.T X.K fun env ws => bor (vi a) env ws (ev Φ a env ws)))
    (hb : (if o = .isN ∨ o = .notN then isCN b' else okE cf b sc b' && noSet b') = true) (ib : okE cf b sc b' = true → PE X b' (tE cf.T X.K (ev Φ b))) :
    PE X (.Compare a' [op] [b'] pos) (tE cf.T X.K (ev Φ (.cmp o a b))) ∧ PT X (.Compare a' [op] [b'] pos) (tT cf.T X.K (evT Φ (.cmp o a b))) := by
  by_cases hn : o = .isN ∨ o = .notN
  · rw [if_pos hn] at hb
    obtain ⟨j, p, rfl⟩ := isCN_ok hb
    have e1 := pe_none (pos := pos) (j := j) (p1 := p) (neg := decide (o = .notN)) (op := op) (by rw [← ho, copN hn]) ha
    have e2 := pt_none (pos := pos) (j := j) (p1 := p) (neg := decide (o = .notN)) (op := op) (by rw [← ho, copN hn]) ha
    refine ⟨PE.mono e1 ?_, PT.mono e2 ?_⟩
    · have : ev Φ (.cmp o a b) = oneV (fun env ws => bor (vi a) env ws (ev Φ a env ws)) (decide (o = .notN)) := by
        funext env ws
        unfold oneV
        simp only [ev]
        rcases hn with hn | hn <;> subst hn <;> rfl
      rw [this]; exact fun _ _ _ q => q
    · have : evT Φ (.cmp o a b) = oneT (fun env ws => bor (vi a) env ws (ev Φ a env ws)) (decide (o = .notN)) := by
        funext env ws
        unfold oneT
        simp only [evT]
        rcases hn with hn | hn <;> subst hn <;> rfl
      rw [this]; exact fun _ _ _ q => q
  · rw [if_neg hn, Bool.and_eq_true] at hb
    have hb2 := borrow h hb.1 (ib hb.1)
    have hu : X.A.units + 64 < cLine := h.room.units
    subst ho
    have e1 := pe_two (T := cf.T) (fun ta tb h1 h2 => pe_cmpR (pos := pos) (cop_opr hu o) h1 h2 (marks_plain hb.2)) (cop_ok h.T o) ha hb2
    have e2 := pt_two (T := cf.T) (fun ta tb h1 h2 => pt_cmpR (pos := pos) (cop_opr hu o) h1 h2 (marks_plain hb.2)) (cop_ok h.T o) ha hb2
    have n1 : o ≠ .isN := fun z => hn (.inl z)
    have n2 : o ≠ .notN := fun z => hn (.inr z)
    refine ⟨PE.mono e1 ?_, PT.mono e2 ?_⟩
    · have : ev Φ (.cmp o a b) = two (fun env ws => bor (vi a) env ws (ev Φ a env ws)) (fun env ws => bor (vi b) env ws (ev Φ b env ws)) (fun _ => copD o) := by
        funext env ws
        unfold two copD
        simp only [ev]
        cases o <;> first | exact absurd rfl n1 | exact absurd rfl n2 | skip
        all_goals
          cases bor (vi a) env ws (ev Φ a env ws) with
          | none => rfl
          | some r =>
            obtain ⟨x, ws1⟩ := r
            dsimp only
            cases bor (vi b) env ws1 (ev Φ b env ws1) with
            | none => rfl
            | some r =>
              obtain ⟨y, ws2⟩ := r
              dsimp only
              cases cop _ x y <;> rfl
      rw [this]; exact fun _ _ _ q => q
    · have : evT Φ (.cmp o a b) = twoT (fun env ws => bor (vi a) env ws (ev Φ a env ws)) (fun env ws => bor (vi b) env ws (ev Φ b env ws)) o := by
        funext env ws
        unfold twoT
        simp only [evT]
        try cases o <;> first | exact absurd rfl n1 | exact absurd rfl n2 | rfl
      rw [this]; exact fun _ _ _ q => q
end
end Pv

set_option Elab.async false
set_option linter.all false
set_option maxRecDepth 100000
set_option maxHeartbeats 8000000
/-! Pv17: every expression that matches is read. -/
namespace Pv
open PySem PySem.Spec PyProof.Rows L2
section
variable {cf : Cf} {P : Nat → Option Def} {n : Nat}
theorem relOk {X : Cx} {sc scope : Scope} {own : List (Str × Nat)} {tg : Tg} (h : XOk cf P n X sc) (hb : blkC cf.N sc scope own = true) : BlkOk X.N X.env.scope scope own := by
  rw [h.N, h.env]; exact blkOk_by hb
theorem own_tgs (N : List Str) (tg : Tg) : (ownOf N tg).map (·.2) = tgs tg := by
  unfold ownOf
  rw [List.map_map]
  exact List.map_id _
theorem blkTg {X : Cx} {sc scope : Scope} {tg : Tg} {tg' : Expr} (h : XOk cf P n X sc) (ht : okTg cf.N (isLo (relS' scope sc)) tg tg' = true) (s : Shared) (H : Hp) (C : Addr) (cl : List (Str × Addr)) (fp : List Addr) :
    PG (X.blk s H scope (compEnvC scope cl C X.env) fp) tg' (gT X.K tg) := by
  have hb := h.blk s H scope C cl fp
  refine okTg_ok (X := X.blk s H scope (compEnvC scope cl C X.env) fp) hb.N hb.nd hb.calm (fun x hx => ?_) ht
  have := isLo_ok hx
  rw [← hb.env] at this
  exact ⟨.inl this, .inr this⟩
theorem compV {X : Cx} {sc scope : Scope} {tg : Tg} {it elt : Ex} {tg' it' elt' : Expr} {pos : Pos} {Φ : Fns} (h : XOk cf P n X sc) (hs : noSet it' = true) (hi : PI X tg' it' (tI cf.T X.K false fun env ws => bor (vi it) env ws (ev Φ it env ws)))
    (hb : blkC cf.N sc scope (ownOf cf.N tg) = true) (ht : okTg cf.N (isLo (relS' scope sc)) tg tg' = true)
    (he : ∀ X : Cx, XOk cf P n X (relS' scope sc) → PE X elt' (tE cf.T X.K (ev Φ elt))) : PE X (.ListComp elt' [⟨tg', it', [], 0⟩] scope pos) (tF cf.T X.K (ev Φ (.comp tg it elt))) := by
  have e := pe_cm (T := cf.T) (pos := pos) (fe := ev Φ elt) (ft := fun _ ws => some (true, ws)) h.calm h.nd hi (relOk (tg := tg) h hb) (own_tgs cf.N tg) (blkTg h ht) (fun _ _ _ _ _ => pts_n)
    (fun s H C cl fp => he _ (h.blk s H scope C cl fp)) (fold_plain hs _)
  refine PE.mono e ?_
  have : ev Φ (.comp tg it elt) = compF (fun env ws => bor (vi it) env ws (ev Φ it env ws)) (fun _ ws => some (true, ws)) (ev Φ elt) tg := by
    funext env ws
    unfold compF
    simp only [ev]
    try rfl
  rw [this]; exact fun _ _ _ q => q
theorem compIfV {X : Cx} {sc scope : Scope} {tg : Tg} {it elt : Ex} {c : Tx} {tg' it' elt' c' : Expr} {pos : Pos} {Φ : Fns} (h : XOk cf P n X sc) (hs : noSet it' = true) (hi : PI X tg' it' (tI cf.T X.K false fun env ws => bor (vi it) env ws (ev Φ it env ws)))
    (hb : blkC cf.N sc scope (ownOf cf.N tg) = true) (ht : okTg cf.N (isLo (relS' scope sc)) tg tg' = true)
    (he : ∀ X : Cx, XOk cf P n X (relS' scope sc) → PE X elt' (tE cf.T X.K (ev Φ elt))) (hc : ∀ X : Cx, XOk cf P n X (relS' scope sc) → PT X c' (tT cf.T X.K (evT Φ c))) :
    PE X (.ListComp elt' [⟨tg', it', [c'], 0⟩] scope pos) (tF cf.T X.K (ev Φ (.compIf tg it c elt))) := by
  have e := pe_cm (T := cf.T) (pos := pos) (fe := ev Φ elt) (ft := evT Φ c) h.calm h.nd hi (relOk (tg := tg) h hb) (own_tgs cf.N tg) (blkTg h ht) (fun s H C cl fp => pts_one (hc _ (h.blk s H scope C cl fp)))
    (fun s H C cl fp => he _ (h.blk s H scope C cl fp)) (fold_plain hs _)
  refine PE.mono e ?_
  have : ev Φ (.compIf tg it c elt) = compF (fun env ws => bor (vi it) env ws (ev Φ it env ws)) (evT Φ c) (ev Φ elt) tg := by
    funext env ws
    unfold compF
    simp only [ev]
    try rfl
  rw [this]; exact fun _ _ _ q => q
theorem ev_eq {X : Cx} {e : Expr} {T : Nat → Str} {f g : EvF} (h : PE X e (tE T X.K f)) (q : g = f) : PE X e (tE T X.K g) := by rw [q]; exact h
theorem evF_eq {X : Cx} {e : Expr} {T : Nat → Str} {f g : EvF} (h : PE X e (tF T X.K f)) (q : g = f) : PE X e (tF T X.K g) := by rw [q]; exact h
theorem evT_eq {X : Cx} {e : Expr} {T : Nat → Str} {f g : EvTF} (h : PT X e (tT T X.K f)) (q : g = f) : PT X e (tT T X.K g) := by rw [q]; exact h
/-- what an Ex gives that is walked: looked at, or a range -/
def itF (Φ : Fns) (it : Ex) : EvF := fun env ws => bor (vi it) env ws (ev Φ it env ws)
theorem itB {X : Cx} {sc : Scope} {it : Ex} {tg e : Expr} {R : Prop} (h : XOk cf P n X sc) (hE : okE cf it sc e = true → PE X e (tE cf.T X.K (ev (callO P n) it)) ∧ R) (hI : okIt cf it sc e = true → PI X tg e (tI cf.T X.K false (itF (callO P n) it))) (ok : (okIt cf it sc e || okE cf it sc e) = true) :
    PI X tg e (tI cf.T X.K false (itF (callO P n) it)) := by
  rw [Bool.or_eq_true] at ok
  rcases ok with ok | ok
  · exact hI ok
  · exact pi_v (fz := false) (borrow h ok (hE ok).1)
theorem itF_rng {Φ : Fns} {a : Ex} : itF Φ (.rng a) = rngF (ev Φ a) := by
  funext env ws
  unfold itF rngF
  show ev Φ (.rng a) env ws = _
  simp only [ev]
  try rfl
theorem itF_rng2 {Φ : Fns} {a b : Ex} : itF Φ (.rng2 a b) = rng2F (ev Φ a) (ev Φ b) := by
  funext env ws
  unfold itF rng2F
  show ev Φ (.rng2 a b) env ws = _
  simp only [ev]
  try rfl
mutual
theorem readE : ∀ (a : Ex) (X : Cx) (sc : Scope) (e : Expr), XOk cf P n X sc → okE cf a sc e = true → PE X e (tE cf.T X.K (ev (callO P n) a)) ∧ (fresh a = true → PE X e (tF cf.T X.K (ev (callO P n) a)))
  | .bad, X, sc, e, h, ok => ⟨⟨fun _ _ _ _ _ _ q => by obtain ⟨_, _, _, _, _, _, _, _, hf, _⟩ := q; simp [ev] at hf⟩, fun z => by cases z⟩
  | .non, X, sc, e, h, ok => by
    simp only [okE] at ok
    obtain ⟨j, p, rfl⟩ := isCN_ok ok
    exact ⟨ev_eq (pe_k pe_non fun _ _ => .non) (by funext env ws; simp only [ev]), fun z => by cases z⟩
  | .tt b, X, sc, e, h, ok => by
    simp only [okE] at ok
    split at ok
    · rw [decide_eq_true_eq] at ok
      subst ok
      exact ⟨ev_eq (pe_k pe_bl fun _ _ => .bl b) (by funext env ws; simp only [ev]), fun z => by cases z⟩
    · cases ok
  | .num i, X, sc, e, h, ok => by
    simp only [okE] at ok
    split at ok
    · rw [decide_eq_true_eq] at ok
      subst ok
      exact ⟨ev_eq (pe_k pe_int fun _ _ => .int i) (by funext env ws; simp only [ev]), fun z => by cases z⟩
    · cases ok
  | .txt k, X, sc, e, h, ok => by
    simp only [okE] at ok
    split at ok
    · rw [decide_eq_true_eq] at ok
      subst ok
      exact ⟨ev_eq (pe_k pe_str fun _ _ => .str k) (by funext env ws; simp only [ev]), fun z => by cases z⟩
    · cases ok
  | .var i, X, sc, e, h, ok => by
    simp only [okE] at ok
    split at ok
    · rw [Bool.and_eq_true, Bool.and_eq_true, decide_eq_true_eq] at ok
      exact ⟨ev_eq (pe_va (h.nm ok.1.1 ok.1.2 ok.2)) (by funext env ws; simp only [ev]; try rfl), fun z => by cases z⟩
    · cases ok
  | .con k d, X, sc, e, h, ok => by
    simp only [okE] at ok
    split at ok
    · rename_i x p
      rw [Bool.and_eq_true, Bool.and_eq_true] at ok
      have o1 := ok.1.1
      split at o1
      · rename_i y d' hy
        rw [Bool.and_eq_true, decide_eq_true_eq] at o1
        have := sameD_eq o1.2
        subst this
        have := o1.1
        subst this
        obtain ⟨v, u, h1, h2, h3⟩ := h.con k _ _ hy
        exact ⟨ev_eq (pe_k (pe_glob (h.gl ok.1.2) h1 h2 (plainN_ok ok.2).1) h3) (by funext env ws; simp only [ev]), fun z => by cases z⟩
      · cases o1
    · cases ok
  | .bin o a b, X, sc, e, h, ok => by
    simp only [okE] at ok
    split at ok
    · rw [Bool.and_eq_true, Bool.and_eq_true, decide_eq_true_eq] at ok
      have o1 := ok.1.1
      subst o1
      have ha := borrow h ok.1.2 (readE a X sc _ h ok.1.2).1
      have hb := borrow h ok.2 (readE b X sc _ h ok.2).1
      exact ⟨ev_eq (pe_two (fun ta tb h1 h2 => pe_op (bop_opr o) h1 h2) (bop_ok o) ha hb) (by funext env ws; unfold two; simp only [ev]; try rfl), fun z => by cases z⟩
    · cases ok
  | .neg a, X, sc, e, h, ok => by
    simp only [okE] at ok
    split at ok
    · have ha := (readE a X sc _ h ok).1
      refine ⟨ev_eq (pe_un1 (fun ta h1 => pe_un un_neg h1) neg_okU (tE_tB ha)) ?_, fun z => by cases z⟩
      funext env ws
      unfold un1
      simp only [ev]
      cases ev (callO P n) a env ws with
      | none => rfl
      | some r =>
        obtain ⟨x, ws1⟩ := r
        cases x <;> rfl
    · cases ok
  | .cmp o a b, X, sc, e, h, ok => by
    simp only [okE] at ok
    split at ok
    · rw [Bool.and_eq_true, Bool.and_eq_true, decide_eq_true_eq] at ok
      have ha := borrow h ok.1.2 (readE a X sc _ h ok.1.2).1
      exact ⟨(cmpV h ok.1.1 ha ok.2 fun q => (readE b X sc _ h q).1).1, fun z => by cases z⟩
    · cases ok
  | .andv a r, X, sc, e, h, ok => by
    simp only [okE] at ok
    split at ok
    · rw [Bool.and_eq_true] at ok
      exact ⟨ev_eq (pe_av (readE a X sc _ h ok.1).1 (readE r X sc _ h ok.2).1) (by funext env ws; unfold andV; simp only [ev]; try rfl), fun z => by cases z⟩
    · cases ok
  | .orv a r, X, sc, e, h, ok => by
    simp only [okE] at ok
    split at ok
    · rw [Bool.and_eq_true] at ok
      exact ⟨ev_eq (pe_ov (readE a X sc _ h ok.1).1 (readE r X sc _ h ok.2).1) (by funext env ws; unfold orV; simp only [ev]; try rfl), fun z => by cases z⟩
    · cases ok
  | .one a, X, sc, e, h, ok => by
    simp only [okE] at ok
    split at ok
    · exact ⟨ev_eq (PE.mono (pe_one (readE a X sc _ h ok).1) fun _ _ _ q => q) (by funext env ws; simp only [ev]), fun z => by cases z⟩
    · cases ok
  | .notv a, X, sc, e, h, ok => by
    simp only [okE] at ok
    split at ok
    · exact ⟨ev_eq (pe_nv (readE a X sc _ h ok).1) (by funext env ws; unfold notV; simp only [ev]; try rfl), fun z => by cases z⟩
    · cases ok
  | .ite c a b, X, sc, e, h, ok => by
    simp only [okE] at ok
    split at ok
    · rw [Bool.and_eq_true, Bool.and_eq_true] at ok
      exact ⟨ev_eq (pe_ie (readT c X sc _ h ok.1.1).1 (readE a X sc _ h ok.1.2).1 (readE b X sc _ h ok.2).1) (by funext env ws; unfold iteV; simp only [ev]; try rfl), fun z => by cases z⟩
    · cases ok
  | .tup es, X, sc, e, h, ok => by
    simp only [okE] at ok
    split at ok
    · rw [Bool.and_eq_true] at ok
      exact ⟨ev_eq (pe_dt (readEs es X sc _ h ok.1) ok.2 (okEs_len (Φ := callO P n) ok.1).2) (by funext env ws; unfold dispT; simp only [ev]; try rfl), fun z => by cases z⟩
    · cases ok
  | .lst es, X, sc, e, h, ok => by
    simp only [okE] at ok
    split at ok
    · rw [Bool.and_eq_true] at ok
      have := fun pos => evF_eq (pe_dl (pos := pos) (readEs es X sc _ h ok.1) ok.2 (okEs_len (Φ := callO P n) ok.1).2) (g := ev (callO P n) (.lst es)) (by funext env ws; unfold dispL; simp only [ev]; try rfl)
      exact ⟨tF_tE (this _), fun _ => this _⟩
    · cases ok
  | .dic .nil .nil, X, sc, e, h, ok => by
    simp only [okE] at ok
    split at ok
    · have := fun pos => evF_eq (X := X) (T := cf.T) (pe_d0 (pos := pos)) (g := ev (callO P n) (.dic .nil .nil)) (by funext env ws; simp only [ev])
      exact ⟨tF_tE (this _), fun _ => this _⟩
    · cases ok
  | .dic (.cons k .nil) (.cons v .nil), X, sc, e, h, ok => by
    simp only [okE] at ok
    split at ok
    · rw [Bool.and_eq_true] at ok
      have := fun pos => evF_eq (pe_d1 (pos := pos) (readE k X sc _ h ok.1).1 (readE v X sc _ h ok.2).1) (g := ev (callO P n) (.dic (.cons k .nil) (.cons v .nil))) (by funext env ws; unfold dispD; simp only [ev]; try rfl)
      exact ⟨tF_tE (this _), fun _ => this _⟩
    · cases ok
  | .dic .nil (.cons _ _), X, sc, e, h, ok => by simp [okE] at ok
  | .dic (.cons _ _) .nil, X, sc, e, h, ok => by simp [okE] at ok
  | .dic (.cons _ (.cons _ _)) (.cons _ _), X, sc, e, h, ok => by simp [okE] at ok
  | .dic (.cons _ .nil) (.cons _ (.cons _ _)), X, sc, e, h, ok => by simp [okE] at ok
  | .ix a b, X, sc, e, h, ok => by
    simp only [okE] at ok
    split at ok
    · rw [Bool.and_eq_true, Bool.and_eq_true] at ok
      have ha := borrow h ok.1.1 (readE a X sc _ h ok.1.1).1
      have hb := tE_tB (readE b X sc _ h ok.1.2).1
      have e1 := fun pos => pe_two (T := cf.T) (fun ta tb h1 h2 => pe_ix (pos := pos) ix_okr h1 h2 (slice_plain ok.2)) ix_ok ha hb
      have e2 := fun pos => pe_two (T := cf.T) (r := rDG) (fun ta tb h1 h2 => pe_dget (pos := pos) (hu_of h.room) h1 h2 (slice_plain ok.2)) (ixG_ok h.T) ha hb
      refine ⟨⟨fun pins s σ H Q I q => ?_⟩, fun z => by cases z⟩
      obtain ⟨O, wa, env, ω, ws, d, ws', st, hf, k⟩ := q
      simp only [ev] at hf
      split at hf
      · cases hf
      rename_i x ws1 e3
      split at hf
      · cases hf
      rename_i y ws2 e4
      split at hf
      · cases hf
      rename_i z e5
      cases hf
      have alt : ixS x y = some d ∨ ixG ws' x y = some d := by
        cases x <;> cases y <;> first | (left; exact e5) | (right; exact e5) | (cases e5)
      rcases alt with alt | alt
      · refine (e1 _).run pins s σ H Q I ⟨O, wa, env, ω, ws, d, ws', st, ?_, k⟩
        unfold two
        dsimp only
        rw [e3]
        dsimp only
        rw [e4]
        dsimp only
        rw [alt]
      · refine (e2 _).run pins s σ H Q I ⟨O, wa, env, ω, ws, d, ws', st, ?_, k⟩
        unfold two
        dsimp only
        rw [e3]
        dsimp only
        rw [e4]
        dsimp only
        rw [alt]
    · cases ok
  | .sl a lo hi, X, sc, e, h, ok => by
    simp only [okE] at ok
    split at ok
    · rename_i a' l h' p2 p
      rw [Bool.and_eq_true, Bool.and_eq_true] at ok
      have ha := borrow h ok.1.1 (readE a X sc _ h ok.1.1).1
      have pl : PO X l (tP cf.T X.K (isN lo) (ev (callO P n) lo)) := by
        have o2 := ok.1.2
        cases l with
        | none =>
          have el : lo = .non := by
            cases lo <;> first | rfl | (simp [isN] at o2)
          subst el
          have : ev (callO P n) .non = fun _ ws => some (.non, ws) := by funext env ws; simp only [ev]
          rw [this]
          exact po_n
        | some l' =>
          rw [Bool.and_eq_true, Bool.not_eq_true'] at o2
          rw [o2.1]
          exact po_s (readE lo X sc _ h o2.2).1
      have ph : PO X h' (tP cf.T X.K (isN hi) (ev (callO P n) hi)) := by
        have o2 := ok.2
        cases h' with
        | none =>
          have el : hi = .non := by
            cases hi <;> first | rfl | (simp [isN] at o2)
          subst el
          have : ev (callO P n) .non = fun _ ws => some (.non, ws) := by funext env ws; simp only [ev]
          rw [this]
          exact po_n
        | some l' =>
          rw [Bool.and_eq_true, Bool.not_eq_true'] at o2
          rw [o2.1]
          exact po_s (readE hi X sc _ h o2.2).1
      exact ⟨ev_eq (pe_slc ha pl ph) (by funext env ws; unfold sl3; simp only [ev]; try rfl), fun z => by cases z⟩
    · cases ok
  | .call f args, X, sc, e, h, ok => by
    simp only [okE] at ok
    split at ok
    · rename_i x p a as p2
      rw [Bool.and_eq_true, Bool.and_eq_true, Bool.and_eq_true, decide_eq_true_eq] at ok
      obtain ⟨fA, fd, ps, F, hm, hk, hb⟩ := h.fns f x ok.1.1.1
      have hl := (okEs_len (Φ := callO P n) ok.2).1
      rw [List.all_cons, Bool.and_eq_true] at hl
      exact ⟨ev_eq (pe_cl F h.room (h.gl ok.1.1.2) hm hk hb (readEs args X sc _ h ok.2) (plainN_ok ok.1.2).1 hl.1 hl.2) (by funext env ws; unfold callF; simp only [ev]; try rfl), fun z => by cases z⟩
    · cases ok
  | .b1 f a, X, sc, e, h, ok => by
    simp only [okE] at ok
    split at ok
    · by_cases hf : f = .sortedSet
      · subst hf
        rw [if_pos rfl] at ok
        split at ok
        · rw [Bool.and_eq_true, Bool.and_eq_true, Bool.and_eq_true, Bool.and_eq_true, Bool.and_eq_true, decide_eq_true_eq, decide_eq_true_eq] at ok
          have e1 := ok.1.1.1.1.1
          have e2 := ok.1.1.1.1.2
          subst e1
          subst e2
          have ha := borrow h ok.1.2 (readE a X sc _ h ok.1.2).1
          have q : ev (callO P n) (.b1 .sortedSet a) = un1 (fun env ws => bor (vi a) env ws (ev (callO P n) a env ws)) (bf1 .sortedSet) := by funext env ws; unfold un1; simp only [ev]; try rfl
          have := fun p p1 p2 pos => evF_eq (pe_ss (p := p) (p1 := p1) (p2 := p2) (pos := pos) h.calm rfl rfl (h.gl ok.1.1.1.2) (h.gl ok.1.1.2) (h.blt "sorted" (by decide +kernel)) (h.blt "set" (by decide +kernel)) ok.2 ha) q
          exact ⟨tF_tE (this _ _ _ _), fun _ => this _ _ _ _⟩
        · cases ok
      · rw [if_neg hf, Bool.and_eq_true, Bool.and_eq_true, Bool.and_eq_true, decide_eq_true_eq] at ok
        have ha := borrow h ok.1.2 (readE a X sc _ h ok.1.2).1
        have := fun pos p => b1_pe (pos := pos) (p := p) h hf ok.1.1.1 ok.1.1.2 ok.2 ha
        have q : ev (callO P n) (.b1 f a) = un1 (fun env ws => bor (vi a) env ws (ev (callO P n) a env ws)) (bf1 f) := by funext env ws; unfold un1; simp only [ev]; try rfl
        exact ⟨ev_eq (this _ _).1 q, fun z => evF_eq ((this _ _).2 z) q⟩
    · cases ok
  | .b2 f a b, X, sc, e, h, ok => by
    simp only [okE] at ok
    split at ok
    · rw [Bool.and_eq_true, Bool.and_eq_true, Bool.and_eq_true, Bool.and_eq_true, Bool.and_eq_true, decide_eq_true_eq] at ok
      have o1 := ok.1.1.1.1.1
      subst o1
      have ha := tE_tB (readE a X sc _ h ok.1.1.1.2).1
      have hb := tE_tB (readE b X sc _ h ok.1.1.2).1
      have q : ev (callO P n) (.b2 f a b) = two (ev (callO P n) a) (ev (callO P n) b) (fun _ x y => bf2 f x y) := by funext env ws; unfold two; simp only [ev]; try rfl
      cases f with
      | max => exact ⟨ev_eq (pe_two (ht_b2 (call_max2 h.calm) (h.gl ok.1.1.1.1.2) (h.blt "max" (by decide +kernel)) boot_max (by decide +kernel) (by decide +kernel) ok.1.2 ok.2) max_ok ha hb) q, fun z => by cases z⟩
      | min => exact ⟨ev_eq (pe_two (ht_b2 (call_min2 h.calm) (h.gl ok.1.1.1.1.2) (h.blt "min" (by decide +kernel)) boot_min (by decide +kernel) (by decide +kernel) ok.1.2 ok.2) min_ok ha hb) q, fun z => by cases z⟩
    · cases ok
  | .isi t a, X, sc, e, h, ok => by
    simp only [okE] at ok
    split at ok
    · rw [Bool.and_eq_true, Bool.and_eq_true, Bool.and_eq_true, Bool.and_eq_true, Bool.and_eq_true, decide_eq_true_eq, decide_eq_true_eq] at ok
      have ha := borrow h ok.1.2 (readE a X sc _ h ok.1.2).1
      refine ⟨ev_eq (isi_pe h ok.1.1.1.1.1 ok.1.1.1.1.2 ok.1.1.1.2 ok.1.1.2 ok.2 ha) ?_, fun z => by cases z⟩
      funext env ws
      unfold un1
      simp only [ev]
      cases bor (vi a) env ws (ev (callO P n) a env ws) with
      | none => rfl
      | some r =>
        obtain ⟨x, ws1⟩ := r
        dsimp only
        cases isiD t x <;> rfl
    · cases ok
  | .get2 d k x, X, sc, e, h, ok => by
    simp only [okE] at ok
    split at ok
    · rw [Bool.and_eq_true, Bool.and_eq_true, Bool.and_eq_true, Bool.and_eq_true, Bool.and_eq_true, Bool.and_eq_true, Bool.and_eq_true, decide_eq_true_eq] at ok
      have o1 := ok.1.1.1.1.1.1.1
      subst o1
      have hd := borrow h ok.1.1.1.1.1.1.2 (readE d X sc _ h ok.1.1.1.1.1.1.2).1
      exact ⟨ev_eq (pe_get h.T (hu_of h.room) hd (readE k X sc _ h ok.1.1.1.1.1.2).1 (readE x X sc _ h ok.1.1.1.1.2).1 ok.1.1.1.2 ok.1.1.2 ok.1.2 ok.2) (by funext env ws; unfold getF; simp only [ev]; try rfl), fun z => by cases z⟩
    · cases ok
  | .rng a, X, sc, e, h, ok => by simp [okE] at ok
  | .rng2 a b, X, sc, e, h, ok => by simp [okE] at ok
  | .comp tg it elt, X, sc, e, h, ok => by
    simp only [okE] at ok
    split at ok
    · rw [Bool.and_eq_true, Bool.and_eq_true, Bool.and_eq_true, Bool.and_eq_true] at ok
      have hi := fun tg => itB (tg := tg) h (readE it X sc _ h) (readI it X sc tg _ false h) ok.1.1.1.1
      have := fun pos => compV (pos := pos) h ok.1.1.1.2 (hi _) ok.1.1.2 ok.1.2 fun X' h' => (readE elt X' _ _ h' ok.2).1
      exact ⟨tF_tE (this _), fun _ => this _⟩
    · cases ok
  | .compIf tg it c elt, X, sc, e, h, ok => by
    simp only [okE] at ok
    split at ok
    · rw [Bool.and_eq_true, Bool.and_eq_true, Bool.and_eq_true, Bool.and_eq_true, Bool.and_eq_true] at ok
      have hi := fun tg => itB (tg := tg) h (readE it X sc _ h) (readI it X sc tg _ false h) ok.1.1.1.1.1
      have := fun pos => compIfV (pos := pos) h ok.1.1.1.1.2 (hi _) ok.1.1.1.2 ok.1.1.2 (fun X' h' => (readE elt X' _ _ h' ok.1.2).1) fun X' h' => (readT c X' _ _ h' ok.2).1
      exact ⟨tF_tE (this _), fun _ => this _⟩
    · cases ok
theorem readI : ∀ (it : Ex) (X : Cx) (sc : Scope) (tg e : Expr) (fz : Bool), XOk cf P n X sc → okIt cf it sc e = true → PI X tg e (tI cf.T X.K fz (itF (callO P n) it))
  | .rng a, X, sc, tg, e, fz, h, ok => by
    simp only [okIt] at ok
    split at ok
    · rw [Bool.and_eq_true, Bool.and_eq_true, Bool.and_eq_true, decide_eq_true_eq] at ok
      have o1 := ok.1.1.1
      subst o1
      rw [itF_rng]
      exact pi_r1 (h.gl ok.1.1.2) (h.blt "range" (by decide +kernel)) (readE a X sc _ h ok.1.2).1 ok.2
    · cases ok
  | .rng2 a b, X, sc, tg, e, fz, h, ok => by
    simp only [okIt] at ok
    split at ok
    · rw [Bool.and_eq_true, Bool.and_eq_true, Bool.and_eq_true, Bool.and_eq_true, Bool.and_eq_true, decide_eq_true_eq] at ok
      have o1 := ok.1.1.1.1.1
      subst o1
      rw [itF_rng2]
      exact pi_r2 (h.gl ok.1.1.1.1.2) (h.blt "range" (by decide +kernel)) (readE a X sc _ h ok.1.1.1.2).1 (readE b X sc _ h ok.1.1.2).1 ok.1.2 ok.2
    · cases ok
  | .bad, _, _, _, _, _, _, ok | .non, _, _, _, _, _, _, ok | .tt _, _, _, _, _, _, _, ok | .num _, _, _, _, _, _, _, ok | .txt _, _, _, _, _, _, _, ok | .var _, _, _, _, _, _, _, ok | .con _ _, _, _, _, _, _, _, ok
  | .bin _ _ _, _, _, _, _, _, _, ok | .neg _, _, _, _, _, _, _, ok | .cmp _ _ _, _, _, _, _, _, _, ok | .andv _ _, _, _, _, _, _, _, ok | .orv _ _, _, _, _, _, _, _, ok | .one _, _, _, _, _, _, _, ok | .notv _, _, _, _, _, _, _, ok
  | .ite _ _ _, _, _, _, _, _, _, ok | .tup _, _, _, _, _, _, _, ok | .lst _, _, _, _, _, _, _, ok | .dic _ _, _, _, _, _, _, _, ok | .ix _ _, _, _, _, _, _, _, ok | .sl _ _ _, _, _, _, _, _, _, ok | .call _ _, _, _, _, _, _, _, ok
  | .b1 _ _, _, _, _, _, _, _, ok | .b2 _ _ _, _, _, _, _, _, _, ok | .isi _ _, _, _, _, _, _, _, ok | .get2 _ _ _, _, _, _, _, _, _, ok | .comp _ _ _, _, _, _, _, _, _, ok | .compIf _ _ _ _, _, _, _, _, _, _, ok => by simp [okIt] at ok
theorem readEs : ∀ (a : Exs) (X : Cx) (sc : Scope) (e : List Expr), XOk cf P n X sc → okEs cf a sc e = true → PA X e (tA cf.T X.K (evs (callO P n) a))
  | .nil, X, sc, e, h, ok => by
    simp only [okEs] at ok
    split at ok
    · exact PA.mono pa_n (by
        have : evs (callO P n) .nil = fun _ ws => some ([], ws) := by funext env ws; simp only [evs]
        rw [this]; exact fun _ _ _ q => q)
    · cases ok
  | .cons a r, X, sc, e, h, ok => by
    simp only [okEs] at ok
    split at ok
    · rw [Bool.and_eq_true, Bool.and_eq_true] at ok
      exact PA.mono (pa_c (readE a X sc _ h ok.1.1).1 (readEs r X sc _ h ok.2) ok.1.2) (by
        have : evs (callO P n) (.cons a r) = consA (ev (callO P n) a) (evs (callO P n) r) := by funext env ws; unfold consA; simp only [evs]; try rfl
        rw [this]; exact fun _ _ _ q => q)
    · cases ok
theorem readT : ∀ (a : Tx) (X : Cx) (sc : Scope) (e : Expr), XOk cf P n X sc → okT cf a sc e = true → PT X e (tT cf.T X.K (evT (callO P n) a)) ∧ (isB2 a = true → PW X e (tT cf.T X.K (evT (callO P n) a)))
  | .val a, X, sc, e, h, ok => by
    simp only [okT, Bool.and_eq_true] at ok
    exact ⟨evT_eq (pt_v (readE a X sc _ h ok.1).1 ok.2) (by funext env ws; unfold valT; simp only [evT]; try rfl), fun z => by cases z⟩
  | .cmp o a b, X, sc, e, h, ok => by
    simp only [okT] at ok
    split at ok
    · rw [Bool.and_eq_true, Bool.and_eq_true, decide_eq_true_eq] at ok
      have ha := borrow h ok.1.2 (readE a X sc _ h ok.1.2).1
      exact ⟨(cmpV h ok.1.1 ha ok.2 fun q => (readE b X sc _ h q).1).2, fun z => by cases z⟩
    · cases ok
  | .not a, X, sc, e, h, ok => by
    simp only [okT] at ok
    split at ok
    · exact ⟨evT_eq (pt_n (readT a X sc _ h ok).1) (by funext env ws; unfold notT; simp only [evT]; try rfl), fun z => by cases z⟩
    · cases ok
  | .and2 a r, X, sc, e, h, ok => by
    simp only [okT] at ok
    split at ok
    · rw [Bool.and_eq_true, Bool.and_eq_true] at ok
      have q : evT (callO P n) (.and2 a r) = andT (evT (callO P n) a) (evT (callO P n) r) := by funext env ws; unfold andT; simp only [evT]; try rfl
      have := pw_a (readT a X sc _ h ok.1.1).1 ((readT r X sc _ h ok.1.2).2 ok.2)
      rw [← q] at this
      exact ⟨this.pt, fun _ => this⟩
    · cases ok
  | .or2 a r, X, sc, e, h, ok => by
    simp only [okT] at ok
    split at ok
    · rw [Bool.and_eq_true, Bool.and_eq_true] at ok
      have q : evT (callO P n) (.or2 a r) = orT (evT (callO P n) a) (evT (callO P n) r) := by funext env ws; unfold orT; simp only [evT]; try rfl
      have := pw_o (readT a X sc _ h ok.1.1).1 ((readT r X sc _ h ok.1.2).2 ok.2)
      rw [← q] at this
      exact ⟨this.pt, fun _ => this⟩
    · cases ok
  | .one a, X, sc, e, h, ok => by
    simp only [okT] at ok
    split at ok
    · rename_i op x p
      have q : evT (callO P n) (.one a) = evT (callO P n) a := by funext env ws; simp only [evT]
      have ha := (readT a X sc _ h ok).1
      rw [← q] at ha
      cases op with
      | And => exact ⟨(pw_a1 ha).pt, fun _ => pw_a1 ha⟩
      | Or => exact ⟨(pw_o1 ha).pt, fun _ => pw_o1 ha⟩
    · cases ok
  | .ite _ _ _, X, sc, e, h, ok => by simp [okT] at ok
end
end
end Pv

set_option Elab.async false
set_option linter.all false
set_option maxRecDepth 100000
set_option maxHeartbeats 8000000
/-! Pv18: when an St is what a text's statement says. -/
namespace Pv
open PySem PySem.Spec PyProof.Rows L2

def noComp : Expr → Bool
  | .ListComp .. => false
  | .SetComp .. => false
  | .DictComp .. => false
  | _ => true
def noTup : Expr → Bool
  | .Tuple .. => false
  | _ => true
def isNm : Expr → Bool
  | .Name .. => true
  | _ => false
def isTp : Expr → Bool
  | .Tuple .. => true
  | _ => false
def isCmp : Ex → Bool
  | .comp .. => true
  | .compIf .. => true
  | _ => false
theorem sw_no {e : Expr} (h : noComp e = true) (t : Option Expr) (l : Nat) (env : PySem.Env) : swapsWith e t l env = pure false := by
  cases e <;> first | rfl | (simp [noComp] at h)
theorem sw_tp {tg e : Expr} (h : isTp tg = true) (l : Nat) (env : PySem.Env) : swapsWith e (some tg) l env = pure false := by
  cases tg <;> first | (simp [isTp] at h; done) | skip
  cases e <;> rfl
theorem ss_nm {tg e : Expr} (h : (isNm tg || noTup e) = true) (env : PySem.Env) : swappedStores [tg] e env = pure none := by
  cases tg <;> first | rfl | skip
  all_goals (cases e <;> first | rfl | (simp [isNm, noTup] at h))
/-- the comprehension's names do not hide the target's -/
def swT (sc : Scope) (x : Str) (px : Pos) : Expr → Bool
  | .ListComp _ _ scope p => isLo sc x && (px.line == p.line) && !(scope.names.any fun (n, k) => n == x && (k == .local || k == .cell))
  | _ => false
/-- several stores in turn: how the machine orders them -/
def nmsOf (sc : Scope) (line : Nat) (ts : List Expr) : List Str := ts.filterMap fun
  | .Name id pos => if sc.names.lookup id == some .local && pos.line == line then some id else none
  | _ => none
def hdLine (ts : List Expr) : Nat := (ts.head?.map (·.pos.line)).getD 0
def anyStar (vs : List Expr) : Bool := vs.any fun | .Starred .. => true | _ => false
def swNo (sc : Scope) (ts vs : List Expr) : Bool :=
  (!(ts.length == 2 || ts.length == 3) || vs.length != ts.length) || (!anyStar vs && (((nmsOf sc (hdLine ts) ts).length != ts.length || (nmsOf sc (hdLine ts) ts).eraseDups.length != (nmsOf sc (hdLine ts) ts).length) || vs.all (foldedForSure 8)))
theorem sws_eq {env : PySem.Env} {ts vs : List Expr} {k k2 : Nat} {p p2 : Pos} (hk : env.scope.kind = .function) : swappedStores [.Tuple ts k p] (.Tuple vs k2 p2) env =
    (if !(ts.length == 2 || ts.length == 3) || vs.length != ts.length then pure none else if anyStar vs then pure none else
      if (nmsOf env.scope (hdLine ts) ts).length != ts.length || (nmsOf env.scope (hdLine ts) ts).eraseDups.length != (nmsOf env.scope (hdLine ts) ts).length then pure none else
      if vs.all (foldedForSure 8) then pure none else if vs.all (constantsAlone 8) then unsupported "assign.tuple-of-constant-expressions:order-of-the-stores" else pure (some (nmsOf env.scope (hdLine ts) ts))) := by
  have hb : env.blockKind = .function := by unfold PySem.Env.blockKind; rw [hk]; rfl
  have hb2 : (env.blockKind != .function) = false := by rw [hb]; rfl
  unfold swappedStores
  simp only [hb2, Bool.or_false]
  rfl
theorem sws_no {env : PySem.Env} {ts vs : List Expr} {k k2 : Nat} {p p2 : Pos} (hk : env.scope.kind = .function) (h : swNo env.scope ts vs = true) : swappedStores [.Tuple ts k p] (.Tuple vs k2 p2) env = pure none := by
  rw [sws_eq hk]
  unfold swNo at h
  generalize (!(ts.length == 2 || ts.length == 3) || vs.length != ts.length) = c1 at h ⊢
  generalize ((nmsOf env.scope (hdLine ts) ts).length != ts.length || (nmsOf env.scope (hdLine ts) ts).eraseDups.length != (nmsOf env.scope (hdLine ts) ts).length) = c3 at h ⊢
  generalize vs.all (foldedForSure 8) = c4 at h ⊢
  generalize anyStar vs = c2 at h ⊢
  cases c1 <;> cases c2 <;> cases c3 <;> cases c4 <;> first | rfl | (cases h)
def swYes (sc : Scope) (ts vs : List Expr) (xs : List Str) : Bool :=
  !(!(ts.length == 2 || ts.length == 3) || vs.length != ts.length) && !anyStar vs && !((nmsOf sc (hdLine ts) ts).length != ts.length || (nmsOf sc (hdLine ts) ts).eraseDups.length != (nmsOf sc (hdLine ts) ts).length) && !vs.all (foldedForSure 8) && !vs.all (constantsAlone 8) &&
    decide (nmsOf sc (hdLine ts) ts = xs)
theorem sws_yes {env : PySem.Env} {ts vs : List Expr} {k k2 : Nat} {p p2 : Pos} {xs : List Str} (hk : env.scope.kind = .function) (h : swYes env.scope ts vs xs = true) : swappedStores [.Tuple ts k p] (.Tuple vs k2 p2) env = pure (some xs) := by
  rw [sws_eq hk]
  unfold swYes at h
  simp only [Bool.and_eq_true, Bool.not_eq_true', decide_eq_true_eq] at h
  obtain ⟨⟨⟨⟨⟨h1, h2⟩, h3⟩, h4⟩, h5⟩, h6⟩ := h
  rw [h1, h2, h3, h4, h5, h6]
  rfl
/-- the parts of a tuple that are made anew -/
def frOk : List (Nat × Bool) → Exs → Bool
  | [], .nil => true
  | (_, o) :: r, .cons e es => (!o || fresh e) && frOk r es
  | _, _ => false
def parC (sc : Scope) (is : List (Nat × Bool)) (ts vs : List Expr) : Bool := match is, ts, vs with
  | [a, b], [.Name x _, .Name y _], [_, _] => isLo sc x && isLo sc y && decide (a.1 ≠ b.1) && swYes sc ts vs [x, y]
  | [a, b, c], [.Name x _, .Name y _, .Name z _], [_, _, _] => isLo sc x && isLo sc y && isLo sc z && decide (a.1 ≠ b.1) && decide (a.1 ≠ c.1) && decide (b.1 ≠ c.1) && swYes sc ts vs [x, y, z]
  | _, _, _ => false
mutual
def okS (cf : Cf) : St → Scope → Stmt → Bool
  | .bad, _, _ => true
  | .pass, _, s => match s with
    | .Pass _ => true
    | _ => false
  | .set tg e, sc, s => match s with
    | .Assign [t] v _ => okTg cf.N (isLoc sc) tg t && okE cf e sc v && noComp v && (isNm t || noTup v)
    | _ => false
  | .own i e, sc, s => match s with
    | .Assign [.Name x px] v _ => decide (cf.N[i]? = some x) && isLoc sc x && okE cf e sc v && fresh e && (noComp v || (isCmp e && swT sc x px v))
    | _ => false
  | .par is es, sc, s => match s with
    | .Assign [.Tuple ts _ _] (.Tuple vs _ _) _ => okNms cf.N (isLoc sc) (is.map (·.1)) ts && okEs cf es sc vs && frOk is es && okLen is.length &&
      (swNo sc ts vs || parC sc is ts vs)
    | _ => false
  | .aug i o e, sc, s => match s with
    | .AugAssign (.Name x _) op v _ => decide (cf.N[i]? = some x) && isLoc sc x && decide (bopO o = op) && okE cf e sc v
    | _ => false
  | .dput i k e, sc, s => match s with
    | .Assign [.Subscript (.Name x _) a _] v _ => decide (cf.N[i]? = some x) && isVis sc x && plainN x && okE cf k sc a && okE cf e sc v
    | _ => false
  | .waug i k o e, sc, s => match s with
    | .AugAssign (.Subscript (.Name x _) (.Constant (.str t) _ _) _) op v _ => decide (cf.N[i]? = some x) && isVis sc x && plainN x && decide (cf.T k = t) && decide (bopO o = op) && okE cf e sc v
    | _ => false
  | .mkw i k l a b, sc, s => match s with
    | .Assign [.Name x _] (.Dict [some (.Constant (.str t) _ _), some (.Constant (.str u) _ _)] [a', b'] _) _ => decide (cf.N[i]? = some x) && isLoc sc x && decide (cf.T k = t) && decide (cf.T l = u) && okE cf a sc a' && okE cf b sc b'
    | _ => false
  | .app i e, sc, s => match s with
    | .Expr (.Call (.Attribute (.Name x _) m ap) [v] [] cp) _ => decide (m = "append") && decide (cf.N[i]? = some x) && isVis sc x && plainN x && okE cf e sc v && noStar v && (ap.endLine == cp.line)
    | _ => false
  | .ext i e, sc, s => match s with
    | .Expr (.Call (.Attribute (.Name x _) m ap) [v] [] cp) _ => decide (m = "extend") && decide (cf.N[i]? = some x) && isVis sc x && plainN x && okE cf e sc v && noStar v && (ap.endLine == cp.line)
    | _ => false
  | .pop tg i, sc, s => match s with
    | .Assign [t] (.Call (.Attribute (.Name x _) m ap) [] [] cp) _ => okTg cf.N (isLoc sc) tg t && decide (m = "pop") && decide (cf.N[i]? = some x) && isVis sc x && plainN x && (ap.endLine == cp.line)
    | _ => false
  | .drop e, sc, s => match s with
    | .Expr v _ => okE cf e sc v && noComp v
    | _ => false
  | .ite c a b, sc, s => match s with
    | .If c' a' b' _ => okT cf c sc c' && okSs cf a sc a' && okSs cf b sc b'
    | _ => false
  | .whl c b, sc, s => match s with
    | .While c' b' [] _ => okT cf c sc c' && okSs cf b sc b'
    | _ => false
  | .for_ tg it b, sc, s => match s with
    | .For t it' b' [] _ => okTg cf.N (isLoc sc) tg t && (okIt cf it sc it' || okE cf it sc it') && noSet it' && okSs cf b sc b'
    | _ => false
  | .ret e, sc, s => match s with
    | .Return (some v) _ => okE cf e sc v
    | _ => false
  | .retN, _, s => match s with
    | .Return none _ => true
    | _ => false
  | .brk, _, s => match s with
    | .Break _ => true
    | _ => false
  | .cont, _, s => match s with
    | .Continue _ => true
    | _ => false
  | .frz _, _, _ => false
def okSs (cf : Cf) : Sts → Scope → List Stmt → Bool
  | .nil, _, ss => match ss with
    | [] => true
    | _ => false
  | .cons s r, sc, ss => match s with
    | .frz _ => okSs cf r sc ss
    | _ => match ss with
      | s' :: r' => okS cf s sc s' && okSs cf r sc r'
      | [] => false
end
end Pv

set_option Elab.async false
set_option linter.all false
set_option maxRecDepth 100000
set_option maxHeartbeats 8000000
/-! Pv19: every statement that matches is walked. -/
namespace Pv
open PySem PySem.Spec PyProof.Rows L2
structure BOk (cf : Cf) (P : Nat → Option Def) (n : Nat) (X : Cx) (sc : Scope) : Prop where
  ok : XOk cf P n X sc
  fn : ∀ x, X.fn x = true
  kind : sc.kind = .function
  own : PassesOwn (model X.prog X.w) X.A X.env X.xe
theorem ps_cm {T : Nat → Str} {X : Cx} {elt tge iter : Expr} {ifs : List Expr} {scope : Scope} {own : List (Str × Nat)} {i : Nat} {y : Str} {py pos spos : Pos} {fi fe : EvF} {ft : EvTF} {tg : Tg} (hc : X.calm = true) (hN : X.N.Nodup) (hy : X.N[i]? = some y) (hyl : X.env.scope.names.lookup y = some .local)
    (hsw : swapsWith (.ListComp elt [⟨tge, iter, ifs, 0⟩] scope pos) (some (.Name y py)) spos.line X.env = pure true) (hi : PI X tge iter (tI T X.K false fi)) (ok : BlkOk X.N X.env.scope scope own) (hown : own.map (·.2) = tgs tg)
    (hg : ∀ (s : Shared) (H : Hp) (C : Addr) (cl : List (Str × Addr)) (fp : List Addr), PG (X.blk s H scope (compEnvC scope cl C X.env) fp) tge (gT X.K tg))
    (ht : ∀ (s : Shared) (H : Hp) (C : Addr) (cl : List (Str × Addr)) (fp : List Addr), PTs (X.blk s H scope (compEnvC scope cl C X.env) fp) ifs (tT T X.K ft))
    (he : ∀ (s : Shared) (H : Hp) (C : Addr) (cl : List (Str × Addr)) (fp : List Addr), PE (X.blk s H scope (compEnvC scope cl C X.env) fp) elt (tE T X.K fe)) (hs : ∀ x, foldedSetIterable iter X.env x = pure x) :
    PS X (.Assign [.Name y py] (.ListComp elt [⟨tge, iter, ifs, 0⟩] scope pos) spos) (tAsg (tF T X.K (compF fi ft fe tg)) (gName i)) := by
  have := ps_setLc hc hN hy hyl hsw hi ok hg ht he hs
  rw [hown] at this
  exact PS.mono this fun D σ H q => lc_read σ H _ q
section
variable {cf : Cf} {P : Nat → Option Def} {n : Nat} {X : Cx} {sc : Scope}
theorem BOk.loc (h : BOk cf P n X sc) {x : Str} (q : isLoc sc x = true) : Loc X.env.scope x ∧ (X.fn x = true ∨ X.env.scope.names.lookup x = some .local) := by
  rw [h.ok.env]; exact ⟨isLoc_ok q, .inl (h.fn x)⟩
theorem BOk.lo (h : BOk cf P n X sc) {x : Str} (q : isLo sc x = true) : X.env.scope.names.lookup x = some .local := by
  rw [h.ok.env]; exact isLo_ok q
theorem BOk.at (h : BOk cf P n X sc) {i : Nat} {x : Str} (q : cf.N[i]? = some x) : X.N[i]? = some x := by rw [h.ok.N]; exact q
theorem BOk.kd (h : BOk cf P n X sc) : X.env.scope.kind = .function := by rw [h.ok.env]; exact h.kind
theorem BOk.tg (h : BOk cf P n X sc) {tg : Tg} {t : Expr} (q : okTg cf.N (isLoc sc) tg t = true) : PG X t (gT X.K tg) := okTg_ok h.ok.N h.ok.nd h.ok.calm (fun x hx => h.loc hx) q
theorem es_one {N : List Str} {p : Str → Bool} {tg : Tg} {t : Expr} {env : PySem.Env} (h : okTg N p tg t = true) : (assignEach [t] env).map (·.2) = [assign t env] := by
  unfold okTg at h
  split at h
  · unfold okNm at h
    split at h
    · rfl
    · cases h
  · rfl
  · cases h
def lOf (Φ : Fns) : List (Nat × Bool) → Exs → List (Bool × EvF)
  | (_, o) :: r, .cons e es => (o, ev Φ e) :: lOf Φ r es
  | _, _ => []
theorem lOf_ok (h : BOk cf P n X sc) : ∀ {is : List (Nat × Bool)} {es : Exs} {vs : List Expr}, frOk is es = true → okEs cf es sc vs = true →
    (lOf (callO P n) is es).map (·.1) = is.map (·.2) ∧ PA X vs (tL cf.T X.K (lOf (callO P n) is es)) ∧ evL (lOf (callO P n) is es) = evs (callO P n) es ∧ vs.length = is.length
  | [], .nil, vs, _, ok => by
    simp only [okEs] at ok
    split at ok
    · exact ⟨rfl, pa_l0, by funext env ws; simp only [lOf, evL, evs], rfl⟩
    · cases ok
  | (i, o) :: r, .cons e es, vs, f, ok => by
    simp only [okEs] at ok
    split at ok
    · rename_i e' r'
      rw [Bool.and_eq_true, Bool.and_eq_true] at ok
      simp only [frOk, Bool.and_eq_true] at f
      obtain ⟨g1, g2, g3, g4⟩ := lOf_ok h f.2 ok.2
      obtain ⟨k1, k2⟩ := readE e X sc _ h.ok ok.1.1
      refine ⟨by simp only [lOf, List.map_cons, g1], ?_, ?_, by rw [List.length_cons, List.length_cons, g4]⟩
      · cases o with
        | false => exact pa_lE k1 g2 ok.1.2
        | true => exact pa_lF (k2 (by simpa using f.1)) g2 ok.1.2
      · funext env ws
        simp only [lOf, evL, evs, g3]
        try rfl
    · cases ok
  | [], .cons _ _, _, f, _ => by simp [frOk] at f
  | _ :: _, .nil, _, f, _ => by simp [frOk] at f
theorem sf_eq {st : Stmt} {T : Nat → Str} {f g : SF} (h : PS X st (tS T X.K f)) (q : g = f) : PS X st (tS T X.K g) := by rw [q]; exact h
theorem sfs_eq {st : List Stmt} {T : Nat → Str} {f g : SF} (h : PSs X st (tS T X.K f)) (q : g = f) : PSs X st (tS T X.K g) := by rw [q]; exact h
/-- name = .., the name's own from then on -/
theorem ownS (h : BOk cf P n X sc) {i : Nat} {e : Ex} {x : Str} {px pos : Pos} {v : Expr} (hi : cf.N[i]? = some x) (hl : isLoc sc x = true) (ok : okE cf e sc v = true) (fr : fresh e = true) (hs : noComp v = true ∨ (isCmp e = true ∧ swT sc x px v = true)) :
    PS X (.Assign [.Name x px] v pos) (tAsg (tF cf.T X.K (ev (callO P n) e)) (gName i)) := by
  rcases hs with hs | ⟨hc, hs⟩
  · exact ps_set h.ok.nd (h.at hi) (h.loc hl).1 ((readE e X sc _ h.ok ok).2 fr) (sw_no hs _ _ _) (h.loc hl).2
  · unfold swT at hs
    split at hs
    · rename_i elt' gs scope p
      rw [Bool.and_eq_true, Bool.and_eq_true, Bool.not_eq_true'] at hs
      have hsw : ∀ l, swapsWith (.ListComp elt' gs scope p) (some (.Name x px)) l X.env = pure true := fun l => sw_true h.kd (h.lo hs.1.1) hs.1.2 hs.2
      cases e <;> first | (simp [isCmp] at hc; done) | skip
      · rename_i tg it elt
        simp only [okE] at ok
        split at ok
        · rename_i e0
          cases e0
          rw [Bool.and_eq_true, Bool.and_eq_true, Bool.and_eq_true, Bool.and_eq_true] at ok
          have hi2 := fun tg => itB (tg := tg) h.ok (readE it X sc _ h.ok) (readI it X sc tg _ false h.ok) ok.1.1.1.1
          have := ps_cm (T := cf.T) (pos := p) (spos := pos) (fe := ev (callO P n) elt) (ft := fun _ ws => some (true, ws)) h.ok.calm h.ok.nd (h.at hi) (h.lo hs.1.1) (hsw _) (hi2 _) (relOk (tg := tg) h.ok ok.1.1.2) (own_tgs cf.N tg) (blkTg h.ok ok.1.2) (fun _ _ _ _ _ => pts_n)
            (fun s H C cl fp => (readE elt _ _ _ (h.ok.blk s H _ C cl fp) ok.2).1) (fold_plain ok.1.1.1.2 _)
          refine PS.mono this ?_
          have q : ev (callO P n) (.comp tg it elt) = compF (itF (callO P n) it) (fun _ ws => some (true, ws)) (ev (callO P n) elt) tg := by
            funext env ws
            unfold compF itF
            simp only [ev]
            try rfl
          rw [q]; exact fun _ _ _ q => q
        · cases ok
      · rename_i tg it c elt
        simp only [okE] at ok
        split at ok
        · rename_i e0
          cases e0
          rw [Bool.and_eq_true, Bool.and_eq_true, Bool.and_eq_true, Bool.and_eq_true, Bool.and_eq_true] at ok
          have hi2 := fun tg => itB (tg := tg) h.ok (readE it X sc _ h.ok) (readI it X sc tg _ false h.ok) ok.1.1.1.1.1
          have := ps_cm (T := cf.T) (pos := p) (spos := pos) (fe := ev (callO P n) elt) (ft := evT (callO P n) c) h.ok.calm h.ok.nd (h.at hi) (h.lo hs.1.1) (hsw _) (hi2 _) (relOk (tg := tg) h.ok ok.1.1.1.2) (own_tgs cf.N tg) (blkTg h.ok ok.1.1.2) (fun s H C cl fp => pts_one (readT c _ _ _ (h.ok.blk s H _ C cl fp) ok.2).1)
            (fun s H C cl fp => (readE elt _ _ _ (h.ok.blk s H _ C cl fp) ok.1.2).1) (fold_plain ok.1.1.1.1.2 _)
          refine PS.mono this ?_
          have q : ev (callO P n) (.compIf tg it c elt) = compF (itF (callO P n) it) (evT (callO P n) c) (ev (callO P n) elt) tg := by
            funext env ws
            unfold compF itF
            simp only [ev]
            try rfl
          rw [q]; exact fun _ _ _ q => q
        · cases ok
    · cases hs
theorem sole {tg e : Expr} {l : Nat} {env : PySem.Env} (h : swapsWith e (some tg) l env = pure false) : swapsWithSole [tg] e l env = pure false := h
theorem sole_tp {ts : List Expr} {k : Nat} {p : Pos} {e : Expr} {l : Nat} {env : PySem.Env} : swapsWithSole [.Tuple ts k p] e l env = pure false := sole (sw_tp (tg := .Tuple ts k p) rfl l env)
theorem parC_ok {is : List (Nat × Bool)} {ts vs : List Expr} (h : parC sc is ts vs = true) :
    (∃ a b x px y py v1 v2, is = [a, b] ∧ ts = [.Name x px, .Name y py] ∧ vs = [v1, v2] ∧ isLo sc x = true ∧ isLo sc y = true ∧ a.1 ≠ b.1 ∧ swYes sc ts vs [x, y] = true) ∨
    (∃ a b c x px y py z pz v1 v2 v3, is = [a, b, c] ∧ ts = [.Name x px, .Name y py, .Name z pz] ∧ vs = [v1, v2, v3] ∧ isLo sc x = true ∧ isLo sc y = true ∧ isLo sc z = true ∧ a.1 ≠ b.1 ∧ a.1 ≠ c.1 ∧ b.1 ≠ c.1 ∧ swYes sc ts vs [x, y, z] = true) := by
  unfold parC at h
  split at h
  · rw [Bool.and_eq_true, Bool.and_eq_true, Bool.and_eq_true, decide_eq_true_eq] at h
    exact .inl ⟨_, _, _, _, _, _, _, _, rfl, rfl, rfl, h.1.1.1, h.1.1.2, h.1.2, h.2⟩
  · rw [Bool.and_eq_true, Bool.and_eq_true, Bool.and_eq_true, Bool.and_eq_true, Bool.and_eq_true, Bool.and_eq_true, decide_eq_true_eq, decide_eq_true_eq, decide_eq_true_eq] at h
    exact .inr ⟨_, _, _, _, _, _, _, _, _, _, _, _, rfl, rfl, rfl, h.1.1.1.1.1.1, h.1.1.1.1.1.2, h.1.1.1.1.2, h.1.1.1.2, h.1.1.2, h.1.2, h.2⟩
  · cases h
theorem parS (h : BOk cf P n X sc) {is : List (Nat × Bool)} {es : Exs} {ts vs : List Expr} {k k2 : Nat} {p p2 pos : Pos} (o1 : okNms cf.N (isLoc sc) (is.map (·.1)) ts = true) (o2 : okEs cf es sc vs = true) (o3 : frOk is es = true) (o4 : okLen is.length = true)
    (o5 : (swNo sc ts vs || parC sc is ts vs) = true) : PS X (.Assign [.Tuple ts k p] (.Tuple vs k2 p2) pos) (tS cf.T X.K (parF is (evs (callO P n) es))) := by
  obtain ⟨g1, g2, g3, g4⟩ := lOf_ok h o3 o2
  have hsc : sc = X.env.scope := h.ok.env.symm
  rw [← g3]
  rw [Bool.or_eq_true] at o5
  rcases o5 with o5 | o5
  · exact ps_pn g1 o4 (ps_asg (pe_tup g2) (h.tg (tg := .tp (is.map fun x => x.1)) (t := .Tuple ts k p) (by unfold okTg; exact o1)) sole_tp (sws_no h.kd (by rw [← hsc]; exact o5)) rfl)
  · rcases parC_ok o5 with ⟨a, b, x, px, y, py, v1, v2, rfl, rfl, rfl, l1, l2, ne, sw⟩ | ⟨a, b, c, x, px, y, py, z, pz, v1, v2, v3, rfl, rfl, rfl, l1, l2, l3, n1, n2, n3, sw⟩
    · simp only [okNms, okNm, List.map_cons, Bool.and_eq_true, decide_eq_true_eq] at o1
      cases es with
      | nil => simp [frOk] at o3
      | cons e1 es => cases es with
        | nil => simp [frOk] at o3
        | cons e2 es => cases es with
          | cons e3 es => simp [frOk] at o3
          | nil =>
            have := ps_par (pos := pos) (kt := k) (pt := p) (k2 := k2) (pt2 := p2) h.ok.calm h.ok.nd (h.at o1.1.1) (h.at o1.2.1.1) ne (h.lo l1) (h.lo l2) g2 (sws_yes h.kd (by rw [← hsc]; exact sw)) sole_tp
            exact ps_p2 this
    · simp only [okNms, okNm, List.map_cons, Bool.and_eq_true, decide_eq_true_eq] at o1
      cases es with
      | nil => simp [frOk] at o3
      | cons e1 es => cases es with
        | nil => simp [frOk] at o3
        | cons e2 es => cases es with
          | nil => simp [frOk] at o3
          | cons e3 es => cases es with
            | cons e3 es => simp [frOk] at o3
            | nil =>
              have := ps_par3 (pos := pos) (kt := k) (pt := p) (k2 := k2) (pt2 := p2) h.ok.calm h.ok.nd (h.at o1.1.1) (h.at o1.2.1.1) (h.at o1.2.2.1.1) n1 n2 n3 (h.lo l1) (h.lo l2) (h.lo l3) g2 (sws_yes h.kd (by rw [← hsc]; exact sw)) sole_tp
              exact ps_p3 this
end
end Pv

set_option Elab.async false
set_option linter.all false
set_option maxRecDepth 100000
set_option maxHeartbeats 8000000
/-! Pv20: every block that matches is walked. -/
namespace Pv
open PySem PySem.Spec PyProof.Rows L2
section
variable {cf : Cf} {P : Nat → Option Def} {n : Nat}
theorem BOk.va {X : Cx} {sc : Scope} (h : BOk cf P n X sc) {i : Nat} {x : Str} {pos : Pos} (hi : cf.N[i]? = some x) (hv : isVis sc x = true) (hp : plainN x = true) : PE X (.Name x pos) (tVar i) := h.ok.nm hi hv hp
theorem itT {X : Cx} {sc : Scope} {it : Ex} {tg e : Expr} {R : Prop} (h : XOk cf P n X sc) (hE : okE cf it sc e = true → PE X e (tE cf.T X.K (ev (callO P n) it)) ∧ R) (hI : okIt cf it sc e = true → PI X tg e (tI cf.T X.K true (itF (callO P n) it))) (ok : (okIt cf it sc e || okE cf it sc e) = true) :
    PI X tg e (tI cf.T X.K true (ev (callO P n) it)) := by
  by_cases oi : okIt cf it sc e = true
  · have := hI oi
    have q : itF (callO P n) it = ev (callO P n) it := by
      cases it <;> first | rfl | (simp [okIt] at oi)
    rw [q] at this
    exact this
  · rw [Bool.or_eq_true] at ok
    rcases ok with ok | ok
    · exact absurd ok oi
    · exact pi_v (fz := true) (hE ok).1
mutual
theorem readS : ∀ (a : St) (X : Cx) (sc : Scope) (s : Stmt), BOk cf P n X sc → okS cf a sc s = true → PS X s (tS cf.T X.K (exec (callO P n) a))
  | .bad, X, sc, s, h, ok => sf_eq ps_bad (by funext env ws; simp only [exec])
  | .pass, X, sc, s, h, ok => by
    simp only [okS] at ok
    split at ok
    · exact sf_eq ps_pa (by funext env ws; simp only [exec])
    · cases ok
  | .set tg e, X, sc, s, h, ok => by
    simp only [okS] at ok
    split at ok
    · rw [Bool.and_eq_true, Bool.and_eq_true, Bool.and_eq_true] at ok
      exact sf_eq (ps_st (ps_asg (readE e X sc _ h.ok ok.1.1.2).1 (h.tg ok.1.1.1) (sole (sw_no ok.1.2 _ _ _)) (ss_nm ok.2 _) (es_one ok.1.1.1))) (by funext env ws; unfold setF; simp only [exec]; try rfl)
    · cases ok
  | .own i e, X, sc, s, h, ok => by
    simp only [okS] at ok
    split at ok
    · rw [Bool.and_eq_true, Bool.and_eq_true, Bool.and_eq_true, Bool.and_eq_true, decide_eq_true_eq, Bool.or_eq_true, Bool.and_eq_true] at ok
      exact sf_eq (ps_ow (ownS h ok.1.1.1.1 ok.1.1.1.2 ok.1.1.2 ok.1.2 ok.2)) (by funext env ws; unfold ownF; simp only [exec]; try rfl)
    · cases ok
  | .par is es, X, sc, s, h, ok => by
    simp only [okS] at ok
    split at ok
    · rw [Bool.and_eq_true, Bool.and_eq_true, Bool.and_eq_true, Bool.and_eq_true] at ok
      exact sf_eq (parS h ok.1.1.1.1 ok.1.1.1.2 ok.1.1.2 ok.1.2 ok.2) (by funext env ws; unfold parF; simp only [exec]; try rfl)
    · cases ok
  | .aug i o e, X, sc, s, h, ok => by
    simp only [okS] at ok
    split at ok
    · rw [Bool.and_eq_true, Bool.and_eq_true, Bool.and_eq_true, decide_eq_true_eq, decide_eq_true_eq] at ok
      have o1 := ok.1.2
      subst o1
      exact sf_eq (ps_au h.ok.nd (h.at ok.1.1.1) (h.loc ok.1.1.2).1 (readE e X sc _ h.ok ok.2).1 (h.loc ok.1.1.2).2) (by funext env ws; unfold augF; simp only [exec]; try rfl)
    · cases ok
  | .dput i k e, X, sc, s, h, ok => by
    simp only [okS] at ok
    split at ok
    · rw [Bool.and_eq_true, Bool.and_eq_true, Bool.and_eq_true, Bool.and_eq_true, decide_eq_true_eq] at ok
      exact sf_eq (ps_dp h.ok.T (hu_of h.ok.room) (h.va ok.1.1.1.1 ok.1.1.1.2 ok.1.1.2) (readE k X sc _ h.ok ok.1.2).1 (readE e X sc _ h.ok ok.2).1) (by funext env ws; unfold dputF; simp only [exec]; try rfl)
    · cases ok
  | .waug i k o e, X, sc, s, h, ok => by
    simp only [okS] at ok
    split at ok
    · rw [Bool.and_eq_true, Bool.and_eq_true, Bool.and_eq_true, Bool.and_eq_true, Bool.and_eq_true, decide_eq_true_eq, decide_eq_true_eq, decide_eq_true_eq] at ok
      have o1 := ok.1.2
      subst o1
      have o2 := ok.1.1.2
      subst o2
      exact sf_eq (ps_wa h.ok.T (hu_of h.ok.room) (h.va ok.1.1.1.1.1 ok.1.1.1.1.2 ok.1.1.1.2) pe_str (readE e X sc _ h.ok ok.2).1 (fun _ _ _ => rfl)) (by funext env ws; unfold waugF; simp only [exec]; try rfl)
    · cases ok
  | .mkw i k l a b, X, sc, s, h, ok => by
    simp only [okS] at ok
    split at ok
    · rw [Bool.and_eq_true, Bool.and_eq_true, Bool.and_eq_true, Bool.and_eq_true, Bool.and_eq_true, decide_eq_true_eq, decide_eq_true_eq, decide_eq_true_eq] at ok
      have o1 := ok.1.1.1.2
      subst o1
      have o2 := ok.1.1.2
      subst o2
      refine sf_eq (ps_mw h.ok.T (ps_set h.ok.nd (h.at ok.1.1.1.1.1) (h.loc ok.1.1.1.1.2).1 (pe_disp (pps_cons pe_str (readE a X sc _ h.ok ok.1.2).1 (pps_cons pe_str (readE b X sc _ h.ok ok.2).1 pps_nil)) rfl rfl (by simp) (by simp)) (sw_no rfl _ _ _) (h.loc ok.1.1.1.1.2).2)) ?_
      funext env ws
      unfold mkwF
      simp only [exec]
      try rfl
    · cases ok
  | .app i e, X, sc, s, h, ok => by
    simp only [okS] at ok
    split at ok
    · rw [Bool.and_eq_true, Bool.and_eq_true, Bool.and_eq_true, Bool.and_eq_true, Bool.and_eq_true, Bool.and_eq_true, decide_eq_true_eq, decide_eq_true_eq] at ok
      have o1 := ok.1.1.1.1.1.1
      subst o1
      exact sf_eq (ps_ap (h.va ok.1.1.1.1.1.2 ok.1.1.1.1.2 ok.1.1.1.2) (readE e X sc _ h.ok ok.1.1.2).1 rfl ok.1.2 ok.2 (sw_no rfl _ _ _)) (by funext env ws; unfold appF; simp only [exec]; try rfl)
    · cases ok
  | .ext i e, X, sc, s, h, ok => by
    simp only [okS] at ok
    split at ok
    · rw [Bool.and_eq_true, Bool.and_eq_true, Bool.and_eq_true, Bool.and_eq_true, Bool.and_eq_true, Bool.and_eq_true, decide_eq_true_eq, decide_eq_true_eq] at ok
      have o1 := ok.1.1.1.1.1.1
      subst o1
      exact sf_eq (ps_ex (h.va ok.1.1.1.1.1.2 ok.1.1.1.1.2 ok.1.1.1.2) (readE e X sc _ h.ok ok.1.1.2).1 rfl ok.1.2 ok.2 (sw_no rfl _ _ _)) (by funext env ws; unfold extF; simp only [exec]; try rfl)
    · cases ok
  | .pop tg i, X, sc, s, h, ok => by
    simp only [okS] at ok
    split at ok
    · rw [Bool.and_eq_true, Bool.and_eq_true, Bool.and_eq_true, Bool.and_eq_true, Bool.and_eq_true, decide_eq_true_eq, decide_eq_true_eq] at ok
      have o1 := ok.1.1.1.1.2
      subst o1
      exact sf_eq (ps_po (ps_asg (pe_bm0 PySem.F.plainAttrs_list PySem.F.slot_list_pop PySem.F.type_list_pop mt_pop (h.va ok.1.1.1.2 ok.1.1.2 ok.1.2) (attr_plain rfl _ _ _) ok.2) (h.tg ok.1.1.1.1.1) (sole (sw_no rfl _ _ _)) (ss_nm (by rw [Bool.or_eq_true]; exact .inr rfl) _) (es_one ok.1.1.1.1.1))) (by funext env ws; unfold popF; simp only [exec]; try rfl)
    · cases ok
  | .drop e, X, sc, s, h, ok => by
    simp only [okS] at ok
    split at ok
    · rw [Bool.and_eq_true] at ok
      exact sf_eq (ps_dr (readE e X sc _ h.ok ok.1).1 (sw_no ok.2 _ _ _)) (by funext env ws; unfold dropF; simp only [exec]; try rfl)
    · cases ok
  | .ite c a b, X, sc, s, h, ok => by
    simp only [okS] at ok
    split at ok
    · rw [Bool.and_eq_true, Bool.and_eq_true] at ok
      exact sf_eq (ps_it (readT c X sc _ h.ok ok.1.1).1 (readSs a X sc _ h ok.1.2) (readSs b X sc _ h ok.2)) (by funext env ws; unfold iteF; simp only [exec]; try rfl)
    · cases ok
  | .whl c b, X, sc, s, h, ok => by
    simp only [okS] at ok
    split at ok
    · rw [Bool.and_eq_true] at ok
      exact sf_eq (ps_wh (n := fuel) h.own (readT c X sc _ h.ok ok.1).1 (readSs b X sc _ h ok.2)) (by funext env ws; simp only [exec])
    · cases ok
  | .for_ tg it b, X, sc, s, h, ok => by
    simp only [okS] at ok
    split at ok
    · rw [Bool.and_eq_true, Bool.and_eq_true, Bool.and_eq_true] at ok
      have hi := fun t => itT (tg := t) h.ok (readE it X sc _ h.ok) (readI it X sc t _ true h.ok) ok.1.1.2
      exact sf_eq (ps_fo h.own h.ok.calm (hi _) (h.tg ok.1.1.1) (readSs b X sc _ h ok.2) (fold_plain ok.1.2 _)) (by funext env ws; unfold forF; simp only [exec]; try rfl)
    · cases ok
  | .ret e, X, sc, s, h, ok => by
    simp only [okS] at ok
    split at ok
    · exact sf_eq (ps_re (readE e X sc _ h.ok ok).1) (by funext env ws; unfold retF; simp only [exec]; try rfl)
    · cases ok
  | .retN, X, sc, s, h, ok => by
    simp only [okS] at ok
    split at ok
    · exact sf_eq ps_rn (by funext env ws; simp only [exec])
    · cases ok
  | .brk, X, sc, s, h, ok => by
    simp only [okS] at ok
    split at ok
    · exact sf_eq ps_br (by funext env ws; simp only [exec])
    · cases ok
  | .cont, X, sc, s, h, ok => by
    simp only [okS] at ok
    split at ok
    · exact sf_eq ps_co (by funext env ws; simp only [exec])
    · cases ok
  | .frz i, X, sc, s, h, ok => by simp [okS] at ok
theorem readSs : ∀ (a : Sts) (X : Cx) (sc : Scope) (s : List Stmt), BOk cf P n X sc → okSs cf a sc s = true → PSs X s (tS cf.T X.K (execs (callO P n) a))
  | .nil, X, sc, s, h, ok => by
    simp only [okSs] at ok
    split at ok
    · exact sfs_eq pss_n (by funext env ws; simp only [execs])
    · cases ok
  | .cons a r, X, sc, ss, h, ok0 => by
    have ok := ok0
    clear ok0
    have key : ∀ (hf : ∀ i, a ≠ .frz i), ((match (generalizing := false) ss with
      | s' :: r' => okS cf a sc s' && okSs cf r sc r'
      | [] => false) : Bool) = true → PSs X ss (tS cf.T X.K (execs (callO P n) (.cons a r))) := by
      intro hf ok
      cases ss with
      | nil => cases ok
      | cons s' r' =>
        rw [Bool.and_eq_true] at ok
        refine sfs_eq (pss_c (readS a X sc _ h ok.1) (readSs r X sc _ h ok.2)) ?_
        funext env ws
        unfold seqF
        simp only [execs]
        try rfl
    by_cases hf : ∃ i, a = .frz i
    · obtain ⟨i, rfl⟩ := hf
      simp only [okSs] at ok
      refine sfs_eq (pss_frz (i := i) (readSs r X sc ss h ok)) ?_
      funext env ws
      unfold seqF
      simp only [execs, exec]
    · refine key (fun i e => hf ⟨i, e⟩) ?_
      cases a <;> first | exact absurd ⟨_, rfl⟩ hf | (simp only [okSs] at ok; exact ok)
end
end
end Pv

set_option Elab.async false
set_option linter.all false
set_option maxRecDepth 100000
set_option maxHeartbeats 8000000
/-! Pv21: every def keeps its promise. -/
namespace Pv
open PySem PySem.Spec PyProof.Rows L2
theorem eg_get : ∀ (env : Env) (i : Nat), eg env i = (env[i]?).getD .un
  | [], i => by simp [eg]
  | _ :: _, 0 => by simp [eg]
  | _ :: r, i + 1 => by simp [eg, eg_get r i]
theorem eg_mk {ds : List D} {n i : Nat} : eg (mkEnv ds n) i = match ds[i]? with
    | some d => .va d
    | none => .un := by
  rw [eg_get]
  unfold mkEnv
  rw [List.getElem?_append]
  split
  · rename_i h
    rw [List.length_map] at h
    rw [List.getElem?_map, List.getElem?_eq_getElem h]
    rfl
  · rename_i h
    rw [List.length_map] at h
    have : ds[i]? = none := List.getElem?_eq_none (by omega)
    rw [this, List.getElem?_replicate]
    split <;> rfl
section
variable {T : Nat → Str} {K : PySem.W.Frag} {O : Addr → Prop} {wa : Option Addr} {ws ws' : WS} {H : Hp} {ds : List D} {vs : List V} {N : List Str}
theorem start_ok (hO : ∀ a, O a → H a ≠ none) (w : WsR T K (hid (O2S O wa) H) H wa ws) (r : Reps T K wa (hid (O2S O wa) H) ds vs) (hl : ds.length ≤ N.length) : StR T K O wa (mkEnv ds N.length) (fun _ => none) ws (L2.start N vs) H := by
  have lr := r.len
  refine ⟨?_, fun i => ?_, fun i a q => (by cases q), fun i j a q => (by cases q), hO, w⟩
  · unfold L2.start mkEnv
    simp only [List.length_append, List.length_map, List.length_replicate]
    omega
  · rw [eg_mk]
    cases c : ds[i]? with
    | none => trivial
    | some d =>
      obtain ⟨v, h1, h2⟩ := r.get c
      refine ⟨v, ?_, h2⟩
      unfold L2.start
      have : i < vs.length := (List.getElem?_eq_some_iff.mp h1).1
      rw [List.getElem?_append_left (by rw [List.length_map]; exact this), List.getElem?_map, h1]
      rfl
theorem ws_none (h : WsR T K (hid (O2S O wa) H) H none ws) : ws = none := by
  cases ws with
  | none => rfl
  | some _ => exact h.elim
theorem wa_none {hH H : Hp} (h : WsR T K hH H wa none) : wa = none := by
  cases wa with
  | none => rfl
  | some _ => exact h.elim
theorem body_ok {f : SF} {n : Nat} {d : D} {Q : VK} (hO : ∀ a, O a → H a ≠ none) (w : WsR T K (hid (O2S O wa) H) H wa ws) (r : Reps T K wa (hid (O2S O wa) H) ds vs) (hl : ds.length ≤ N.length)
    (e : chk ws (fin (f (mkEnv ds N.length) ws)) = some (d, ws')) (k : ∀ v H', Stp wa H H' → WsR T K (hid (O2S O wa) H') H' wa ws' → Rep T K wa (hid (O2S O wa) H') d v → Q v H') :
    tS T K f { nx := fun _ H' => Q .non H', rt := Q } (L2.start N vs) H := by
  have st := start_ok hO w r hl
  have hf : ∃ fl env', f (mkEnv ds N.length) ws = some (fl, env', ws') ∧ (fl = .rt d ∨ (fl = .nx ∧ d = .non)) ∧ (ws = none → ws' = none) := by
    cases c : f (mkEnv ds N.length) ws with
    | none => rw [c] at e; simp only [fin] at e; cases ws <;> cases e
    | some o =>
      obtain ⟨fl, env', ws2⟩ := o
      rw [c] at e
      cases fl with
      | nx =>
        simp only [fin] at e
        cases ws with
        | none => cases ws2 with
          | none => simp only [chk] at e; cases e; exact ⟨_, _, rfl, .inr ⟨rfl, rfl⟩, fun _ => rfl⟩
          | some _ => simp [chk] at e
        | some _ => simp only [chk] at e; cases e; exact ⟨_, _, rfl, .inr ⟨rfl, rfl⟩, fun z => by cases z⟩
      | rt d' =>
        simp only [fin] at e
        cases ws with
        | none => cases ws2 with
          | none => simp only [chk] at e; cases e; exact ⟨_, _, rfl, .inl rfl, fun _ => rfl⟩
          | some _ => simp [chk] at e
        | some _ => simp only [chk] at e; cases e; exact ⟨_, _, rfl, .inl rfl, fun z => by cases z⟩
      | br => simp only [fin] at e; cases ws <;> cases e
      | ct => simp only [fin] at e; cases ws <;> cases e
  obtain ⟨fl, env', hf, hfl, hws⟩ := hf
  refine ⟨O, wa, _, _, ws, fl, env', ws', st, hf, ?_⟩
  have go : ∀ {ω' : Nat → Option Addr} {H' : Hp} {wa' : Option Addr} {v : V}, Evo (fun _ => none) wa H ω' wa' H' → WsR T K (hid (O2S O wa') H') H' wa' ws' → Rep T K wa' (hid (O2S O wa') H') d v → Q v H' := by
    intro ω' H' wa' v ev w' rv
    have ew : wa' = wa := by
      rcases ev.was with z | z
      · subst z
        have := hws (ws_none w)
        subst this
        exact wa_none w'
      · exact z
    subst ew
    exact k v H' (fun a o nw q => ev.keep a o nw (fun _ z => by cases z) q) w' rv
  rcases hfl with rfl | ⟨rfl, rfl⟩
  · exact fun v H' wa' ev w' rv => go ev w' rv
  · exact fun σ' H' wa' ω' st' ev => go ev st'.frz.wsr .non
end
def scOk (N ps : List Str) (sc : Scope) : Bool :=
  decide (sc.kind = .function) && !sc.isCoroutine && !sc.isGenerator && decide N.Nodup && decide (N.take ps.length = ps) && ps.all (isLoc sc) && sc.names.all fun y => !decide (y.2 = .free)
theorem scOk_ok {N ps : List Str} {sc : Scope} (h : scOk N ps sc = true) : FnScope N ps sc := by
  unfold scOk at h
  simp only [Bool.and_eq_true, Bool.not_eq_true', decide_eq_true_eq, List.all_eq_true, decide_eq_false_iff_not] at h
  obtain ⟨⟨⟨⟨⟨⟨g1, g2⟩, g3⟩, g4⟩, g5⟩, g6⟩, g7⟩ := h
  exact ⟨g1, g2, g3, g4, g5, fun x hx => isLoc_ok (g6 x hx), g7⟩
/-! ### all defs -/
structure DOk (T : Nat → Str) (fn : Nat → Option Str) (co : Nat → Option (Str × D)) (K : PySem.W.Frag) (x : Str) (d : Def) (N ps : List Str) (st : Stmt) (fA : Addr) (fd : FuncData) : Prop where
  F : Fun K x x st fA fd
  B : Binds K fd ps []
  S : FnScope N ps (defScope st)
  np : d.np = ps.length
  nn : ps.length ≤ N.length
  ns : d.ns = N.length
  ok : okSs ⟨N, T, fn, co⟩ d.body (defScope st) (defBody st) = true
section
variable {prog : Program} {w : World} {K : PySem.W.Frag} {mg : Str → Option Value} {base : Heap} {T : Nat → Str} {fn : Nat → Option Str} {co : Nat → Option (Str × D)} {P : Nat → Option Def}
theorem cx_ok {n : Nat} {cdv : Value} {A : Around} {outer : List PySem.Env} {s : Shared} {H : Hp} {E : XK} {x : Str} {N ps : List Str} {st : Stmt} {fA : Addr} (S : FnScope N ps (defScope st)) (hT : TOk T) (hb : ∀ y ∈ bNames, mg y = none)
    (hc : ∀ k y d, co k = some (y, d) → ∃ v u, mg y = some u ∧ RelV v u ∧ ∀ wa H, Rep T K wa H d v) (hr : Room n (A.deeper (envOfC x (defScope st) s.heap.objs.size fA cdv)))
    (ih : ∀ f y, fn f = some y → ∃ fA fd ps, FnOk prog w K mg base CX0 n fA fd ps (spO T K P n f) ∧ mg y = some (.ref fA) ∧ PySem.W.keepIn K (.ref fA) = true ∧ Binds K fd ps []) :
    BOk ⟨N, T, fn, co⟩ P n (cxOf CX0 prog w K mg base N x (defScope st) fA cdv A outer s H E).nox (defScope st) :=
  ⟨⟨rfl, rfl, S.nd, rfl, hr, hT, ih, hb, hc⟩, fun _ => rfl, S.kind, PassesOwn.never⟩
theorem all_ok (hT : TOk T) (hb : ∀ y ∈ bNames, mg y = none) (hc : ∀ k y d, co k = some (y, d) → ∃ v u, mg y = some u ∧ RelV v u ∧ ∀ wa H, Rep T K wa H d v)
    (hP : ∀ f y, fn f = some y → ∃ d N ps st fA fd, P f = some d ∧ mg y = some (.ref fA) ∧ DOk T fn co K y d N ps st fA fd) :
    ∀ n f y, fn f = some y → ∃ fA fd ps, FnOk prog w K mg base CX0 n fA fd ps (spO T K P n f) ∧ mg y = some (.ref fA) ∧ PySem.W.keepIn K (.ref fA) = true ∧ Binds K fd ps []
  | 0, f, y, hf => by
    obtain ⟨d, N, ps, st, fA, fd, e, hm, D⟩ := hP f y hf
    refine ⟨fA, fd, ps, ⟨fun vs H Q E q => ?_, fun A outer s H args us vs Q E _ _ _ _ q => ?_⟩, hm, D.F.kp, D.B⟩
    · obtain ⟨O, wa, ws, ds, d, ws', _, _, _, z, _⟩ := q
      simp [callO] at z
    · obtain ⟨O, wa, ws, ds, d, ws', _, _, _, z, _⟩ := q
      simp [callO] at z
  | n + 1, f, y, hf => by
    obtain ⟨d, N, ps, st, fA, fd, e, hm, D⟩ := hP f y hf
    refine ⟨fA, fd, ps, D.F.ok D.S (fun vs H Q E q => ?_) (fun cdv A outer s H vs Q E hr q => ?_), hm, D.F.kp, D.B⟩
    · obtain ⟨O, wa, ws, ds, d', ws', _, _, r, z, _⟩ := q
      simp only [callO, e] at z
      split at z
      · rename_i hl
        rw [← r.len, hl, D.np]
      · cases z
    · obtain ⟨O, wa, ws, ds, d', ws', hO, hw, r, z, k⟩ := q
      simp only [callO, e] at z
      split at z
      · rename_i hl
        refine ⟨_, readSs d.body _ _ _ (cx_ok D.S hT hb hc hr (all_ok hT hb hc hP n)) D.ok, ?_⟩
        refine body_ok (n := n) hO hw r ?_ ?_ k
        · rw [hl, D.np]; exact D.nn
        · rw [← D.ns]; exact z
      · cases z
/-- what the law is to do -/
def spL (K : PySem.W.Frag) (P : Nat → Option Def) (n : Nat) (d : Def) : Sp := fun vs H Q _ => ∃ a ns, vs = [.ref a] ∧ SqL K H a (ns.map V.int) ∧ lawO P n d ns = some (.bl true) ∧ ∀ H', Q (.bl true) H'
theorem law_ok (hT : TOk T) (hb : ∀ y ∈ bNames, mg y = none) (hc : ∀ k y d, co k = some (y, d) → ∃ v u, mg y = some u ∧ RelV v u ∧ ∀ wa H, Rep T K wa H d v)
    (hP : ∀ f y, fn f = some y → ∃ d N ps st fA fd, P f = some d ∧ mg y = some (.ref fA) ∧ DOk T fn co K y d N ps st fA fd)
    {x p : Str} {d : Def} {N : List Str} {st : Stmt} {fA : Addr} {fd : FuncData} (D : DOk T fn co K x d N [p] st fA fd) (n : Nat) : FnOk prog w K mg base CX0 (n + 1) fA fd [p] (spL K P n d) := by
  refine D.F.ok D.S (fun vs H Q E q => ?_) (fun cdv A outer s H vs Q E hr q => ?_)
  · obtain ⟨a, ns, rfl, _⟩ := q
    rfl
  · obtain ⟨a, ns, rfl, hs, hl, k⟩ := q
    refine ⟨_, readSs d.body _ _ _ (cx_ok D.S hT hb hc hr (all_ok hT hb hc hP n)) D.ok, ?_⟩
    unfold lawO at hl
    split at hl
    · rename_i r ws' e
      cases hl
      have same : Same H (hid (O2S (fun _ => False) none) H) := fun b o q => hid_of q fun z => by
        rcases z with z | ⟨i, z⟩ | z
        · exact z
        · cases z
        · cases z
      have rs : Reps T K none (hid (O2S (fun _ => False) none) H) [.scr ns] [.ref a] := .cons (.scr (same.seq hs)) .nil
      have st0 := start_ok (T := T) (K := K) (O := fun _ => False) (wa := none) (ws := none) (N := N) (fun a z => z.elim) trivial rs (by rw [List.length_singleton]; exact D.nn)
      rw [D.ns] at e
      cases c : execs (callO P n) d.body (mkEnv [.scr ns] N.length) none with
      | none => rw [c] at e; simp [fin] at e
      | some o =>
        obtain ⟨fl, env', ws2⟩ := o
        rw [c] at e
        refine ⟨_, _, _, _, _, fl, env', ws2, st0, c, ?_⟩
        cases fl with
        | nx => simp [fin] at e
        | br => simp [fin] at e
        | ct => simp [fin] at e
        | rt d' =>
          simp only [fin, Option.some.injEq, Prod.mk.injEq] at e
          obtain ⟨e1, e2⟩ := e
          subst e1
          intro v H' wa' _ _ rv
          cases rv
          exact k H'
    · cases hl
end
end Pv

set_option Elab.async false
set_option linter.all false
set_option maxRecDepth 100000
set_option maxHeartbeats 8000000
/-! Pv22: what the head's heap is asked. -/
namespace Pv
open PySem PySem.Spec PyProof.Rows L2
def Fct (K : PySem.W.Frag) (x : Str) (st : Stmt) : Prop := ∃ (f : Addr) (fd : FuncData), PySem.W.nsIn K mainGlobals x = some (some (.ref f)) ∧
  (∀ y : Str, (∀ (kV doc pm : Value) (an : Option Addr) (cdv ct : Value) (v : Value), bindArgs (PySem.W.fnOf x x (defArgs st) (defBody st) (defScope st) .none kV doc pm an cdv ct) ⟨[v], []⟩ = pure [(y, v)]) → ∀ (s : Shared) (v : Value), BindsTo s fd ⟨[v], []⟩ [(y, v)]) ∧ Fun K x x st f fd
theorem fct_mk {K : PySem.W.Frag} {x : Str} {st : Stmt} {f : Addr} {oc : Value} {od an : Option Addr} {osl : Array (Option Value)} {kV doc pm cdv ct : Value} (a : PySem.W.nsIn K mainGlobals x = some (some (.ref f)))
    (l : K.lookup f = some ⟨oc, od, .func (PySem.W.fnOf x x (defArgs st) (defBody st) (defScope st) .none kV doc pm an cdv ct), osl⟩) (c : PySem.W.codeIn K cdv x = true) (k : PySem.W.keepIn K (.ref f) = true) : Fct K x st :=
  ⟨f, _, a, fun y h s v => .of_eq (h kV doc pm an cdv ct v), fun_mk l c k⟩
theorem blt_mk {K : PySem.W.Frag} (z1 : PySem.W.nsIn K mainGlobals "len" = some none) (z2 : PySem.W.nsIn K mainGlobals "abs" = some none) (z3 : PySem.W.nsIn K mainGlobals "int" = some none) (z4 : PySem.W.nsIn K mainGlobals "list" = some none)
    (z5 : PySem.W.nsIn K mainGlobals "tuple" = some none) (z6 : PySem.W.nsIn K mainGlobals "dict" = some none) (z7 : PySem.W.nsIn K mainGlobals "sorted" = some none) (z8 : PySem.W.nsIn K mainGlobals "set" = some none)
    (z9 : PySem.W.nsIn K mainGlobals "all" = some none) (z10 : PySem.W.nsIn K mainGlobals "any" = some none) (z11 : PySem.W.nsIn K mainGlobals "max" = some none) (z12 : PySem.W.nsIn K mainGlobals "min" = some none)
    (z13 : PySem.W.nsIn K mainGlobals "isinstance" = some none) (z14 : PySem.W.nsIn K mainGlobals "range" = some none) (z15 : PySem.W.nsIn K mainGlobals "bool" = some none) (z16 : PySem.W.nsIn K mainGlobals "str" = some none) :
    ∀ y ∈ bNames, PySem.W.nsIn K mainGlobals y = some none := by
  intro y hy
  unfold bNames at hy
  simp only [List.mem_cons, List.not_mem_nil, or_false] at hy
  rcases hy with rfl | rfl | rfl | rfl | rfl | rfl | rfl | rfl | rfl | rfl | rfl | rfl | rfl | rfl | rfl | rfl <;> assumption
/-- a tuple of two ints in the heap's written part -/
theorem con2_r {T : Nat → Str} {K : PySem.W.Frag} {a : Addr} {i j : Int} {t1 t2 n : Nat} {sl : Array (Option Value)} (h : K.lookup a = some ⟨.type "tuple", none, .seq #[.int i t1, .int j t2] n, sl⟩) :
    RelV (.ref a) (.ref a) ∧ ∀ wa H, Rep T K wa H (.tup [.int i, .int j]) (.ref a) :=
  ⟨rfl, fun wa H => .tup (vs := [.int i, .int j]) (.inr ⟨_, _, n, h, rfl, rfl, by show 2 ≤ sizeLine; decide, .cons ⟨t1, rfl⟩ (.cons ⟨t2, rfl⟩ .nil), rfl⟩) (.cons (.int i) (.cons (.int j) .nil))⟩
end Pv

namespace Pv.K36
open PySem L2
def b0 : Sts :=
 (.cons (.ret (.andv (.isi .int (.var 0)) (.one (.notv (.isi .bool (.var 0))))))
 .nil)
def N0 : List Str := ["thing"]
def ps0 : List Str := ["thing"]
def d0 : Def := ⟨1, 1, b0⟩
def b1 : Sts :=
 (.cons (.ret (.andv (.call 0 (.cons (.var 0) .nil)) (.one (.cmp .ge (.var 0) (.var 1)))))
 .nil)
def N1 : List Str := ["thing", "least"]
def ps1 : List Str := ["thing", "least"]
def d1 : Def := ⟨2, 2, b1⟩
def b2 : Sts :=
 (.cons (.ret (.andv (.isi .tuple (.var 0)) (.one (.cmp .eq (.b1 .len (.var 0)) (.var 1)))))
 .nil)
def N2 : List Str := ["thing", "many"]
def ps2 : List Str := ["thing", "many"]
def d2 : Def := ⟨2, 2, b2⟩
def x3_0 : Ex := (.cmp .lt (.ix (.var 0) (.var 1)) (.ix (.var 0) (.bin .add (.var 1) (.num 1))))
def b3 : Sts :=
 (.cons (.ret (.b1 .all (.comp (.nm 1) (.rng (.bin .sub (.b1 .len (.var 0)) (.num 1))) x3_0)))
 .nil)
def N3 : List Str := ["things", "k"]
def ps3 : List Str := ["things"]
def d3 : Def := ⟨1, 2, b3⟩
def t4_0 : Tx := (.cmp .gt (.bin .shr (.var 0) (.var 1)) (.num 0))
def l4_1 : Sts := (.cons (.aug 1 .add (.num 1))
 .nil)
def b4 : Sts :=
 (.cons (.set (.nm 1) (.num 0))
 (.cons (.whl t4_0 l4_1)
 (.cons (.ret (.var 1))
 .nil)))
def N4 : List Str := ["number", "found"]
def ps4 : List Str := ["number"]
def d4 : Def := ⟨1, 2, b4⟩
def t5_0 : Tx := (.cmp .gt (.var 1) (.num 0))
def l5_1 : Sts := (.cons (.par [(0, false), (1, false)] (.cons (.var 1) (.cons (.bin .mod (.var 0) (.var 1)) .nil)))
 .nil)
def b5 : Sts :=
 (.cons (.par [(0, false), (1, false)] (.cons (.b1 .abs (.var 0)) (.cons (.b1 .abs (.var 1)) .nil)))
 (.cons (.whl t5_0 l5_1)
 (.cons (.ret (.var 0))
 .nil)))
def N5 : List Str := ["a", "b"]
def ps5 : List Str := ["a", "b"]
def d5 : Def := ⟨2, 2, b5⟩
def b6 : Sts :=
 (.cons (.set (.nm 2) (.ite (.cmp .gt (.var 1) (.num 0)) (.call 5 (.cons (.var 0) (.cons (.var 1) .nil))) (.neg (.call 5 (.cons (.var 0) (.cons (.var 1) .nil))))))
 (.cons (.ret (.tup (.cons (.bin .fdiv (.var 0) (.var 2)) (.cons (.bin .fdiv (.var 1) (.var 2)) .nil))))
 .nil))
def N6 : List Str := ["upper", "lower", "d"]
def ps6 : List Str := ["upper", "lower"]
def d6 : Def := ⟨2, 3, b6⟩
def b7 : Sts :=
 (.cons (.ite (.or2 (.not (.val (.call 2 (.cons (.var 0) (.cons (.num 2) .nil))))) (.or2 (.not (.val (.call 0 (.cons (.ix (.var 0) (.num 0)) .nil)))) (.one (.not (.val (.call 1 (.cons (.ix (.var 0) (.num 1)) (.cons (.num 1) .nil)))))))) (.cons (.ret (.tt false))
 .nil) .nil)
 (.cons (.ret (.cmp .eq (.call 5 (.cons (.ix (.var 0) (.num 0)) (.cons (.ix (.var 0) (.num 1)) .nil))) (.num 1)))
 .nil))
def N7 : List Str := ["thing"]
def ps7 : List Str := ["thing"]
def d7 : Def := ⟨1, 1, b7⟩
def b8 : Sts :=
 (.cons (.ret (.call 6 (.cons (.bin .add (.bin .mul (.ix (.var 0) (.num 0)) (.ix (.var 1) (.num 1))) (.bin .mul (.ix (.var 1) (.num 0)) (.ix (.var 0) (.num 1)))) (.cons (.bin .mul (.ix (.var 0) (.num 1)) (.ix (.var 1) (.num 1))) .nil))))
 .nil)
def N8 : List Str := ["one", "other"]
def ps8 : List Str := ["one", "other"]
def d8 : Def := ⟨2, 2, b8⟩
def b9 : Sts :=
 (.cons (.ret (.tup (.cons (.neg (.ix (.var 0) (.num 0))) (.cons (.ix (.var 0) (.num 1)) .nil))))
 .nil)
def N9 : List Str := ["one"]
def ps9 : List Str := ["one"]
def d9 : Def := ⟨1, 1, b9⟩
def b10 : Sts :=
 (.cons (.ret (.call 8 (.cons (.var 0) (.cons (.call 9 (.cons (.var 1) .nil)) .nil))))
 .nil)
def N10 : List Str := ["one", "other"]
def ps10 : List Str := ["one", "other"]
def d10 : Def := ⟨2, 2, b10⟩
def b11 : Sts :=
 (.cons (.ret (.call 6 (.cons (.bin .mul (.ix (.var 0) (.num 0)) (.ix (.var 1) (.num 0))) (.cons (.bin .mul (.ix (.var 0) (.num 1)) (.ix (.var 1) (.num 1))) .nil))))
 .nil)
def N11 : List Str := ["one", "other"]
def ps11 : List Str := ["one", "other"]
def d11 : Def := ⟨2, 2, b11⟩
def b12 : Sts :=
 (.cons (.ret (.tup (.cons (.b1 .abs (.ix (.var 0) (.num 0))) (.cons (.ix (.var 0) (.num 1)) .nil))))
 .nil)
def N12 : List Str := ["one"]
def ps12 : List Str := ["one"]
def d12 : Def := ⟨1, 1, b12⟩
def b13 : Sts :=
 (.cons (.ret (.cmp .le (.bin .mul (.ix (.var 0) (.num 0)) (.ix (.var 1) (.num 1))) (.bin .mul (.ix (.var 1) (.num 0)) (.ix (.var 0) (.num 1)))))
 .nil)
def N13 : List Str := ["one", "other"]
def ps13 : List Str := ["one", "other"]
def d13 : Def := ⟨2, 2, b13⟩
def b14 : Sts :=
 (.cons (.ret (.ite (.cmp .ge (.var 0) (.num 0)) (.tup (.cons (.bin .shl (.num 1) (.var 0)) (.cons (.num 1) .nil))) (.tup (.cons (.num 1) (.cons (.bin .shl (.num 1) (.neg (.var 0))) .nil)))))
 .nil)
def N14 : List Str := ["by"]
def ps14 : List Str := ["by"]
def d14 : Def := ⟨1, 1, b14⟩
def b15 : Sts :=
 (.cons (.ret (.call 11 (.cons (.var 0) (.cons (.call 14 (.cons (.var 1) .nil)) .nil))))
 .nil)
def N15 : List Str := ["one", "by"]
def ps15 : List Str := ["one", "by"]
def d15 : Def := ⟨2, 2, b15⟩
def b16 : Sts :=
 (.cons (.par [(2, false), (3, false)] (.cons (.b1 .abs (.ix (.var 0) (.num 0))) (.cons (.ix (.var 0) (.num 1)) .nil)))
 (.cons (.set (.nm 1) (.bin .sub (.call 4 (.cons (.var 2) .nil)) (.call 4 (.cons (.var 3) .nil))))
 (.cons (.ret (.ite (.val (.call 13 (.cons (.call 14 (.cons (.var 1) .nil)) (.cons (.tup (.cons (.var 2) (.cons (.var 3) .nil))) .nil)))) (.var 1) (.bin .sub (.var 1) (.num 1))))
 .nil)))
def N16 : List Str := ["one", "found", "upper", "lower"]
def ps16 : List Str := ["one"]
def d16 : Def := ⟨1, 4, b16⟩
def l17_0 : Sts := (.cons (.set (.nm 1) (.call 8 (.cons (.var 1) (.cons (.var 2) .nil))))
 .nil)
def b17 : Sts :=
 (.cons (.set (.nm 1) (.con 0 (.tup [(.int 0), (.int 1)])))
 (.cons (.for_ (.nm 2) (.var 0) l17_0)
 (.cons (.ret (.var 1))
 .nil)))
def N17 : List Str := ["rows", "found", "own"]
def ps17 : List Str := ["rows"]
def d17 : Def := ⟨1, 3, b17⟩
def x18_0 : Ex := (.andv (.call 2 (.cons (.var 1) (.cons (.num 2) .nil))) (.andv (.call 1 (.cons (.ix (.var 1) (.num 0)) (.cons (.num 0) .nil))) (.one (.call 7 (.cons (.ix (.var 1) (.num 1)) .nil)))))
def x18_1 : Ex := (.var 3)
def x18_2 : Ex := (.cmp .eq (.var 1) (.con 0 (.tup [(.int 0), (.int 1)])))
def b18 : Sts :=
 (.cons (.ite (.or2 (.not (.val (.call 2 (.cons (.var 0) (.cons (.num 3) .nil))))) (.or2 (.not (.val (.call 7 (.cons (.ix (.var 0) (.num 0)) .nil)))) (.one (.not (.val (.isi .tuple (.ix (.var 0) (.num 1)))))))) (.cons (.ret (.tt false))
 .nil) .nil)
 (.cons (.ite (.not (.val (.b1 .all (.comp (.nm 1) (.ix (.var 0) (.num 1)) x18_0)))) (.cons (.ret (.tt false))
 .nil) .nil)
 (.cons (.ite (.or2 (.not (.val (.call 3 (.cons (.comp (.tp [3, 2]) (.ix (.var 0) (.num 1)) x18_1) .nil)))) (.one (.val (.b1 .any (.comp (.tp [2, 1]) (.ix (.var 0) (.num 1)) x18_2))))) (.cons (.ret (.tt false))
 .nil) .nil)
 (.cons (.ret (.andv (.call 7 (.cons (.ix (.var 0) (.num 2)) .nil)) (.one (.cmp .ge (.ix (.ix (.var 0) (.num 2)) (.num 0)) (.num 0)))))
 .nil))))
def N18 : List Str := ["thing", "own", "_", "mark"]
def ps18 : List Str := ["thing"]
def d18 : Def := ⟨1, 4, b18⟩
def t19_0 : Tx := (.cmp .ne (.ix (.var 1) (.var 3)) (.con 0 (.tup [(.int 0), (.int 1)])))
def x19_1 : Ex := (.tup (.cons (.var 3) (.cons (.ix (.var 1) (.var 3)) .nil)))
def b19 : Sts :=
 (.cons (.ret (.tup (.cons (.var 0) (.cons (.b1 .tupOf (.compIf (.nm 3) (.b1 .sorted (.var 1)) t19_0 x19_1)) (.cons (.var 2) .nil)))))
 .nil)
def N19 : List Str := ["number", "parts", "rest", "mark"]
def ps19 : List Str := ["number", "parts", "rest"]
def d19 : Def := ⟨3, 4, b19⟩
def b20 : Sts :=
 (.cons (.ret (.tup (.cons (.var 0) (.cons (.tup .nil) (.cons (.con 0 (.tup [(.int 0), (.int 1)])) .nil)))))
 .nil)
def N20 : List Str := ["number"]
def ps20 : List Str := ["number"]
def d20 : Def := ⟨1, 1, b20⟩
def b21 : Sts :=
 (.cons (.set (.nm 2) (.call 11 (.cons (.call 8 (.cons (.ix (.var 0) (.num 0)) (.cons (.ix (.var 0) (.num 1)) .nil))) (.cons (.tup (.cons (.num 1) (.cons (.num 2) .nil))) .nil))))
 (.cons (.ret (.call 19 (.cons (.var 2) (.cons (.dic (.cons (.var 1) .nil) (.cons (.call 10 (.cons (.ix (.var 0) (.num 1)) (.cons (.var 2) .nil))) .nil)) (.cons (.con 0 (.tup [(.int 0), (.int 1)])) .nil)))))
 .nil))
def N21 : List Str := ["span", "mark", "middle"]
def ps21 : List Str := ["span", "mark"]
def d21 : Def := ⟨2, 3, b21⟩
def b22 : Sts :=
 (.cons (.set (.nm 1) (.call 11 (.cons (.call 8 (.cons (.ix (.var 0) (.num 0)) (.cons (.ix (.var 0) (.num 1)) .nil))) (.cons (.tup (.cons (.num 1) (.cons (.num 2) .nil))) .nil))))
 (.cons (.ret (.tup (.cons (.var 1) (.cons (.tup .nil) (.cons (.call 10 (.cons (.ix (.var 0) (.num 1)) (.cons (.var 1) .nil))) .nil)))))
 .nil))
def N22 : List Str := ["span", "middle"]
def ps22 : List Str := ["span"]
def d22 : Def := ⟨1, 2, b22⟩
def x23_0 : Ex := (.call 12 (.cons (.var 2) .nil))
def b23 : Sts :=
 (.cons (.ret (.call 8 (.cons (.call 17 (.cons (.comp (.tp [1, 2]) (.ix (.var 0) (.num 1)) x23_0) .nil)) (.cons (.ix (.var 0) (.num 2)) .nil))))
 .nil)
def N23 : List Str := ["form", "_", "own"]
def ps23 : List Str := ["form"]
def d23 : Def := ⟨1, 3, b23⟩
def b24 : Sts :=
 (.cons (.set (.nm 1) (.call 23 (.cons (.var 0) .nil)))
 (.cons (.ret (.tup (.cons (.call 10 (.cons (.ix (.var 0) (.num 0)) (.cons (.var 1) .nil))) (.cons (.call 8 (.cons (.ix (.var 0) (.num 0)) (.cons (.var 1) .nil))) .nil))))
 .nil))
def N24 : List Str := ["form", "own"]
def ps24 : List Str := ["form"]
def d24 : Def := ⟨1, 2, b24⟩
def b25 : Sts :=
 (.cons (.ret (.call 8 (.cons (.call 12 (.cons (.ix (.var 0) (.num 0)) .nil)) (.cons (.call 23 (.cons (.var 0) .nil)) .nil))))
 .nil)
def N25 : List Str := ["form"]
def ps25 : List Str := ["form"]
def d25 : Def := ⟨1, 1, b25⟩
def l26_0 : Sts := (.cons (.dput 2 (.var 3) (.call 8 (.cons (.get2 (.var 2) (.var 3) (.con 0 (.tup [(.int 0), (.int 1)]))) (.cons (.var 4) .nil))))
 .nil)
def b26 : Sts :=
 (.cons (.own 2 (.b1 .dictOf (.ix (.var 0) (.num 1))))
 (.cons (.for_ (.tp [3, 4]) (.ix (.var 1) (.num 1)) l26_0)
 (.cons (.ret (.call 19 (.cons (.call 8 (.cons (.ix (.var 0) (.num 0)) (.cons (.ix (.var 1) (.num 0)) .nil))) (.cons (.var 2) (.cons (.call 8 (.cons (.ix (.var 0) (.num 2)) (.cons (.ix (.var 1) (.num 2)) .nil))) .nil)))))
 .nil)))
def N26 : List Str := ["one", "other", "parts", "mark", "own"]
def ps26 : List Str := ["one", "other"]
def d26 : Def := ⟨2, 5, b26⟩
def x27_0 : Ex := (.tup (.cons (.var 3) (.cons (.call 11 (.cons (.var 4) (.cons (.var 1) .nil))) .nil)))
def b27 : Sts :=
 (.cons (.set (.nm 2) (.b1 .dictOf (.comp (.tp [3, 4]) (.ix (.var 0) (.num 1)) x27_0)))
 (.cons (.ret (.call 19 (.cons (.call 11 (.cons (.ix (.var 0) (.num 0)) (.cons (.var 1) .nil))) (.cons (.var 2) (.cons (.call 11 (.cons (.ix (.var 0) (.num 2)) (.cons (.call 12 (.cons (.var 1) .nil)) .nil))) .nil)))))
 .nil))
def N27 : List Str := ["form", "by", "parts", "mark", "own"]
def ps27 : List Str := ["form", "by"]
def d27 : Def := ⟨2, 5, b27⟩
def b28 : Sts :=
 (.cons (.ret (.call 27 (.cons (.var 0) (.cons (.tup (.cons (.neg (.num 1)) (.cons (.num 1) .nil))) .nil))))
 .nil)
def N28 : List Str := ["form"]
def ps28 : List Str := ["form"]
def d28 : Def := ⟨1, 1, b28⟩
def b29 : Sts :=
 (.cons (.ret (.bin .add (.sl (.var 0) .non (.num 2)) (.tup (.cons (.call 8 (.cons (.ix (.var 0) (.num 2)) (.cons (.var 1) .nil))) .nil))))
 .nil)
def N29 : List Str := ["form", "more"]
def ps29 : List Str := ["form", "more"]
def d29 : Def := ⟨2, 2, b29⟩
def b30 : Sts :=
 (.cons (.own 3 (.b1 .dictOf (.ix (.var 0) (.num 1))))
 (.cons (.dput 3 (.var 1) (.call 8 (.cons (.get2 (.var 3) (.var 1) (.con 0 (.tup [(.int 0), (.int 1)]))) (.cons (.var 2) .nil))))
 (.cons (.ret (.call 19 (.cons (.ix (.var 0) (.num 0)) (.cons (.var 3) (.cons (.ix (.var 0) (.num 2)) .nil)))))
 .nil)))
def N30 : List Str := ["form", "mark", "by", "parts"]
def ps30 : List Str := ["form", "mark", "by"]
def d30 : Def := ⟨3, 4, b30⟩
def b31 : Sts :=
 (.cons (.par [(4, false), (5, false)] (.cons (.call 27 (.cons (.var 0) (.cons (.ix (.var 1) (.num 0)) .nil))) (.cons (.call 27 (.cons (.var 1) (.cons (.ix (.var 0) (.num 0)) .nil))) .nil)))
 (.cons (.set (.nm 2) (.call 26 (.cons (.var 4) (.cons (.var 5) .nil))))
 (.cons (.set (.nm 3) (.call 10 (.cons (.ix (.var 2) (.num 0)) (.cons (.call 11 (.cons (.ix (.var 0) (.num 0)) (.cons (.ix (.var 1) (.num 0)) .nil))) .nil))))
 (.cons (.ret (.call 29 (.cons (.bin .add (.tup (.cons (.var 3) .nil)) (.sl (.var 2) (.num 1) .non)) (.cons (.call 11 (.cons (.call 23 (.cons (.var 0) .nil)) (.cons (.call 23 (.cons (.var 1) .nil)) .nil))) .nil))))
 .nil))))
def N31 : List Str := ["one", "other", "whole", "number", "first", "second"]
def ps31 : List Str := ["one", "other"]
def d31 : Def := ⟨2, 6, b31⟩
def l32_0 : Sts := (.cons (.set (.nm 2) (.call 8 (.cons (.var 2) (.cons (.call 11 (.cons (.var 4) (.cons (.ix (.var 1) (.var 3)) .nil))) .nil))))
 .nil)
def b32 : Sts :=
 (.cons (.set (.nm 2) (.ix (.var 0) (.num 0)))
 (.cons (.for_ (.tp [3, 4]) (.ix (.var 0) (.num 1)) l32_0)
 (.cons (.ret (.tup (.cons (.call 10 (.cons (.var 2) (.cons (.ix (.var 0) (.num 2)) .nil))) (.cons (.call 8 (.cons (.var 2) (.cons (.ix (.var 0) (.num 2)) .nil))) .nil))))
 .nil)))
def N32 : List Str := ["form", "marks", "found", "mark", "own"]
def ps32 : List Str := ["form", "marks"]
def d32 : Def := ⟨2, 5, b32⟩
def l33_0 : Sts := (.cons (.set (.nm 2) (.call 8 (.cons (.var 2) (.cons (.call 12 (.cons (.call 10 (.cons (.get2 (.var 4) (.var 3) (.con 0 (.tup [(.int 0), (.int 1)]))) (.cons (.get2 (.var 5) (.var 3) (.con 0 (.tup [(.int 0), (.int 1)]))) .nil))) .nil)) .nil))))
 .nil)
def b33 : Sts :=
 (.cons (.set (.nm 2) (.call 12 (.cons (.call 10 (.cons (.ix (.var 0) (.num 0)) (.cons (.ix (.var 1) (.num 0)) .nil))) .nil)))
 (.cons (.par [(4, false), (5, false)] (.cons (.b1 .dictOf (.ix (.var 0) (.num 1))) (.cons (.b1 .dictOf (.ix (.var 1) (.num 1))) .nil)))
 (.cons (.for_ (.nm 3) (.b1 .sortedSet (.bin .add (.b1 .lstOf (.var 4)) (.b1 .lstOf (.var 5)))) l33_0)
 (.cons (.ret (.cmp .le (.bin .mul (.ix (.call 8 (.cons (.var 2) (.cons (.ix (.var 1) (.num 2)) .nil))) (.num 0)) (.ix (.ix (.var 0) (.num 2)) (.num 1))) (.bin .mul (.ix (.ix (.var 0) (.num 2)) (.num 0)) (.ix (.call 8 (.cons (.var 2) (.cons (.ix (.var 1) (.num 2)) .nil))) (.num 1)))))
 .nil))))
def N33 : List Str := ["one", "other", "off", "mark", "parts", "more"]
def ps33 : List Str := ["one", "other"]
def d33 : Def := ⟨2, 6, b33⟩
def b34 : Sts :=
 (.cons (.ite (.cmp .eq (.ix (.var 0) (.num 0)) (.num 0)) (.cons (.ret (.var 0))
 .nil) .nil)
 (.cons (.set (.nm 3) (.bin .add (.bin .sub (.call 16 (.cons (.var 0) .nil)) (.var 1)) (.num 1)))
 (.cons (.set (.nm 4) (.call 15 (.cons (.var 0) (.cons (.neg (.var 3)) .nil))))
 (.cons (.set (.nm 5) (.ite (.val (.var 2)) (.neg (.bin .fdiv (.neg (.ix (.var 4) (.num 0))) (.ix (.var 4) (.num 1)))) (.bin .fdiv (.ix (.var 4) (.num 0)) (.ix (.var 4) (.num 1)))))
 (.cons (.ret (.call 15 (.cons (.tup (.cons (.var 5) (.cons (.num 1) .nil))) (.cons (.var 3) .nil))))
 .nil)))))
def N34 : List Str := ["one", "digits", "is_up", "power", "own", "whole"]
def ps34 : List Str := ["one", "digits", "is_up"]
def d34 : Def := ⟨3, 6, b34⟩
def l35_0 : Sts := (.cons (.dput 3 (.var 5) (.call 34 (.cons (.var 6) (.cons (.var 1) (.cons (.tt false) .nil)))))
 (.cons (.set (.nm 4) (.call 8 (.cons (.var 4) (.cons (.call 12 (.cons (.call 10 (.cons (.var 6) (.cons (.ix (.var 3) (.var 5)) .nil))) .nil)) .nil))))
 .nil))
def b35 : Sts :=
 (.cons (.set (.nm 2) (.call 34 (.cons (.ix (.var 0) (.num 0)) (.cons (.var 1) (.cons (.tt false) .nil)))))
 (.cons (.par [(3, true), (4, false)] (.cons (.dic .nil .nil) (.cons (.call 8 (.cons (.ix (.var 0) (.num 2)) (.cons (.call 12 (.cons (.call 10 (.cons (.ix (.var 0) (.num 0)) (.cons (.var 2) .nil))) .nil)) .nil))) .nil)))
 (.cons (.for_ (.tp [5, 6]) (.ix (.var 0) (.num 1)) l35_0)
 (.cons (.ret (.call 19 (.cons (.var 2) (.cons (.var 3) (.cons (.call 34 (.cons (.var 4) (.cons (.var 1) (.cons (.tt true) .nil)))) .nil)))))
 .nil))))
def N35 : List Str := ["form", "digits", "number", "parts", "rest", "mark", "own"]
def ps35 : List Str := ["form", "digits"]
def d35 : Def := ⟨2, 7, b35⟩
def l36_0 : Sts := (.cons (.ite (.cmp .gt (.var 6) (.num 0)) (.cons (.app 2 (.bin .mod (.b1 .int (.var 6)) (.num 997)))
 (.cons (.set (.nm 6) (.bin .fdiv (.var 6) (.num 997)))
 .nil)) .nil)
 .nil)
def l36_1 : Sts := (.cons (.set (.nm 5) (.b1 .abs (.b1 .int (.ix (.var 0) (.var 4)))))
 (.cons (.set (.nm 3) (.bin .mod (.b1 .int (.bin .add (.bin .add (.bin .mul (.var 3) (.num 48271)) (.bin .mod (.var 5) (.num 1000003))) (.var 4))) (.num 65537)))
 (.cons (.set (.nm 6) (.num 0))
 (.cons (.ite (.cmp .ge (.var 5) (.bin .pow (.num 10) (.num 18))) (.cons (.set (.nm 6) (.var 5))
 .nil) (.cons (.app 2 (.bin .mod (.b1 .int (.var 5)) (.num 997)))
 (.cons (.app 2 (.bin .mod (.bin .mod (.b1 .int (.bin .add (.bin .mul (.var 3) (.num 69621)) (.num 5))) (.num 65521)) (.num 997)))
 .nil)))
 (.cons (.for_ (.nm 7) (.rng (.num 60)) l36_0)
 .nil)))))
def l36_2 : Sts := (.cons (.set (.nm 3) (.bin .mod (.b1 .int (.bin .add (.bin .add (.bin .mul (.var 3) (.num 16807)) (.var 4)) (.num 1))) (.num 65537)))
 (.cons (.app 2 (.bin .mod (.b1 .int (.var 3)) (.num 997)))
 .nil))
def b36 : Sts :=
 (.cons (.own 2 (.lst .nil))
 (.cons (.set (.nm 3) (.num 7))
 (.cons (.for_ (.nm 4) (.rng (.b1 .len (.var 0))) l36_1)
 (.cons (.for_ (.nm 4) (.rng (.var 1)) l36_2)
 (.cons (.ret (.sl (.var 2) .non (.var 1)))
 .nil)))))
def N36 : List Str := ["script", "many", "draws", "mixed", "k", "cell", "rest", "turn"]
def ps36 : List Str := ["script", "many"]
def d36 : Def := ⟨2, 8, b36⟩
def b37 : Sts :=
 (.cons (.waug 0 0 .add (.num 1))
 (.cons (.ite (.cmp .gt (.ix (.var 0) (.txt 0)) (.b1 .len (.ix (.var 0) (.txt 1)))) (.cons (.ret (.num 0))
 .nil) .nil)
 (.cons (.ret (.bin .mod (.b1 .int (.ix (.ix (.var 0) (.txt 1)) (.bin .sub (.ix (.var 0) (.txt 0)) (.num 1)))) (.var 1)))
 .nil)))
def N37 : List Str := ["w", "many"]
def ps37 : List Str := ["w", "many"]
def d37 : Def := ⟨2, 2, b37⟩
def b38 : Sts :=
 (.cons (.ret (.ix (.var 1) (.call 37 (.cons (.var 0) (.cons (.b1 .len (.var 1)) .nil)))))
 .nil)
def N38 : List Str := ["w", "rows"]
def ps38 : List Str := ["w", "rows"]
def d38 : Def := ⟨2, 2, b38⟩
def t39_0 : Tx := (.cmp .ne (.var 2) (.lst .nil))
def t39_1 : Tx := (.cmp .notin (.var 6) (.var 3))
def x39_2 : Ex := (.var 6)
def x39_3 : Ex := (.tup (.cons (.var 6) (.cons (.var 6) .nil)))
def x39_4 : Ex := (.tup (.cons (.ix (.var 3) (.var 6)) (.cons (.ix (.var 4) (.var 6)) .nil)))
def x39_5 : Ex := (.tup (.cons (.ix (.var 5) (.var 6)) (.cons (.var 6) .nil)))
def x39_6 : Ex := (.tup (.cons (.ix (.var 3) (.var 7)) (.cons (.ix (.var 4) (.var 7)) .nil)))
def l39_7 : Sts := (.cons (.pop (.tp [3, 4]) 2)
 (.cons (.ite (.val (.isi .dict (.var 4))) (.cons (.ite (.or2 (.not (.val (.isi .dict (.var 3)))) (.or2 (.cmp .ne (.b1 .len (.var 3)) (.b1 .len (.var 4))) (.one (.cmp .ne (.compIf (.nm 6) (.var 4) t39_1 x39_2) (.lst .nil))))) (.cons (.ret (.tt false))
 .nil) .nil)
 (.cons (.set (.nm 5) (.b1 .dictOf (.comp (.nm 6) (.var 3) x39_3)))
 (.cons (.ext 2 (.bin .add (.comp (.nm 6) (.var 4) x39_4) (.comp (.nm 6) (.var 4) x39_5)))
 .nil))) (.cons (.ite (.or2 (.val (.isi .tuple (.var 4))) (.one (.val (.isi .list (.var 4))))) (.cons (.ite (.or2 (.cmp .ne (.isi .tuple (.var 3)) (.isi .tuple (.var 4))) (.or2 (.cmp .ne (.isi .list (.var 3)) (.isi .list (.var 4))) (.one (.cmp .ne (.b1 .len (.var 3)) (.b1 .len (.var 4)))))) (.cons (.ret (.tt false))
 .nil) .nil)
 (.cons (.ext 2 (.comp (.nm 7) (.rng (.b1 .len (.var 4))) x39_6))
 .nil)) (.cons (.ite (.or2 (.cmp .ne (.isi .bool (.var 3)) (.isi .bool (.var 4))) (.or2 (.cmp .ne (.isi .int (.var 3)) (.isi .int (.var 4))) (.or2 (.cmp .ne (.isi .str (.var 3)) (.isi .str (.var 4))) (.one (.cmp .ne (.var 3) (.var 4)))))) (.cons (.ret (.tt false))
 .nil) .nil)
 .nil))
 .nil))
 .nil))
def b39 : Sts :=
 (.cons (.own 2 (.lst (.cons (.tup (.cons (.var 0) (.cons (.var 1) .nil))) .nil)))
 (.cons (.whl t39_0 l39_7)
 (.cons (.ret (.tt true))
 .nil)))
def N39 : List Str := ["seen", "due", "waiting", "one", "other", "keys", "key", "k"]
def ps39 : List Str := ["seen", "due"]
def d39 : Def := ⟨2, 8, b39⟩
def t40_0 : Tx := (.cmp .gt (.var 3) (.num 0))
def l40_1 : Sts := (.cons (.par [(2, false), (3, false)] (.cons (.var 3) (.cons (.bin .mod (.b1 .int (.var 2)) (.var 3)) .nil)))
 .nil)
def b40 : Sts :=
 (.cons (.par [(2, false), (3, false)] (.cons (.b1 .abs (.var 0)) (.cons (.b1 .abs (.var 1)) .nil)))
 (.cons (.whl t40_0 l40_1)
 (.cons (.set (.nm 2) (.ite (.cmp .gt (.var 1) (.num 0)) (.var 2) (.bin .sub (.num 0) (.var 2))))
 (.cons (.ret (.tup (.cons (.bin .fdiv (.var 0) (.var 2)) (.cons (.bin .fdiv (.var 1) (.var 2)) .nil))))
 .nil))))
def N40 : List Str := ["a", "b", "one", "other"]
def ps40 : List Str := ["a", "b"]
def d40 : Def := ⟨2, 4, b40⟩
def l41_0 : Sts := (.cons (.set (.tp [1, 2]) (.call 40 (.cons (.bin .add (.bin .mul (.var 1) (.var 4)) (.bin .mul (.var 3) (.var 2))) (.cons (.bin .mul (.var 2) (.var 4)) .nil))))
 .nil)
def b41 : Sts :=
 (.cons (.par [(1, false), (2, false)] (.cons (.num 0) (.cons (.num 1) .nil)))
 (.cons (.for_ (.tp [3, 4]) (.var 0) l41_0)
 (.cons (.ret (.tup (.cons (.var 1) (.cons (.var 2) .nil))))
 .nil)))
def N41 : List Str := ["rows", "upper", "lower", "a", "b"]
def ps41 : List Str := ["rows"]
def d41 : Def := ⟨1, 5, b41⟩
def b42 : Sts :=
 (.cons (.ret (.cmp .lt (.bin .mul (.ix (.var 0) (.num 0)) (.ix (.var 1) (.num 1))) (.bin .mul (.ix (.var 1) (.num 0)) (.ix (.var 0) (.num 1)))))
 .nil)
def N42 : List Str := ["one", "other"]
def ps42 : List Str := ["one", "other"]
def d42 : Def := ⟨2, 2, b42⟩
def b43 : Sts :=
 (.cons (.ret (.call 40 (.cons (.bin .mul (.ix (.var 0) (.num 0)) (.ix (.var 1) (.num 0))) (.cons (.bin .mul (.ix (.var 0) (.num 1)) (.ix (.var 1) (.num 1))) .nil))))
 .nil)
def N43 : List Str := ["one", "other"]
def ps43 : List Str := ["one", "other"]
def d43 : Def := ⟨2, 2, b43⟩
def b44 : Sts :=
 (.cons (.ret (.tup (.cons (.bin .sub (.num 0) (.ix (.var 0) (.num 0))) (.cons (.ix (.var 0) (.num 1)) .nil))))
 .nil)
def N44 : List Str := ["one"]
def ps44 : List Str := ["one"]
def d44 : Def := ⟨1, 1, b44⟩
def b45 : Sts :=
 (.cons (.ret (.tup (.cons (.b2 .max (.ix (.var 0) (.num 0)) (.bin .sub (.num 0) (.ix (.var 0) (.num 0)))) (.cons (.ix (.var 0) (.num 1)) .nil))))
 .nil)
def N45 : List Str := ["one"]
def ps45 : List Str := ["one"]
def d45 : Def := ⟨1, 1, b45⟩
def b46 : Sts :=
 (.cons (.ret (.ite (.cmp .ge (.var 0) (.num 0)) (.tup (.cons (.bin .shl (.num 1) (.var 0)) (.cons (.num 1) .nil))) (.tup (.cons (.num 1) (.cons (.bin .shl (.num 1) (.bin .sub (.num 0) (.var 0))) .nil)))))
 .nil)
def N46 : List Str := ["by"]
def ps46 : List Str := ["by"]
def d46 : Def := ⟨1, 1, b46⟩
def t47_0 : Tx := (.val (.call 42 (.cons (.var 5) (.cons (.call 46 (.cons (.var 6) .nil)) .nil))))
def l47_1 : Sts := (.cons (.aug 6 .sub (.num 1))
 .nil)
def t47_2 : Tx := (.not (.val (.call 42 (.cons (.var 5) (.cons (.call 46 (.cons (.bin .add (.var 6) (.num 1)) .nil)) .nil)))))
def l47_3 : Sts := (.cons (.aug 6 .add (.num 1))
 .nil)
def b47 : Sts :=
 (.cons (.ite (.cmp .eq (.ix (.var 0) (.num 0)) (.num 0)) (.cons (.ret (.var 0))
 .nil) .nil)
 (.cons (.par [(5, false), (6, false)] (.cons (.call 45 (.cons (.var 0) .nil)) (.cons (.num 0) .nil)))
 (.cons (.whl t47_0 l47_1)
 (.cons (.whl t47_2 l47_3)
 (.cons (.set (.nm 3) (.call 43 (.cons (.var 0) (.cons (.call 46 (.cons (.bin .sub (.bin .sub (.var 1) (.num 1)) (.var 6)) .nil)) .nil))))
 (.cons (.set (.nm 4) (.ite (.val (.var 2)) (.bin .sub (.num 0) (.bin .fdiv (.bin .sub (.num 0) (.ix (.var 3) (.num 0))) (.ix (.var 3) (.num 1)))) (.bin .fdiv (.ix (.var 3) (.num 0)) (.ix (.var 3) (.num 1)))))
 (.cons (.ret (.call 43 (.cons (.tup (.cons (.var 4) (.cons (.num 1) .nil))) (.cons (.call 46 (.cons (.bin .add (.bin .sub (.var 6) (.var 1)) (.num 1)) .nil)) .nil))))
 .nil)))))))
def N47 : List Str := ["one", "digits", "is_up", "own", "whole", "size_v", "power"]
def ps47 : List Str := ["one", "digits", "is_up"]
def d47 : Def := ⟨3, 7, b47⟩
def t48_0 : Tx := (.cmp .ne (.ix (.var 1) (.var 3)) (.tup (.cons (.num 0) (.cons (.num 1) .nil))))
def x48_1 : Ex := (.tup (.cons (.var 3) (.cons (.ix (.var 1) (.var 3)) .nil)))
def b48 : Sts :=
 (.cons (.ret (.tup (.cons (.var 0) (.cons (.b1 .tupOf (.compIf (.nm 3) (.b1 .sorted (.var 1)) t48_0 x48_1)) (.cons (.var 2) .nil)))))
 .nil)
def N48 : List Str := ["number", "parts", "rest", "mark"]
def ps48 : List Str := ["number", "parts", "rest"]
def d48 : Def := ⟨3, 4, b48⟩
def x49_0 : Ex := (.call 45 (.cons (.var 2) .nil))
def b49 : Sts :=
 (.cons (.ret (.call 41 (.cons (.bin .add (.comp (.tp [1, 2]) (.ix (.var 0) (.num 1)) x49_0) (.lst (.cons (.ix (.var 0) (.num 2)) .nil))) .nil)))
 .nil)
def N49 : List Str := ["form", "mark", "own"]
def ps49 : List Str := ["form"]
def d49 : Def := ⟨1, 3, b49⟩
def b50 : Sts :=
 (.cons (.ret (.call 41 (.cons (.lst (.cons (.call 45 (.cons (.ix (.var 0) (.num 0)) .nil)) (.cons (.call 49 (.cons (.var 0) .nil)) .nil))) .nil)))
 .nil)
def N50 : List Str := ["form"]
def ps50 : List Str := ["form"]
def d50 : Def := ⟨1, 1, b50⟩
def b51 : Sts :=
 (.cons (.set (.nm 1) (.call 49 (.cons (.var 0) .nil)))
 (.cons (.ret (.tup (.cons (.call 41 (.cons (.lst (.cons (.ix (.var 0) (.num 0)) (.cons (.call 44 (.cons (.var 1) .nil)) .nil))) .nil)) (.cons (.call 41 (.cons (.lst (.cons (.ix (.var 0) (.num 0)) (.cons (.var 1) .nil))) .nil)) .nil))))
 .nil))
def N51 : List Str := ["form", "own"]
def ps51 : List Str := ["form"]
def d51 : Def := ⟨1, 2, b51⟩
def l52_0 : Sts := (.cons (.dput 2 (.var 3) (.call 41 (.cons (.lst (.cons (.get2 (.var 2) (.var 3) (.tup (.cons (.num 0) (.cons (.num 1) .nil)))) (.cons (.var 4) .nil))) .nil)))
 .nil)
def b52 : Sts :=
 (.cons (.own 2 (.b1 .dictOf (.ix (.var 0) (.num 1))))
 (.cons (.for_ (.tp [3, 4]) (.ix (.var 1) (.num 1)) l52_0)
 (.cons (.ret (.call 48 (.cons (.call 41 (.cons (.lst (.cons (.ix (.var 0) (.num 0)) (.cons (.ix (.var 1) (.num 0)) .nil))) .nil)) (.cons (.var 2) (.cons (.call 41 (.cons (.lst (.cons (.ix (.var 0) (.num 2)) (.cons (.ix (.var 1) (.num 2)) .nil))) .nil)) .nil)))))
 .nil)))
def N52 : List Str := ["one", "other", "parts", "mark", "own"]
def ps52 : List Str := ["one", "other"]
def d52 : Def := ⟨2, 5, b52⟩
def x53_0 : Ex := (.tup (.cons (.var 2) (.cons (.call 43 (.cons (.var 3) (.cons (.var 1) .nil))) .nil)))
def b53 : Sts :=
 (.cons (.ret (.call 48 (.cons (.call 43 (.cons (.ix (.var 0) (.num 0)) (.cons (.var 1) .nil))) (.cons (.b1 .dictOf (.comp (.tp [2, 3]) (.ix (.var 0) (.num 1)) x53_0)) (.cons (.call 43 (.cons (.ix (.var 0) (.num 2)) (.cons (.call 45 (.cons (.var 1) .nil)) .nil))) .nil)))))
 .nil)
def N53 : List Str := ["form", "by", "mark", "own"]
def ps53 : List Str := ["form", "by"]
def d53 : Def := ⟨2, 4, b53⟩
def b54 : Sts :=
 (.cons (.ret (.tup (.cons (.ix (.var 0) (.num 0)) (.cons (.ix (.var 0) (.num 1)) (.cons (.call 41 (.cons (.lst (.cons (.ix (.var 0) (.num 2)) (.cons (.var 1) .nil))) .nil)) .nil)))))
 .nil)
def N54 : List Str := ["form", "more"]
def ps54 : List Str := ["form", "more"]
def d54 : Def := ⟨2, 2, b54⟩
def b55 : Sts :=
 (.cons (.set (.nm 2) (.call 52 (.cons (.call 53 (.cons (.var 0) (.cons (.ix (.var 1) (.num 0)) .nil))) (.cons (.call 53 (.cons (.var 1) (.cons (.ix (.var 0) (.num 0)) .nil))) .nil))))
 (.cons (.ret (.call 54 (.cons (.tup (.cons (.call 43 (.cons (.ix (.var 0) (.num 0)) (.cons (.ix (.var 1) (.num 0)) .nil))) (.cons (.ix (.var 2) (.num 1)) (.cons (.ix (.var 2) (.num 2)) .nil)))) (.cons (.call 43 (.cons (.call 49 (.cons (.var 0) .nil)) (.cons (.call 49 (.cons (.var 1) .nil)) .nil))) .nil))))
 .nil))
def N55 : List Str := ["one", "other", "found"]
def ps55 : List Str := ["one", "other"]
def d55 : Def := ⟨2, 3, b55⟩
def b56 : Sts :=
 (.cons (.set (.nm 1) (.call 43 (.cons (.call 41 (.cons (.lst (.cons (.ix (.var 0) (.num 0)) (.cons (.ix (.var 0) (.num 1)) .nil))) .nil)) (.cons (.tup (.cons (.num 1) (.cons (.num 2) .nil))) .nil))))
 (.cons (.ret (.tup (.cons (.var 1) (.cons (.tup .nil) (.cons (.call 41 (.cons (.lst (.cons (.ix (.var 0) (.num 1)) (.cons (.call 44 (.cons (.var 1) .nil)) .nil))) .nil)) .nil)))))
 .nil))
def N56 : List Str := ["span", "middle"]
def ps56 : List Str := ["span"]
def d56 : Def := ⟨1, 2, b56⟩
def l57_0 : Sts := (.cons (.dput 1 (.call 37 (.cons (.var 0) (.cons (.num 4) .nil))) (.call 40 (.cons (.bin .sub (.call 37 (.cons (.var 0) (.cons (.num 9) .nil))) (.num 4)) (.cons (.call 38 (.cons (.var 0) (.cons (.lst (.cons (.num 1) (.cons (.num 2) (.cons (.num 3) .nil)))) .nil))) .nil))))
 .nil)
def b57 : Sts :=
 (.cons (.own 1 (.dic .nil .nil))
 (.cons (.for_ (.nm 2) (.rng (.call 37 (.cons (.var 0) (.cons (.num 4) .nil)))) l57_0)
 (.cons (.ret (.call 48 (.cons (.call 40 (.cons (.bin .sub (.call 37 (.cons (.var 0) (.cons (.num 13) .nil))) (.num 6)) (.cons (.call 38 (.cons (.var 0) (.cons (.lst (.cons (.num 1) (.cons (.num 2) (.cons (.num 5) .nil)))) .nil))) .nil))) (.cons (.var 1) (.cons (.call 40 (.cons (.call 37 (.cons (.var 0) (.cons (.num 4) .nil))) (.cons (.call 38 (.cons (.var 0) (.cons (.lst (.cons (.num 1) (.cons (.num 3) (.cons (.num 4) .nil)))) .nil))) .nil))) .nil)))))
 .nil)))
def N57 : List Str := ["w", "parts", "k"]
def ps57 : List Str := ["w"]
def d57 : Def := ⟨1, 3, b57⟩
def b58 : Sts :=
 (.cons (.par [(4, false), (5, false), (6, false)] (.cons (.call 57 (.cons (.var 0) .nil)) (.cons (.call 57 (.cons (.var 0) .nil)) (.cons (.call 40 (.cons (.bin .sub (.call 37 (.cons (.var 0) (.cons (.num 9) .nil))) (.num 4)) (.cons (.bin .add (.num 1) (.call 37 (.cons (.var 0) (.cons (.num 3) .nil)))) .nil))) .nil))))
 (.cons (.par [(7, false), (8, false), (9, false)] (.cons (.call 37 (.cons (.var 0) (.cons (.num 5) .nil))) (.cons (.call 40 (.cons (.call 37 (.cons (.var 0) (.cons (.num 5) .nil))) (.cons (.num 3) .nil))) (.cons (.bin .add (.num 1) (.call 37 (.cons (.var 0) (.cons (.num 9) .nil)))) .nil))))
 (.cons (.ite (.or2 (.not (.val (.call 39 (.cons (.call 26 (.cons (.var 4) (.cons (.var 5) .nil))) (.cons (.call 52 (.cons (.var 4) (.cons (.var 5) .nil))) .nil))))) (.or2 (.not (.val (.call 39 (.cons (.call 27 (.cons (.var 4) (.cons (.var 6) .nil))) (.cons (.call 53 (.cons (.var 4) (.cons (.var 6) .nil))) .nil))))) (.one (.not (.val (.call 39 (.cons (.call 28 (.cons (.var 4) .nil)) (.cons (.call 53 (.cons (.var 4) (.cons (.tup (.cons (.neg (.num 1)) (.cons (.num 1) .nil))) .nil))) .nil)))))))) (.cons (.ret (.tt false))
 .nil) .nil)
 (.cons (.ite (.or2 (.not (.val (.call 39 (.cons (.call 31 (.cons (.var 4) (.cons (.var 5) .nil))) (.cons (.call 55 (.cons (.var 4) (.cons (.var 5) .nil))) .nil))))) (.one (.not (.val (.call 39 (.cons (.call 29 (.cons (.var 4) (.cons (.var 8) .nil))) (.cons (.call 54 (.cons (.var 4) (.cons (.var 8) .nil))) .nil))))))) (.cons (.ret (.tt false))
 .nil) .nil)
 (.cons (.ite (.or2 (.not (.val (.call 39 (.cons (.call 30 (.cons (.var 4) (.cons (.var 7) (.cons (.var 6) .nil)))) (.cons (.call 52 (.cons (.var 4) (.cons (.call 48 (.cons (.tup (.cons (.num 0) (.cons (.num 1) .nil))) (.cons (.dic (.cons (.var 7) .nil) (.cons (.var 6) .nil)) (.cons (.tup (.cons (.num 0) (.cons (.num 1) .nil))) .nil)))) .nil))) .nil))))) (.one (.not (.val (.call 39 (.cons (.call 20 (.cons (.var 6) .nil)) (.cons (.tup (.cons (.var 6) (.cons (.tup .nil) (.cons (.tup (.cons (.num 0) (.cons (.num 1) .nil))) .nil)))) .nil))))))) (.cons (.ret (.tt false))
 .nil) .nil)
 (.cons (.ite (.or2 (.not (.val (.call 39 (.cons (.call 23 (.cons (.var 4) .nil)) (.cons (.call 49 (.cons (.var 4) .nil)) .nil))))) (.or2 (.not (.val (.call 39 (.cons (.call 25 (.cons (.var 4) .nil)) (.cons (.call 50 (.cons (.var 4) .nil)) .nil))))) (.one (.not (.val (.call 39 (.cons (.call 24 (.cons (.var 4) .nil)) (.cons (.call 51 (.cons (.var 4) .nil)) .nil)))))))) (.cons (.ret (.tt false))
 .nil) .nil)
 (.cons (.set (.nm 1) (.call 51 (.cons (.var 5) .nil)))
 (.cons (.set (.nm 2) (.call 56 (.cons (.var 1) .nil)))
 (.cons (.ite (.or2 (.not (.val (.call 39 (.cons (.call 22 (.cons (.var 1) .nil)) (.cons (.var 2) .nil))))) (.one (.not (.val (.call 39 (.cons (.call 21 (.cons (.var 1) (.cons (.var 7) .nil))) (.cons (.call 48 (.cons (.ix (.var 2) (.num 0)) (.cons (.dic (.cons (.var 7) .nil) (.cons (.ix (.var 2) (.num 2)) .nil)) (.cons (.tup (.cons (.num 0) (.cons (.num 1) .nil))) .nil)))) .nil))))))) (.cons (.ret (.tt false))
 .nil) .nil)
 (.cons (.set (.nm 3) (.call 59 (.cons (.var 4) (.cons (.var 5) .nil))))
 (.cons (.ret (.andv (.call 39 (.cons (.call 35 (.cons (.var 4) (.cons (.var 9) .nil))) (.cons (.call 60 (.cons (.var 4) (.cons (.var 9) .nil))) .nil))) (.andv (.call 39 (.cons (.call 33 (.cons (.var 4) (.cons (.var 5) .nil))) (.cons (.var 3) .nil))) (.one (.cmp .isB (.call 33 (.cons (.var 4) (.cons (.var 4) .nil))) (.tt true))))))
 .nil)))))))))))
def N58 : List Str := ["w", "span", "middle", "near", "one", "other", "by", "mark", "more", "digits"]
def ps58 : List Str := ["w"]
def d58 : Def := ⟨1, 10, b58⟩
def x59_0 : Ex := (.call 45 (.cons (.call 41 (.cons (.lst (.cons (.get2 (.var 3) (.var 5) (.tup (.cons (.num 0) (.cons (.num 1) .nil)))) (.cons (.call 44 (.cons (.get2 (.var 4) (.var 5) (.tup (.cons (.num 0) (.cons (.num 1) .nil)))) .nil)) .nil))) .nil)) .nil))
def b59 : Sts :=
 (.cons (.par [(3, false), (4, false)] (.cons (.b1 .dictOf (.ix (.var 0) (.num 1))) (.cons (.b1 .dictOf (.ix (.var 1) (.num 1))) .nil)))
 (.cons (.own 2 (.comp (.nm 5) (.b1 .sortedSet (.bin .add (.b1 .lstOf (.var 3)) (.b1 .lstOf (.var 4)))) x59_0))
 (.cons (.frz 2)
 (.cons (.ret (.notv (.call 42 (.cons (.ix (.var 0) (.num 2)) (.cons (.call 41 (.cons (.bin .add (.var 2) (.lst (.cons (.call 45 (.cons (.call 41 (.cons (.lst (.cons (.ix (.var 0) (.num 0)) (.cons (.call 44 (.cons (.ix (.var 1) (.num 0)) .nil)) .nil))) .nil)) .nil)) (.cons (.ix (.var 1) (.num 2)) .nil)))) .nil)) .nil)))))
 .nil))))
def N59 : List Str := ["one", "other", "gaps", "parts", "more", "mark"]
def ps59 : List Str := ["one", "other"]
def d59 : Def := ⟨2, 6, b59⟩
def l60_0 : Sts := (.cons (.dput 4 (.var 5) (.call 47 (.cons (.var 6) (.cons (.var 1) (.cons (.tt false) .nil)))))
 (.cons (.set (.nm 2) (.call 41 (.cons (.lst (.cons (.var 2) (.cons (.var 6) (.cons (.call 44 (.cons (.ix (.var 4) (.var 5)) .nil)) .nil)))) .nil)))
 .nil))
def b60 : Sts :=
 (.cons (.par [(3, false), (4, true), (2, false)] (.cons (.call 47 (.cons (.ix (.var 0) (.num 0)) (.cons (.var 1) (.cons (.tt false) .nil)))) (.cons (.dic .nil .nil) (.cons (.ix (.var 0) (.num 2)) .nil))))
 (.cons (.set (.nm 2) (.call 41 (.cons (.lst (.cons (.var 2) (.cons (.ix (.var 0) (.num 0)) (.cons (.call 44 (.cons (.var 3) .nil)) .nil)))) .nil)))
 (.cons (.for_ (.tp [5, 6]) (.ix (.var 0) (.num 1)) l60_0)
 (.cons (.ret (.call 48 (.cons (.var 3) (.cons (.var 4) (.cons (.call 47 (.cons (.var 2) (.cons (.var 1) (.cons (.tt true) .nil)))) .nil)))))
 .nil))))
def N60 : List Str := ["form", "digits", "rest", "number", "parts", "mark", "own"]
def ps60 : List Str := ["form", "digits"]
def d60 : Def := ⟨2, 7, b60⟩
def x61_0 : Ex := (.tup (.cons (.var 7) (.cons (.call 40 (.cons (.bin .sub (.call 37 (.cons (.var 1) (.cons (.num 9) .nil))) (.num 4)) (.cons (.num 4) .nil))) .nil)))
def x61_1 : Ex := (.call 43 (.cons (.var 8) (.cons (.ix (.var 4) (.var 7)) .nil)))
def l61_2 : Sts := (.cons (.ite (.not (.val (.call 39 (.cons (.call 18 (.cons (.var 6) .nil)) (.cons (.tt false) .nil))))) (.cons (.ret (.tt false))
 .nil) .nil)
 .nil)
def l61_3 : Sts := (.cons (.ite (.not (.val (.call 58 (.cons (.var 1) .nil)))) (.cons (.ret (.tt false))
 .nil) .nil)
 (.cons (.set (.nm 3) (.call 57 (.cons (.var 1) .nil)))
 (.cons (.set (.nm 4) (.b1 .dictOf (.comp (.nm 7) (.rng (.num 5)) x61_0)))
 (.cons (.set (.nm 5) (.call 41 (.cons (.bin .add (.lst (.cons (.ix (.var 3) (.num 0)) .nil)) (.comp (.tp [7, 8]) (.ix (.var 3) (.num 1)) x61_1)) .nil)))
 (.cons (.ite (.or2 (.not (.val (.call 39 (.cons (.call 32 (.cons (.var 3) (.cons (.var 4) .nil))) (.cons (.tup (.cons (.call 41 (.cons (.lst (.cons (.var 5) (.cons (.call 44 (.cons (.ix (.var 3) (.num 2)) .nil)) .nil))) .nil)) (.cons (.call 41 (.cons (.lst (.cons (.var 5) (.cons (.ix (.var 3) (.num 2)) .nil))) .nil)) .nil))) .nil))))) (.one (.not (.val (.call 39 (.cons (.call 18 (.cons (.var 3) .nil)) (.cons (.tt true) .nil))))))) (.cons (.ret (.tt false))
 .nil) .nil)
 (.cons (.for_ (.nm 6) (.tup (.cons (.sl (.var 3) .non (.num 2)) (.cons (.b1 .lstOf (.var 3)) (.cons (.tup (.cons (.ix (.var 3) (.num 0)) (.cons (.tup (.cons (.tup (.cons (.num 1) (.cons (.tup (.cons (.num 1) (.cons (.num 2) .nil))) .nil))) (.cons (.tup (.cons (.num 0) (.cons (.tup (.cons (.num 1) (.cons (.num 1) .nil))) .nil))) .nil))) (.cons (.ix (.var 3) (.num 2)) .nil)))) (.cons (.tup (.cons (.ix (.var 3) (.num 0)) (.cons (.tup (.cons (.tup (.cons (.num 2) (.cons (.tup (.cons (.num 0) (.cons (.num 1) .nil))) .nil))) .nil)) (.cons (.ix (.var 3) (.num 2)) .nil)))) (.cons (.tup (.cons (.ix (.var 3) (.num 0)) (.cons (.tup (.cons (.tup (.cons (.neg (.num 1)) (.cons (.tup (.cons (.num 1) (.cons (.num 1) .nil))) .nil))) .nil)) (.cons (.ix (.var 3) (.num 2)) .nil)))) (.cons (.bin .add (.sl (.var 3) .non (.num 2)) (.tup (.cons (.tup (.cons (.neg (.num 1)) (.cons (.num 3) .nil))) .nil))) (.cons .non .nil)))))))) l61_2)
 .nil))))))
def b61 : Sts :=
 (.cons (.mkw 1 1 0 (.call 36 (.cons (.var 0) (.cons (.num 260) .nil))) (.num 0))
 (.cons (.for_ (.nm 2) (.rng (.num 10)) l61_3)
 (.cons (.ret (.tt true))
 .nil)))
def N61 : List Str := ["script", "w", "time", "one", "marks", "due", "thing", "mark", "own"]
def ps61 : List Str := ["script"]
def d61 : Def := ⟨1, 9, b61⟩
def P : Nat → Option Def
  | 0 => some d0
  | 1 => some d1
  | 2 => some d2
  | 3 => some d3
  | 4 => some d4
  | 5 => some d5
  | 6 => some d6
  | 7 => some d7
  | 8 => some d8
  | 9 => some d9
  | 10 => some d10
  | 11 => some d11
  | 12 => some d12
  | 13 => some d13
  | 14 => some d14
  | 15 => some d15
  | 16 => some d16
  | 17 => some d17
  | 18 => some d18
  | 19 => some d19
  | 20 => some d20
  | 21 => some d21
  | 22 => some d22
  | 23 => some d23
  | 24 => some d24
  | 25 => some d25
  | 26 => some d26
  | 27 => some d27
  | 28 => some d28
  | 29 => some d29
  | 30 => some d30
  | 31 => some d31
  | 32 => some d32
  | 33 => some d33
  | 34 => some d34
  | 35 => some d35
  | 36 => some d36
  | 37 => some d37
  | 38 => some d38
  | 39 => some d39
  | 40 => some d40
  | 41 => some d41
  | 42 => some d42
  | 43 => some d43
  | 44 => some d44
  | 45 => some d45
  | 46 => some d46
  | 47 => some d47
  | 48 => some d48
  | 49 => some d49
  | 50 => some d50
  | 51 => some d51
  | 52 => some d52
  | 53 => some d53
  | 54 => some d54
  | 55 => some d55
  | 56 => some d56
  | 57 => some d57
  | 58 => some d58
  | 59 => some d59
  | 60 => some d60
  | _ => none
def fn : Nat → Option Str
  | 0 => some "is_number"
  | 1 => some "is_from"
  | 2 => some "is_tuple_of"
  | 3 => some "is_ascending"
  | 4 => some "bits_of"
  | 5 => some "common"
  | 6 => some "fraction"
  | 7 => some "is_fraction"
  | 8 => some "added"
  | 9 => some "negated"
  | 10 => some "taken"
  | 11 => some "times"
  | 12 => some "size"
  | 13 => some "is_most"
  | 14 => some "two_to"
  | 15 => some "shifted"
  | 16 => some "exponent_of"
  | 17 => some "sum_of"
  | 18 => some "is_straight"
  | 19 => some "straight"
  | 20 => some "plain"
  | 21 => some "of_span"
  | 22 => some "with_rest"
  | 23 => some "swing"
  | 24 => some "span_of"
  | 25 => some "reach_of"
  | 26 => some "both"
  | 27 => some "scaled"
  | 28 => some "turned"
  | 29 => some "loosened"
  | 30 => some "marked"
  | 31 => some "product"
  | 32 => some "at_marks"
  | 33 => some "is_looser"
  | 34 => some "coarse"
  | 35 => some "coarse_straight"
  | 36 => some "_law_draws"
  | 37 => some "_law_next"
  | 38 => some "_law_pick"
  | 39 => some "_law_same"
  | 40 => some "_law_least"
  | 41 => some "_law_sum"
  | 42 => some "_law_less"
  | 43 => some "_law_mul"
  | 44 => some "_law_off"
  | 45 => some "_law_size"
  | 46 => some "_law_two"
  | 47 => some "_law_coarse"
  | 48 => some "_law_straight"
  | 49 => some "_law_swing"
  | 50 => some "_law_far"
  | 51 => some "_law_spread"
  | 52 => some "_law_joint"
  | 53 => some "_law_scaled"
  | 54 => some "_law_looser"
  | 55 => some "_law_product"
  | 56 => some "_law_middled"
  | 57 => some "_law_plain_form"
  | 58 => some "_law_forms_right"
  | 59 => some "_law_loose"
  | 60 => some "_law_coarse_form"
  | _ => none
def co : Nat → Option (Str × D)
  | 0 => some ("NOTHING", (.tup [(.int 0), (.int 1)]))
  | _ => none
def T : Nat → Str
  | 0 => "at"
  | 1 => "draws"
  | n => ⟨#[1000 + n]⟩
def at_ (i : Nat) : Stmt := PySem.Challenge.pw_roundedwithin_k36_whole_straight_forms_b.main.body.getD i (.Pass ⟨0, 0, 0, 0⟩)
theorem ok0 : okSs ⟨N0, T, fn, co⟩ b0 (defScope (at_ 1)) (defBody (at_ 1)) = true := by decide +kernel
theorem ok1 : okSs ⟨N1, T, fn, co⟩ b1 (defScope (at_ 2)) (defBody (at_ 2)) = true := by decide +kernel
theorem ok2 : okSs ⟨N2, T, fn, co⟩ b2 (defScope (at_ 3)) (defBody (at_ 3)) = true := by decide +kernel
theorem ok3 : okSs ⟨N3, T, fn, co⟩ b3 (defScope (at_ 4)) (defBody (at_ 4)) = true := by decide +kernel
theorem ok4 : okSs ⟨N4, T, fn, co⟩ b4 (defScope (at_ 5)) (defBody (at_ 5)) = true := by decide +kernel
theorem ok5 : okSs ⟨N5, T, fn, co⟩ b5 (defScope (at_ 8)) (defBody (at_ 8)) = true := by decide +kernel
theorem ok6 : okSs ⟨N6, T, fn, co⟩ b6 (defScope (at_ 9)) (defBody (at_ 9)) = true := by decide +kernel
theorem ok7 : okSs ⟨N7, T, fn, co⟩ b7 (defScope (at_ 10)) (defBody (at_ 10)) = true := by decide +kernel
theorem ok8 : okSs ⟨N8, T, fn, co⟩ b8 (defScope (at_ 11)) (defBody (at_ 11)) = true := by decide +kernel
theorem ok9 : okSs ⟨N9, T, fn, co⟩ b9 (defScope (at_ 12)) (defBody (at_ 12)) = true := by decide +kernel
theorem ok10 : okSs ⟨N10, T, fn, co⟩ b10 (defScope (at_ 13)) (defBody (at_ 13)) = true := by decide +kernel
theorem ok11 : okSs ⟨N11, T, fn, co⟩ b11 (defScope (at_ 14)) (defBody (at_ 14)) = true := by decide +kernel
theorem ok12 : okSs ⟨N12, T, fn, co⟩ b12 (defScope (at_ 15)) (defBody (at_ 15)) = true := by decide +kernel
theorem ok13 : okSs ⟨N13, T, fn, co⟩ b13 (defScope (at_ 16)) (defBody (at_ 16)) = true := by decide +kernel
theorem ok14 : okSs ⟨N14, T, fn, co⟩ b14 (defScope (at_ 17)) (defBody (at_ 17)) = true := by decide +kernel
theorem ok15 : okSs ⟨N15, T, fn, co⟩ b15 (defScope (at_ 18)) (defBody (at_ 18)) = true := by decide +kernel
theorem ok16 : okSs ⟨N16, T, fn, co⟩ b16 (defScope (at_ 19)) (defBody (at_ 19)) = true := by decide +kernel
theorem ok17 : okSs ⟨N17, T, fn, co⟩ b17 (defScope (at_ 20)) (defBody (at_ 20)) = true := by decide +kernel
theorem ok18 : okSs ⟨N18, T, fn, co⟩ b18 (defScope (at_ 22)) (defBody (at_ 22)) = true := by decide +kernel
theorem ok19 : okSs ⟨N19, T, fn, co⟩ b19 (defScope (at_ 23)) (defBody (at_ 23)) = true := by decide +kernel
theorem ok20 : okSs ⟨N20, T, fn, co⟩ b20 (defScope (at_ 24)) (defBody (at_ 24)) = true := by decide +kernel
theorem ok21 : okSs ⟨N21, T, fn, co⟩ b21 (defScope (at_ 25)) (defBody (at_ 25)) = true := by decide +kernel
theorem ok22 : okSs ⟨N22, T, fn, co⟩ b22 (defScope (at_ 26)) (defBody (at_ 26)) = true := by decide +kernel
theorem ok23 : okSs ⟨N23, T, fn, co⟩ b23 (defScope (at_ 27)) (defBody (at_ 27)) = true := by decide +kernel
theorem ok24 : okSs ⟨N24, T, fn, co⟩ b24 (defScope (at_ 28)) (defBody (at_ 28)) = true := by decide +kernel
theorem ok25 : okSs ⟨N25, T, fn, co⟩ b25 (defScope (at_ 29)) (defBody (at_ 29)) = true := by decide +kernel
theorem ok26 : okSs ⟨N26, T, fn, co⟩ b26 (defScope (at_ 30)) (defBody (at_ 30)) = true := by decide +kernel
theorem ok27 : okSs ⟨N27, T, fn, co⟩ b27 (defScope (at_ 31)) (defBody (at_ 31)) = true := by decide +kernel
theorem ok28 : okSs ⟨N28, T, fn, co⟩ b28 (defScope (at_ 32)) (defBody (at_ 32)) = true := by decide +kernel
theorem ok29 : okSs ⟨N29, T, fn, co⟩ b29 (defScope (at_ 33)) (defBody (at_ 33)) = true := by decide +kernel
theorem ok30 : okSs ⟨N30, T, fn, co⟩ b30 (defScope (at_ 34)) (defBody (at_ 34)) = true := by decide +kernel
theorem ok31 : okSs ⟨N31, T, fn, co⟩ b31 (defScope (at_ 35)) (defBody (at_ 35)) = true := by decide +kernel
theorem ok32 : okSs ⟨N32, T, fn, co⟩ b32 (defScope (at_ 36)) (defBody (at_ 36)) = true := by decide +kernel
theorem ok33 : okSs ⟨N33, T, fn, co⟩ b33 (defScope (at_ 37)) (defBody (at_ 37)) = true := by decide +kernel
theorem ok34 : okSs ⟨N34, T, fn, co⟩ b34 (defScope (at_ 39)) (defBody (at_ 39)) = true := by decide +kernel
theorem ok35 : okSs ⟨N35, T, fn, co⟩ b35 (defScope (at_ 41)) (defBody (at_ 41)) = true := by decide +kernel
theorem ok36 : okSs ⟨N36, T, fn, co⟩ b36 (defScope (at_ 43)) (defBody (at_ 43)) = true := by decide +kernel
theorem ok37 : okSs ⟨N37, T, fn, co⟩ b37 (defScope (at_ 44)) (defBody (at_ 44)) = true := by decide +kernel
theorem ok38 : okSs ⟨N38, T, fn, co⟩ b38 (defScope (at_ 45)) (defBody (at_ 45)) = true := by decide +kernel
theorem ok39 : okSs ⟨N39, T, fn, co⟩ b39 (defScope (at_ 46)) (defBody (at_ 46)) = true := by decide +kernel
theorem ok40 : okSs ⟨N40, T, fn, co⟩ b40 (defScope (at_ 47)) (defBody (at_ 47)) = true := by decide +kernel
theorem ok41 : okSs ⟨N41, T, fn, co⟩ b41 (defScope (at_ 48)) (defBody (at_ 48)) = true := by decide +kernel
theorem ok42 : okSs ⟨N42, T, fn, co⟩ b42 (defScope (at_ 49)) (defBody (at_ 49)) = true := by decide +kernel
theorem ok43 : okSs ⟨N43, T, fn, co⟩ b43 (defScope (at_ 50)) (defBody (at_ 50)) = true := by decide +kernel
theorem ok44 : okSs ⟨N44, T, fn, co⟩ b44 (defScope (at_ 51)) (defBody (at_ 51)) = true := by decide +kernel
theorem ok45 : okSs ⟨N45, T, fn, co⟩ b45 (defScope (at_ 52)) (defBody (at_ 52)) = true := by decide +kernel
theorem ok46 : okSs ⟨N46, T, fn, co⟩ b46 (defScope (at_ 53)) (defBody (at_ 53)) = true := by decide +kernel
theorem ok47 : okSs ⟨N47, T, fn, co⟩ b47 (defScope (at_ 54)) (defBody (at_ 54)) = true := by decide +kernel
theorem ok48 : okSs ⟨N48, T, fn, co⟩ b48 (defScope (at_ 55)) (defBody (at_ 55)) = true := by decide +kernel
theorem ok49 : okSs ⟨N49, T, fn, co⟩ b49 (defScope (at_ 56)) (defBody (at_ 56)) = true := by decide +kernel
theorem ok50 : okSs ⟨N50, T, fn, co⟩ b50 (defScope (at_ 57)) (defBody (at_ 57)) = true := by decide +kernel
theorem ok51 : okSs ⟨N51, T, fn, co⟩ b51 (defScope (at_ 58)) (defBody (at_ 58)) = true := by decide +kernel
theorem ok52 : okSs ⟨N52, T, fn, co⟩ b52 (defScope (at_ 59)) (defBody (at_ 59)) = true := by decide +kernel
theorem ok53 : okSs ⟨N53, T, fn, co⟩ b53 (defScope (at_ 60)) (defBody (at_ 60)) = true := by decide +kernel
theorem ok54 : okSs ⟨N54, T, fn, co⟩ b54 (defScope (at_ 61)) (defBody (at_ 61)) = true := by decide +kernel
theorem ok55 : okSs ⟨N55, T, fn, co⟩ b55 (defScope (at_ 62)) (defBody (at_ 62)) = true := by decide +kernel
theorem ok56 : okSs ⟨N56, T, fn, co⟩ b56 (defScope (at_ 63)) (defBody (at_ 63)) = true := by decide +kernel
theorem ok57 : okSs ⟨N57, T, fn, co⟩ b57 (defScope (at_ 64)) (defBody (at_ 64)) = true := by decide +kernel
theorem ok58 : okSs ⟨N58, T, fn, co⟩ b58 (defScope (at_ 65)) (defBody (at_ 65)) = true := by decide +kernel
theorem ok59 : okSs ⟨N59, T, fn, co⟩ b59 (defScope (at_ 66)) (defBody (at_ 66)) = true := by decide +kernel
theorem ok60 : okSs ⟨N60, T, fn, co⟩ b60 (defScope (at_ 67)) (defBody (at_ 67)) = true := by decide +kernel
theorem ok61 : okSs ⟨N61, T, fn, co⟩ b61 (defScope (at_ 68)) (defBody (at_ 68)) = true := by decide +kernel
theorem sc0 : scOk N0 ps0 (defScope (at_ 1)) = true := by decide +kernel
theorem sc1 : scOk N1 ps1 (defScope (at_ 2)) = true := by decide +kernel
theorem sc2 : scOk N2 ps2 (defScope (at_ 3)) = true := by decide +kernel
theorem sc3 : scOk N3 ps3 (defScope (at_ 4)) = true := by decide +kernel
theorem sc4 : scOk N4 ps4 (defScope (at_ 5)) = true := by decide +kernel
theorem sc5 : scOk N5 ps5 (defScope (at_ 8)) = true := by decide +kernel
theorem sc6 : scOk N6 ps6 (defScope (at_ 9)) = true := by decide +kernel
theorem sc7 : scOk N7 ps7 (defScope (at_ 10)) = true := by decide +kernel
theorem sc8 : scOk N8 ps8 (defScope (at_ 11)) = true := by decide +kernel
theorem sc9 : scOk N9 ps9 (defScope (at_ 12)) = true := by decide +kernel
theorem sc10 : scOk N10 ps10 (defScope (at_ 13)) = true := by decide +kernel
theorem sc11 : scOk N11 ps11 (defScope (at_ 14)) = true := by decide +kernel
theorem sc12 : scOk N12 ps12 (defScope (at_ 15)) = true := by decide +kernel
theorem sc13 : scOk N13 ps13 (defScope (at_ 16)) = true := by decide +kernel
theorem sc14 : scOk N14 ps14 (defScope (at_ 17)) = true := by decide +kernel
theorem sc15 : scOk N15 ps15 (defScope (at_ 18)) = true := by decide +kernel
theorem sc16 : scOk N16 ps16 (defScope (at_ 19)) = true := by decide +kernel
theorem sc17 : scOk N17 ps17 (defScope (at_ 20)) = true := by decide +kernel
theorem sc18 : scOk N18 ps18 (defScope (at_ 22)) = true := by decide +kernel
theorem sc19 : scOk N19 ps19 (defScope (at_ 23)) = true := by decide +kernel
theorem sc20 : scOk N20 ps20 (defScope (at_ 24)) = true := by decide +kernel
theorem sc21 : scOk N21 ps21 (defScope (at_ 25)) = true := by decide +kernel
theorem sc22 : scOk N22 ps22 (defScope (at_ 26)) = true := by decide +kernel
theorem sc23 : scOk N23 ps23 (defScope (at_ 27)) = true := by decide +kernel
theorem sc24 : scOk N24 ps24 (defScope (at_ 28)) = true := by decide +kernel
theorem sc25 : scOk N25 ps25 (defScope (at_ 29)) = true := by decide +kernel
theorem sc26 : scOk N26 ps26 (defScope (at_ 30)) = true := by decide +kernel
theorem sc27 : scOk N27 ps27 (defScope (at_ 31)) = true := by decide +kernel
theorem sc28 : scOk N28 ps28 (defScope (at_ 32)) = true := by decide +kernel
theorem sc29 : scOk N29 ps29 (defScope (at_ 33)) = true := by decide +kernel
theorem sc30 : scOk N30 ps30 (defScope (at_ 34)) = true := by decide +kernel
theorem sc31 : scOk N31 ps31 (defScope (at_ 35)) = true := by decide +kernel
theorem sc32 : scOk N32 ps32 (defScope (at_ 36)) = true := by decide +kernel
theorem sc33 : scOk N33 ps33 (defScope (at_ 37)) = true := by decide +kernel
theorem sc34 : scOk N34 ps34 (defScope (at_ 39)) = true := by decide +kernel
theorem sc35 : scOk N35 ps35 (defScope (at_ 41)) = true := by decide +kernel
theorem sc36 : scOk N36 ps36 (defScope (at_ 43)) = true := by decide +kernel
theorem sc37 : scOk N37 ps37 (defScope (at_ 44)) = true := by decide +kernel
theorem sc38 : scOk N38 ps38 (defScope (at_ 45)) = true := by decide +kernel
theorem sc39 : scOk N39 ps39 (defScope (at_ 46)) = true := by decide +kernel
theorem sc40 : scOk N40 ps40 (defScope (at_ 47)) = true := by decide +kernel
theorem sc41 : scOk N41 ps41 (defScope (at_ 48)) = true := by decide +kernel
theorem sc42 : scOk N42 ps42 (defScope (at_ 49)) = true := by decide +kernel
theorem sc43 : scOk N43 ps43 (defScope (at_ 50)) = true := by decide +kernel
theorem sc44 : scOk N44 ps44 (defScope (at_ 51)) = true := by decide +kernel
theorem sc45 : scOk N45 ps45 (defScope (at_ 52)) = true := by decide +kernel
theorem sc46 : scOk N46 ps46 (defScope (at_ 53)) = true := by decide +kernel
theorem sc47 : scOk N47 ps47 (defScope (at_ 54)) = true := by decide +kernel
theorem sc48 : scOk N48 ps48 (defScope (at_ 55)) = true := by decide +kernel
theorem sc49 : scOk N49 ps49 (defScope (at_ 56)) = true := by decide +kernel
theorem sc50 : scOk N50 ps50 (defScope (at_ 57)) = true := by decide +kernel
theorem sc51 : scOk N51 ps51 (defScope (at_ 58)) = true := by decide +kernel
theorem sc52 : scOk N52 ps52 (defScope (at_ 59)) = true := by decide +kernel
theorem sc53 : scOk N53 ps53 (defScope (at_ 60)) = true := by decide +kernel
theorem sc54 : scOk N54 ps54 (defScope (at_ 61)) = true := by decide +kernel
theorem sc55 : scOk N55 ps55 (defScope (at_ 62)) = true := by decide +kernel
theorem sc56 : scOk N56 ps56 (defScope (at_ 63)) = true := by decide +kernel
theorem sc57 : scOk N57 ps57 (defScope (at_ 64)) = true := by decide +kernel
theorem sc58 : scOk N58 ps58 (defScope (at_ 65)) = true := by decide +kernel
theorem sc59 : scOk N59 ps59 (defScope (at_ 66)) = true := by decide +kernel
theorem sc60 : scOk N60 ps60 (defScope (at_ 67)) = true := by decide +kernel
theorem sc61 : scOk N61 ps61 (defScope (at_ 68)) = true := by decide +kernel
end Pv.K36

set_option Elab.async false
set_option linter.all false
set_option maxRecDepth 100000
set_option exponentiation.threshold 20
/-! M0: steps of the evaluator. -/
namespace Pv.K36
open Pv
theorem call_at {P : Nat → Option Def} {n f : Nat} {d : Def} {ds : List D} {ws : WS} (h : P f = some d) (hl : ds.length = d.np) : callO P (n + 1) f ds ws = chk ws (fin (execs (callO P n) d.body (mkEnv ds d.ns) ws)) := by
  simp only [callO, h, hl, if_true]
theorem chk_own (ws : WS) (d : D) : chk ws (some (d, ws)) = some (d, ws) := by cases ws <;> rfl
theorem chk_some (kvs : List (Nat × D)) (r : Option (D × WS)) : chk (some kvs) r = r := rfl
/-! loops -/
def whlX (Φ : Fns) (c : Tx) (b : Sts) (n : Nat) (env : Env) (ws : WS) : Out := whlN (fun env ws => evT Φ c env ws) (fun env ws => execs Φ b env ws) n env ws
def forX (Φ : Fns) (tg : Tg) (b : Sts) (ds : List D) (env : Env) (ws : WS) : Out := forL (fun env ws => execs Φ b env ws) tg ds env ws
def cmpX (Φ : Fns) (tg : Tg) (elt : Ex) (env : Env) (ds : List D) (ws : WS) : Option (List D × WS) := compL (fun _ ws => some (true, ws)) (fun env ws => ev Φ elt env ws) tg env ds ws
def cmpY (Φ : Fns) (tg : Tg) (c : Tx) (elt : Ex) (env : Env) (ds : List D) (ws : WS) : Option (List D × WS) := compL (fun env ws => evT Φ c env ws) (fun env ws => ev Φ elt env ws) tg env ds ws
section
variable {Φ : Fns} {c : Tx} {b : Sts} {tg : Tg} {it elt : Ex} {env : Env} {ws : WS}
theorem x_whl : exec Φ (.whl c b) env ws = whlX Φ c b fuel env ws := by simp only [exec, whlX]
theorem x_for : exec Φ (.for_ tg it b) env ws = match ev Φ it env ws with
    | none => none
    | some (x, ws1) => match itemsOf x with
      | none => none
      | some ds => forX Φ tg b ds env ws1 := by simp only [exec, forX]; try rfl
theorem x_comp : ev Φ (.comp tg it elt) env ws = match bor (vi it) env ws (ev Φ it env ws) with
    | none => none
    | some (x, ws1) => match itemsOf x with
      | none => none
      | some ds => if okLen ds.length then match cmpX Φ tg elt (wipeE env (tgs tg)) ds ws1 with
        | none => none
        | some (r, ws2) => some (.lst r, ws2) else none := by simp only [ev, cmpX]; try rfl
theorem x_compIf : ev Φ (.compIf tg it c elt) env ws = match bor (vi it) env ws (ev Φ it env ws) with
    | none => none
    | some (x, ws1) => match itemsOf x with
      | none => none
      | some ds => if okLen ds.length then match cmpY Φ tg c elt (wipeE env (tgs tg)) ds ws1 with
        | none => none
        | some (r, ws2) => some (.lst r, ws2) else none := by simp only [ev, cmpY]; try rfl
theorem for_nil : forX Φ tg b [] env ws = some (.nx, env, ws) := rfl
theorem for_cons {d : D} {ds : List D} : forX Φ tg b (d :: ds) env ws = match bindT env tg d with
    | none => none
    | some env1 => match execs Φ b env1 ws with
      | none => none
      | some (.nx, env2, ws2) => forX Φ tg b ds env2 ws2
      | some (.ct, env2, ws2) => forX Φ tg b ds env2 ws2
      | some (.br, env2, ws2) => some (.nx, env2, ws2)
      | some (.rt v, env2, ws2) => some (.rt v, env2, ws2) := rfl
theorem cmp_nil : cmpX Φ tg elt env [] ws = some ([], ws) := rfl
theorem cmp_cons {d : D} {ds : List D} : cmpX Φ tg elt env (d :: ds) ws = match bindT env tg d with
    | none => none
    | some env1 => match ev Φ elt env1 ws with
        | none => none
        | some (y, ws2) => match cmpX Φ tg elt env ds ws2 with
          | none => none
          | some (r, ws3) => some (y :: r, ws3) := rfl
theorem cmpY_nil : cmpY Φ tg c elt env [] ws = some ([], ws) := rfl
theorem cmpY_cons {d : D} {ds : List D} : cmpY Φ tg c elt env (d :: ds) ws = match bindT env tg d with
    | none => none
    | some env1 => match evT Φ c env1 ws with
      | none => none
      | some (false, ws1) => cmpY Φ tg c elt env ds ws1
      | some (true, ws1) => match ev Φ elt env1 ws1 with
        | none => none
        | some (y, ws2) => match cmpY Φ tg c elt env ds ws2 with
          | none => none
          | some (r, ws3) => some (y :: r, ws3) := rfl
theorem whl_stop {n : Nat} {ws1 : WS} (h : evT Φ c env ws = some (false, ws1)) : whlX Φ c b (n + 1) env ws = some (.nx, env, ws1) := by
  unfold whlX
  simp only [whlN, h]
theorem whl_go {n : Nat} {ws1 ws2 : WS} {env2 : Env} (h : evT Φ c env ws = some (true, ws1)) (h2 : execs Φ b env ws1 = some (.nx, env2, ws2)) : whlX Φ c b (n + 1) env ws = whlX Φ c b n env2 ws2 := by
  unfold whlX
  simp only [whlN, h, h2]
/-- a walk over a list, each member read by rep -/
theorem for_ind {α β : Type} {I : α → Env → WS → Prop} {rep : β → D} {f : α → β → α} : ∀ {xs : List β} {s : α} {env : Env} {ws : WS},
    (∀ s x env ws, x ∈ xs → I s env ws → ∃ env1 env2 ws2, bindT env tg (rep x) = some env1 ∧ execs Φ b env1 ws = some (.nx, env2, ws2) ∧ I (f s x) env2 ws2) → I s env ws →
    ∃ env2 ws2, forX Φ tg b (xs.map rep) env ws = some (.nx, env2, ws2) ∧ I (xs.foldl f s) env2 ws2
  | [], s, env, ws, _, h => ⟨env, ws, rfl, h⟩
  | x :: xs, s, env, ws, st, h => by
    obtain ⟨env1, env2, ws2, h1, h2, h3⟩ := st s x env ws List.mem_cons_self h
    obtain ⟨env3, ws3, g1, g2⟩ := for_ind (fun s x env ws hx => st s x env ws (List.mem_cons_of_mem _ hx)) h3
    refine ⟨env3, ws3, ?_, g2⟩
    rw [List.map_cons, for_cons, h1]
    dsimp only
    rw [h2]
    exact g1
theorem cmp_map {β : Type} {rep g : β → D} : ∀ {xs : List β}, (∀ x ∈ xs, ∃ env1, bindT env tg (rep x) = some env1 ∧ ev Φ elt env1 ws = some (g x, ws)) → cmpX Φ tg elt env (xs.map rep) ws = some (xs.map g, ws)
  | [], _ => rfl
  | x :: xs, h => by
    obtain ⟨env1, h1, h2⟩ := h x List.mem_cons_self
    rw [List.map_cons, cmp_cons, h1]
    dsimp only
    rw [h2]
    dsimp only
    rw [cmp_map fun y hy => h y (List.mem_cons_of_mem _ hy)]
    rfl
theorem cmpY_map {β : Type} {rep g : β → D} {p : β → Bool} : ∀ {xs : List β}, (∀ x ∈ xs, ∃ env1, bindT env tg (rep x) = some env1 ∧ evT Φ c env1 ws = some (p x, ws) ∧ (p x = true → ev Φ elt env1 ws = some (g x, ws))) →
    cmpY Φ tg c elt env (xs.map rep) ws = some ((xs.filter p).map g, ws)
  | [], _ => rfl
  | x :: xs, h => by
    obtain ⟨env1, h1, h2, h3⟩ := h x List.mem_cons_self
    have ih := cmpY_map fun y hy => h y (List.mem_cons_of_mem _ hy)
    rw [List.map_cons, cmpY_cons, h1]
    dsimp only
    rw [h2]
    cases hp : p x with
    | false =>
      dsimp only
      rw [ih, List.filter_cons_of_neg (by rw [hp]; decide)]
    | true =>
      dsimp only
      rw [h3 hp]
      dsimp only
      rw [ih, List.filter_cons_of_pos hp]
      rfl
end
/-! values -/
section
variable {i j : Int} {a b : Bool} {xs ys : List D} {x y : D} {ws : WS}
theorem b_add : bop .add (.int i) (.int j) = some (.int (i + j)) := rfl
theorem b_sub : bop .sub (.int i) (.int j) = some (.int (i - j)) := rfl
theorem b_mul : bop .mul (.int i) (.int j) = if okI i && okI j then some (.int (i * j)) else none := rfl
theorem b_fdiv : bop .fdiv (.int i) (.int j) = if decide (0 < j) && okI j then some (.int (i / j)) else none := rfl
theorem b_mod : bop .mod (.int i) (.int j) = if decide (0 < j) then some (.int (i % j)) else none := rfl
theorem b_shl : bop .shl (.int i) (.int j) = if decide (0 ≤ j) && decide (j ≤ 100000) && decide (i.natAbs < 18446744073709551616) then some (.int (i * 2 ^ j.toNat)) else none := rfl
theorem b_shr : bop .shr (.int i) (.int j) = if decide (0 ≤ j) then some (.int (i / 2 ^ j.toNat)) else none := rfl
theorem b_pow : bop .pow (.int i) (.int j) = if decide (0 ≤ j) && decide (j ≤ 1000) && decide (i.natAbs < 18446744073709551616) then some (.int (i ^ j.toNat)) else none := rfl
theorem b_tup : bop .add (.tup xs) (.tup ys) = if okLen (xs.length + ys.length) then some (.tup (xs ++ ys)) else none := rfl
theorem b_lst : bop .add (.lst xs) (.lst ys) = if okLen (xs.length + ys.length) then some (.lst (xs ++ ys)) else none := rfl
theorem o_lt : cop .lt (.int i) (.int j) = some (decide (i < j)) := rfl
theorem o_le : cop .le (.int i) (.int j) = some (decide (i ≤ j)) := rfl
theorem o_gt : cop .gt (.int i) (.int j) = some (decide (j < i)) := rfl
theorem o_ge : cop .ge (.int i) (.int j) = some (decide (j ≤ i)) := rfl
theorem o_eqi : cop .eq (.int i) (.int j) = some (decide (i = j)) := rfl
theorem o_nei : cop .ne (.int i) (.int j) = some (!decide (i = j)) := rfl
theorem o_neb : cop .ne (.bl a) (.bl b) = some (!(a == b)) := rfl
theorem o_isb : cop .isB (.bl a) (.bl b) = some (decide (a = b)) := rfl
theorem u_len1 : bf1 .len (.tup xs) = some (.int xs.length) := rfl
theorem u_len2 : bf1 .len (.lst xs) = some (.int xs.length) := rfl
theorem u_len3 {ns : List Int} : bf1 .len (.scr ns) = some (.int ns.length) := rfl
theorem u_abs : bf1 .abs (.int i) = some (.int (if i < 0 then -i else i)) := rfl
theorem u_int : bf1 .int (.int i) = some (.int i) := rfl
theorem u_lst1 : bf1 .lstOf (.tup xs) = some (.lst xs) := rfl
theorem u_lst2 {ks vs : List D} : bf1 .lstOf (.dic ks vs) = some (.lst ks) := rfl
theorem u_tup : bf1 .tupOf (.lst xs) = some (.tup xs) := rfl
theorem u_max : bf2 .max (.int i) (.int j) = some (.int (if j > i then j else i)) := rfl
theorem s_int {t : Ty} : isiD t (.int i) = some (match t with | .int => true | _ => false) := by cases t <;> rfl
theorem s_bl {t : Ty} : isiD t (.bl a) = some (match t with | .int => true | .bool => true | _ => false) := by cases t <;> rfl
theorem s_tup {t : Ty} : isiD t (.tup xs) = some (match t with | .tuple => true | _ => false) := by cases t <;> rfl
theorem s_lst {t : Ty} : isiD t (.lst xs) = some (match t with | .list => true | _ => false) := by cases t <;> rfl
theorem s_non {t : Ty} : isiD t .non = some false := by cases t <;> rfl
theorem s_str {t : Ty} {k : Nat} : isiD t (.str k) = some (match t with | .str => true | _ => false) := by cases t <;> rfl
theorem a_add : aop .add i j = some (i + j) := rfl
theorem a_sub : aop .sub i j = some (i - j) := rfl
theorem i_tup : itemsOf (.tup xs) = some xs := rfl
theorem i_lst : itemsOf (.lst xs) = some xs := rfl
theorem r_bl : truth (.bl a) = some a := rfl
theorem r_int : truth (.int i) = some (i != 0) := rfl
end
/-! reading -/
theorem wg_1 (x y : D) : wg [(1, x), (0, y)] 1 = some x := rfl
theorem wg_0 (x y : D) : wg [(1, x), (0, y)] 0 = some y := rfl
theorem wp_0 (x y e : D) : wp [(1, x), (0, y)] 0 e = [(1, x), (0, e)] := rfl
theorem bn (env : Env) (i : Nat) (d : D) : bindT env (.nm i) d = some (es env i (.va d)) := rfl
theorem bt (env : Env) (is : List Nat) (ds : List D) : bindT env (.tp is) (.tup ds) = setAll env is ds := rfl
theorem ixN_lt {n : Nat} {i : Int} {j : Nat} (h : i = (j : Int)) (hj : j < n) : L2.ixN n i = some j := by
  subst h
  unfold L2.ixN
  rw [if_pos (by omega), if_pos (by omega)]
  rfl
theorem atI_of {α : Type} {xs : List α} {j : Nat} {i : Int} {x : α} (hi : i = (j : Int)) (h : xs[j]? = some x) : L2.atI xs i = some x := by
  unfold L2.atI
  rw [ixN_lt hi (List.getElem?_eq_some_iff.mp h).1]
  exact h
theorem ixW_0 (ws : WS) (x : D) (xs : List D) : ixW ws (.tup (x :: xs)) (.int 0) = some x := atI_of (j := 0) rfl rfl
theorem ixW_1 (ws : WS) (x y : D) (xs : List D) : ixW ws (.tup (x :: y :: xs)) (.int 1) = some y := atI_of (j := 1) rfl rfl
theorem ixW_2 (ws : WS) (x y z : D) (xs : List D) : ixW ws (.tup (x :: y :: z :: xs)) (.int 2) = some z := atI_of (j := 2) rfl rfl
theorem ixW_w (kvs : List (Nat × D)) (k : Nat) : ixW (some kvs) .wd (.str k) = wg kvs k := rfl
def F (q : Rat) : D := .tup [.int q.num, .int q.den]
theorem F_0 (ws : WS) (q : Rat) : ixW ws (F q) (.int 0) = some (.int q.num) := ixW_0 _ _ _
theorem F_1 (ws : WS) (q : Rat) : ixW ws (F q) (.int 1) = some (.int q.den) := ixW_1 _ _ _ _
theorem bind_F (env : Env) (i j : Nat) (q : Rat) : bindT env (.tp [i, j]) (F q) = some (es (es env i (.va (.int q.num))) j (.va (.int q.den))) := rfl
theorem big_lt : 2 ^ 3000 < big := by
  unfold big
  exact Nat.pow_lt_pow_right (by decide) (by decide)
theorem okI_of {i : Int} (h : i.natAbs < 2 ^ 3000) : okI i = true := by
  unfold okI
  rw [decide_eq_true_eq]
  exact Nat.lt_trans h big_lt
theorem okI_s {i : Int} (h : i.natAbs < 1048576) : okI i = true := okI_of (Nat.lt_trans h (by rw [show (1048576 : Nat) = 2 ^ 20 by decide]; exact Nat.pow_lt_pow_right (by decide) (by decide)))
theorem mk_env (ds : List D) (n : Nat) : mkEnv ds n = ds.map .va ++ List.replicate (n - ds.length) .un := rfl
end Pv.K36


set_option Elab.async false
set_option linter.all false
set_option maxRecDepth 100000
set_option exponentiation.threshold 20
/-! M1: gcd and fractions. -/
namespace Pv.K36
open Pv
/-! Euclid -/
theorem gcd_step {x y : Int} (hx : 0 ≤ x) (hy : 0 < y) : Int.gcd y (x % y) = Int.gcd x y := by
  unfold Int.gcd
  have : (x % y).natAbs = x.natAbs % y.natAbs := by
    obtain ⟨a, rfl⟩ := Int.eq_ofNat_of_zero_le hx
    obtain ⟨b, rfl⟩ := Int.eq_ofNat_of_zero_le (Int.le_of_lt hy)
    show ((a : Int) % (b : Int)).natAbs = a % b
    rw [← Int.natCast_emod]
    exact Int.natAbs_natCast _
  rw [this, Nat.gcd_comm, ← Nat.gcd_rec, Nat.gcd_comm]

theorem euclid {c : Env → WS → Option (Bool × WS)} {b : Env → WS → Out} {ws : WS} (E : Int → Int → Env)
    (hc : ∀ x y, c (E x y) ws = some (decide (0 < y), ws)) (hb : ∀ x y, 0 < y → b (E x y) ws = some (.nx, E y (x % y), ws)) :
    ∀ (k : Nat) (x y : Int) (n : Nat), 0 ≤ x → 0 ≤ y → y < 2 ^ k → 2 * k + 1 ≤ n → whlN c b n (E x y) ws = some (.nx, E (Int.gcd x y) 0, ws) := by
  intro k
  induction k with
  | zero =>
    intro x y n hx hy hk hn
    have : y = 0 := by simp at hk; omega
    subst this
    obtain ⟨n, rfl⟩ : ∃ m, n = m + 1 := ⟨n - 1, by omega⟩
    simp only [whlN, hc]
    simp
    rw [Int.natAbs_of_nonneg hx]
  | succ k ih =>
    intro x y n hx hy hk hn
    obtain ⟨n, rfl⟩ : ∃ m, n = m + 2 := ⟨n - 2, by omega⟩
    by_cases h0 : 0 < y
    · simp only [whlN, hc, hb _ _ h0, decide_eq_true h0]
      have hz : 0 ≤ x % y := Int.emod_nonneg _ (by omega)
      have hz2 : x % y < y := Int.emod_lt_of_pos _ h0
      by_cases h1 : 0 < x % y
      · simp only [hb _ _ h1, decide_eq_true h1]
        have hw : 0 ≤ y % (x % y) := Int.emod_nonneg _ (by omega)
        have hw2 : y % (x % y) < x % y := Int.emod_lt_of_pos _ h1
        have hw3 : y % (x % y) < 2 ^ k := by
          rw [Int.pow_succ] at hk
          by_cases q : x % y < 2 ^ k
          · omega
          · have e : y % (x % y) = y - (x % y) * (y / (x % y)) := Int.emod_def _ _
            have : 1 ≤ y / (x % y) := by
              rw [Int.le_ediv_iff_mul_le h1]; omega
            have : (x % y) * 1 ≤ (x % y) * (y / (x % y)) := Int.mul_le_mul_of_nonneg_left this hz
            omega
        rw [ih (x % y) (y % (x % y)) n hz hw hw3 (by omega)]
        rw [gcd_step (Int.le_of_lt h0) h1, gcd_step hx h0]
      · have h2 : x % y = 0 := by omega
        simp only [h2]
        simp
        have : Int.gcd x y = y.natAbs := by
          rw [← gcd_step hx h0, h2]
          simp
        rw [this, Int.natAbs_of_nonneg hy]
    · have : y = 0 := by omega
      subst this
      simp only [whlN, hc]
      simp
      rw [Int.natAbs_of_nonneg hx]

theorem absI (x : Int) : (if x < 0 then -x else x) = (x.natAbs : Int) := by split <;> omega
theorem pow3 {x : Int} (h : x.natAbs < 2 ^ 3000) : ((x.natAbs : Nat) : Int) < 2 ^ 3000 := by
  have : ((x.natAbs : Nat) : Int) < ((2 ^ 3000 : Nat) : Int) := Int.ofNat_lt.mpr h
  rw [Int.natCast_pow] at this
  exact this
theorem c5 (n : Nat) (a b : Int) (ws : WS) (hb : b.natAbs < 2 ^ 3000) : callO P (n + 1) 5 [.int a, .int b] ws = some (.int (Int.gcd a b), ws) := by
  have := euclid (ws := ws) (c := fun env ws => evT (callO P n) t5_0 env ws) (b := fun env ws => execs (callO P n) l5_1 env ws)
    (fun x y => [.va (.int x), .va (.int y)]) (fun x y => by simp only [t5_0, t40_0, ev.eq_1, ev.eq_2, ev.eq_3, ev.eq_4, ev.eq_5, ev.eq_6, ev.eq_7, ev.eq_8, ev.eq_9, ev.eq_10, ev.eq_11, ev.eq_12, ev.eq_13, ev.eq_14, ev.eq_15, ev.eq_16, ev.eq_17, ev.eq_18, ev.eq_19, ev.eq_20, ev.eq_21, ev.eq_22, ev.eq_23, ev.eq_24, ev.eq_25, ev.eq_26, ev.eq_27, ev.eq_28, ev.eq_29, evs.eq_1, evs.eq_2, evT, exec.eq_1, exec.eq_2, exec.eq_3, exec.eq_4, exec.eq_5, exec.eq_6, exec.eq_7, exec.eq_8, exec.eq_9, exec.eq_10, exec.eq_11, exec.eq_12, exec.eq_13, exec.eq_14, exec.eq_15, exec.eq_16, exec.eq_19, exec.eq_20, exec.eq_21, exec.eq_22, exec.eq_23, execs.eq_1, execs.eq_2, x_whl, x_for, x_comp, x_compIf, bor, vi, mkEnv, eg, es, frzA, frzS, bn, bt, bind_F, setAll, setPar, wipeE, tgs, b_add, b_sub, b_mul, b_fdiv, b_mod, b_shl, b_shr, b_pow, b_tup, b_lst, o_lt, o_le, o_gt, o_ge, o_eqi, o_nei, o_neb, o_isb, u_len1, u_len2, u_len3, u_abs, u_int, u_lst1, u_lst2, u_tup, u_max, s_int, s_bl, s_tup, s_lst, s_non, s_str, a_add, a_sub, i_tup, i_lst, r_bl, r_int, fin, chk_own, chk_some, isN, bnd, isNone, ixW_0, ixW_1, ixW_2, F_0, F_1, ixW_w, wg_1, wg_0, wp_0, List.map, List.length, List.replicate, List.cons_append, List.nil_append, List.append_nil, Nat.reduceSub, Nat.reduceAdd, Nat.sub_self, Nat.sub_zero, if_true, Bool.false_eq_true, if_false, reduceIte, ite_true, ite_false, Bool.and_self, Bool.and_true, Bool.true_and, Bool.not_true, Bool.not_false, Nat.reduceLT, Nat.reduceLeDiff, decide_true, decide_false, Int.reduceLT, Int.reduceLE, Int.reduceAdd, Int.reduceSub, Int.reduceNeg, Bool.or_true, Bool.or_false, Bool.true_or, Bool.false_or, Bool.and_false, Bool.false_and]) (fun x y h => by simp only [l5_1, l40_1, ev.eq_1, ev.eq_2, ev.eq_3, ev.eq_4, ev.eq_5, ev.eq_6, ev.eq_7, ev.eq_8, ev.eq_9, ev.eq_10, ev.eq_11, ev.eq_12, ev.eq_13, ev.eq_14, ev.eq_15, ev.eq_16, ev.eq_17, ev.eq_18, ev.eq_19, ev.eq_20, ev.eq_21, ev.eq_22, ev.eq_23, ev.eq_24, ev.eq_25, ev.eq_26, ev.eq_27, ev.eq_28, ev.eq_29, evs.eq_1, evs.eq_2, evT, exec.eq_1, exec.eq_2, exec.eq_3, exec.eq_4, exec.eq_5, exec.eq_6, exec.eq_7, exec.eq_8, exec.eq_9, exec.eq_10, exec.eq_11, exec.eq_12, exec.eq_13, exec.eq_14, exec.eq_15, exec.eq_16, exec.eq_19, exec.eq_20, exec.eq_21, exec.eq_22, exec.eq_23, execs.eq_1, execs.eq_2, x_whl, x_for, x_comp, x_compIf, bor, vi, mkEnv, eg, es, frzA, frzS, bn, bt, bind_F, setAll, setPar, wipeE, tgs, b_add, b_sub, b_mul, b_fdiv, b_mod, b_shl, b_shr, b_pow, b_tup, b_lst, o_lt, o_le, o_gt, o_ge, o_eqi, o_nei, o_neb, o_isb, u_len1, u_len2, u_len3, u_abs, u_int, u_lst1, u_lst2, u_tup, u_max, s_int, s_bl, s_tup, s_lst, s_non, s_str, a_add, a_sub, i_tup, i_lst, r_bl, r_int, fin, chk_own, chk_some, isN, bnd, isNone, ixW_0, ixW_1, ixW_2, F_0, F_1, ixW_w, wg_1, wg_0, wp_0, List.map, List.length, List.replicate, List.cons_append, List.nil_append, List.append_nil, Nat.reduceSub, Nat.reduceAdd, Nat.sub_self, Nat.sub_zero, if_true, Bool.false_eq_true, if_false, reduceIte, ite_true, ite_false, Bool.and_self, Bool.and_true, Bool.true_and, Bool.not_true, Bool.not_false, Nat.reduceLT, Nat.reduceLeDiff, decide_true, decide_false, Int.reduceLT, Int.reduceLE, Int.reduceAdd, Int.reduceSub, Int.reduceNeg, Bool.or_true, Bool.or_false, Bool.true_or, Bool.false_or, Bool.and_false, Bool.false_and, decide_eq_true h])
    3000 a.natAbs b.natAbs fuel (by omega) (by omega) (pow3 hb) (by unfold fuel; omega)
  have e : Int.gcd (a.natAbs : Int) (b.natAbs : Int) = Int.gcd a b := by simp [Int.gcd]
  rw [e] at this
  change whlX (callO P n) _ _ fuel _ _ = _ at this
  rw [call_at (d := d5) rfl rfl]
  simp only [d5, b5, ev.eq_1, ev.eq_2, ev.eq_3, ev.eq_4, ev.eq_5, ev.eq_6, ev.eq_7, ev.eq_8, ev.eq_9, ev.eq_10, ev.eq_11, ev.eq_12, ev.eq_13, ev.eq_14, ev.eq_15, ev.eq_16, ev.eq_17, ev.eq_18, ev.eq_19, ev.eq_20, ev.eq_21, ev.eq_22, ev.eq_23, ev.eq_24, ev.eq_25, ev.eq_26, ev.eq_27, ev.eq_28, ev.eq_29, evs.eq_1, evs.eq_2, evT, exec.eq_1, exec.eq_2, exec.eq_3, exec.eq_4, exec.eq_5, exec.eq_6, exec.eq_7, exec.eq_8, exec.eq_9, exec.eq_10, exec.eq_11, exec.eq_12, exec.eq_13, exec.eq_14, exec.eq_15, exec.eq_16, exec.eq_19, exec.eq_20, exec.eq_21, exec.eq_22, exec.eq_23, execs.eq_1, execs.eq_2, x_whl, x_for, x_comp, x_compIf, bor, vi, mkEnv, eg, es, frzA, frzS, bn, bt, bind_F, setAll, setPar, wipeE, tgs, b_add, b_sub, b_mul, b_fdiv, b_mod, b_shl, b_shr, b_pow, b_tup, b_lst, o_lt, o_le, o_gt, o_ge, o_eqi, o_nei, o_neb, o_isb, u_len1, u_len2, u_len3, u_abs, u_int, u_lst1, u_lst2, u_tup, u_max, s_int, s_bl, s_tup, s_lst, s_non, s_str, a_add, a_sub, i_tup, i_lst, r_bl, r_int, fin, chk_own, chk_some, isN, bnd, isNone, ixW_0, ixW_1, ixW_2, F_0, F_1, ixW_w, wg_1, wg_0, wp_0, List.map, List.length, List.replicate, List.cons_append, List.nil_append, List.append_nil, Nat.reduceSub, Nat.reduceAdd, Nat.sub_self, Nat.sub_zero, if_true, Bool.false_eq_true, if_false, reduceIte, ite_true, ite_false, Bool.and_self, Bool.and_true, Bool.true_and, Bool.not_true, Bool.not_false, Nat.reduceLT, Nat.reduceLeDiff, decide_true, decide_false, Int.reduceLT, Int.reduceLE, Int.reduceAdd, Int.reduceSub, Int.reduceNeg, Bool.or_true, Bool.or_false, Bool.true_or, Bool.false_or, Bool.and_false, Bool.false_and, absI, this]
theorem gcd_lt {a b : Int} {k : Nat} (h : b ≠ 0) (hb : b.natAbs < k) : ((Int.gcd a b : Int)).natAbs < k := by
  rw [Int.natAbs_natCast]
  refine Nat.lt_of_le_of_lt (Nat.le_of_dvd (by omega) ?_) hb
  exact Int.gcd_dvd_natAbs_right a b
theorem mkF {a b : Int} (hb : 0 < b) : D.tup [.int (a / (Int.gcd a b : Int)), .int (b / (Int.gcd a b : Int))] = F (Rat.divInt a b) := by
  unfold F
  rw [Rat.num_divInt, Rat.den_divInt, if_neg (by omega), Int.sign_eq_one_of_pos hb, Int.one_mul, Int.gcd_comm b a, Int.natCast_ediv, Int.natAbs_of_nonneg (by omega)]
theorem c40 (n : Nat) (a b : Int) (ws : WS) (hb : 0 < b) (hb2 : b.natAbs < 2 ^ 3000) : callO P (n + 1) 40 [.int a, .int b] ws = some (F (Rat.divInt a b), ws) := by
  have := euclid (ws := ws) (c := fun env ws => evT (callO P n) t40_0 env ws) (b := fun env ws => execs (callO P n) l40_1 env ws)
    (fun x y => [.va (.int a), .va (.int b), .va (.int x), .va (.int y)]) (fun x y => by simp only [t5_0, t40_0, ev.eq_1, ev.eq_2, ev.eq_3, ev.eq_4, ev.eq_5, ev.eq_6, ev.eq_7, ev.eq_8, ev.eq_9, ev.eq_10, ev.eq_11, ev.eq_12, ev.eq_13, ev.eq_14, ev.eq_15, ev.eq_16, ev.eq_17, ev.eq_18, ev.eq_19, ev.eq_20, ev.eq_21, ev.eq_22, ev.eq_23, ev.eq_24, ev.eq_25, ev.eq_26, ev.eq_27, ev.eq_28, ev.eq_29, evs.eq_1, evs.eq_2, evT, exec.eq_1, exec.eq_2, exec.eq_3, exec.eq_4, exec.eq_5, exec.eq_6, exec.eq_7, exec.eq_8, exec.eq_9, exec.eq_10, exec.eq_11, exec.eq_12, exec.eq_13, exec.eq_14, exec.eq_15, exec.eq_16, exec.eq_19, exec.eq_20, exec.eq_21, exec.eq_22, exec.eq_23, execs.eq_1, execs.eq_2, x_whl, x_for, x_comp, x_compIf, bor, vi, mkEnv, eg, es, frzA, frzS, bn, bt, bind_F, setAll, setPar, wipeE, tgs, b_add, b_sub, b_mul, b_fdiv, b_mod, b_shl, b_shr, b_pow, b_tup, b_lst, o_lt, o_le, o_gt, o_ge, o_eqi, o_nei, o_neb, o_isb, u_len1, u_len2, u_len3, u_abs, u_int, u_lst1, u_lst2, u_tup, u_max, s_int, s_bl, s_tup, s_lst, s_non, s_str, a_add, a_sub, i_tup, i_lst, r_bl, r_int, fin, chk_own, chk_some, isN, bnd, isNone, ixW_0, ixW_1, ixW_2, F_0, F_1, ixW_w, wg_1, wg_0, wp_0, List.map, List.length, List.replicate, List.cons_append, List.nil_append, List.append_nil, Nat.reduceSub, Nat.reduceAdd, Nat.sub_self, Nat.sub_zero, if_true, Bool.false_eq_true, if_false, reduceIte, ite_true, ite_false, Bool.and_self, Bool.and_true, Bool.true_and, Bool.not_true, Bool.not_false, Nat.reduceLT, Nat.reduceLeDiff, decide_true, decide_false, Int.reduceLT, Int.reduceLE, Int.reduceAdd, Int.reduceSub, Int.reduceNeg, Bool.or_true, Bool.or_false, Bool.true_or, Bool.false_or, Bool.and_false, Bool.false_and]) (fun x y h => by simp only [l5_1, l40_1, ev.eq_1, ev.eq_2, ev.eq_3, ev.eq_4, ev.eq_5, ev.eq_6, ev.eq_7, ev.eq_8, ev.eq_9, ev.eq_10, ev.eq_11, ev.eq_12, ev.eq_13, ev.eq_14, ev.eq_15, ev.eq_16, ev.eq_17, ev.eq_18, ev.eq_19, ev.eq_20, ev.eq_21, ev.eq_22, ev.eq_23, ev.eq_24, ev.eq_25, ev.eq_26, ev.eq_27, ev.eq_28, ev.eq_29, evs.eq_1, evs.eq_2, evT, exec.eq_1, exec.eq_2, exec.eq_3, exec.eq_4, exec.eq_5, exec.eq_6, exec.eq_7, exec.eq_8, exec.eq_9, exec.eq_10, exec.eq_11, exec.eq_12, exec.eq_13, exec.eq_14, exec.eq_15, exec.eq_16, exec.eq_19, exec.eq_20, exec.eq_21, exec.eq_22, exec.eq_23, execs.eq_1, execs.eq_2, x_whl, x_for, x_comp, x_compIf, bor, vi, mkEnv, eg, es, frzA, frzS, bn, bt, bind_F, setAll, setPar, wipeE, tgs, b_add, b_sub, b_mul, b_fdiv, b_mod, b_shl, b_shr, b_pow, b_tup, b_lst, o_lt, o_le, o_gt, o_ge, o_eqi, o_nei, o_neb, o_isb, u_len1, u_len2, u_len3, u_abs, u_int, u_lst1, u_lst2, u_tup, u_max, s_int, s_bl, s_tup, s_lst, s_non, s_str, a_add, a_sub, i_tup, i_lst, r_bl, r_int, fin, chk_own, chk_some, isN, bnd, isNone, ixW_0, ixW_1, ixW_2, F_0, F_1, ixW_w, wg_1, wg_0, wp_0, List.map, List.length, List.replicate, List.cons_append, List.nil_append, List.append_nil, Nat.reduceSub, Nat.reduceAdd, Nat.sub_self, Nat.sub_zero, if_true, Bool.false_eq_true, if_false, reduceIte, ite_true, ite_false, Bool.and_self, Bool.and_true, Bool.true_and, Bool.not_true, Bool.not_false, Nat.reduceLT, Nat.reduceLeDiff, decide_true, decide_false, Int.reduceLT, Int.reduceLE, Int.reduceAdd, Int.reduceSub, Int.reduceNeg, Bool.or_true, Bool.or_false, Bool.true_or, Bool.false_or, Bool.and_false, Bool.false_and, decide_eq_true h])
    3000 a.natAbs b.natAbs fuel (by omega) (by omega) (pow3 hb2) (by unfold fuel; omega)
  have e : Int.gcd (a.natAbs : Int) (b.natAbs : Int) = Int.gcd a b := by simp [Int.gcd]
  rw [e] at this
  change whlX (callO P n) _ _ fuel _ _ = _ at this
  have g0 : 0 < (Int.gcd a b : Int) := by
    have : Int.gcd a b ≠ 0 := fun z => by rw [Int.gcd_eq_zero_iff] at z; omega
    omega
  have g1 := okI_of (i := (Int.gcd a b : Int)) (gcd_lt (by omega) hb2)
  rw [call_at (d := d40) rfl rfl]
  simp only [d40, b40, ev.eq_1, ev.eq_2, ev.eq_3, ev.eq_4, ev.eq_5, ev.eq_6, ev.eq_7, ev.eq_8, ev.eq_9, ev.eq_10, ev.eq_11, ev.eq_12, ev.eq_13, ev.eq_14, ev.eq_15, ev.eq_16, ev.eq_17, ev.eq_18, ev.eq_19, ev.eq_20, ev.eq_21, ev.eq_22, ev.eq_23, ev.eq_24, ev.eq_25, ev.eq_26, ev.eq_27, ev.eq_28, ev.eq_29, evs.eq_1, evs.eq_2, evT, exec.eq_1, exec.eq_2, exec.eq_3, exec.eq_4, exec.eq_5, exec.eq_6, exec.eq_7, exec.eq_8, exec.eq_9, exec.eq_10, exec.eq_11, exec.eq_12, exec.eq_13, exec.eq_14, exec.eq_15, exec.eq_16, exec.eq_19, exec.eq_20, exec.eq_21, exec.eq_22, exec.eq_23, execs.eq_1, execs.eq_2, x_whl, x_for, x_comp, x_compIf, bor, vi, mkEnv, eg, es, frzA, frzS, bn, bt, bind_F, setAll, setPar, wipeE, tgs, b_add, b_sub, b_mul, b_fdiv, b_mod, b_shl, b_shr, b_pow, b_tup, b_lst, o_lt, o_le, o_gt, o_ge, o_eqi, o_nei, o_neb, o_isb, u_len1, u_len2, u_len3, u_abs, u_int, u_lst1, u_lst2, u_tup, u_max, s_int, s_bl, s_tup, s_lst, s_non, s_str, a_add, a_sub, i_tup, i_lst, r_bl, r_int, fin, chk_own, chk_some, isN, bnd, isNone, ixW_0, ixW_1, ixW_2, F_0, F_1, ixW_w, wg_1, wg_0, wp_0, List.map, List.length, List.replicate, List.cons_append, List.nil_append, List.append_nil, Nat.reduceSub, Nat.reduceAdd, Nat.sub_self, Nat.sub_zero, if_true, Bool.false_eq_true, if_false, reduceIte, ite_true, ite_false, Bool.and_self, Bool.and_true, Bool.true_and, Bool.not_true, Bool.not_false, Nat.reduceLT, Nat.reduceLeDiff, decide_true, decide_false, Int.reduceLT, Int.reduceLE, Int.reduceAdd, Int.reduceSub, Int.reduceNeg, Bool.or_true, Bool.or_false, Bool.true_or, Bool.false_or, Bool.and_false, Bool.false_and, absI, this, decide_eq_true hb, decide_eq_true g0, g1]
  rw [mkF hb]
theorem c6 (n : Nat) (a b : Int) (ws : WS) (hb : 0 < b) (hb2 : b.natAbs < 2 ^ 3000) : callO P (n + 2) 6 [.int a, .int b] ws = some (F (Rat.divInt a b), ws) := by
  have g0 : 0 < (Int.gcd a b : Int) := by
    have : Int.gcd a b ≠ 0 := fun z => by rw [Int.gcd_eq_zero_iff] at z; omega
    omega
  have g1 := okI_of (i := (Int.gcd a b : Int)) (gcd_lt (by omega) hb2)
  rw [call_at (d := d6) rfl rfl]
  simp only [d6, b6, ev.eq_1, ev.eq_2, ev.eq_3, ev.eq_4, ev.eq_5, ev.eq_6, ev.eq_7, ev.eq_8, ev.eq_9, ev.eq_10, ev.eq_11, ev.eq_12, ev.eq_13, ev.eq_14, ev.eq_15, ev.eq_16, ev.eq_17, ev.eq_18, ev.eq_19, ev.eq_20, ev.eq_21, ev.eq_22, ev.eq_23, ev.eq_24, ev.eq_25, ev.eq_26, ev.eq_27, ev.eq_28, ev.eq_29, evs.eq_1, evs.eq_2, evT, exec.eq_1, exec.eq_2, exec.eq_3, exec.eq_4, exec.eq_5, exec.eq_6, exec.eq_7, exec.eq_8, exec.eq_9, exec.eq_10, exec.eq_11, exec.eq_12, exec.eq_13, exec.eq_14, exec.eq_15, exec.eq_16, exec.eq_19, exec.eq_20, exec.eq_21, exec.eq_22, exec.eq_23, execs.eq_1, execs.eq_2, x_whl, x_for, x_comp, x_compIf, bor, vi, mkEnv, eg, es, frzA, frzS, bn, bt, bind_F, setAll, setPar, wipeE, tgs, b_add, b_sub, b_mul, b_fdiv, b_mod, b_shl, b_shr, b_pow, b_tup, b_lst, o_lt, o_le, o_gt, o_ge, o_eqi, o_nei, o_neb, o_isb, u_len1, u_len2, u_len3, u_abs, u_int, u_lst1, u_lst2, u_tup, u_max, s_int, s_bl, s_tup, s_lst, s_non, s_str, a_add, a_sub, i_tup, i_lst, r_bl, r_int, fin, chk_own, chk_some, isN, bnd, isNone, ixW_0, ixW_1, ixW_2, F_0, F_1, ixW_w, wg_1, wg_0, wp_0, List.map, List.length, List.replicate, List.cons_append, List.nil_append, List.append_nil, Nat.reduceSub, Nat.reduceAdd, Nat.sub_self, Nat.sub_zero, if_true, Bool.false_eq_true, if_false, reduceIte, ite_true, ite_false, Bool.and_self, Bool.and_true, Bool.true_and, Bool.not_true, Bool.not_false, Nat.reduceLT, Nat.reduceLeDiff, decide_true, decide_false, Int.reduceLT, Int.reduceLE, Int.reduceAdd, Int.reduceSub, Int.reduceNeg, Bool.or_true, Bool.or_false, Bool.true_or, Bool.false_or, Bool.and_false, Bool.false_and, c5 n a b ws hb2, decide_eq_true hb, decide_eq_true g0, g1]
  rw [mkF hb]
/-! sizes -/
def Z (k : Nat) (q : Rat) : Prop := q.num.natAbs < 2 ^ k ∧ q.den < 2 ^ k
theorem Z.mono {j k : Nat} {q : Rat} (h : Z j q) (e : j ≤ k) : Z k q := ⟨Nat.lt_of_lt_of_le h.1 (Nat.pow_le_pow_right (by decide) e), Nat.lt_of_lt_of_le h.2 (Nat.pow_le_pow_right (by decide) e)⟩
theorem div_le {u l : Int} (hl : 0 < l) : (Rat.divInt u l).num.natAbs ≤ u.natAbs ∧ (Rat.divInt u l).den ≤ l.natAbs := by
  rw [Rat.num_divInt, Rat.den_divInt, if_neg (by omega), Int.sign_eq_one_of_pos hl, Int.one_mul]
  refine ⟨?_, Nat.div_le_self _ _⟩
  have := Int.natAbs_ediv_le_natAbs u (l.gcd u)
  exact this
theorem Z_div {u l : Int} {k : Nat} (hl : 0 < l) (h1 : u.natAbs < 2 ^ k) (h2 : l.natAbs < 2 ^ k) : Z k (Rat.divInt u l) := ⟨Nat.lt_of_le_of_lt (div_le hl).1 h1, Nat.lt_of_le_of_lt (div_le hl).2 h2⟩
theorem den_pos (q : Rat) : (0 : Int) < q.den := by have := q.den_pos; omega
theorem mul_lt {a b : Int} {i j : Nat} (h1 : a.natAbs < 2 ^ i) (h2 : b.natAbs < 2 ^ j) : (a * b).natAbs < 2 ^ (i + j) := by
  rw [Int.natAbs_mul, Nat.pow_add]
  exact Nat.mul_lt_mul'' h1 h2
theorem add_eq (p q : Rat) : p + q = Rat.divInt (p.num * q.den + q.num * p.den) (p.den * q.den) := by
  have := Rat.divInt_add_divInt p.num q.num (d₁ := p.den) (d₂ := q.den) (by have := den_pos p; omega) (by have := den_pos q; omega)
  rw [Rat.num_divInt_den, Rat.num_divInt_den] at this
  exact this
theorem mul_eq (p q : Rat) : p * q = Rat.divInt (p.num * q.num) (p.den * q.den) := by
  have := Rat.divInt_mul_divInt p.num q.num (d₁ := p.den) (d₂ := q.den)
  rw [Rat.num_divInt_den, Rat.num_divInt_den] at this
  exact this
theorem den_lt {q : Rat} {k : Nat} (h : Z k q) : ((q.den : Int)).natAbs < 2 ^ k := by rw [Int.natAbs_natCast]; exact h.2
theorem den_mul (p q : Rat) : (0 : Int) < p.den * q.den := Int.mul_pos (den_pos p) (den_pos q)
theorem num_lt {p q : Rat} {i j : Nat} (hp : Z i p) (hq : Z j q) : (p.num * q.den + q.num * p.den).natAbs < 2 ^ (i + j + 1) := by
  have h1 := mul_lt hp.1 (den_lt hq)
  have h2 := mul_lt hq.1 (den_lt hp)
  rw [Nat.add_comm j i] at h2
  rw [Nat.pow_succ]
  omega
theorem Z_add {p q : Rat} {i j : Nat} (hp : Z i p) (hq : Z j q) : Z (i + j + 1) (p + q) := by
  rw [add_eq]
  exact Z_div (den_mul p q) (num_lt hp hq) (Nat.lt_of_lt_of_le (mul_lt (den_lt hp) (den_lt hq)) (Nat.pow_le_pow_right (by decide) (by omega)))
theorem Z_mul {p q : Rat} {i j : Nat} (hp : Z i p) (hq : Z j q) : Z (i + j) (p * q) := by
  rw [mul_eq]
  exact Z_div (den_mul p q) (mul_lt hp.1 hq.1) (mul_lt (den_lt hp) (den_lt hq))
theorem Z_neg {p : Rat} {i : Nat} (hp : Z i p) : Z i (-p) := ⟨by rw [Rat.neg_num, Int.natAbs_neg]; exact hp.1, by rw [Rat.neg_den]; exact hp.2⟩
theorem Z_sub {p q : Rat} {i j : Nat} (hp : Z i p) (hq : Z j q) : Z (i + j + 1) (p - q) := by
  rw [Rat.sub_eq_add_neg]
  exact Z_add hp (Z_neg hq)
def ab (q : Rat) : Rat := if q.num < 0 then -q else q
theorem Z_ab {p : Rat} {i : Nat} (hp : Z i p) : Z i (ab p) := by
  unfold ab
  split
  · exact Z_neg hp
  · exact hp
theorem p3 {i k : Nat} {x : Int} (h : x.natAbs < 2 ^ i) (e : i ≤ 3000 := by omega) : x.natAbs < 2 ^ 3000 := Nat.lt_of_lt_of_le h (Nat.pow_le_pow_right (by decide) e)
end Pv.K36


set_option Elab.async false
set_option linter.all false
set_option maxRecDepth 100000
set_option exponentiation.threshold 20
/-! M2: the fractions' defs. -/
namespace Pv.K36
open Pv
variable (n : Nat) (ws : WS)
theorem okZ1 {q : Rat} (h : Z 1000 q) : okI q.num = true := okI_of (p3 (k := 0) h.1)
theorem okZ2 {q : Rat} (h : Z 1000 q) : okI (q.den : Int) = true := okI_of (p3 (k := 0) (den_lt h))
theorem F_ab (q : Rat) : D.tup [.int (if q.num < 0 then -q.num else q.num), .int q.den] = F (ab q) := by
  unfold ab F
  split
  · rw [Rat.neg_num, Rat.neg_den]
  · rfl
theorem c8 {p q : Rat} (hp : Z 1000 p) (hq : Z 1000 q) : callO P (n + 3) 8 [F p, F q] ws = some (F (p + q), ws) := by
  rw [call_at (d := d8) rfl rfl]
  simp only [d8, b8, ev.eq_1, ev.eq_2, ev.eq_3, ev.eq_4, ev.eq_5, ev.eq_6, ev.eq_7, ev.eq_8, ev.eq_9, ev.eq_10, ev.eq_11, ev.eq_12, ev.eq_13, ev.eq_14, ev.eq_15, ev.eq_16, ev.eq_17, ev.eq_18, ev.eq_19, ev.eq_20, ev.eq_21, ev.eq_22, ev.eq_23, ev.eq_24, ev.eq_25, ev.eq_26, ev.eq_27, ev.eq_28, ev.eq_29, evs.eq_1, evs.eq_2, evT, exec.eq_1, exec.eq_2, exec.eq_3, exec.eq_4, exec.eq_5, exec.eq_6, exec.eq_7, exec.eq_8, exec.eq_9, exec.eq_10, exec.eq_11, exec.eq_12, exec.eq_13, exec.eq_14, exec.eq_15, exec.eq_16, exec.eq_19, exec.eq_20, exec.eq_21, exec.eq_22, exec.eq_23, execs.eq_1, execs.eq_2, x_whl, x_for, x_comp, x_compIf, bor, vi, mkEnv, eg, es, frzA, frzS, bn, bt, bind_F, setAll, setPar, wipeE, tgs, b_add, b_sub, b_mul, b_fdiv, b_mod, b_shl, b_shr, b_pow, b_tup, b_lst, o_lt, o_le, o_gt, o_ge, o_eqi, o_nei, o_neb, o_isb, u_len1, u_len2, u_len3, u_abs, u_int, u_lst1, u_lst2, u_tup, u_max, s_int, s_bl, s_tup, s_lst, s_non, s_str, a_add, a_sub, i_tup, i_lst, r_bl, r_int, fin, chk_own, chk_some, isN, bnd, isNone, ixW_0, ixW_1, ixW_2, F_0, F_1, ixW_w, wg_1, wg_0, wp_0, List.map, List.length, List.replicate, List.cons_append, List.nil_append, List.append_nil, Nat.reduceSub, Nat.reduceAdd, Nat.sub_self, Nat.sub_zero, if_true, Bool.false_eq_true, if_false, reduceIte, ite_true, ite_false, Bool.and_self, Bool.and_true, Bool.true_and, Bool.not_true, Bool.not_false, Nat.reduceLT, Nat.reduceLeDiff, decide_true, decide_false, Int.reduceLT, Int.reduceLE, Int.reduceAdd, Int.reduceSub, Int.reduceNeg, Bool.or_true, Bool.or_false, Bool.true_or, Bool.false_or, Bool.and_false, Bool.false_and, okZ1 hp, okZ1 hq, okZ2 hp, okZ2 hq]
  rw [c6 n _ _ ws (den_mul p q) (p3 (k := 0) (mul_lt (den_lt hp) (den_lt hq))), ← add_eq]
  simp only [ev.eq_1, ev.eq_2, ev.eq_3, ev.eq_4, ev.eq_5, ev.eq_6, ev.eq_7, ev.eq_8, ev.eq_9, ev.eq_10, ev.eq_11, ev.eq_12, ev.eq_13, ev.eq_14, ev.eq_15, ev.eq_16, ev.eq_17, ev.eq_18, ev.eq_19, ev.eq_20, ev.eq_21, ev.eq_22, ev.eq_23, ev.eq_24, ev.eq_25, ev.eq_26, ev.eq_27, ev.eq_28, ev.eq_29, evs.eq_1, evs.eq_2, evT, exec.eq_1, exec.eq_2, exec.eq_3, exec.eq_4, exec.eq_5, exec.eq_6, exec.eq_7, exec.eq_8, exec.eq_9, exec.eq_10, exec.eq_11, exec.eq_12, exec.eq_13, exec.eq_14, exec.eq_15, exec.eq_16, exec.eq_19, exec.eq_20, exec.eq_21, exec.eq_22, exec.eq_23, execs.eq_1, execs.eq_2, x_whl, x_for, x_comp, x_compIf, bor, vi, mkEnv, eg, es, frzA, frzS, bn, bt, bind_F, setAll, setPar, wipeE, tgs, b_add, b_sub, b_mul, b_fdiv, b_mod, b_shl, b_shr, b_pow, b_tup, b_lst, o_lt, o_le, o_gt, o_ge, o_eqi, o_nei, o_neb, o_isb, u_len1, u_len2, u_len3, u_abs, u_int, u_lst1, u_lst2, u_tup, u_max, s_int, s_bl, s_tup, s_lst, s_non, s_str, a_add, a_sub, i_tup, i_lst, r_bl, r_int, fin, chk_own, chk_some, isN, bnd, isNone, ixW_0, ixW_1, ixW_2, F_0, F_1, ixW_w, wg_1, wg_0, wp_0, List.map, List.length, List.replicate, List.cons_append, List.nil_append, List.append_nil, Nat.reduceSub, Nat.reduceAdd, Nat.sub_self, Nat.sub_zero, if_true, Bool.false_eq_true, if_false, reduceIte, ite_true, ite_false, Bool.and_self, Bool.and_true, Bool.true_and, Bool.not_true, Bool.not_false, Nat.reduceLT, Nat.reduceLeDiff, decide_true, decide_false, Int.reduceLT, Int.reduceLE, Int.reduceAdd, Int.reduceSub, Int.reduceNeg, Bool.or_true, Bool.or_false, Bool.true_or, Bool.false_or, Bool.and_false, Bool.false_and]
theorem c11 {p q : Rat} (hp : Z 1000 p) (hq : Z 1000 q) : callO P (n + 3) 11 [F p, F q] ws = some (F (p * q), ws) := by
  rw [call_at (d := d11) rfl rfl]
  simp only [d11, b11, ev.eq_1, ev.eq_2, ev.eq_3, ev.eq_4, ev.eq_5, ev.eq_6, ev.eq_7, ev.eq_8, ev.eq_9, ev.eq_10, ev.eq_11, ev.eq_12, ev.eq_13, ev.eq_14, ev.eq_15, ev.eq_16, ev.eq_17, ev.eq_18, ev.eq_19, ev.eq_20, ev.eq_21, ev.eq_22, ev.eq_23, ev.eq_24, ev.eq_25, ev.eq_26, ev.eq_27, ev.eq_28, ev.eq_29, evs.eq_1, evs.eq_2, evT, exec.eq_1, exec.eq_2, exec.eq_3, exec.eq_4, exec.eq_5, exec.eq_6, exec.eq_7, exec.eq_8, exec.eq_9, exec.eq_10, exec.eq_11, exec.eq_12, exec.eq_13, exec.eq_14, exec.eq_15, exec.eq_16, exec.eq_19, exec.eq_20, exec.eq_21, exec.eq_22, exec.eq_23, execs.eq_1, execs.eq_2, x_whl, x_for, x_comp, x_compIf, bor, vi, mkEnv, eg, es, frzA, frzS, bn, bt, bind_F, setAll, setPar, wipeE, tgs, b_add, b_sub, b_mul, b_fdiv, b_mod, b_shl, b_shr, b_pow, b_tup, b_lst, o_lt, o_le, o_gt, o_ge, o_eqi, o_nei, o_neb, o_isb, u_len1, u_len2, u_len3, u_abs, u_int, u_lst1, u_lst2, u_tup, u_max, s_int, s_bl, s_tup, s_lst, s_non, s_str, a_add, a_sub, i_tup, i_lst, r_bl, r_int, fin, chk_own, chk_some, isN, bnd, isNone, ixW_0, ixW_1, ixW_2, F_0, F_1, ixW_w, wg_1, wg_0, wp_0, List.map, List.length, List.replicate, List.cons_append, List.nil_append, List.append_nil, Nat.reduceSub, Nat.reduceAdd, Nat.sub_self, Nat.sub_zero, if_true, Bool.false_eq_true, if_false, reduceIte, ite_true, ite_false, Bool.and_self, Bool.and_true, Bool.true_and, Bool.not_true, Bool.not_false, Nat.reduceLT, Nat.reduceLeDiff, decide_true, decide_false, Int.reduceLT, Int.reduceLE, Int.reduceAdd, Int.reduceSub, Int.reduceNeg, Bool.or_true, Bool.or_false, Bool.true_or, Bool.false_or, Bool.and_false, Bool.false_and, okZ1 hp, okZ1 hq, okZ2 hp, okZ2 hq]
  rw [c6 n _ _ ws (den_mul p q) (p3 (k := 0) (mul_lt (den_lt hp) (den_lt hq))), ← mul_eq]
  simp only [ev.eq_1, ev.eq_2, ev.eq_3, ev.eq_4, ev.eq_5, ev.eq_6, ev.eq_7, ev.eq_8, ev.eq_9, ev.eq_10, ev.eq_11, ev.eq_12, ev.eq_13, ev.eq_14, ev.eq_15, ev.eq_16, ev.eq_17, ev.eq_18, ev.eq_19, ev.eq_20, ev.eq_21, ev.eq_22, ev.eq_23, ev.eq_24, ev.eq_25, ev.eq_26, ev.eq_27, ev.eq_28, ev.eq_29, evs.eq_1, evs.eq_2, evT, exec.eq_1, exec.eq_2, exec.eq_3, exec.eq_4, exec.eq_5, exec.eq_6, exec.eq_7, exec.eq_8, exec.eq_9, exec.eq_10, exec.eq_11, exec.eq_12, exec.eq_13, exec.eq_14, exec.eq_15, exec.eq_16, exec.eq_19, exec.eq_20, exec.eq_21, exec.eq_22, exec.eq_23, execs.eq_1, execs.eq_2, x_whl, x_for, x_comp, x_compIf, bor, vi, mkEnv, eg, es, frzA, frzS, bn, bt, bind_F, setAll, setPar, wipeE, tgs, b_add, b_sub, b_mul, b_fdiv, b_mod, b_shl, b_shr, b_pow, b_tup, b_lst, o_lt, o_le, o_gt, o_ge, o_eqi, o_nei, o_neb, o_isb, u_len1, u_len2, u_len3, u_abs, u_int, u_lst1, u_lst2, u_tup, u_max, s_int, s_bl, s_tup, s_lst, s_non, s_str, a_add, a_sub, i_tup, i_lst, r_bl, r_int, fin, chk_own, chk_some, isN, bnd, isNone, ixW_0, ixW_1, ixW_2, F_0, F_1, ixW_w, wg_1, wg_0, wp_0, List.map, List.length, List.replicate, List.cons_append, List.nil_append, List.append_nil, Nat.reduceSub, Nat.reduceAdd, Nat.sub_self, Nat.sub_zero, if_true, Bool.false_eq_true, if_false, reduceIte, ite_true, ite_false, Bool.and_self, Bool.and_true, Bool.true_and, Bool.not_true, Bool.not_false, Nat.reduceLT, Nat.reduceLeDiff, decide_true, decide_false, Int.reduceLT, Int.reduceLE, Int.reduceAdd, Int.reduceSub, Int.reduceNeg, Bool.or_true, Bool.or_false, Bool.true_or, Bool.false_or, Bool.and_false, Bool.false_and]
theorem c9 (q : Rat) : callO P (n + 1) 9 [F q] ws = some (F (-q), ws) := by
  rw [call_at (d := d9) rfl rfl]
  simp only [d9, b9, ev.eq_1, ev.eq_2, ev.eq_3, ev.eq_4, ev.eq_5, ev.eq_6, ev.eq_7, ev.eq_8, ev.eq_9, ev.eq_10, ev.eq_11, ev.eq_12, ev.eq_13, ev.eq_14, ev.eq_15, ev.eq_16, ev.eq_17, ev.eq_18, ev.eq_19, ev.eq_20, ev.eq_21, ev.eq_22, ev.eq_23, ev.eq_24, ev.eq_25, ev.eq_26, ev.eq_27, ev.eq_28, ev.eq_29, evs.eq_1, evs.eq_2, evT, exec.eq_1, exec.eq_2, exec.eq_3, exec.eq_4, exec.eq_5, exec.eq_6, exec.eq_7, exec.eq_8, exec.eq_9, exec.eq_10, exec.eq_11, exec.eq_12, exec.eq_13, exec.eq_14, exec.eq_15, exec.eq_16, exec.eq_19, exec.eq_20, exec.eq_21, exec.eq_22, exec.eq_23, execs.eq_1, execs.eq_2, x_whl, x_for, x_comp, x_compIf, bor, vi, mkEnv, eg, es, frzA, frzS, bn, bt, bind_F, setAll, setPar, wipeE, tgs, b_add, b_sub, b_mul, b_fdiv, b_mod, b_shl, b_shr, b_pow, b_tup, b_lst, o_lt, o_le, o_gt, o_ge, o_eqi, o_nei, o_neb, o_isb, u_len1, u_len2, u_len3, u_abs, u_int, u_lst1, u_lst2, u_tup, u_max, s_int, s_bl, s_tup, s_lst, s_non, s_str, a_add, a_sub, i_tup, i_lst, r_bl, r_int, fin, chk_own, chk_some, isN, bnd, isNone, ixW_0, ixW_1, ixW_2, F_0, F_1, ixW_w, wg_1, wg_0, wp_0, List.map, List.length, List.replicate, List.cons_append, List.nil_append, List.append_nil, Nat.reduceSub, Nat.reduceAdd, Nat.sub_self, Nat.sub_zero, if_true, Bool.false_eq_true, if_false, reduceIte, ite_true, ite_false, Bool.and_self, Bool.and_true, Bool.true_and, Bool.not_true, Bool.not_false, Nat.reduceLT, Nat.reduceLeDiff, decide_true, decide_false, Int.reduceLT, Int.reduceLE, Int.reduceAdd, Int.reduceSub, Int.reduceNeg, Bool.or_true, Bool.or_false, Bool.true_or, Bool.false_or, Bool.and_false, Bool.false_and]
  rw [F, Rat.neg_num, Rat.neg_den]
theorem c10 {p q : Rat} (hp : Z 1000 p) (hq : Z 1000 q) : callO P (n + 4) 10 [F p, F q] ws = some (F (p - q), ws) := by
  rw [call_at (d := d10) rfl rfl]
  simp only [d10, b10, ev.eq_1, ev.eq_2, ev.eq_3, ev.eq_4, ev.eq_5, ev.eq_6, ev.eq_7, ev.eq_8, ev.eq_9, ev.eq_10, ev.eq_11, ev.eq_12, ev.eq_13, ev.eq_14, ev.eq_15, ev.eq_16, ev.eq_17, ev.eq_18, ev.eq_19, ev.eq_20, ev.eq_21, ev.eq_22, ev.eq_23, ev.eq_24, ev.eq_25, ev.eq_26, ev.eq_27, ev.eq_28, ev.eq_29, evs.eq_1, evs.eq_2, evT, exec.eq_1, exec.eq_2, exec.eq_3, exec.eq_4, exec.eq_5, exec.eq_6, exec.eq_7, exec.eq_8, exec.eq_9, exec.eq_10, exec.eq_11, exec.eq_12, exec.eq_13, exec.eq_14, exec.eq_15, exec.eq_16, exec.eq_19, exec.eq_20, exec.eq_21, exec.eq_22, exec.eq_23, execs.eq_1, execs.eq_2, x_whl, x_for, x_comp, x_compIf, bor, vi, mkEnv, eg, es, frzA, frzS, bn, bt, bind_F, setAll, setPar, wipeE, tgs, b_add, b_sub, b_mul, b_fdiv, b_mod, b_shl, b_shr, b_pow, b_tup, b_lst, o_lt, o_le, o_gt, o_ge, o_eqi, o_nei, o_neb, o_isb, u_len1, u_len2, u_len3, u_abs, u_int, u_lst1, u_lst2, u_tup, u_max, s_int, s_bl, s_tup, s_lst, s_non, s_str, a_add, a_sub, i_tup, i_lst, r_bl, r_int, fin, chk_own, chk_some, isN, bnd, isNone, ixW_0, ixW_1, ixW_2, F_0, F_1, ixW_w, wg_1, wg_0, wp_0, List.map, List.length, List.replicate, List.cons_append, List.nil_append, List.append_nil, Nat.reduceSub, Nat.reduceAdd, Nat.sub_self, Nat.sub_zero, if_true, Bool.false_eq_true, if_false, reduceIte, ite_true, ite_false, Bool.and_self, Bool.and_true, Bool.true_and, Bool.not_true, Bool.not_false, Nat.reduceLT, Nat.reduceLeDiff, decide_true, decide_false, Int.reduceLT, Int.reduceLE, Int.reduceAdd, Int.reduceSub, Int.reduceNeg, Bool.or_true, Bool.or_false, Bool.true_or, Bool.false_or, Bool.and_false, Bool.false_and, c9, c8 n ws hp (Z_neg hq)]
  rw [Rat.sub_eq_add_neg]
theorem c12 (q : Rat) : callO P (n + 1) 12 [F q] ws = some (F (ab q), ws) := by
  rw [call_at (d := d12) rfl rfl]
  simp only [d12, b12, ev.eq_1, ev.eq_2, ev.eq_3, ev.eq_4, ev.eq_5, ev.eq_6, ev.eq_7, ev.eq_8, ev.eq_9, ev.eq_10, ev.eq_11, ev.eq_12, ev.eq_13, ev.eq_14, ev.eq_15, ev.eq_16, ev.eq_17, ev.eq_18, ev.eq_19, ev.eq_20, ev.eq_21, ev.eq_22, ev.eq_23, ev.eq_24, ev.eq_25, ev.eq_26, ev.eq_27, ev.eq_28, ev.eq_29, evs.eq_1, evs.eq_2, evT, exec.eq_1, exec.eq_2, exec.eq_3, exec.eq_4, exec.eq_5, exec.eq_6, exec.eq_7, exec.eq_8, exec.eq_9, exec.eq_10, exec.eq_11, exec.eq_12, exec.eq_13, exec.eq_14, exec.eq_15, exec.eq_16, exec.eq_19, exec.eq_20, exec.eq_21, exec.eq_22, exec.eq_23, execs.eq_1, execs.eq_2, x_whl, x_for, x_comp, x_compIf, bor, vi, mkEnv, eg, es, frzA, frzS, bn, bt, bind_F, setAll, setPar, wipeE, tgs, b_add, b_sub, b_mul, b_fdiv, b_mod, b_shl, b_shr, b_pow, b_tup, b_lst, o_lt, o_le, o_gt, o_ge, o_eqi, o_nei, o_neb, o_isb, u_len1, u_len2, u_len3, u_abs, u_int, u_lst1, u_lst2, u_tup, u_max, s_int, s_bl, s_tup, s_lst, s_non, s_str, a_add, a_sub, i_tup, i_lst, r_bl, r_int, fin, chk_own, chk_some, isN, bnd, isNone, ixW_0, ixW_1, ixW_2, F_0, F_1, ixW_w, wg_1, wg_0, wp_0, List.map, List.length, List.replicate, List.cons_append, List.nil_append, List.append_nil, Nat.reduceSub, Nat.reduceAdd, Nat.sub_self, Nat.sub_zero, if_true, Bool.false_eq_true, if_false, reduceIte, ite_true, ite_false, Bool.and_self, Bool.and_true, Bool.true_and, Bool.not_true, Bool.not_false, Nat.reduceLT, Nat.reduceLeDiff, decide_true, decide_false, Int.reduceLT, Int.reduceLE, Int.reduceAdd, Int.reduceSub, Int.reduceNeg, Bool.or_true, Bool.or_false, Bool.true_or, Bool.false_or, Bool.and_false, Bool.false_and, F_ab]
theorem c13 {p q : Rat} (hp : Z 1000 p) (hq : Z 1000 q) : callO P (n + 1) 13 [F p, F q] ws = some (.bl (decide (p ≤ q)), ws) := by
  rw [call_at (d := d13) rfl rfl]
  simp only [d13, b13, ev.eq_1, ev.eq_2, ev.eq_3, ev.eq_4, ev.eq_5, ev.eq_6, ev.eq_7, ev.eq_8, ev.eq_9, ev.eq_10, ev.eq_11, ev.eq_12, ev.eq_13, ev.eq_14, ev.eq_15, ev.eq_16, ev.eq_17, ev.eq_18, ev.eq_19, ev.eq_20, ev.eq_21, ev.eq_22, ev.eq_23, ev.eq_24, ev.eq_25, ev.eq_26, ev.eq_27, ev.eq_28, ev.eq_29, evs.eq_1, evs.eq_2, evT, exec.eq_1, exec.eq_2, exec.eq_3, exec.eq_4, exec.eq_5, exec.eq_6, exec.eq_7, exec.eq_8, exec.eq_9, exec.eq_10, exec.eq_11, exec.eq_12, exec.eq_13, exec.eq_14, exec.eq_15, exec.eq_16, exec.eq_19, exec.eq_20, exec.eq_21, exec.eq_22, exec.eq_23, execs.eq_1, execs.eq_2, x_whl, x_for, x_comp, x_compIf, bor, vi, mkEnv, eg, es, frzA, frzS, bn, bt, bind_F, setAll, setPar, wipeE, tgs, b_add, b_sub, b_mul, b_fdiv, b_mod, b_shl, b_shr, b_pow, b_tup, b_lst, o_lt, o_le, o_gt, o_ge, o_eqi, o_nei, o_neb, o_isb, u_len1, u_len2, u_len3, u_abs, u_int, u_lst1, u_lst2, u_tup, u_max, s_int, s_bl, s_tup, s_lst, s_non, s_str, a_add, a_sub, i_tup, i_lst, r_bl, r_int, fin, chk_own, chk_some, isN, bnd, isNone, ixW_0, ixW_1, ixW_2, F_0, F_1, ixW_w, wg_1, wg_0, wp_0, List.map, List.length, List.replicate, List.cons_append, List.nil_append, List.append_nil, Nat.reduceSub, Nat.reduceAdd, Nat.sub_self, Nat.sub_zero, if_true, Bool.false_eq_true, if_false, reduceIte, ite_true, ite_false, Bool.and_self, Bool.and_true, Bool.true_and, Bool.not_true, Bool.not_false, Nat.reduceLT, Nat.reduceLeDiff, decide_true, decide_false, Int.reduceLT, Int.reduceLE, Int.reduceAdd, Int.reduceSub, Int.reduceNeg, Bool.or_true, Bool.or_false, Bool.true_or, Bool.false_or, Bool.and_false, Bool.false_and, okZ1 hp, okZ1 hq, okZ2 hp, okZ2 hq, Rat.le_iff]
theorem c42 {p q : Rat} (hp : Z 1000 p) (hq : Z 1000 q) : callO P (n + 1) 42 [F p, F q] ws = some (.bl (decide (p < q)), ws) := by
  rw [call_at (d := d42) rfl rfl]
  simp only [d42, b42, ev.eq_1, ev.eq_2, ev.eq_3, ev.eq_4, ev.eq_5, ev.eq_6, ev.eq_7, ev.eq_8, ev.eq_9, ev.eq_10, ev.eq_11, ev.eq_12, ev.eq_13, ev.eq_14, ev.eq_15, ev.eq_16, ev.eq_17, ev.eq_18, ev.eq_19, ev.eq_20, ev.eq_21, ev.eq_22, ev.eq_23, ev.eq_24, ev.eq_25, ev.eq_26, ev.eq_27, ev.eq_28, ev.eq_29, evs.eq_1, evs.eq_2, evT, exec.eq_1, exec.eq_2, exec.eq_3, exec.eq_4, exec.eq_5, exec.eq_6, exec.eq_7, exec.eq_8, exec.eq_9, exec.eq_10, exec.eq_11, exec.eq_12, exec.eq_13, exec.eq_14, exec.eq_15, exec.eq_16, exec.eq_19, exec.eq_20, exec.eq_21, exec.eq_22, exec.eq_23, execs.eq_1, execs.eq_2, x_whl, x_for, x_comp, x_compIf, bor, vi, mkEnv, eg, es, frzA, frzS, bn, bt, bind_F, setAll, setPar, wipeE, tgs, b_add, b_sub, b_mul, b_fdiv, b_mod, b_shl, b_shr, b_pow, b_tup, b_lst, o_lt, o_le, o_gt, o_ge, o_eqi, o_nei, o_neb, o_isb, u_len1, u_len2, u_len3, u_abs, u_int, u_lst1, u_lst2, u_tup, u_max, s_int, s_bl, s_tup, s_lst, s_non, s_str, a_add, a_sub, i_tup, i_lst, r_bl, r_int, fin, chk_own, chk_some, isN, bnd, isNone, ixW_0, ixW_1, ixW_2, F_0, F_1, ixW_w, wg_1, wg_0, wp_0, List.map, List.length, List.replicate, List.cons_append, List.nil_append, List.append_nil, Nat.reduceSub, Nat.reduceAdd, Nat.sub_self, Nat.sub_zero, if_true, Bool.false_eq_true, if_false, reduceIte, ite_true, ite_false, Bool.and_self, Bool.and_true, Bool.true_and, Bool.not_true, Bool.not_false, Nat.reduceLT, Nat.reduceLeDiff, decide_true, decide_false, Int.reduceLT, Int.reduceLE, Int.reduceAdd, Int.reduceSub, Int.reduceNeg, Bool.or_true, Bool.or_false, Bool.true_or, Bool.false_or, Bool.and_false, Bool.false_and, okZ1 hp, okZ1 hq, okZ2 hp, okZ2 hq, Rat.lt_iff]
theorem c43 {p q : Rat} (hp : Z 1000 p) (hq : Z 1000 q) : callO P (n + 2) 43 [F p, F q] ws = some (F (p * q), ws) := by
  rw [call_at (d := d43) rfl rfl]
  simp only [d43, b43, ev.eq_1, ev.eq_2, ev.eq_3, ev.eq_4, ev.eq_5, ev.eq_6, ev.eq_7, ev.eq_8, ev.eq_9, ev.eq_10, ev.eq_11, ev.eq_12, ev.eq_13, ev.eq_14, ev.eq_15, ev.eq_16, ev.eq_17, ev.eq_18, ev.eq_19, ev.eq_20, ev.eq_21, ev.eq_22, ev.eq_23, ev.eq_24, ev.eq_25, ev.eq_26, ev.eq_27, ev.eq_28, ev.eq_29, evs.eq_1, evs.eq_2, evT, exec.eq_1, exec.eq_2, exec.eq_3, exec.eq_4, exec.eq_5, exec.eq_6, exec.eq_7, exec.eq_8, exec.eq_9, exec.eq_10, exec.eq_11, exec.eq_12, exec.eq_13, exec.eq_14, exec.eq_15, exec.eq_16, exec.eq_19, exec.eq_20, exec.eq_21, exec.eq_22, exec.eq_23, execs.eq_1, execs.eq_2, x_whl, x_for, x_comp, x_compIf, bor, vi, mkEnv, eg, es, frzA, frzS, bn, bt, bind_F, setAll, setPar, wipeE, tgs, b_add, b_sub, b_mul, b_fdiv, b_mod, b_shl, b_shr, b_pow, b_tup, b_lst, o_lt, o_le, o_gt, o_ge, o_eqi, o_nei, o_neb, o_isb, u_len1, u_len2, u_len3, u_abs, u_int, u_lst1, u_lst2, u_tup, u_max, s_int, s_bl, s_tup, s_lst, s_non, s_str, a_add, a_sub, i_tup, i_lst, r_bl, r_int, fin, chk_own, chk_some, isN, bnd, isNone, ixW_0, ixW_1, ixW_2, F_0, F_1, ixW_w, wg_1, wg_0, wp_0, List.map, List.length, List.replicate, List.cons_append, List.nil_append, List.append_nil, Nat.reduceSub, Nat.reduceAdd, Nat.sub_self, Nat.sub_zero, if_true, Bool.false_eq_true, if_false, reduceIte, ite_true, ite_false, Bool.and_self, Bool.and_true, Bool.true_and, Bool.not_true, Bool.not_false, Nat.reduceLT, Nat.reduceLeDiff, decide_true, decide_false, Int.reduceLT, Int.reduceLE, Int.reduceAdd, Int.reduceSub, Int.reduceNeg, Bool.or_true, Bool.or_false, Bool.true_or, Bool.false_or, Bool.and_false, Bool.false_and, okZ1 hp, okZ1 hq, okZ2 hp, okZ2 hq]
  rw [c40 n _ _ ws (den_mul p q) (p3 (k := 0) (mul_lt (den_lt hp) (den_lt hq))), ← mul_eq]
  simp only [ev.eq_1, ev.eq_2, ev.eq_3, ev.eq_4, ev.eq_5, ev.eq_6, ev.eq_7, ev.eq_8, ev.eq_9, ev.eq_10, ev.eq_11, ev.eq_12, ev.eq_13, ev.eq_14, ev.eq_15, ev.eq_16, ev.eq_17, ev.eq_18, ev.eq_19, ev.eq_20, ev.eq_21, ev.eq_22, ev.eq_23, ev.eq_24, ev.eq_25, ev.eq_26, ev.eq_27, ev.eq_28, ev.eq_29, evs.eq_1, evs.eq_2, evT, exec.eq_1, exec.eq_2, exec.eq_3, exec.eq_4, exec.eq_5, exec.eq_6, exec.eq_7, exec.eq_8, exec.eq_9, exec.eq_10, exec.eq_11, exec.eq_12, exec.eq_13, exec.eq_14, exec.eq_15, exec.eq_16, exec.eq_19, exec.eq_20, exec.eq_21, exec.eq_22, exec.eq_23, execs.eq_1, execs.eq_2, x_whl, x_for, x_comp, x_compIf, bor, vi, mkEnv, eg, es, frzA, frzS, bn, bt, bind_F, setAll, setPar, wipeE, tgs, b_add, b_sub, b_mul, b_fdiv, b_mod, b_shl, b_shr, b_pow, b_tup, b_lst, o_lt, o_le, o_gt, o_ge, o_eqi, o_nei, o_neb, o_isb, u_len1, u_len2, u_len3, u_abs, u_int, u_lst1, u_lst2, u_tup, u_max, s_int, s_bl, s_tup, s_lst, s_non, s_str, a_add, a_sub, i_tup, i_lst, r_bl, r_int, fin, chk_own, chk_some, isN, bnd, isNone, ixW_0, ixW_1, ixW_2, F_0, F_1, ixW_w, wg_1, wg_0, wp_0, List.map, List.length, List.replicate, List.cons_append, List.nil_append, List.append_nil, Nat.reduceSub, Nat.reduceAdd, Nat.sub_self, Nat.sub_zero, if_true, Bool.false_eq_true, if_false, reduceIte, ite_true, ite_false, Bool.and_self, Bool.and_true, Bool.true_and, Bool.not_true, Bool.not_false, Nat.reduceLT, Nat.reduceLeDiff, decide_true, decide_false, Int.reduceLT, Int.reduceLE, Int.reduceAdd, Int.reduceSub, Int.reduceNeg, Bool.or_true, Bool.or_false, Bool.true_or, Bool.false_or, Bool.and_false, Bool.false_and]
theorem c44 (q : Rat) : callO P (n + 1) 44 [F q] ws = some (F (-q), ws) := by
  rw [call_at (d := d44) rfl rfl]
  simp only [d44, b44, ev.eq_1, ev.eq_2, ev.eq_3, ev.eq_4, ev.eq_5, ev.eq_6, ev.eq_7, ev.eq_8, ev.eq_9, ev.eq_10, ev.eq_11, ev.eq_12, ev.eq_13, ev.eq_14, ev.eq_15, ev.eq_16, ev.eq_17, ev.eq_18, ev.eq_19, ev.eq_20, ev.eq_21, ev.eq_22, ev.eq_23, ev.eq_24, ev.eq_25, ev.eq_26, ev.eq_27, ev.eq_28, ev.eq_29, evs.eq_1, evs.eq_2, evT, exec.eq_1, exec.eq_2, exec.eq_3, exec.eq_4, exec.eq_5, exec.eq_6, exec.eq_7, exec.eq_8, exec.eq_9, exec.eq_10, exec.eq_11, exec.eq_12, exec.eq_13, exec.eq_14, exec.eq_15, exec.eq_16, exec.eq_19, exec.eq_20, exec.eq_21, exec.eq_22, exec.eq_23, execs.eq_1, execs.eq_2, x_whl, x_for, x_comp, x_compIf, bor, vi, mkEnv, eg, es, frzA, frzS, bn, bt, bind_F, setAll, setPar, wipeE, tgs, b_add, b_sub, b_mul, b_fdiv, b_mod, b_shl, b_shr, b_pow, b_tup, b_lst, o_lt, o_le, o_gt, o_ge, o_eqi, o_nei, o_neb, o_isb, u_len1, u_len2, u_len3, u_abs, u_int, u_lst1, u_lst2, u_tup, u_max, s_int, s_bl, s_tup, s_lst, s_non, s_str, a_add, a_sub, i_tup, i_lst, r_bl, r_int, fin, chk_own, chk_some, isN, bnd, isNone, ixW_0, ixW_1, ixW_2, F_0, F_1, ixW_w, wg_1, wg_0, wp_0, List.map, List.length, List.replicate, List.cons_append, List.nil_append, List.append_nil, Nat.reduceSub, Nat.reduceAdd, Nat.sub_self, Nat.sub_zero, if_true, Bool.false_eq_true, if_false, reduceIte, ite_true, ite_false, Bool.and_self, Bool.and_true, Bool.true_and, Bool.not_true, Bool.not_false, Nat.reduceLT, Nat.reduceLeDiff, decide_true, decide_false, Int.reduceLT, Int.reduceLE, Int.reduceAdd, Int.reduceSub, Int.reduceNeg, Bool.or_true, Bool.or_false, Bool.true_or, Bool.false_or, Bool.and_false, Bool.false_and]
  rw [F, Rat.neg_num, Rat.neg_den, Int.zero_sub]
theorem c45 (q : Rat) : callO P (n + 1) 45 [F q] ws = some (F (ab q), ws) := by
  rw [call_at (d := d45) rfl rfl]
  simp only [d45, b45, ev.eq_1, ev.eq_2, ev.eq_3, ev.eq_4, ev.eq_5, ev.eq_6, ev.eq_7, ev.eq_8, ev.eq_9, ev.eq_10, ev.eq_11, ev.eq_12, ev.eq_13, ev.eq_14, ev.eq_15, ev.eq_16, ev.eq_17, ev.eq_18, ev.eq_19, ev.eq_20, ev.eq_21, ev.eq_22, ev.eq_23, ev.eq_24, ev.eq_25, ev.eq_26, ev.eq_27, ev.eq_28, ev.eq_29, evs.eq_1, evs.eq_2, evT, exec.eq_1, exec.eq_2, exec.eq_3, exec.eq_4, exec.eq_5, exec.eq_6, exec.eq_7, exec.eq_8, exec.eq_9, exec.eq_10, exec.eq_11, exec.eq_12, exec.eq_13, exec.eq_14, exec.eq_15, exec.eq_16, exec.eq_19, exec.eq_20, exec.eq_21, exec.eq_22, exec.eq_23, execs.eq_1, execs.eq_2, x_whl, x_for, x_comp, x_compIf, bor, vi, mkEnv, eg, es, frzA, frzS, bn, bt, bind_F, setAll, setPar, wipeE, tgs, b_add, b_sub, b_mul, b_fdiv, b_mod, b_shl, b_shr, b_pow, b_tup, b_lst, o_lt, o_le, o_gt, o_ge, o_eqi, o_nei, o_neb, o_isb, u_len1, u_len2, u_len3, u_abs, u_int, u_lst1, u_lst2, u_tup, u_max, s_int, s_bl, s_tup, s_lst, s_non, s_str, a_add, a_sub, i_tup, i_lst, r_bl, r_int, fin, chk_own, chk_some, isN, bnd, isNone, ixW_0, ixW_1, ixW_2, F_0, F_1, ixW_w, wg_1, wg_0, wp_0, List.map, List.length, List.replicate, List.cons_append, List.nil_append, List.append_nil, Nat.reduceSub, Nat.reduceAdd, Nat.sub_self, Nat.sub_zero, if_true, Bool.false_eq_true, if_false, reduceIte, ite_true, ite_false, Bool.and_self, Bool.and_true, Bool.true_and, Bool.not_true, Bool.not_false, Nat.reduceLT, Nat.reduceLeDiff, decide_true, decide_false, Int.reduceLT, Int.reduceLE, Int.reduceAdd, Int.reduceSub, Int.reduceNeg, Bool.or_true, Bool.or_false, Bool.true_or, Bool.false_or, Bool.and_false, Bool.false_and]
  rw [← F_ab]
  congr 4
  · split <;> split <;> first | rfl | omega | (congr 1; omega) | (exfalso; omega)
/-- 2 to by -/
def pw (e : Int) : Rat := if 0 ≤ e then Rat.divInt (2 ^ e.toNat) 1 else Rat.divInt 1 (2 ^ (-e).toNat)
theorem pos2 (k : Nat) : (0 : Int) < 2 ^ k := Int.pow_pos (by decide)
theorem F_pw (e : Int) : F (pw e) = if 0 ≤ e then .tup [.int (2 ^ e.toNat), .int 1] else .tup [.int 1, .int (2 ^ (-e).toNat)] := by
  unfold pw
  split
  · rw [← mkF (by decide)]
    simp
  · rw [← mkF (pos2 _)]
    simp
theorem c14 {e : Int} (h1 : -1000 ≤ e) (h2 : e ≤ 1000) : callO P (n + 1) 14 [.int e] ws = some (F (pw e), ws) := by
  rw [call_at (d := d14) rfl rfl, F_pw]
  by_cases h : 0 ≤ e
  · have : e ≤ 100000 := by omega
    simp only [d14, b14, ev.eq_1, ev.eq_2, ev.eq_3, ev.eq_4, ev.eq_5, ev.eq_6, ev.eq_7, ev.eq_8, ev.eq_9, ev.eq_10, ev.eq_11, ev.eq_12, ev.eq_13, ev.eq_14, ev.eq_15, ev.eq_16, ev.eq_17, ev.eq_18, ev.eq_19, ev.eq_20, ev.eq_21, ev.eq_22, ev.eq_23, ev.eq_24, ev.eq_25, ev.eq_26, ev.eq_27, ev.eq_28, ev.eq_29, evs.eq_1, evs.eq_2, evT, exec.eq_1, exec.eq_2, exec.eq_3, exec.eq_4, exec.eq_5, exec.eq_6, exec.eq_7, exec.eq_8, exec.eq_9, exec.eq_10, exec.eq_11, exec.eq_12, exec.eq_13, exec.eq_14, exec.eq_15, exec.eq_16, exec.eq_19, exec.eq_20, exec.eq_21, exec.eq_22, exec.eq_23, execs.eq_1, execs.eq_2, x_whl, x_for, x_comp, x_compIf, bor, vi, mkEnv, eg, es, frzA, frzS, bn, bt, bind_F, setAll, setPar, wipeE, tgs, b_add, b_sub, b_mul, b_fdiv, b_mod, b_shl, b_shr, b_pow, b_tup, b_lst, o_lt, o_le, o_gt, o_ge, o_eqi, o_nei, o_neb, o_isb, u_len1, u_len2, u_len3, u_abs, u_int, u_lst1, u_lst2, u_tup, u_max, s_int, s_bl, s_tup, s_lst, s_non, s_str, a_add, a_sub, i_tup, i_lst, r_bl, r_int, fin, chk_own, chk_some, isN, bnd, isNone, ixW_0, ixW_1, ixW_2, F_0, F_1, ixW_w, wg_1, wg_0, wp_0, List.map, List.length, List.replicate, List.cons_append, List.nil_append, List.append_nil, Nat.reduceSub, Nat.reduceAdd, Nat.sub_self, Nat.sub_zero, if_true, Bool.false_eq_true, if_false, reduceIte, ite_true, ite_false, Bool.and_self, Bool.and_true, Bool.true_and, Bool.not_true, Bool.not_false, Nat.reduceLT, Nat.reduceLeDiff, decide_true, decide_false, Int.reduceLT, Int.reduceLE, Int.reduceAdd, Int.reduceSub, Int.reduceNeg, Bool.or_true, Bool.or_false, Bool.true_or, Bool.false_or, Bool.and_false, Bool.false_and, h, this, decide_true, Int.one_mul, Int.natAbs_one]
    done
  · have g1 : 0 ≤ -e := by omega
    have g2 : -e ≤ 100000 := by omega
    simp only [d14, b14, ev.eq_1, ev.eq_2, ev.eq_3, ev.eq_4, ev.eq_5, ev.eq_6, ev.eq_7, ev.eq_8, ev.eq_9, ev.eq_10, ev.eq_11, ev.eq_12, ev.eq_13, ev.eq_14, ev.eq_15, ev.eq_16, ev.eq_17, ev.eq_18, ev.eq_19, ev.eq_20, ev.eq_21, ev.eq_22, ev.eq_23, ev.eq_24, ev.eq_25, ev.eq_26, ev.eq_27, ev.eq_28, ev.eq_29, evs.eq_1, evs.eq_2, evT, exec.eq_1, exec.eq_2, exec.eq_3, exec.eq_4, exec.eq_5, exec.eq_6, exec.eq_7, exec.eq_8, exec.eq_9, exec.eq_10, exec.eq_11, exec.eq_12, exec.eq_13, exec.eq_14, exec.eq_15, exec.eq_16, exec.eq_19, exec.eq_20, exec.eq_21, exec.eq_22, exec.eq_23, execs.eq_1, execs.eq_2, x_whl, x_for, x_comp, x_compIf, bor, vi, mkEnv, eg, es, frzA, frzS, bn, bt, bind_F, setAll, setPar, wipeE, tgs, b_add, b_sub, b_mul, b_fdiv, b_mod, b_shl, b_shr, b_pow, b_tup, b_lst, o_lt, o_le, o_gt, o_ge, o_eqi, o_nei, o_neb, o_isb, u_len1, u_len2, u_len3, u_abs, u_int, u_lst1, u_lst2, u_tup, u_max, s_int, s_bl, s_tup, s_lst, s_non, s_str, a_add, a_sub, i_tup, i_lst, r_bl, r_int, fin, chk_own, chk_some, isN, bnd, isNone, ixW_0, ixW_1, ixW_2, F_0, F_1, ixW_w, wg_1, wg_0, wp_0, List.map, List.length, List.replicate, List.cons_append, List.nil_append, List.append_nil, Nat.reduceSub, Nat.reduceAdd, Nat.sub_self, Nat.sub_zero, if_true, Bool.false_eq_true, if_false, reduceIte, ite_true, ite_false, Bool.and_self, Bool.and_true, Bool.true_and, Bool.not_true, Bool.not_false, Nat.reduceLT, Nat.reduceLeDiff, decide_true, decide_false, Int.reduceLT, Int.reduceLE, Int.reduceAdd, Int.reduceSub, Int.reduceNeg, Bool.or_true, Bool.or_false, Bool.true_or, Bool.false_or, Bool.and_false, Bool.false_and, h, g1, g2, decide_true, decide_false, Int.one_mul, Int.natAbs_one]
    done
theorem c46 {e : Int} (h1 : -1000 ≤ e) (h2 : e ≤ 1000) : callO P (n + 1) 46 [.int e] ws = some (F (pw e), ws) := by
  rw [call_at (d := d46) rfl rfl, F_pw]
  by_cases h : 0 ≤ e
  · have : e ≤ 100000 := by omega
    simp only [d46, b46, ev.eq_1, ev.eq_2, ev.eq_3, ev.eq_4, ev.eq_5, ev.eq_6, ev.eq_7, ev.eq_8, ev.eq_9, ev.eq_10, ev.eq_11, ev.eq_12, ev.eq_13, ev.eq_14, ev.eq_15, ev.eq_16, ev.eq_17, ev.eq_18, ev.eq_19, ev.eq_20, ev.eq_21, ev.eq_22, ev.eq_23, ev.eq_24, ev.eq_25, ev.eq_26, ev.eq_27, ev.eq_28, ev.eq_29, evs.eq_1, evs.eq_2, evT, exec.eq_1, exec.eq_2, exec.eq_3, exec.eq_4, exec.eq_5, exec.eq_6, exec.eq_7, exec.eq_8, exec.eq_9, exec.eq_10, exec.eq_11, exec.eq_12, exec.eq_13, exec.eq_14, exec.eq_15, exec.eq_16, exec.eq_19, exec.eq_20, exec.eq_21, exec.eq_22, exec.eq_23, execs.eq_1, execs.eq_2, x_whl, x_for, x_comp, x_compIf, bor, vi, mkEnv, eg, es, frzA, frzS, bn, bt, bind_F, setAll, setPar, wipeE, tgs, b_add, b_sub, b_mul, b_fdiv, b_mod, b_shl, b_shr, b_pow, b_tup, b_lst, o_lt, o_le, o_gt, o_ge, o_eqi, o_nei, o_neb, o_isb, u_len1, u_len2, u_len3, u_abs, u_int, u_lst1, u_lst2, u_tup, u_max, s_int, s_bl, s_tup, s_lst, s_non, s_str, a_add, a_sub, i_tup, i_lst, r_bl, r_int, fin, chk_own, chk_some, isN, bnd, isNone, ixW_0, ixW_1, ixW_2, F_0, F_1, ixW_w, wg_1, wg_0, wp_0, List.map, List.length, List.replicate, List.cons_append, List.nil_append, List.append_nil, Nat.reduceSub, Nat.reduceAdd, Nat.sub_self, Nat.sub_zero, if_true, Bool.false_eq_true, if_false, reduceIte, ite_true, ite_false, Bool.and_self, Bool.and_true, Bool.true_and, Bool.not_true, Bool.not_false, Nat.reduceLT, Nat.reduceLeDiff, decide_true, decide_false, Int.reduceLT, Int.reduceLE, Int.reduceAdd, Int.reduceSub, Int.reduceNeg, Bool.or_true, Bool.or_false, Bool.true_or, Bool.false_or, Bool.and_false, Bool.false_and, h, this, decide_true, Int.one_mul, Int.natAbs_one]
    done
  · have g1 : 0 ≤ -e := by omega
    have g2 : -e ≤ 100000 := by omega
    simp only [d46, b46, ev.eq_1, ev.eq_2, ev.eq_3, ev.eq_4, ev.eq_5, ev.eq_6, ev.eq_7, ev.eq_8, ev.eq_9, ev.eq_10, ev.eq_11, ev.eq_12, ev.eq_13, ev.eq_14, ev.eq_15, ev.eq_16, ev.eq_17, ev.eq_18, ev.eq_19, ev.eq_20, ev.eq_21, ev.eq_22, ev.eq_23, ev.eq_24, ev.eq_25, ev.eq_26, ev.eq_27, ev.eq_28, ev.eq_29, evs.eq_1, evs.eq_2, evT, exec.eq_1, exec.eq_2, exec.eq_3, exec.eq_4, exec.eq_5, exec.eq_6, exec.eq_7, exec.eq_8, exec.eq_9, exec.eq_10, exec.eq_11, exec.eq_12, exec.eq_13, exec.eq_14, exec.eq_15, exec.eq_16, exec.eq_19, exec.eq_20, exec.eq_21, exec.eq_22, exec.eq_23, execs.eq_1, execs.eq_2, x_whl, x_for, x_comp, x_compIf, bor, vi, mkEnv, eg, es, frzA, frzS, bn, bt, bind_F, setAll, setPar, wipeE, tgs, b_add, b_sub, b_mul, b_fdiv, b_mod, b_shl, b_shr, b_pow, b_tup, b_lst, o_lt, o_le, o_gt, o_ge, o_eqi, o_nei, o_neb, o_isb, u_len1, u_len2, u_len3, u_abs, u_int, u_lst1, u_lst2, u_tup, u_max, s_int, s_bl, s_tup, s_lst, s_non, s_str, a_add, a_sub, i_tup, i_lst, r_bl, r_int, fin, chk_own, chk_some, isN, bnd, isNone, ixW_0, ixW_1, ixW_2, F_0, F_1, ixW_w, wg_1, wg_0, wp_0, List.map, List.length, List.replicate, List.cons_append, List.nil_append, List.append_nil, Nat.reduceSub, Nat.reduceAdd, Nat.sub_self, Nat.sub_zero, if_true, Bool.false_eq_true, if_false, reduceIte, ite_true, ite_false, Bool.and_self, Bool.and_true, Bool.true_and, Bool.not_true, Bool.not_false, Nat.reduceLT, Nat.reduceLeDiff, decide_true, decide_false, Int.reduceLT, Int.reduceLE, Int.reduceAdd, Int.reduceSub, Int.reduceNeg, Bool.or_true, Bool.or_false, Bool.true_or, Bool.false_or, Bool.and_false, Bool.false_and, h, g1, g2, decide_true, decide_false, Int.one_mul, Int.natAbs_one, Int.zero_sub]
    done
end Pv.K36


set_option Elab.async false
set_option linter.all false
set_option maxRecDepth 100000
set_option exponentiation.threshold 20
/-! M3: sums. -/
namespace Pv.K36
open Pv
variable (n : Nat) (ws : WS)
theorem F_0' : D.tup [.int 0, .int 1] = F 0 := rfl
def sumF (s : Rat) (xs : List Rat) : Rat := xs.foldl (· + ·) s
theorem Z_sum {j : Nat} : ∀ {xs : List Rat} {s : Rat} {k : Nat}, Z k s → (∀ x ∈ xs, Z j x) → Z (k + xs.length * (j + 1)) (sumF s xs)
  | [], s, k, h, _ => by simpa [sumF] using h
  | x :: xs, s, k, h, hx => by
    have := Z_sum (xs := xs) (Z_add h (hx x List.mem_cons_self)) fun y hy => hx y (List.mem_cons_of_mem _ hy)
    rw [List.length_cons, Nat.add_mul]
    exact this.mono (by omega)
theorem sum17 {L : D} {j : Nat} (hj : j ≤ 1000) : ∀ {xs : List Rat} {s : Rat} {k : Nat} {t : Slot}, Z k s → (∀ x ∈ xs, Z j x) → k + xs.length * (j + 1) ≤ 1000 →
    ∃ t', forX (callO P (n + 3)) (.nm 2) l17_0 (xs.map F) [.va L, .va (F s), t] ws = some (.nx, [.va L, .va (F (sumF s xs)), t'], ws)
  | [], s, k, t, h, _, _ => ⟨t, rfl⟩
  | x :: xs, s, k, t, h, hx, hl => by
    rw [List.length_cons, Nat.add_mul] at hl
    have hx0 := hx x List.mem_cons_self
    obtain ⟨t', e⟩ := sum17 (L := L) hj (t := .va (F x)) (Z_add h hx0) (fun y hy => hx y (List.mem_cons_of_mem _ hy)) (by omega)
    refine ⟨t', ?_⟩
    rw [List.map_cons, for_cons]
    simp only [l17_0, ev.eq_1, ev.eq_2, ev.eq_3, ev.eq_4, ev.eq_5, ev.eq_6, ev.eq_7, ev.eq_8, ev.eq_9, ev.eq_10, ev.eq_11, ev.eq_12, ev.eq_13, ev.eq_14, ev.eq_15, ev.eq_16, ev.eq_17, ev.eq_18, ev.eq_19, ev.eq_20, ev.eq_21, ev.eq_22, ev.eq_23, ev.eq_24, ev.eq_25, ev.eq_26, ev.eq_27, ev.eq_28, ev.eq_29, evs.eq_1, evs.eq_2, evT, exec.eq_1, exec.eq_2, exec.eq_3, exec.eq_4, exec.eq_5, exec.eq_6, exec.eq_7, exec.eq_8, exec.eq_9, exec.eq_10, exec.eq_11, exec.eq_12, exec.eq_13, exec.eq_14, exec.eq_15, exec.eq_16, exec.eq_19, exec.eq_20, exec.eq_21, exec.eq_22, exec.eq_23, execs.eq_1, execs.eq_2, x_whl, x_for, x_comp, x_compIf, bor, vi, mkEnv, eg, es, frzA, frzS, bn, bt, bind_F, setAll, setPar, wipeE, tgs, b_add, b_sub, b_mul, b_fdiv, b_mod, b_shl, b_shr, b_pow, b_tup, b_lst, o_lt, o_le, o_gt, o_ge, o_eqi, o_nei, o_neb, o_isb, u_len1, u_len2, u_len3, u_abs, u_int, u_lst1, u_lst2, u_tup, u_max, s_int, s_bl, s_tup, s_lst, s_non, s_str, a_add, a_sub, i_tup, i_lst, r_bl, r_int, fin, chk_own, chk_some, isN, bnd, isNone, ixW_0, ixW_1, ixW_2, F_0, F_1, ixW_w, wg_1, wg_0, wp_0, List.map, List.length, List.replicate, List.cons_append, List.nil_append, List.append_nil, Nat.reduceSub, Nat.reduceAdd, Nat.sub_self, Nat.sub_zero, if_true, Bool.false_eq_true, if_false, reduceIte, ite_true, ite_false, Bool.and_self, Bool.and_true, Bool.true_and, Bool.not_true, Bool.not_false, Nat.reduceLT, Nat.reduceLeDiff, decide_true, decide_false, Int.reduceLT, Int.reduceLE, Int.reduceAdd, Int.reduceSub, Int.reduceNeg, Bool.or_true, Bool.or_false, Bool.true_or, Bool.false_or, Bool.and_false, Bool.false_and, c8 n ws (h.mono (by omega : k ≤ 1000)) (hx0.mono hj)]
    exact e
theorem c17 {xs : List Rat} {j : Nat} (hx : ∀ x ∈ xs, Z j x) (hj : j ≤ 1000) (hl : xs.length * (j + 1) ≤ 999) : callO P (n + 4) 17 [.lst (xs.map F)] ws = some (F (sumF 0 xs), ws) := by
  obtain ⟨t, e⟩ := sum17 n ws (L := .lst (xs.map F)) hj (t := .un) (k := 1) (s := 0) ⟨by decide, by decide⟩ hx (by omega)
  rw [call_at (d := d17) rfl rfl]
  simp only [d17, b17, ev.eq_1, ev.eq_2, ev.eq_3, ev.eq_4, ev.eq_5, ev.eq_6, ev.eq_7, ev.eq_8, ev.eq_9, ev.eq_10, ev.eq_11, ev.eq_12, ev.eq_13, ev.eq_14, ev.eq_15, ev.eq_16, ev.eq_17, ev.eq_18, ev.eq_19, ev.eq_20, ev.eq_21, ev.eq_22, ev.eq_23, ev.eq_24, ev.eq_25, ev.eq_26, ev.eq_27, ev.eq_28, ev.eq_29, evs.eq_1, evs.eq_2, evT, exec.eq_1, exec.eq_2, exec.eq_3, exec.eq_4, exec.eq_5, exec.eq_6, exec.eq_7, exec.eq_8, exec.eq_9, exec.eq_10, exec.eq_11, exec.eq_12, exec.eq_13, exec.eq_14, exec.eq_15, exec.eq_16, exec.eq_19, exec.eq_20, exec.eq_21, exec.eq_22, exec.eq_23, execs.eq_1, execs.eq_2, x_whl, x_for, x_comp, x_compIf, bor, vi, mkEnv, eg, es, frzA, frzS, bn, bt, bind_F, setAll, setPar, wipeE, tgs, b_add, b_sub, b_mul, b_fdiv, b_mod, b_shl, b_shr, b_pow, b_tup, b_lst, o_lt, o_le, o_gt, o_ge, o_eqi, o_nei, o_neb, o_isb, u_len1, u_len2, u_len3, u_abs, u_int, u_lst1, u_lst2, u_tup, u_max, s_int, s_bl, s_tup, s_lst, s_non, s_str, a_add, a_sub, i_tup, i_lst, r_bl, r_int, fin, chk_own, chk_some, isN, bnd, isNone, ixW_0, ixW_1, ixW_2, F_0, F_1, ixW_w, wg_1, wg_0, wp_0, List.map, List.length, List.replicate, List.cons_append, List.nil_append, List.append_nil, Nat.reduceSub, Nat.reduceAdd, Nat.sub_self, Nat.sub_zero, if_true, Bool.false_eq_true, if_false, reduceIte, ite_true, ite_false, Bool.and_self, Bool.and_true, Bool.true_and, Bool.not_true, Bool.not_false, Nat.reduceLT, Nat.reduceLeDiff, decide_true, decide_false, Int.reduceLT, Int.reduceLE, Int.reduceAdd, Int.reduceSub, Int.reduceNeg, Bool.or_true, Bool.or_false, Bool.true_or, Bool.false_or, Bool.and_false, Bool.false_and, F_0', e]
theorem sum41 {L : D} {j : Nat} (hj : j ≤ 1000) : ∀ {xs : List Rat} {s : Rat} {k : Nat} {t u : Slot}, Z k s → (∀ x ∈ xs, Z j x) → k + xs.length * (j + 1) ≤ 1000 →
    ∃ t' u', forX (callO P (n + 1)) (.tp [3, 4]) l41_0 (xs.map F) [.va L, .va (.int s.num), .va (.int s.den), t, u] ws =
      some (.nx, [.va L, .va (.int (sumF s xs).num), .va (.int (sumF s xs).den), t', u'], ws)
  | [], s, k, t, u, h, _, _ => ⟨t, u, rfl⟩
  | x :: xs, s, k, t, u, h, hx, hl => by
    rw [List.length_cons, Nat.add_mul] at hl
    have hx0 := hx x List.mem_cons_self
    obtain ⟨t', u', e⟩ := sum41 (L := L) hj (t := .va (.int x.num)) (u := .va (.int x.den)) (Z_add h hx0) (fun y hy => hx y (List.mem_cons_of_mem _ hy)) (by omega)
    refine ⟨t', u', ?_⟩
    have h1 := h.mono (by omega : k ≤ 1000)
    have h2 := hx0.mono hj
    rw [List.map_cons, for_cons]
    simp only [l41_0, ev.eq_1, ev.eq_2, ev.eq_3, ev.eq_4, ev.eq_5, ev.eq_6, ev.eq_7, ev.eq_8, ev.eq_9, ev.eq_10, ev.eq_11, ev.eq_12, ev.eq_13, ev.eq_14, ev.eq_15, ev.eq_16, ev.eq_17, ev.eq_18, ev.eq_19, ev.eq_20, ev.eq_21, ev.eq_22, ev.eq_23, ev.eq_24, ev.eq_25, ev.eq_26, ev.eq_27, ev.eq_28, ev.eq_29, evs.eq_1, evs.eq_2, evT, exec.eq_1, exec.eq_2, exec.eq_3, exec.eq_4, exec.eq_5, exec.eq_6, exec.eq_7, exec.eq_8, exec.eq_9, exec.eq_10, exec.eq_11, exec.eq_12, exec.eq_13, exec.eq_14, exec.eq_15, exec.eq_16, exec.eq_19, exec.eq_20, exec.eq_21, exec.eq_22, exec.eq_23, execs.eq_1, execs.eq_2, x_whl, x_for, x_comp, x_compIf, bor, vi, mkEnv, eg, es, frzA, frzS, bn, bt, bind_F, setAll, setPar, wipeE, tgs, b_add, b_sub, b_mul, b_fdiv, b_mod, b_shl, b_shr, b_pow, b_tup, b_lst, o_lt, o_le, o_gt, o_ge, o_eqi, o_nei, o_neb, o_isb, u_len1, u_len2, u_len3, u_abs, u_int, u_lst1, u_lst2, u_tup, u_max, s_int, s_bl, s_tup, s_lst, s_non, s_str, a_add, a_sub, i_tup, i_lst, r_bl, r_int, fin, chk_own, chk_some, isN, bnd, isNone, ixW_0, ixW_1, ixW_2, F_0, F_1, ixW_w, wg_1, wg_0, wp_0, List.map, List.length, List.replicate, List.cons_append, List.nil_append, List.append_nil, Nat.reduceSub, Nat.reduceAdd, Nat.sub_self, Nat.sub_zero, if_true, Bool.false_eq_true, if_false, reduceIte, ite_true, ite_false, Bool.and_self, Bool.and_true, Bool.true_and, Bool.not_true, Bool.not_false, Nat.reduceLT, Nat.reduceLeDiff, decide_true, decide_false, Int.reduceLT, Int.reduceLE, Int.reduceAdd, Int.reduceSub, Int.reduceNeg, Bool.or_true, Bool.or_false, Bool.true_or, Bool.false_or, Bool.and_false, Bool.false_and, okZ1 h1, okZ2 h1, okZ1 h2, okZ2 h2]
    rw [c40 n _ _ ws (den_mul s x) (p3 (k := 0) (mul_lt (den_lt h1) (den_lt h2))), ← add_eq]
    simp only [ev.eq_1, ev.eq_2, ev.eq_3, ev.eq_4, ev.eq_5, ev.eq_6, ev.eq_7, ev.eq_8, ev.eq_9, ev.eq_10, ev.eq_11, ev.eq_12, ev.eq_13, ev.eq_14, ev.eq_15, ev.eq_16, ev.eq_17, ev.eq_18, ev.eq_19, ev.eq_20, ev.eq_21, ev.eq_22, ev.eq_23, ev.eq_24, ev.eq_25, ev.eq_26, ev.eq_27, ev.eq_28, ev.eq_29, evs.eq_1, evs.eq_2, evT, exec.eq_1, exec.eq_2, exec.eq_3, exec.eq_4, exec.eq_5, exec.eq_6, exec.eq_7, exec.eq_8, exec.eq_9, exec.eq_10, exec.eq_11, exec.eq_12, exec.eq_13, exec.eq_14, exec.eq_15, exec.eq_16, exec.eq_19, exec.eq_20, exec.eq_21, exec.eq_22, exec.eq_23, execs.eq_1, execs.eq_2, x_whl, x_for, x_comp, x_compIf, bor, vi, mkEnv, eg, es, frzA, frzS, bn, bt, bind_F, setAll, setPar, wipeE, tgs, b_add, b_sub, b_mul, b_fdiv, b_mod, b_shl, b_shr, b_pow, b_tup, b_lst, o_lt, o_le, o_gt, o_ge, o_eqi, o_nei, o_neb, o_isb, u_len1, u_len2, u_len3, u_abs, u_int, u_lst1, u_lst2, u_tup, u_max, s_int, s_bl, s_tup, s_lst, s_non, s_str, a_add, a_sub, i_tup, i_lst, r_bl, r_int, fin, chk_own, chk_some, isN, bnd, isNone, ixW_0, ixW_1, ixW_2, F_0, F_1, ixW_w, wg_1, wg_0, wp_0, List.map, List.length, List.replicate, List.cons_append, List.nil_append, List.append_nil, Nat.reduceSub, Nat.reduceAdd, Nat.sub_self, Nat.sub_zero, if_true, Bool.false_eq_true, if_false, reduceIte, ite_true, ite_false, Bool.and_self, Bool.and_true, Bool.true_and, Bool.not_true, Bool.not_false, Nat.reduceLT, Nat.reduceLeDiff, decide_true, decide_false, Int.reduceLT, Int.reduceLE, Int.reduceAdd, Int.reduceSub, Int.reduceNeg, Bool.or_true, Bool.or_false, Bool.true_or, Bool.false_or, Bool.and_false, Bool.false_and]
    exact e
theorem c41 {xs : List Rat} {j : Nat} (hx : ∀ x ∈ xs, Z j x) (hj : j ≤ 1000) (hl : xs.length * (j + 1) ≤ 999) : callO P (n + 2) 41 [.lst (xs.map F)] ws = some (F (sumF 0 xs), ws) := by
  obtain ⟨t, u, e⟩ := sum41 n ws (L := .lst (xs.map F)) hj (t := .un) (u := .un) (k := 1) (s := 0) ⟨by decide, by decide⟩ hx (by omega)
  have e0 : (0 : Rat).num = 0 := rfl
  have e1 : (((0 : Rat).den : Nat) : Int) = 1 := rfl
  rw [e0, e1] at e
  rw [call_at (d := d41) rfl rfl]
  simp only [d41, b41, ev.eq_1, ev.eq_2, ev.eq_3, ev.eq_4, ev.eq_5, ev.eq_6, ev.eq_7, ev.eq_8, ev.eq_9, ev.eq_10, ev.eq_11, ev.eq_12, ev.eq_13, ev.eq_14, ev.eq_15, ev.eq_16, ev.eq_17, ev.eq_18, ev.eq_19, ev.eq_20, ev.eq_21, ev.eq_22, ev.eq_23, ev.eq_24, ev.eq_25, ev.eq_26, ev.eq_27, ev.eq_28, ev.eq_29, evs.eq_1, evs.eq_2, evT, exec.eq_1, exec.eq_2, exec.eq_3, exec.eq_4, exec.eq_5, exec.eq_6, exec.eq_7, exec.eq_8, exec.eq_9, exec.eq_10, exec.eq_11, exec.eq_12, exec.eq_13, exec.eq_14, exec.eq_15, exec.eq_16, exec.eq_19, exec.eq_20, exec.eq_21, exec.eq_22, exec.eq_23, execs.eq_1, execs.eq_2, x_whl, x_for, x_comp, x_compIf, bor, vi, mkEnv, eg, es, frzA, frzS, bn, bt, bind_F, setAll, setPar, wipeE, tgs, b_add, b_sub, b_mul, b_fdiv, b_mod, b_shl, b_shr, b_pow, b_tup, b_lst, o_lt, o_le, o_gt, o_ge, o_eqi, o_nei, o_neb, o_isb, u_len1, u_len2, u_len3, u_abs, u_int, u_lst1, u_lst2, u_tup, u_max, s_int, s_bl, s_tup, s_lst, s_non, s_str, a_add, a_sub, i_tup, i_lst, r_bl, r_int, fin, chk_own, chk_some, isN, bnd, isNone, ixW_0, ixW_1, ixW_2, F_0, F_1, ixW_w, wg_1, wg_0, wp_0, List.map, List.length, List.replicate, List.cons_append, List.nil_append, List.append_nil, Nat.reduceSub, Nat.reduceAdd, Nat.sub_self, Nat.sub_zero, if_true, Bool.false_eq_true, if_false, reduceIte, ite_true, ite_false, Bool.and_self, Bool.and_true, Bool.true_and, Bool.not_true, Bool.not_false, Nat.reduceLT, Nat.reduceLeDiff, decide_true, decide_false, Int.reduceLT, Int.reduceLE, Int.reduceAdd, Int.reduceSub, Int.reduceNeg, Bool.or_true, Bool.or_false, Bool.true_or, Bool.false_or, Bool.and_false, Bool.false_and, e]
  rfl
theorem sum_cons (s x : Rat) (xs : List Rat) : sumF s (x :: xs) = sumF (s + x) xs := rfl
theorem sum_nil (s : Rat) : sumF s [] = s := rfl
theorem sum_app (s : Rat) (xs ys : List Rat) : sumF s (xs ++ ys) = sumF (sumF s xs) ys := by unfold sumF; rw [List.foldl_append]
theorem sum_sh : ∀ (s : Rat) (xs : List Rat), sumF s xs = s + sumF 0 xs
  | s, [] => by simp [sumF, Rat.add_zero]
  | s, x :: xs => by
    rw [sum_cons, sum_cons, sum_sh (s + x), sum_sh (0 + x)]
    grind
end Pv.K36


set_option Elab.async false
set_option linter.all false
set_option maxRecDepth 100000
set_option exponentiation.threshold 20
/-! M4: dicts of fractions; straight forms. -/
namespace Pv.K36
open Pv
abbrev KV := List (Int × Rat)
def kD (a : KV) : List D := a.map fun x => .int x.1
def vD (a : KV) : List D := a.map fun x => F x.2
abbrev dD (a : KV) : D := .dic (kD a) (vD a)
def rD (x : Int × Rat) : D := .tup [.int x.1, F x.2]
def look : KV → Int → Option Rat
  | [], _ => none
  | x :: a, m => if x.1 = m then some x.2 else look a m
def val (a : KV) (m : Int) : Rat := (look a m).getD 0
def put (a : KV) (m : Int) (q : Rat) : KV := if (look a m).isSome then a.map fun x => (x.1, if x.1 = m then q else x.2) else a ++ [(m, q)]
theorem dget_k : ∀ (a : KV) (m : Int), dget (kD a) (vD a) (.int m) = (look a m).map F
  | [], m => rfl
  | x :: a, m => by
    simp only [kD, vD, List.map_cons, dget, keq, look]
    by_cases h : x.1 = m
    · simp [h]
    · simp only [decide_eq_false h, if_neg h, Bool.false_eq_true, if_false]
      exact dget_k a m
theorem keq_i (i j : Int) : keq (.int i) (.int j) = decide (i = j) := rfl
theorem has_k : ∀ (a : KV) (m : Int), has (kD a) (.int m) = (look a m).isSome
  | [], m => rfl
  | x :: a, m => by
    have ih := has_k a m
    unfold has kD at ih ⊢
    rw [List.map_cons, List.any_cons, ih, keq_i]
    simp only [look]
    by_cases h : x.1 = m
    · simp [h]
    · simp [h]
theorem repl_k : ∀ (a : KV) (m : Int) (q : Rat), repl (kD a) (vD a) (.int m) (F q) = vD (a.map fun x => (x.1, if x.1 = m then q else x.2))
  | [], m, q => rfl
  | x :: a, m, q => by
    have ih := repl_k a m q
    unfold kD vD at ih ⊢
    rw [List.map_cons, List.map_cons, repl, ih, keq_i]
    by_cases h : x.1 = m
    · simp [h]
    · simp [h]
theorem put_k (a : KV) (m : Int) (q : Rat) : dputK (kD a) (.int m) = kD (put a m q) ∧ dputV (kD a) (vD a) (.int m) (F q) = vD (put a m q) := by
  unfold dputK dputV put
  rw [has_k]
  cases (look a m).isSome with
  | true =>
    simp only [if_true]
    refine ⟨?_, repl_k a m q⟩
    unfold kD
    rw [List.map_map]
    rfl
  | false => simp [kD, vD]
theorem look_map (m : Int) (q : Rat) (m' : Int) : ∀ a : KV, look (a.map fun x => (x.1, if x.1 = m then q else x.2)) m' = if m' = m then (look a m').map fun _ => q else look a m'
  | [] => by simp [look]
  | x :: a => by
    have ih := look_map m q m' a
    simp only [List.map_cons, look, ih]
    by_cases h : x.1 = m'
    · by_cases e : m' = m
      · simp [h, e]
      · simp [h, e]
    · simp [h]
theorem look_app (m : Int) (q : Rat) (m' : Int) : ∀ a : KV, look (a ++ [(m, q)]) m' = match look a m' with
    | some v => some v
    | none => if m = m' then some q else none
  | [] => rfl
  | x :: a => by
    have ih := look_app m q m' a
    simp only [List.cons_append, look, ih]
    by_cases h : x.1 = m' <;> simp [h]
theorem look_put (a : KV) (m : Int) (q : Rat) (m' : Int) : look (put a m q) m' = if m' = m then some q else look a m' := by
  unfold put
  cases h : look a m with
  | some v =>
    simp only [Option.isSome_some, if_true]
    rw [look_map]
    by_cases e : m' = m
    · subst e; simp [h]
    · simp [e]
  | none =>
    simp only [Option.isSome_none, Bool.false_eq_true, if_false]
    rw [look_app]
    by_cases e : m' = m
    · subst e; simp [h]
    · rw [if_neg e]
      cases look a m' with
      | some v => rfl
      | none => simp [Ne.symm e]
theorem val_put (a : KV) (m : Int) (q : Rat) (m' : Int) : val (put a m q) m' = if m' = m then q else val a m' := by
  unfold val
  rw [look_put]
  split <;> rfl
theorem look_mem : ∀ {a : KV} {m : Int}, (look a m).isSome = true ↔ m ∈ a.map (·.1)
  | [], m => by simp [look]
  | x :: a, m => by
    have ih := look_mem (a := a) (m := m)
    simp only [look, List.map_cons, List.mem_cons]
    by_cases h : x.1 = m
    · simp [h]
    · rw [if_neg h, ih]
      constructor
      · exact .inr
      · rintro (z | z)
        · exact absurd z.symm h
        · exact z
theorem look_in : ∀ {a : KV} {m : Int} {q : Rat}, look a m = some q → (m, q) ∈ a
  | x :: a, m, q, h => by
    simp only [look] at h
    split at h
    · rename_i e
      cases h
      subst e
      exact List.mem_cons_self
    · exact List.mem_cons_of_mem _ (look_in h)
def keys (a : KV) : List Int := a.map (·.1)
theorem keys_put (a : KV) (m : Int) (q : Rat) : keys (put a m q) = if (look a m).isSome then keys a else keys a ++ [m] := by
  unfold put keys
  split
  · rw [List.map_map]; rfl
  · simp
theorem nd_put {a : KV} {m : Int} {q : Rat} (h : (keys a).Nodup) : (keys (put a m q)).Nodup := by
  rw [keys_put]
  split
  · exact h
  · rename_i e
    rw [List.nodup_append]
    refine ⟨h, by simp, fun x hx y hy z => e ?_⟩
    rw [look_mem]
    simp at hy
    subst hy
    subst z
    exact hx
theorem len_put (a : KV) (m : Int) (q : Rat) : (put a m q).length ≤ a.length + 1 := by
  unfold put
  split <;> simp
theorem mem_put {a : KV} {m : Int} {q : Rat} {x : Int × Rat} (h : x ∈ put a m q) : x = (m, q) ∨ x ∈ a := by
  unfold put at h
  split at h
  · obtain ⟨y, hy, e⟩ := List.mem_map.mp h
    by_cases z : y.1 = m
    · rw [if_pos z] at e
      rw [z] at e
      exact .inl e.symm
    · rw [if_neg z] at e
      exact .inr (e ▸ hy)
  · rcases List.mem_append.mp h with h | h
    · exact .inr h
    · exact .inl (by simpa using h)
theorem ints_k : ∀ a : KV, intsOf (kD a) = some (keys a)
  | [] => rfl
  | x :: a => by
    have := ints_k a
    unfold kD keys at *
    simp only [List.map_cons, intsOf, this]
/-! dict(rows) -/
def puts (a kv : KV) : KV := kv.foldl (fun a x => put a x.1 x.2) a
theorem dfold_k : ∀ (kv a : KV), dfold (kv.map rD) (kD a) (vD a) = some (kD (puts a kv), vD (puts a kv))
  | [], a => rfl
  | x :: kv, a => by
    rw [List.map_cons]
    unfold rD
    simp only [dfold, isK, if_true, (put_k a x.1 x.2).1, (put_k a x.1 x.2).2]
    exact dfold_k kv (put a x.1 x.2)
theorem look_none {a : KV} {m : Int} (h : m ∉ keys a) : look a m = none := by
  cases e : look a m with
  | none => rfl
  | some v => exact absurd (look_mem.mp (by rw [e]; rfl)) h
theorem puts_app : ∀ (kv a : KV), (keys (a ++ kv)).Nodup → puts a kv = a ++ kv
  | [], a, _ => by simp [puts]
  | x :: kv, a, h => by
    have e : put a x.1 x.2 = a ++ [x] := by
      unfold put
      rw [look_none, Option.isSome_none]
      · rfl
      · intro z
        unfold keys at h z
        rw [List.map_append, List.map_cons, List.nodup_append] at h
        exact h.2.2 _ z _ List.mem_cons_self rfl
    show puts (put a x.1 x.2) kv = _
    rw [e, puts_app kv]
    · simp
    · simpa using h
theorem puts_self {kv : KV} (h : (keys kv).Nodup) : puts [] kv = kv := puts_app kv [] h
theorem c_dict {kv : KV} (h : (keys kv).Nodup) : bf1 .dictOf (.tup (kv.map rD)) = some (dD kv) ∧ bf1 .dictOf (.lst (kv.map rD)) = some (dD kv) := by
  have := dfold_k kv []
  rw [puts_self h] at this
  have e : dfold (kv.map rD) [] [] = some (kD kv, vD kv) := this
  exact ⟨by simp only [bf1, e], by simp only [bf1, e]⟩
/-! straight forms -/
def strK (a : KV) : KV := ((isort (keys a)).filter fun m => decide (val a m ≠ 0)).map fun m => (m, val a m)
theorem F_ne (q : Rat) : cop .ne (F q) (F 0) = some (decide (q ≠ 0)) := by
  have h1 : okq (F q) 64 = true := rfl
  have h2 : okq (F 0) 64 = true := rfl
  show (if (okq (F q) 64 && okq (F 0) 64) = true then some (!deq (F q) (F 0)) else none) = _
  rw [h1, h2]
  simp only [Bool.and_self, if_true, F, deq, deqs, Bool.and_true]
  congr 1
  have n0 : (0 : Rat).num = 0 := rfl
  have n1 : (((0 : Rat).den : Nat) : Int) = 1 := rfl
  rw [n0, n1]
  by_cases h : q = 0
  · subst h; rfl
  · have : ¬ (q.num = 0) := fun z => h (Rat.num_eq_zero.mp z)
    simp [h, this]
theorem val_in {a : KV} {m : Int} (h : m ∈ keys a) : dget (kD a) (vD a) (.int m) = some (F (val a m)) := by
  rw [dget_k]
  have := look_mem.mpr h
  unfold val
  cases e : look a m with
  | none => rw [e] at this; cases this
  | some v => rfl
variable (n : Nat) (ws : WS)
theorem c_srt {a : KV} (hl : a.length < 64) : bf1 .sorted (dD a) = some (.lst ((isort (keys a)).map .int)) := by
  have e : (keys a).length < 64 := by unfold keys; rw [List.length_map]; exact hl
  simp only [bf1, ints_k, decide_eq_true e, if_true]
theorem srt_mem {a : KV} {m : Int} : m ∈ isort (keys a) ↔ m ∈ keys a := (isort_perm _).mem_iff
theorem srt_len (xs : List Int) : (isort xs).length = xs.length := (isort_perm _).length_eq
theorem okLen_of {k : Nat} (h : k ≤ 1000) : okLen k = true := decide_eq_true (by omega)
theorem ix_d {a : KV} {m : Int} (h : m ∈ keys a) : ixW ws (dD a) (.int m) = some (F (val a m)) := by
  show (if isK (.int m) = true then dget (kD a) (vD a) (.int m) else none) = _
  rw [val_in h]
  rfl
theorem strK_rows (a : KV) : ((isort (keys a)).filter fun m => decide (val a m ≠ 0)).map (fun m => rD (m, val a m)) = (strK a).map rD := by
  unfold strK
  rw [List.map_map]
  rfl
theorem c19 {x z : D} {a : KV} (hl : a.length < 64) : callO P (n + 1) 19 [x, dD a, z] ws = some (.tup [x, .tup ((strK a).map rD), z], ws) := by
  have e := cmpY_map (Φ := callO P n) (tg := .nm 3) (c := t19_0) (elt := x19_1) (env := [.va x, .va (dD a), .va z, .un]) (ws := ws)
    (xs := isort (keys a)) (rep := D.int) (g := fun m => rD (m, val a m)) (p := fun m => decide (val a m ≠ 0)) fun m hm => by
      have := ix_d ws (srt_mem.mp hm)
      refine ⟨[.va x, .va (dD a), .va z, .va (.int m)], rfl, ?_, fun _ => ?_⟩
      · simp only [t19_0, t48_0, ev.eq_1, ev.eq_2, ev.eq_3, ev.eq_4, ev.eq_5, ev.eq_6, ev.eq_7, ev.eq_8, ev.eq_9, ev.eq_10, ev.eq_11, ev.eq_12, ev.eq_13, ev.eq_14, ev.eq_15, ev.eq_16, ev.eq_17, ev.eq_18, ev.eq_19, ev.eq_20, ev.eq_21, ev.eq_22, ev.eq_23, ev.eq_24, ev.eq_25, ev.eq_26, ev.eq_27, ev.eq_28, ev.eq_29, evs.eq_1, evs.eq_2, evT, exec.eq_1, exec.eq_2, exec.eq_3, exec.eq_4, exec.eq_5, exec.eq_6, exec.eq_7, exec.eq_8, exec.eq_9, exec.eq_10, exec.eq_11, exec.eq_12, exec.eq_13, exec.eq_14, exec.eq_15, exec.eq_16, exec.eq_19, exec.eq_20, exec.eq_21, exec.eq_22, exec.eq_23, execs.eq_1, execs.eq_2, x_whl, x_for, x_comp, x_compIf, bor, vi, mkEnv, eg, es, frzA, frzS, bn, bt, bind_F, setAll, setPar, wipeE, tgs, b_add, b_sub, b_mul, b_fdiv, b_mod, b_shl, b_shr, b_pow, b_tup, b_lst, o_lt, o_le, o_gt, o_ge, o_eqi, o_nei, o_neb, o_isb, u_len1, u_len2, u_len3, u_abs, u_int, u_lst1, u_lst2, u_tup, u_max, s_int, s_bl, s_tup, s_lst, s_non, s_str, a_add, a_sub, i_tup, i_lst, r_bl, r_int, fin, chk_own, chk_some, isN, bnd, isNone, ixW_0, ixW_1, ixW_2, F_0, F_1, ixW_w, wg_1, wg_0, wp_0, List.map, List.length, List.replicate, List.cons_append, List.nil_append, List.append_nil, Nat.reduceSub, Nat.reduceAdd, Nat.sub_self, Nat.sub_zero, if_true, Bool.false_eq_true, if_false, reduceIte, ite_true, ite_false, Bool.and_self, Bool.and_true, Bool.true_and, Bool.not_true, Bool.not_false, Nat.reduceLT, Nat.reduceLeDiff, decide_true, decide_false, Int.reduceLT, Int.reduceLE, Int.reduceAdd, Int.reduceSub, Int.reduceNeg, Bool.or_true, Bool.or_false, Bool.true_or, Bool.false_or, Bool.and_false, Bool.false_and, this, F_0', F_ne]
      · simp only [x19_1, x48_1, ev.eq_1, ev.eq_2, ev.eq_3, ev.eq_4, ev.eq_5, ev.eq_6, ev.eq_7, ev.eq_8, ev.eq_9, ev.eq_10, ev.eq_11, ev.eq_12, ev.eq_13, ev.eq_14, ev.eq_15, ev.eq_16, ev.eq_17, ev.eq_18, ev.eq_19, ev.eq_20, ev.eq_21, ev.eq_22, ev.eq_23, ev.eq_24, ev.eq_25, ev.eq_26, ev.eq_27, ev.eq_28, ev.eq_29, evs.eq_1, evs.eq_2, evT, exec.eq_1, exec.eq_2, exec.eq_3, exec.eq_4, exec.eq_5, exec.eq_6, exec.eq_7, exec.eq_8, exec.eq_9, exec.eq_10, exec.eq_11, exec.eq_12, exec.eq_13, exec.eq_14, exec.eq_15, exec.eq_16, exec.eq_19, exec.eq_20, exec.eq_21, exec.eq_22, exec.eq_23, execs.eq_1, execs.eq_2, x_whl, x_for, x_comp, x_compIf, bor, vi, mkEnv, eg, es, frzA, frzS, bn, bt, bind_F, setAll, setPar, wipeE, tgs, b_add, b_sub, b_mul, b_fdiv, b_mod, b_shl, b_shr, b_pow, b_tup, b_lst, o_lt, o_le, o_gt, o_ge, o_eqi, o_nei, o_neb, o_isb, u_len1, u_len2, u_len3, u_abs, u_int, u_lst1, u_lst2, u_tup, u_max, s_int, s_bl, s_tup, s_lst, s_non, s_str, a_add, a_sub, i_tup, i_lst, r_bl, r_int, fin, chk_own, chk_some, isN, bnd, isNone, ixW_0, ixW_1, ixW_2, F_0, F_1, ixW_w, wg_1, wg_0, wp_0, List.map, List.length, List.replicate, List.cons_append, List.nil_append, List.append_nil, Nat.reduceSub, Nat.reduceAdd, Nat.sub_self, Nat.sub_zero, if_true, Bool.false_eq_true, if_false, reduceIte, ite_true, ite_false, Bool.and_self, Bool.and_true, Bool.true_and, Bool.not_true, Bool.not_false, Nat.reduceLT, Nat.reduceLeDiff, decide_true, decide_false, Int.reduceLT, Int.reduceLE, Int.reduceAdd, Int.reduceSub, Int.reduceNeg, Bool.or_true, Bool.or_false, Bool.true_or, Bool.false_or, Bool.and_false, Bool.false_and, this, rD]
  rw [strK_rows] at e
  have ol : okLen (isort (keys a)).length = true := okLen_of (by rw [srt_len]; unfold keys; rw [List.length_map]; omega)
  rw [call_at (d := d19) rfl rfl]
  simp only [d19, b19, ev.eq_1, ev.eq_2, ev.eq_3, ev.eq_4, ev.eq_5, ev.eq_6, ev.eq_7, ev.eq_8, ev.eq_9, ev.eq_10, ev.eq_11, ev.eq_12, ev.eq_13, ev.eq_14, ev.eq_15, ev.eq_16, ev.eq_17, ev.eq_18, ev.eq_19, ev.eq_20, ev.eq_21, ev.eq_22, ev.eq_23, ev.eq_24, ev.eq_25, ev.eq_26, ev.eq_27, ev.eq_28, ev.eq_29, evs.eq_1, evs.eq_2, evT, exec.eq_1, exec.eq_2, exec.eq_3, exec.eq_4, exec.eq_5, exec.eq_6, exec.eq_7, exec.eq_8, exec.eq_9, exec.eq_10, exec.eq_11, exec.eq_12, exec.eq_13, exec.eq_14, exec.eq_15, exec.eq_16, exec.eq_19, exec.eq_20, exec.eq_21, exec.eq_22, exec.eq_23, execs.eq_1, execs.eq_2, x_whl, x_for, x_comp, x_compIf, bor, vi, mkEnv, eg, es, frzA, frzS, bn, bt, bind_F, setAll, setPar, wipeE, tgs, b_add, b_sub, b_mul, b_fdiv, b_mod, b_shl, b_shr, b_pow, b_tup, b_lst, o_lt, o_le, o_gt, o_ge, o_eqi, o_nei, o_neb, o_isb, u_len1, u_len2, u_len3, u_abs, u_int, u_lst1, u_lst2, u_tup, u_max, s_int, s_bl, s_tup, s_lst, s_non, s_str, a_add, a_sub, i_tup, i_lst, r_bl, r_int, fin, chk_own, chk_some, isN, bnd, isNone, ixW_0, ixW_1, ixW_2, F_0, F_1, ixW_w, wg_1, wg_0, wp_0, List.map, List.length, List.replicate, List.cons_append, List.nil_append, List.append_nil, Nat.reduceSub, Nat.reduceAdd, Nat.sub_self, Nat.sub_zero, if_true, Bool.false_eq_true, if_false, reduceIte, ite_true, ite_false, Bool.and_self, Bool.and_true, Bool.true_and, Bool.not_true, Bool.not_false, Nat.reduceLT, Nat.reduceLeDiff, decide_true, decide_false, Int.reduceLT, Int.reduceLE, Int.reduceAdd, Int.reduceSub, Int.reduceNeg, Bool.or_true, Bool.or_false, Bool.true_or, Bool.false_or, Bool.and_false, Bool.false_and, c_srt hl, List.length_map, ol, e]
theorem c48 {x z : D} {a : KV} (hl : a.length < 64) : callO P (n + 1) 48 [x, dD a, z] ws = some (.tup [x, .tup ((strK a).map rD), z], ws) := by
  have e := cmpY_map (Φ := callO P n) (tg := .nm 3) (c := t48_0) (elt := x48_1) (env := [.va x, .va (dD a), .va z, .un]) (ws := ws)
    (xs := isort (keys a)) (rep := D.int) (g := fun m => rD (m, val a m)) (p := fun m => decide (val a m ≠ 0)) fun m hm => by
      have := ix_d ws (srt_mem.mp hm)
      refine ⟨[.va x, .va (dD a), .va z, .va (.int m)], rfl, ?_, fun _ => ?_⟩
      · simp only [t19_0, t48_0, ev.eq_1, ev.eq_2, ev.eq_3, ev.eq_4, ev.eq_5, ev.eq_6, ev.eq_7, ev.eq_8, ev.eq_9, ev.eq_10, ev.eq_11, ev.eq_12, ev.eq_13, ev.eq_14, ev.eq_15, ev.eq_16, ev.eq_17, ev.eq_18, ev.eq_19, ev.eq_20, ev.eq_21, ev.eq_22, ev.eq_23, ev.eq_24, ev.eq_25, ev.eq_26, ev.eq_27, ev.eq_28, ev.eq_29, evs.eq_1, evs.eq_2, evT, exec.eq_1, exec.eq_2, exec.eq_3, exec.eq_4, exec.eq_5, exec.eq_6, exec.eq_7, exec.eq_8, exec.eq_9, exec.eq_10, exec.eq_11, exec.eq_12, exec.eq_13, exec.eq_14, exec.eq_15, exec.eq_16, exec.eq_19, exec.eq_20, exec.eq_21, exec.eq_22, exec.eq_23, execs.eq_1, execs.eq_2, x_whl, x_for, x_comp, x_compIf, bor, vi, mkEnv, eg, es, frzA, frzS, bn, bt, bind_F, setAll, setPar, wipeE, tgs, b_add, b_sub, b_mul, b_fdiv, b_mod, b_shl, b_shr, b_pow, b_tup, b_lst, o_lt, o_le, o_gt, o_ge, o_eqi, o_nei, o_neb, o_isb, u_len1, u_len2, u_len3, u_abs, u_int, u_lst1, u_lst2, u_tup, u_max, s_int, s_bl, s_tup, s_lst, s_non, s_str, a_add, a_sub, i_tup, i_lst, r_bl, r_int, fin, chk_own, chk_some, isN, bnd, isNone, ixW_0, ixW_1, ixW_2, F_0, F_1, ixW_w, wg_1, wg_0, wp_0, List.map, List.length, List.replicate, List.cons_append, List.nil_append, List.append_nil, Nat.reduceSub, Nat.reduceAdd, Nat.sub_self, Nat.sub_zero, if_true, Bool.false_eq_true, if_false, reduceIte, ite_true, ite_false, Bool.and_self, Bool.and_true, Bool.true_and, Bool.not_true, Bool.not_false, Nat.reduceLT, Nat.reduceLeDiff, decide_true, decide_false, Int.reduceLT, Int.reduceLE, Int.reduceAdd, Int.reduceSub, Int.reduceNeg, Bool.or_true, Bool.or_false, Bool.true_or, Bool.false_or, Bool.and_false, Bool.false_and, this, F_0', F_ne]
      · simp only [x19_1, x48_1, ev.eq_1, ev.eq_2, ev.eq_3, ev.eq_4, ev.eq_5, ev.eq_6, ev.eq_7, ev.eq_8, ev.eq_9, ev.eq_10, ev.eq_11, ev.eq_12, ev.eq_13, ev.eq_14, ev.eq_15, ev.eq_16, ev.eq_17, ev.eq_18, ev.eq_19, ev.eq_20, ev.eq_21, ev.eq_22, ev.eq_23, ev.eq_24, ev.eq_25, ev.eq_26, ev.eq_27, ev.eq_28, ev.eq_29, evs.eq_1, evs.eq_2, evT, exec.eq_1, exec.eq_2, exec.eq_3, exec.eq_4, exec.eq_5, exec.eq_6, exec.eq_7, exec.eq_8, exec.eq_9, exec.eq_10, exec.eq_11, exec.eq_12, exec.eq_13, exec.eq_14, exec.eq_15, exec.eq_16, exec.eq_19, exec.eq_20, exec.eq_21, exec.eq_22, exec.eq_23, execs.eq_1, execs.eq_2, x_whl, x_for, x_comp, x_compIf, bor, vi, mkEnv, eg, es, frzA, frzS, bn, bt, bind_F, setAll, setPar, wipeE, tgs, b_add, b_sub, b_mul, b_fdiv, b_mod, b_shl, b_shr, b_pow, b_tup, b_lst, o_lt, o_le, o_gt, o_ge, o_eqi, o_nei, o_neb, o_isb, u_len1, u_len2, u_len3, u_abs, u_int, u_lst1, u_lst2, u_tup, u_max, s_int, s_bl, s_tup, s_lst, s_non, s_str, a_add, a_sub, i_tup, i_lst, r_bl, r_int, fin, chk_own, chk_some, isN, bnd, isNone, ixW_0, ixW_1, ixW_2, F_0, F_1, ixW_w, wg_1, wg_0, wp_0, List.map, List.length, List.replicate, List.cons_append, List.nil_append, List.append_nil, Nat.reduceSub, Nat.reduceAdd, Nat.sub_self, Nat.sub_zero, if_true, Bool.false_eq_true, if_false, reduceIte, ite_true, ite_false, Bool.and_self, Bool.and_true, Bool.true_and, Bool.not_true, Bool.not_false, Nat.reduceLT, Nat.reduceLeDiff, decide_true, decide_false, Int.reduceLT, Int.reduceLE, Int.reduceAdd, Int.reduceSub, Int.reduceNeg, Bool.or_true, Bool.or_false, Bool.true_or, Bool.false_or, Bool.and_false, Bool.false_and, this, rD]
  rw [strK_rows] at e
  have ol : okLen (isort (keys a)).length = true := okLen_of (by rw [srt_len]; unfold keys; rw [List.length_map]; omega)
  rw [call_at (d := d48) rfl rfl]
  simp only [d48, b48, ev.eq_1, ev.eq_2, ev.eq_3, ev.eq_4, ev.eq_5, ev.eq_6, ev.eq_7, ev.eq_8, ev.eq_9, ev.eq_10, ev.eq_11, ev.eq_12, ev.eq_13, ev.eq_14, ev.eq_15, ev.eq_16, ev.eq_17, ev.eq_18, ev.eq_19, ev.eq_20, ev.eq_21, ev.eq_22, ev.eq_23, ev.eq_24, ev.eq_25, ev.eq_26, ev.eq_27, ev.eq_28, ev.eq_29, evs.eq_1, evs.eq_2, evT, exec.eq_1, exec.eq_2, exec.eq_3, exec.eq_4, exec.eq_5, exec.eq_6, exec.eq_7, exec.eq_8, exec.eq_9, exec.eq_10, exec.eq_11, exec.eq_12, exec.eq_13, exec.eq_14, exec.eq_15, exec.eq_16, exec.eq_19, exec.eq_20, exec.eq_21, exec.eq_22, exec.eq_23, execs.eq_1, execs.eq_2, x_whl, x_for, x_comp, x_compIf, bor, vi, mkEnv, eg, es, frzA, frzS, bn, bt, bind_F, setAll, setPar, wipeE, tgs, b_add, b_sub, b_mul, b_fdiv, b_mod, b_shl, b_shr, b_pow, b_tup, b_lst, o_lt, o_le, o_gt, o_ge, o_eqi, o_nei, o_neb, o_isb, u_len1, u_len2, u_len3, u_abs, u_int, u_lst1, u_lst2, u_tup, u_max, s_int, s_bl, s_tup, s_lst, s_non, s_str, a_add, a_sub, i_tup, i_lst, r_bl, r_int, fin, chk_own, chk_some, isN, bnd, isNone, ixW_0, ixW_1, ixW_2, F_0, F_1, ixW_w, wg_1, wg_0, wp_0, List.map, List.length, List.replicate, List.cons_append, List.nil_append, List.append_nil, Nat.reduceSub, Nat.reduceAdd, Nat.sub_self, Nat.sub_zero, if_true, Bool.false_eq_true, if_false, reduceIte, ite_true, ite_false, Bool.and_self, Bool.and_true, Bool.true_and, Bool.not_true, Bool.not_false, Nat.reduceLT, Nat.reduceLeDiff, decide_true, decide_false, Int.reduceLT, Int.reduceLE, Int.reduceAdd, Int.reduceSub, Int.reduceNeg, Bool.or_true, Bool.or_false, Bool.true_or, Bool.false_or, Bool.and_false, Bool.false_and, c_srt hl, List.length_map, ol, e]
/-! what a straight form's rows are -/
theorem isort_up {xs : List Int} (h : xs.Nodup) : (isort xs).Pairwise (· < ·) := by
  have h1 := isort_sorted xs
  have h2 : (isort xs).Nodup := (isort_perm xs).nodup_iff.mpr h
  exact (h1.and h2).imp fun ⟨h3, h4⟩ => by omega
def up (a : KV) : Prop := (keys a).Pairwise (· < ·)
theorem keys_strK (a : KV) : keys (strK a) = (isort (keys a)).filter fun m => decide (val a m ≠ 0) := by
  unfold keys strK
  rw [List.map_map]
  exact List.map_id _
theorem up_strK {a : KV} (h : (keys a).Nodup) : up (strK a) := by
  unfold up
  rw [keys_strK]
  exact (isort_up h).filter _
theorem up_nd {a : KV} (h : up a) : (keys a).Nodup := h.imp fun h => by omega
theorem val_mem {a : KV} {m : Int} (h : val a m ≠ 0) : m ∈ keys a := by
  unfold val at h
  cases e : look a m with
  | none => rw [e] at h; exact absurd rfl h
  | some v => exact look_mem.mp (by rw [e]; rfl)
theorem strK_congr {a b : KV} (ha : (keys a).Nodup) (hb : (keys b).Nodup) (h : ∀ m, val a m = val b m) : strK a = strK b := by
  have e : ((isort (keys a)).filter fun m => decide (val a m ≠ 0)) = (isort (keys b)).filter fun m => decide (val b m ≠ 0) := by
    refine up_one (fun m => ?_) ((isort_up ha).filter _) ((isort_up hb).filter _)
    rw [List.mem_filter, List.mem_filter, srt_mem, srt_mem, decide_eq_true_eq, decide_eq_true_eq, h m]
    exact ⟨fun z => ⟨val_mem z.2, z.2⟩, fun z => ⟨val_mem (by rw [h m]; exact z.2), z.2⟩⟩
  unfold strK
  rw [e]
  exact List.map_congr_left fun m _ => by rw [h m]
theorem mem_strK {a : KV} {x : Int × Rat} (h : x ∈ strK a) : x.1 ∈ keys a ∧ x.2 = val a x.1 ∧ x.2 ≠ 0 := by
  unfold strK at h
  obtain ⟨m, hm, rfl⟩ := List.mem_map.mp h
  rw [List.mem_filter, srt_mem, decide_eq_true_eq] at hm
  exact ⟨hm.1, rfl, hm.2⟩
theorem val_of {a : KV} (P : Rat → Prop) (h0 : P 0) (h : ∀ x ∈ a, P x.2) (m : Int) : P (val a m) := by
  unfold val
  cases e : look a m with
  | none => exact h0
  | some v => exact h _ (look_in e)
theorem len_strK (a : KV) : (strK a).length ≤ a.length := by
  unfold strK
  rw [List.length_map]
  refine Nat.le_trans (List.length_filter_le _ _) ?_
  rw [srt_len]
  unfold keys
  rw [List.length_map]
  exact Nat.le_refl _
theorem look_nd : ∀ {a : KV} {x : Int × Rat}, (keys a).Nodup → x ∈ a → look a x.1 = some x.2
  | y :: a, x, h, hx => by
    simp only [look]
    unfold keys at h
    rw [List.map_cons, List.nodup_cons] at h
    rcases List.mem_cons.mp hx with e | hx
    · subst e; simp
    · have : y.1 ≠ x.1 := fun z => h.1 (by rw [z]; exact List.mem_map_of_mem hx)
      rw [if_neg this]
      exact look_nd h.2 hx
theorem val_nd {a : KV} {x : Int × Rat} (h : (keys a).Nodup) (hx : x ∈ a) : val a x.1 = x.2 := by
  unfold val
  rw [look_nd h hx]
  rfl
theorem val_strK {a : KV} (h : (keys a).Nodup) (m : Int) : val (strK a) m = val a m := by
  by_cases z : val a m = 0
  · rw [z]
    unfold val
    cases e : look (strK a) m with
    | none => rfl
    | some v =>
      obtain ⟨_, h2, h3⟩ := mem_strK (look_in e)
      exact absurd (h2.trans z) h3
  · have : (m, val a m) ∈ strK a := by
      unfold strK
      refine List.mem_map.mpr ⟨m, ?_, rfl⟩
      rw [List.mem_filter, srt_mem, decide_eq_true_eq]
      exact ⟨val_mem z, z⟩
    exact val_nd (up_nd (up_strK h)) this
end Pv.K36


set_option Elab.async false
set_option linter.all false
set_option maxRecDepth 100000
set_option exponentiation.threshold 20
/-! M5: the forms' defs. -/
namespace Pv.K36
open Pv
variable (n : Nat) (ws : WS)
structure Fm where
  n : Rat
  k : KV
  r : Rat
abbrev fD (f : Fm) : D := .tup [F f.n, .tup (f.k.map rD), F f.r]
structure OkF (b : Nat) (f : Fm) : Prop where
  n : Z b f.n
  k : ∀ x ∈ f.k, Z b x.2
  r : Z b f.r
  l : f.k.length ≤ 4
  u : up f.k
theorem OkF.nd {b : Nat} {f : Fm} (h : OkF b f) : (keys f.k).Nodup := up_nd h.u
theorem Z_0 {b : Nat} (h : 1 ≤ b) : Z b 0 := Z.mono (j := 1) ⟨by decide, by decide⟩ h
theorem c41_2 {a b : Rat} (ha : Z 400 a) (hb : Z 400 b) : callO P (n + 2) 41 [.lst [F a, F b]] ws = some (F (a + b), ws) := by
  have := c41 n ws (xs := [a, b]) (j := 400) (by simp [ha, hb]) (by decide) (by simp)
  rw [show a + b = sumF 0 [a, b] from by simp [sumF, Rat.zero_add]]
  exact this
theorem c41_3 {a b c : Rat} (ha : Z 300 a) (hb : Z 300 b) (hc : Z 300 c) : callO P (n + 2) 41 [.lst [F a, F b, F c]] ws = some (F (a + b + c), ws) := by
  have := c41 n ws (xs := [a, b, c]) (j := 300) (by simp [ha, hb, hc]) (by decide) (by simp)
  rw [show a + b + c = sumF 0 [a, b, c] from by simp [sumF, Rat.zero_add]]
  exact this
def half : Rat := Rat.divInt 1 2
def mone : Rat := Rat.divInt (-1) 1
theorem F_half : D.tup [.int 1, .int 2] = F half := by rw [half, ← mkF (by decide)]; rfl
theorem F_mone : D.tup [.int (-1), .int 1] = F mone := by rw [mone, ← mkF (by decide)]; rfl
theorem Z_half : Z 2 half := Z_div (by decide) (by decide) (by decide)
theorem Z_mone : Z 1 mone := Z_div (by decide) (by decide) (by decide)
theorem sl_02 (a b c : D) : slD (.tup [a, b, c]) none (some 2) = some (.tup [a, b]) := rfl
theorem sl_1 (a b c : D) : slD (.tup [a, b, c]) (some 1) none = some (.tup [b, c]) := rfl
theorem ol_le {k : Nat} (h : k ≤ 1000) : okLen k = true := decide_eq_true (by omega)
/-! swing -/
def sw (f : Fm) : Rat := sumF 0 (f.k.map fun x => ab x.2) + f.r
theorem rows_len {f : Fm} {b : Nat} (h : OkF b f) : okLen f.k.length = true := ol_le (by have := h.l; omega)
theorem Z_gaps {f : Fm} {b : Nat} (h : OkF b f) : ∀ x ∈ f.k.map fun x => ab x.2, Z b x := by
  intro x hx
  obtain ⟨y, hy, rfl⟩ := List.mem_map.mp hx
  exact Z_ab (h.k y hy)
theorem Z_sumk {f : Fm} {b : Nat} (h : OkF b f) : Z (5 * b + 5) (sumF 0 (f.k.map fun x => ab x.2)) := by
  have := Z_sum (Z_0 (b := 1) (by decide)) (Z_gaps h)
  rw [List.length_map] at this
  refine this.mono ?_
  have := h.l
  have : f.k.length * (b + 1) ≤ 4 * (b + 1) := Nat.mul_le_mul_right _ this
  omega
theorem Z_sw {f : Fm} {b : Nat} (h : OkF b f) : Z (6 * b + 6) (sw f) := (Z_add (Z_sumk h) h.r).mono (by omega)
theorem sum_le {f : Fm} {b : Nat} (h : OkF b f) (hb : b ≤ 100) : (f.k.map fun x => ab x.2).length * (b + 1) ≤ 999 := by
  rw [List.length_map]
  have := Nat.mul_le_mul_right (b + 1) h.l
  omega
theorem c23 {f : Fm} {b : Nat} (h : OkF b f) (hb : b ≤ 100) : callO P (n + 5) 23 [fD f] ws = some (F (sw f), ws) := by
  have e := cmp_map (Φ := callO P (n + 4)) (tg := .tp [1, 2]) (elt := x23_0) (env := [.va (fD f), .un, .un]) (ws := ws) (xs := f.k) (rep := rD) (g := fun x => F (ab x.2)) fun x hx => by
    refine ⟨[.va (fD f), .va (.int x.1), .va (F x.2)], rfl, ?_⟩
    simp only [x23_0, ev.eq_1, ev.eq_2, ev.eq_3, ev.eq_4, ev.eq_5, ev.eq_6, ev.eq_7, ev.eq_8, ev.eq_9, ev.eq_10, ev.eq_11, ev.eq_12, ev.eq_13, ev.eq_14, ev.eq_15, ev.eq_16, ev.eq_17, ev.eq_18, ev.eq_19, ev.eq_20, ev.eq_21, ev.eq_22, ev.eq_23, ev.eq_24, ev.eq_25, ev.eq_26, ev.eq_27, ev.eq_28, ev.eq_29, evs.eq_1, evs.eq_2, evT, exec.eq_1, exec.eq_2, exec.eq_3, exec.eq_4, exec.eq_5, exec.eq_6, exec.eq_7, exec.eq_8, exec.eq_9, exec.eq_10, exec.eq_11, exec.eq_12, exec.eq_13, exec.eq_14, exec.eq_15, exec.eq_16, exec.eq_19, exec.eq_20, exec.eq_21, exec.eq_22, exec.eq_23, execs.eq_1, execs.eq_2, x_whl, x_for, x_comp, x_compIf, bor, vi, mkEnv, eg, es, frzA, frzS, bn, bt, bind_F, setAll, setPar, wipeE, tgs, b_add, b_sub, b_mul, b_fdiv, b_mod, b_shl, b_shr, b_pow, b_tup, b_lst, o_lt, o_le, o_gt, o_ge, o_eqi, o_nei, o_neb, o_isb, u_len1, u_len2, u_len3, u_abs, u_int, u_lst1, u_lst2, u_tup, u_max, s_int, s_bl, s_tup, s_lst, s_non, s_str, a_add, a_sub, i_tup, i_lst, r_bl, r_int, fin, chk_own, chk_some, isN, bnd, isNone, ixW_0, ixW_1, ixW_2, F_0, F_1, ixW_w, wg_1, wg_0, wp_0, List.map, List.length, List.replicate, List.cons_append, List.nil_append, List.append_nil, Nat.reduceSub, Nat.reduceAdd, Nat.sub_self, Nat.sub_zero, if_true, Bool.false_eq_true, if_false, reduceIte, ite_true, ite_false, Bool.and_self, Bool.and_true, Bool.true_and, Bool.not_true, Bool.not_false, Nat.reduceLT, Nat.reduceLeDiff, decide_true, decide_false, Int.reduceLT, Int.reduceLE, Int.reduceAdd, Int.reduceSub, Int.reduceNeg, Bool.or_true, Bool.or_false, Bool.true_or, Bool.false_or, Bool.and_false, Bool.false_and, c12 (n + 3) ws]
  have e2 : f.k.map (fun x => F (ab x.2)) = (f.k.map fun x => ab x.2).map F := by rw [List.map_map]; rfl
  rw [e2] at e
  rw [call_at (d := d23) rfl rfl]
  simp only [d23, b23, ev.eq_1, ev.eq_2, ev.eq_3, ev.eq_4, ev.eq_5, ev.eq_6, ev.eq_7, ev.eq_8, ev.eq_9, ev.eq_10, ev.eq_11, ev.eq_12, ev.eq_13, ev.eq_14, ev.eq_15, ev.eq_16, ev.eq_17, ev.eq_18, ev.eq_19, ev.eq_20, ev.eq_21, ev.eq_22, ev.eq_23, ev.eq_24, ev.eq_25, ev.eq_26, ev.eq_27, ev.eq_28, ev.eq_29, evs.eq_1, evs.eq_2, evT, exec.eq_1, exec.eq_2, exec.eq_3, exec.eq_4, exec.eq_5, exec.eq_6, exec.eq_7, exec.eq_8, exec.eq_9, exec.eq_10, exec.eq_11, exec.eq_12, exec.eq_13, exec.eq_14, exec.eq_15, exec.eq_16, exec.eq_19, exec.eq_20, exec.eq_21, exec.eq_22, exec.eq_23, execs.eq_1, execs.eq_2, x_whl, x_for, x_comp, x_compIf, bor, vi, mkEnv, eg, es, frzA, frzS, bn, bt, bind_F, setAll, setPar, wipeE, tgs, b_add, b_sub, b_mul, b_fdiv, b_mod, b_shl, b_shr, b_pow, b_tup, b_lst, o_lt, o_le, o_gt, o_ge, o_eqi, o_nei, o_neb, o_isb, u_len1, u_len2, u_len3, u_abs, u_int, u_lst1, u_lst2, u_tup, u_max, s_int, s_bl, s_tup, s_lst, s_non, s_str, a_add, a_sub, i_tup, i_lst, r_bl, r_int, fin, chk_own, chk_some, isN, bnd, isNone, ixW_0, ixW_1, ixW_2, F_0, F_1, ixW_w, wg_1, wg_0, wp_0, List.map, List.length, List.replicate, List.cons_append, List.nil_append, List.append_nil, Nat.reduceSub, Nat.reduceAdd, Nat.sub_self, Nat.sub_zero, if_true, Bool.false_eq_true, if_false, reduceIte, ite_true, ite_false, Bool.and_self, Bool.and_true, Bool.true_and, Bool.not_true, Bool.not_false, Nat.reduceLT, Nat.reduceLeDiff, decide_true, decide_false, Int.reduceLT, Int.reduceLE, Int.reduceAdd, Int.reduceSub, Int.reduceNeg, Bool.or_true, Bool.or_false, Bool.true_or, Bool.false_or, Bool.and_false, Bool.false_and, List.length_map, rows_len h, e, c17 n ws (Z_gaps h) (by omega) (sum_le h hb), c8 (n + 1) ws ((Z_sumk h).mono (by omega)) (h.r.mono (by omega))]
  rfl
theorem c49 {f : Fm} {b : Nat} (h : OkF b f) (hb : b ≤ 100) : callO P (n + 3) 49 [fD f] ws = some (F (sw f), ws) := by
  have e := cmp_map (Φ := callO P (n + 2)) (tg := .tp [1, 2]) (elt := x49_0) (env := [.va (fD f), .un, .un]) (ws := ws) (xs := f.k) (rep := rD) (g := fun x => F (ab x.2)) fun x hx => by
    refine ⟨[.va (fD f), .va (.int x.1), .va (F x.2)], rfl, ?_⟩
    simp only [x49_0, ev.eq_1, ev.eq_2, ev.eq_3, ev.eq_4, ev.eq_5, ev.eq_6, ev.eq_7, ev.eq_8, ev.eq_9, ev.eq_10, ev.eq_11, ev.eq_12, ev.eq_13, ev.eq_14, ev.eq_15, ev.eq_16, ev.eq_17, ev.eq_18, ev.eq_19, ev.eq_20, ev.eq_21, ev.eq_22, ev.eq_23, ev.eq_24, ev.eq_25, ev.eq_26, ev.eq_27, ev.eq_28, ev.eq_29, evs.eq_1, evs.eq_2, evT, exec.eq_1, exec.eq_2, exec.eq_3, exec.eq_4, exec.eq_5, exec.eq_6, exec.eq_7, exec.eq_8, exec.eq_9, exec.eq_10, exec.eq_11, exec.eq_12, exec.eq_13, exec.eq_14, exec.eq_15, exec.eq_16, exec.eq_19, exec.eq_20, exec.eq_21, exec.eq_22, exec.eq_23, execs.eq_1, execs.eq_2, x_whl, x_for, x_comp, x_compIf, bor, vi, mkEnv, eg, es, frzA, frzS, bn, bt, bind_F, setAll, setPar, wipeE, tgs, b_add, b_sub, b_mul, b_fdiv, b_mod, b_shl, b_shr, b_pow, b_tup, b_lst, o_lt, o_le, o_gt, o_ge, o_eqi, o_nei, o_neb, o_isb, u_len1, u_len2, u_len3, u_abs, u_int, u_lst1, u_lst2, u_tup, u_max, s_int, s_bl, s_tup, s_lst, s_non, s_str, a_add, a_sub, i_tup, i_lst, r_bl, r_int, fin, chk_own, chk_some, isN, bnd, isNone, ixW_0, ixW_1, ixW_2, F_0, F_1, ixW_w, wg_1, wg_0, wp_0, List.map, List.length, List.replicate, List.cons_append, List.nil_append, List.append_nil, Nat.reduceSub, Nat.reduceAdd, Nat.sub_self, Nat.sub_zero, if_true, Bool.false_eq_true, if_false, reduceIte, ite_true, ite_false, Bool.and_self, Bool.and_true, Bool.true_and, Bool.not_true, Bool.not_false, Nat.reduceLT, Nat.reduceLeDiff, decide_true, decide_false, Int.reduceLT, Int.reduceLE, Int.reduceAdd, Int.reduceSub, Int.reduceNeg, Bool.or_true, Bool.or_false, Bool.true_or, Bool.false_or, Bool.and_false, Bool.false_and, c45 (n + 1) ws]
  have e2 : f.k.map (fun x => F (ab x.2)) = (f.k.map fun x => ab x.2).map F := by rw [List.map_map]; rfl
  rw [e2] at e
  have e3 : (f.k.map fun x => ab x.2).map F ++ [F f.r] = ((f.k.map fun x => ab x.2) ++ [f.r]).map F := by simp
  have e4 : sumF 0 ((f.k.map fun x => ab x.2) ++ [f.r]) = sw f := by rw [sum_app]; rfl
  have hz : ∀ x ∈ (f.k.map fun x => ab x.2) ++ [f.r], Z b x := fun x hx => (List.mem_append.mp hx).elim (Z_gaps h x) fun q => by
    rw [List.mem_singleton] at q; rw [q]; exact h.r
  have hl : ((f.k.map fun x => ab x.2) ++ [f.r]).length * (b + 1) ≤ 999 := by
    rw [List.length_append, List.length_map, List.length_singleton]
    have := Nat.mul_le_mul_right (b + 1) (Nat.add_le_add_right h.l 1)
    omega
  have e5 := c41 n ws hz (by omega) hl
  rw [e4, ← e3] at e5
  have ol : okLen (f.k.length + 1) = true := ol_le (by have := h.l; omega)
  rw [call_at (d := d49) rfl rfl]
  simp only [d49, b49, ev.eq_1, ev.eq_2, ev.eq_3, ev.eq_4, ev.eq_5, ev.eq_6, ev.eq_7, ev.eq_8, ev.eq_9, ev.eq_10, ev.eq_11, ev.eq_12, ev.eq_13, ev.eq_14, ev.eq_15, ev.eq_16, ev.eq_17, ev.eq_18, ev.eq_19, ev.eq_20, ev.eq_21, ev.eq_22, ev.eq_23, ev.eq_24, ev.eq_25, ev.eq_26, ev.eq_27, ev.eq_28, ev.eq_29, evs.eq_1, evs.eq_2, evT, exec.eq_1, exec.eq_2, exec.eq_3, exec.eq_4, exec.eq_5, exec.eq_6, exec.eq_7, exec.eq_8, exec.eq_9, exec.eq_10, exec.eq_11, exec.eq_12, exec.eq_13, exec.eq_14, exec.eq_15, exec.eq_16, exec.eq_19, exec.eq_20, exec.eq_21, exec.eq_22, exec.eq_23, execs.eq_1, execs.eq_2, x_whl, x_for, x_comp, x_compIf, bor, vi, mkEnv, eg, es, frzA, frzS, bn, bt, bind_F, setAll, setPar, wipeE, tgs, b_add, b_sub, b_mul, b_fdiv, b_mod, b_shl, b_shr, b_pow, b_tup, b_lst, o_lt, o_le, o_gt, o_ge, o_eqi, o_nei, o_neb, o_isb, u_len1, u_len2, u_len3, u_abs, u_int, u_lst1, u_lst2, u_tup, u_max, s_int, s_bl, s_tup, s_lst, s_non, s_str, a_add, a_sub, i_tup, i_lst, r_bl, r_int, fin, chk_own, chk_some, isN, bnd, isNone, ixW_0, ixW_1, ixW_2, F_0, F_1, ixW_w, wg_1, wg_0, wp_0, List.map, List.length, List.replicate, List.cons_append, List.nil_append, List.append_nil, Nat.reduceSub, Nat.reduceAdd, Nat.sub_self, Nat.sub_zero, if_true, Bool.false_eq_true, if_false, reduceIte, ite_true, ite_false, Bool.and_self, Bool.and_true, Bool.true_and, Bool.not_true, Bool.not_false, Nat.reduceLT, Nat.reduceLeDiff, decide_true, decide_false, Int.reduceLT, Int.reduceLE, Int.reduceAdd, Int.reduceSub, Int.reduceNeg, Bool.or_true, Bool.or_false, Bool.true_or, Bool.false_or, Bool.and_false, Bool.false_and, List.length_map, rows_len h, e, List.length_singleton, ol, e5]
theorem c25 {f : Fm} {b : Nat} (h : OkF b f) (hb : b ≤ 50) : callO P (n + 6) 25 [fD f] ws = some (F (ab f.n + sw f), ws) := by
  rw [call_at (d := d25) rfl rfl]
  simp only [d25, b25, ev.eq_1, ev.eq_2, ev.eq_3, ev.eq_4, ev.eq_5, ev.eq_6, ev.eq_7, ev.eq_8, ev.eq_9, ev.eq_10, ev.eq_11, ev.eq_12, ev.eq_13, ev.eq_14, ev.eq_15, ev.eq_16, ev.eq_17, ev.eq_18, ev.eq_19, ev.eq_20, ev.eq_21, ev.eq_22, ev.eq_23, ev.eq_24, ev.eq_25, ev.eq_26, ev.eq_27, ev.eq_28, ev.eq_29, evs.eq_1, evs.eq_2, evT, exec.eq_1, exec.eq_2, exec.eq_3, exec.eq_4, exec.eq_5, exec.eq_6, exec.eq_7, exec.eq_8, exec.eq_9, exec.eq_10, exec.eq_11, exec.eq_12, exec.eq_13, exec.eq_14, exec.eq_15, exec.eq_16, exec.eq_19, exec.eq_20, exec.eq_21, exec.eq_22, exec.eq_23, execs.eq_1, execs.eq_2, x_whl, x_for, x_comp, x_compIf, bor, vi, mkEnv, eg, es, frzA, frzS, bn, bt, bind_F, setAll, setPar, wipeE, tgs, b_add, b_sub, b_mul, b_fdiv, b_mod, b_shl, b_shr, b_pow, b_tup, b_lst, o_lt, o_le, o_gt, o_ge, o_eqi, o_nei, o_neb, o_isb, u_len1, u_len2, u_len3, u_abs, u_int, u_lst1, u_lst2, u_tup, u_max, s_int, s_bl, s_tup, s_lst, s_non, s_str, a_add, a_sub, i_tup, i_lst, r_bl, r_int, fin, chk_own, chk_some, isN, bnd, isNone, ixW_0, ixW_1, ixW_2, F_0, F_1, ixW_w, wg_1, wg_0, wp_0, List.map, List.length, List.replicate, List.cons_append, List.nil_append, List.append_nil, Nat.reduceSub, Nat.reduceAdd, Nat.sub_self, Nat.sub_zero, if_true, Bool.false_eq_true, if_false, reduceIte, ite_true, ite_false, Bool.and_self, Bool.and_true, Bool.true_and, Bool.not_true, Bool.not_false, Nat.reduceLT, Nat.reduceLeDiff, decide_true, decide_false, Int.reduceLT, Int.reduceLE, Int.reduceAdd, Int.reduceSub, Int.reduceNeg, Bool.or_true, Bool.or_false, Bool.true_or, Bool.false_or, Bool.and_false, Bool.false_and, c12 (n + 4) ws, c23 n ws h (by omega), c8 (n + 2) ws ((Z_ab h.n).mono (by omega)) ((Z_sw h).mono (by omega))]
theorem c50 {f : Fm} {b : Nat} (h : OkF b f) (hb : b ≤ 50) : callO P (n + 4) 50 [fD f] ws = some (F (ab f.n + sw f), ws) := by
  rw [call_at (d := d50) rfl rfl]
  simp only [d50, b50, ev.eq_1, ev.eq_2, ev.eq_3, ev.eq_4, ev.eq_5, ev.eq_6, ev.eq_7, ev.eq_8, ev.eq_9, ev.eq_10, ev.eq_11, ev.eq_12, ev.eq_13, ev.eq_14, ev.eq_15, ev.eq_16, ev.eq_17, ev.eq_18, ev.eq_19, ev.eq_20, ev.eq_21, ev.eq_22, ev.eq_23, ev.eq_24, ev.eq_25, ev.eq_26, ev.eq_27, ev.eq_28, ev.eq_29, evs.eq_1, evs.eq_2, evT, exec.eq_1, exec.eq_2, exec.eq_3, exec.eq_4, exec.eq_5, exec.eq_6, exec.eq_7, exec.eq_8, exec.eq_9, exec.eq_10, exec.eq_11, exec.eq_12, exec.eq_13, exec.eq_14, exec.eq_15, exec.eq_16, exec.eq_19, exec.eq_20, exec.eq_21, exec.eq_22, exec.eq_23, execs.eq_1, execs.eq_2, x_whl, x_for, x_comp, x_compIf, bor, vi, mkEnv, eg, es, frzA, frzS, bn, bt, bind_F, setAll, setPar, wipeE, tgs, b_add, b_sub, b_mul, b_fdiv, b_mod, b_shl, b_shr, b_pow, b_tup, b_lst, o_lt, o_le, o_gt, o_ge, o_eqi, o_nei, o_neb, o_isb, u_len1, u_len2, u_len3, u_abs, u_int, u_lst1, u_lst2, u_tup, u_max, s_int, s_bl, s_tup, s_lst, s_non, s_str, a_add, a_sub, i_tup, i_lst, r_bl, r_int, fin, chk_own, chk_some, isN, bnd, isNone, ixW_0, ixW_1, ixW_2, F_0, F_1, ixW_w, wg_1, wg_0, wp_0, List.map, List.length, List.replicate, List.cons_append, List.nil_append, List.append_nil, Nat.reduceSub, Nat.reduceAdd, Nat.sub_self, Nat.sub_zero, if_true, Bool.false_eq_true, if_false, reduceIte, ite_true, ite_false, Bool.and_self, Bool.and_true, Bool.true_and, Bool.not_true, Bool.not_false, Nat.reduceLT, Nat.reduceLeDiff, decide_true, decide_false, Int.reduceLT, Int.reduceLE, Int.reduceAdd, Int.reduceSub, Int.reduceNeg, Bool.or_true, Bool.or_false, Bool.true_or, Bool.false_or, Bool.and_false, Bool.false_and, c45 (n + 2) ws, c49 n ws h (by omega), c41_2 (n + 1) ws ((Z_ab h.n).mono (by omega)) ((Z_sw h).mono (by omega))]
theorem c24 {f : Fm} {b : Nat} (h : OkF b f) (hb : b ≤ 50) : callO P (n + 6) 24 [fD f] ws = some (.tup [F (f.n - sw f), F (f.n + sw f)], ws) := by
  rw [call_at (d := d24) rfl rfl]
  simp only [d24, b24, ev.eq_1, ev.eq_2, ev.eq_3, ev.eq_4, ev.eq_5, ev.eq_6, ev.eq_7, ev.eq_8, ev.eq_9, ev.eq_10, ev.eq_11, ev.eq_12, ev.eq_13, ev.eq_14, ev.eq_15, ev.eq_16, ev.eq_17, ev.eq_18, ev.eq_19, ev.eq_20, ev.eq_21, ev.eq_22, ev.eq_23, ev.eq_24, ev.eq_25, ev.eq_26, ev.eq_27, ev.eq_28, ev.eq_29, evs.eq_1, evs.eq_2, evT, exec.eq_1, exec.eq_2, exec.eq_3, exec.eq_4, exec.eq_5, exec.eq_6, exec.eq_7, exec.eq_8, exec.eq_9, exec.eq_10, exec.eq_11, exec.eq_12, exec.eq_13, exec.eq_14, exec.eq_15, exec.eq_16, exec.eq_19, exec.eq_20, exec.eq_21, exec.eq_22, exec.eq_23, execs.eq_1, execs.eq_2, x_whl, x_for, x_comp, x_compIf, bor, vi, mkEnv, eg, es, frzA, frzS, bn, bt, bind_F, setAll, setPar, wipeE, tgs, b_add, b_sub, b_mul, b_fdiv, b_mod, b_shl, b_shr, b_pow, b_tup, b_lst, o_lt, o_le, o_gt, o_ge, o_eqi, o_nei, o_neb, o_isb, u_len1, u_len2, u_len3, u_abs, u_int, u_lst1, u_lst2, u_tup, u_max, s_int, s_bl, s_tup, s_lst, s_non, s_str, a_add, a_sub, i_tup, i_lst, r_bl, r_int, fin, chk_own, chk_some, isN, bnd, isNone, ixW_0, ixW_1, ixW_2, F_0, F_1, ixW_w, wg_1, wg_0, wp_0, List.map, List.length, List.replicate, List.cons_append, List.nil_append, List.append_nil, Nat.reduceSub, Nat.reduceAdd, Nat.sub_self, Nat.sub_zero, if_true, Bool.false_eq_true, if_false, reduceIte, ite_true, ite_false, Bool.and_self, Bool.and_true, Bool.true_and, Bool.not_true, Bool.not_false, Nat.reduceLT, Nat.reduceLeDiff, decide_true, decide_false, Int.reduceLT, Int.reduceLE, Int.reduceAdd, Int.reduceSub, Int.reduceNeg, Bool.or_true, Bool.or_false, Bool.true_or, Bool.false_or, Bool.and_false, Bool.false_and, c23 n ws h (by omega), c10 (n + 1) ws (h.n.mono (by omega)) ((Z_sw h).mono (by omega)), c8 (n + 2) ws (h.n.mono (by omega)) ((Z_sw h).mono (by omega))]
theorem c51 {f : Fm} {b : Nat} (h : OkF b f) (hb : b ≤ 50) : callO P (n + 4) 51 [fD f] ws = some (.tup [F (f.n - sw f), F (f.n + sw f)], ws) := by
  rw [call_at (d := d51) rfl rfl]
  simp only [d51, b51, ev.eq_1, ev.eq_2, ev.eq_3, ev.eq_4, ev.eq_5, ev.eq_6, ev.eq_7, ev.eq_8, ev.eq_9, ev.eq_10, ev.eq_11, ev.eq_12, ev.eq_13, ev.eq_14, ev.eq_15, ev.eq_16, ev.eq_17, ev.eq_18, ev.eq_19, ev.eq_20, ev.eq_21, ev.eq_22, ev.eq_23, ev.eq_24, ev.eq_25, ev.eq_26, ev.eq_27, ev.eq_28, ev.eq_29, evs.eq_1, evs.eq_2, evT, exec.eq_1, exec.eq_2, exec.eq_3, exec.eq_4, exec.eq_5, exec.eq_6, exec.eq_7, exec.eq_8, exec.eq_9, exec.eq_10, exec.eq_11, exec.eq_12, exec.eq_13, exec.eq_14, exec.eq_15, exec.eq_16, exec.eq_19, exec.eq_20, exec.eq_21, exec.eq_22, exec.eq_23, execs.eq_1, execs.eq_2, x_whl, x_for, x_comp, x_compIf, bor, vi, mkEnv, eg, es, frzA, frzS, bn, bt, bind_F, setAll, setPar, wipeE, tgs, b_add, b_sub, b_mul, b_fdiv, b_mod, b_shl, b_shr, b_pow, b_tup, b_lst, o_lt, o_le, o_gt, o_ge, o_eqi, o_nei, o_neb, o_isb, u_len1, u_len2, u_len3, u_abs, u_int, u_lst1, u_lst2, u_tup, u_max, s_int, s_bl, s_tup, s_lst, s_non, s_str, a_add, a_sub, i_tup, i_lst, r_bl, r_int, fin, chk_own, chk_some, isN, bnd, isNone, ixW_0, ixW_1, ixW_2, F_0, F_1, ixW_w, wg_1, wg_0, wp_0, List.map, List.length, List.replicate, List.cons_append, List.nil_append, List.append_nil, Nat.reduceSub, Nat.reduceAdd, Nat.sub_self, Nat.sub_zero, if_true, Bool.false_eq_true, if_false, reduceIte, ite_true, ite_false, Bool.and_self, Bool.and_true, Bool.true_and, Bool.not_true, Bool.not_false, Nat.reduceLT, Nat.reduceLeDiff, decide_true, decide_false, Int.reduceLT, Int.reduceLE, Int.reduceAdd, Int.reduceSub, Int.reduceNeg, Bool.or_true, Bool.or_false, Bool.true_or, Bool.false_or, Bool.and_false, Bool.false_and, c49 n ws h (by omega), c44 (n + 2) ws, c41_2 (n + 1) ws (h.n.mono (by omega)) ((Z_sw h).mono (by omega)), c41_2 (n + 1) ws (h.n.mono (by omega)) (Z_neg ((Z_sw h).mono (by omega)))]
  rw [Rat.sub_eq_add_neg]
/-! a span -/
theorem c22 {p q : Rat} {b : Nat} (hp : Z b p) (hq : Z b q) (hb : b ≤ 100) : callO P (n + 5) 22 [.tup [F p, F q]] ws = some (.tup [F ((p + q) * half), .tup [], F (q - (p + q) * half)], ws) := by
  have h1 := Z_add hp hq
  have h2 := Z_mul h1 Z_half
  rw [call_at (d := d22) rfl rfl]
  simp only [d22, b22, ev.eq_1, ev.eq_2, ev.eq_3, ev.eq_4, ev.eq_5, ev.eq_6, ev.eq_7, ev.eq_8, ev.eq_9, ev.eq_10, ev.eq_11, ev.eq_12, ev.eq_13, ev.eq_14, ev.eq_15, ev.eq_16, ev.eq_17, ev.eq_18, ev.eq_19, ev.eq_20, ev.eq_21, ev.eq_22, ev.eq_23, ev.eq_24, ev.eq_25, ev.eq_26, ev.eq_27, ev.eq_28, ev.eq_29, evs.eq_1, evs.eq_2, evT, exec.eq_1, exec.eq_2, exec.eq_3, exec.eq_4, exec.eq_5, exec.eq_6, exec.eq_7, exec.eq_8, exec.eq_9, exec.eq_10, exec.eq_11, exec.eq_12, exec.eq_13, exec.eq_14, exec.eq_15, exec.eq_16, exec.eq_19, exec.eq_20, exec.eq_21, exec.eq_22, exec.eq_23, execs.eq_1, execs.eq_2, x_whl, x_for, x_comp, x_compIf, bor, vi, mkEnv, eg, es, frzA, frzS, bn, bt, bind_F, setAll, setPar, wipeE, tgs, b_add, b_sub, b_mul, b_fdiv, b_mod, b_shl, b_shr, b_pow, b_tup, b_lst, o_lt, o_le, o_gt, o_ge, o_eqi, o_nei, o_neb, o_isb, u_len1, u_len2, u_len3, u_abs, u_int, u_lst1, u_lst2, u_tup, u_max, s_int, s_bl, s_tup, s_lst, s_non, s_str, a_add, a_sub, i_tup, i_lst, r_bl, r_int, fin, chk_own, chk_some, isN, bnd, isNone, ixW_0, ixW_1, ixW_2, F_0, F_1, ixW_w, wg_1, wg_0, wp_0, List.map, List.length, List.replicate, List.cons_append, List.nil_append, List.append_nil, Nat.reduceSub, Nat.reduceAdd, Nat.sub_self, Nat.sub_zero, if_true, Bool.false_eq_true, if_false, reduceIte, ite_true, ite_false, Bool.and_self, Bool.and_true, Bool.true_and, Bool.not_true, Bool.not_false, Nat.reduceLT, Nat.reduceLeDiff, decide_true, decide_false, Int.reduceLT, Int.reduceLE, Int.reduceAdd, Int.reduceSub, Int.reduceNeg, Bool.or_true, Bool.or_false, Bool.true_or, Bool.false_or, Bool.and_false, Bool.false_and, c8 (n + 1) ws (hp.mono (by omega)) (hq.mono (by omega)), F_half, c11 (n + 1) ws (h1.mono (by omega)) (Z_half.mono (by omega)), c10 n ws (hq.mono (by omega)) (h2.mono (by omega))]
theorem c56 {p q : Rat} {b : Nat} (hp : Z b p) (hq : Z b q) (hb : b ≤ 100) : callO P (n + 3) 56 [.tup [F p, F q]] ws = some (.tup [F ((p + q) * half), .tup [], F (q - (p + q) * half)], ws) := by
  have h1 := Z_add hp hq
  have h2 := Z_mul h1 Z_half
  rw [call_at (d := d56) rfl rfl]
  simp only [d56, b56, ev.eq_1, ev.eq_2, ev.eq_3, ev.eq_4, ev.eq_5, ev.eq_6, ev.eq_7, ev.eq_8, ev.eq_9, ev.eq_10, ev.eq_11, ev.eq_12, ev.eq_13, ev.eq_14, ev.eq_15, ev.eq_16, ev.eq_17, ev.eq_18, ev.eq_19, ev.eq_20, ev.eq_21, ev.eq_22, ev.eq_23, ev.eq_24, ev.eq_25, ev.eq_26, ev.eq_27, ev.eq_28, ev.eq_29, evs.eq_1, evs.eq_2, evT, exec.eq_1, exec.eq_2, exec.eq_3, exec.eq_4, exec.eq_5, exec.eq_6, exec.eq_7, exec.eq_8, exec.eq_9, exec.eq_10, exec.eq_11, exec.eq_12, exec.eq_13, exec.eq_14, exec.eq_15, exec.eq_16, exec.eq_19, exec.eq_20, exec.eq_21, exec.eq_22, exec.eq_23, execs.eq_1, execs.eq_2, x_whl, x_for, x_comp, x_compIf, bor, vi, mkEnv, eg, es, frzA, frzS, bn, bt, bind_F, setAll, setPar, wipeE, tgs, b_add, b_sub, b_mul, b_fdiv, b_mod, b_shl, b_shr, b_pow, b_tup, b_lst, o_lt, o_le, o_gt, o_ge, o_eqi, o_nei, o_neb, o_isb, u_len1, u_len2, u_len3, u_abs, u_int, u_lst1, u_lst2, u_tup, u_max, s_int, s_bl, s_tup, s_lst, s_non, s_str, a_add, a_sub, i_tup, i_lst, r_bl, r_int, fin, chk_own, chk_some, isN, bnd, isNone, ixW_0, ixW_1, ixW_2, F_0, F_1, ixW_w, wg_1, wg_0, wp_0, List.map, List.length, List.replicate, List.cons_append, List.nil_append, List.append_nil, Nat.reduceSub, Nat.reduceAdd, Nat.sub_self, Nat.sub_zero, if_true, Bool.false_eq_true, if_false, reduceIte, ite_true, ite_false, Bool.and_self, Bool.and_true, Bool.true_and, Bool.not_true, Bool.not_false, Nat.reduceLT, Nat.reduceLeDiff, decide_true, decide_false, Int.reduceLT, Int.reduceLE, Int.reduceAdd, Int.reduceSub, Int.reduceNeg, Bool.or_true, Bool.or_false, Bool.true_or, Bool.false_or, Bool.and_false, Bool.false_and, c41_2 n ws (hp.mono (by omega)) (hq.mono (by omega)), F_half, c43 n ws (h1.mono (by omega)) (Z_half.mono (by omega)), c44 (n + 1) ws, c41_2 n ws (hq.mono (by omega)) (Z_neg (h2.mono (by omega)))]
  rw [← Rat.sub_eq_add_neg]
theorem c20 {x : D} : callO P (n + 1) 20 [x] ws = some (.tup [x, .tup [], F 0], ws) := by
  rw [call_at (d := d20) rfl rfl]
  simp only [d20, b20, ev.eq_1, ev.eq_2, ev.eq_3, ev.eq_4, ev.eq_5, ev.eq_6, ev.eq_7, ev.eq_8, ev.eq_9, ev.eq_10, ev.eq_11, ev.eq_12, ev.eq_13, ev.eq_14, ev.eq_15, ev.eq_16, ev.eq_17, ev.eq_18, ev.eq_19, ev.eq_20, ev.eq_21, ev.eq_22, ev.eq_23, ev.eq_24, ev.eq_25, ev.eq_26, ev.eq_27, ev.eq_28, ev.eq_29, evs.eq_1, evs.eq_2, evT, exec.eq_1, exec.eq_2, exec.eq_3, exec.eq_4, exec.eq_5, exec.eq_6, exec.eq_7, exec.eq_8, exec.eq_9, exec.eq_10, exec.eq_11, exec.eq_12, exec.eq_13, exec.eq_14, exec.eq_15, exec.eq_16, exec.eq_19, exec.eq_20, exec.eq_21, exec.eq_22, exec.eq_23, execs.eq_1, execs.eq_2, x_whl, x_for, x_comp, x_compIf, bor, vi, mkEnv, eg, es, frzA, frzS, bn, bt, bind_F, setAll, setPar, wipeE, tgs, b_add, b_sub, b_mul, b_fdiv, b_mod, b_shl, b_shr, b_pow, b_tup, b_lst, o_lt, o_le, o_gt, o_ge, o_eqi, o_nei, o_neb, o_isb, u_len1, u_len2, u_len3, u_abs, u_int, u_lst1, u_lst2, u_tup, u_max, s_int, s_bl, s_tup, s_lst, s_non, s_str, a_add, a_sub, i_tup, i_lst, r_bl, r_int, fin, chk_own, chk_some, isN, bnd, isNone, ixW_0, ixW_1, ixW_2, F_0, F_1, ixW_w, wg_1, wg_0, wp_0, List.map, List.length, List.replicate, List.cons_append, List.nil_append, List.append_nil, Nat.reduceSub, Nat.reduceAdd, Nat.sub_self, Nat.sub_zero, if_true, Bool.false_eq_true, if_false, reduceIte, ite_true, ite_false, Bool.and_self, Bool.and_true, Bool.true_and, Bool.not_true, Bool.not_false, Nat.reduceLT, Nat.reduceLeDiff, decide_true, decide_false, Int.reduceLT, Int.reduceLE, Int.reduceAdd, Int.reduceSub, Int.reduceNeg, Bool.or_true, Bool.or_false, Bool.true_or, Bool.false_or, Bool.and_false, Bool.false_and, F_0']
theorem c29 {x y : D} {p q : Rat} (hp : Z 1000 p) (hq : Z 1000 q) : callO P (n + 4) 29 [.tup [x, y, F p], F q] ws = some (.tup [x, y, F (p + q)], ws) := by
  have ol : okLen (2 + 1) = true := ol_le (by decide)
  rw [call_at (d := d29) rfl rfl]
  simp only [d29, b29, ev.eq_1, ev.eq_2, ev.eq_3, ev.eq_4, ev.eq_5, ev.eq_6, ev.eq_7, ev.eq_8, ev.eq_9, ev.eq_10, ev.eq_11, ev.eq_12, ev.eq_13, ev.eq_14, ev.eq_15, ev.eq_16, ev.eq_17, ev.eq_18, ev.eq_19, ev.eq_20, ev.eq_21, ev.eq_22, ev.eq_23, ev.eq_24, ev.eq_25, ev.eq_26, ev.eq_27, ev.eq_28, ev.eq_29, evs.eq_1, evs.eq_2, evT, exec.eq_1, exec.eq_2, exec.eq_3, exec.eq_4, exec.eq_5, exec.eq_6, exec.eq_7, exec.eq_8, exec.eq_9, exec.eq_10, exec.eq_11, exec.eq_12, exec.eq_13, exec.eq_14, exec.eq_15, exec.eq_16, exec.eq_19, exec.eq_20, exec.eq_21, exec.eq_22, exec.eq_23, execs.eq_1, execs.eq_2, x_whl, x_for, x_comp, x_compIf, bor, vi, mkEnv, eg, es, frzA, frzS, bn, bt, bind_F, setAll, setPar, wipeE, tgs, b_add, b_sub, b_mul, b_fdiv, b_mod, b_shl, b_shr, b_pow, b_tup, b_lst, o_lt, o_le, o_gt, o_ge, o_eqi, o_nei, o_neb, o_isb, u_len1, u_len2, u_len3, u_abs, u_int, u_lst1, u_lst2, u_tup, u_max, s_int, s_bl, s_tup, s_lst, s_non, s_str, a_add, a_sub, i_tup, i_lst, r_bl, r_int, fin, chk_own, chk_some, isN, bnd, isNone, ixW_0, ixW_1, ixW_2, F_0, F_1, ixW_w, wg_1, wg_0, wp_0, List.map, List.length, List.replicate, List.cons_append, List.nil_append, List.append_nil, Nat.reduceSub, Nat.reduceAdd, Nat.sub_self, Nat.sub_zero, if_true, Bool.false_eq_true, if_false, reduceIte, ite_true, ite_false, Bool.and_self, Bool.and_true, Bool.true_and, Bool.not_true, Bool.not_false, Nat.reduceLT, Nat.reduceLeDiff, decide_true, decide_false, Int.reduceLT, Int.reduceLE, Int.reduceAdd, Int.reduceSub, Int.reduceNeg, Bool.or_true, Bool.or_false, Bool.true_or, Bool.false_or, Bool.and_false, Bool.false_and, sl_02, c8 n ws hp hq, ol]
theorem c54 {x y : D} {p q : Rat} (hp : Z 400 p) (hq : Z 400 q) : callO P (n + 3) 54 [.tup [x, y, F p], F q] ws = some (.tup [x, y, F (p + q)], ws) := by
  rw [call_at (d := d54) rfl rfl]
  simp only [d54, b54, ev.eq_1, ev.eq_2, ev.eq_3, ev.eq_4, ev.eq_5, ev.eq_6, ev.eq_7, ev.eq_8, ev.eq_9, ev.eq_10, ev.eq_11, ev.eq_12, ev.eq_13, ev.eq_14, ev.eq_15, ev.eq_16, ev.eq_17, ev.eq_18, ev.eq_19, ev.eq_20, ev.eq_21, ev.eq_22, ev.eq_23, ev.eq_24, ev.eq_25, ev.eq_26, ev.eq_27, ev.eq_28, ev.eq_29, evs.eq_1, evs.eq_2, evT, exec.eq_1, exec.eq_2, exec.eq_3, exec.eq_4, exec.eq_5, exec.eq_6, exec.eq_7, exec.eq_8, exec.eq_9, exec.eq_10, exec.eq_11, exec.eq_12, exec.eq_13, exec.eq_14, exec.eq_15, exec.eq_16, exec.eq_19, exec.eq_20, exec.eq_21, exec.eq_22, exec.eq_23, execs.eq_1, execs.eq_2, x_whl, x_for, x_comp, x_compIf, bor, vi, mkEnv, eg, es, frzA, frzS, bn, bt, bind_F, setAll, setPar, wipeE, tgs, b_add, b_sub, b_mul, b_fdiv, b_mod, b_shl, b_shr, b_pow, b_tup, b_lst, o_lt, o_le, o_gt, o_ge, o_eqi, o_nei, o_neb, o_isb, u_len1, u_len2, u_len3, u_abs, u_int, u_lst1, u_lst2, u_tup, u_max, s_int, s_bl, s_tup, s_lst, s_non, s_str, a_add, a_sub, i_tup, i_lst, r_bl, r_int, fin, chk_own, chk_some, isN, bnd, isNone, ixW_0, ixW_1, ixW_2, F_0, F_1, ixW_w, wg_1, wg_0, wp_0, List.map, List.length, List.replicate, List.cons_append, List.nil_append, List.append_nil, Nat.reduceSub, Nat.reduceAdd, Nat.sub_self, Nat.sub_zero, if_true, Bool.false_eq_true, if_false, reduceIte, ite_true, ite_false, Bool.and_self, Bool.and_true, Bool.true_and, Bool.not_true, Bool.not_false, Nat.reduceLT, Nat.reduceLeDiff, decide_true, decide_false, Int.reduceLT, Int.reduceLE, Int.reduceAdd, Int.reduceSub, Int.reduceNeg, Bool.or_true, Bool.or_false, Bool.true_or, Bool.false_or, Bool.and_false, Bool.false_and, c41_2 n ws hp hq]
end Pv.K36


set_option Elab.async false
set_option linter.all false
set_option maxRecDepth 100000
set_option exponentiation.threshold 20
/-! M6: joint, scaled, product. -/
namespace Pv.K36
open Pv
variable (n : Nat) (ws : WS)
theorem get_k (a : KV) (m : Int) : (dget (kD a) (vD a) (.int m)).getD (F 0) = F (val a m) := by
  rw [dget_k]
  unfold val
  cases look a m <;> rfl
theorem isK_i (m : Int) : isK (.int m) = true := rfl
theorem len_k (a : KV) : (kD a).length = a.length := by unfold kD; rw [List.length_map]
theorem bind_r (env : Env) (i j : Nat) (x : Int × Rat) : bindT env (.tp [i, j]) (rD x) = some (es (es env i (.va (.int x.1))) j (.va (F x.2))) := rfl
def joinK (a kv : KV) : KV := kv.foldl (fun a x => put a x.1 (val a x.1 + x.2)) a
theorem Z_val {a : KV} {k : Nat} (hk : 1 ≤ k) (h : ∀ x ∈ a, Z k x.2) (m : Int) : Z k (val a m) := val_of (Z k) (Z_0 hk) h m
theorem Z_put {a : KV} {k j : Nat} {m : Int} {q : Rat} (h : ∀ x ∈ a, Z k x.2) (hq : Z j q) (e : k ≤ j) : ∀ x ∈ put a m q, Z j x.2 := fun x hx => by
  rcases mem_put hx with rfl | hx
  · exact hq
  · exact (h x hx).mono e
theorem join26 {x y : D} {j : Nat} (hj : j ≤ 1000) : ∀ {kv a : KV} {k : Nat} {t u : Slot}, 1 ≤ k → (∀ x ∈ a, Z k x.2) → (∀ x ∈ kv, Z j x.2) → k + kv.length * (j + 1) ≤ 1000 → a.length + kv.length ≤ 1000 →
    ∃ t' u', forX (callO P (n + 3)) (.tp [3, 4]) l26_0 (kv.map rD) [.va x, .va y, .ow (dD a), t, u] ws = some (.nx, [.va x, .va y, .ow (dD (joinK a kv)), t', u'], ws)
  | [], a, k, t, u, _, _, _, _, _ => ⟨t, u, rfl⟩
  | p :: kv, a, k, t, u, hk, ha, hx, hl, hn => by
    rw [List.length_cons, Nat.add_mul] at hl
    rw [List.length_cons] at hn
    have hp := hx p List.mem_cons_self
    have hv := Z_val hk ha p.1
    have hs := Z_add hv hp
    have := len_put a p.1 (val a p.1 + p.2)
    obtain ⟨t', u', e⟩ := join26 (x := x) (y := y) hj (kv := kv) (a := put a p.1 (val a p.1 + p.2)) (t := .va (.int p.1)) (u := .va (F p.2)) (by omega) (Z_put ha hs (by omega)) (fun z hz => hx z (List.mem_cons_of_mem _ hz)) (by omega) (by omega)
    refine ⟨t', u', ?_⟩
    have ol : okLen (kD a).length = true := ol_le (by rw [len_k]; omega)
    rw [List.map_cons, for_cons]
    simp only [l26_0, bind_r, ev.eq_1, ev.eq_2, ev.eq_3, ev.eq_4, ev.eq_5, ev.eq_6, ev.eq_7, ev.eq_8, ev.eq_9, ev.eq_10, ev.eq_11, ev.eq_12, ev.eq_13, ev.eq_14, ev.eq_15, ev.eq_16, ev.eq_17, ev.eq_18, ev.eq_19, ev.eq_20, ev.eq_21, ev.eq_22, ev.eq_23, ev.eq_24, ev.eq_25, ev.eq_26, ev.eq_27, ev.eq_28, ev.eq_29, evs.eq_1, evs.eq_2, evT, exec.eq_1, exec.eq_2, exec.eq_3, exec.eq_4, exec.eq_5, exec.eq_6, exec.eq_7, exec.eq_8, exec.eq_9, exec.eq_10, exec.eq_11, exec.eq_12, exec.eq_13, exec.eq_14, exec.eq_15, exec.eq_16, exec.eq_19, exec.eq_20, exec.eq_21, exec.eq_22, exec.eq_23, execs.eq_1, execs.eq_2, x_whl, x_for, x_comp, x_compIf, bor, vi, mkEnv, eg, es, frzA, frzS, bn, bt, bind_F, setAll, setPar, wipeE, tgs, b_add, b_sub, b_mul, b_fdiv, b_mod, b_shl, b_shr, b_pow, b_tup, b_lst, o_lt, o_le, o_gt, o_ge, o_eqi, o_nei, o_neb, o_isb, u_len1, u_len2, u_len3, u_abs, u_int, u_lst1, u_lst2, u_tup, u_max, s_int, s_bl, s_tup, s_lst, s_non, s_str, a_add, a_sub, i_tup, i_lst, r_bl, r_int, fin, chk_own, chk_some, isN, bnd, isNone, ixW_0, ixW_1, ixW_2, F_0, F_1, ixW_w, wg_1, wg_0, wp_0, List.map, List.length, List.replicate, List.cons_append, List.nil_append, List.append_nil, Nat.reduceSub, Nat.reduceAdd, Nat.sub_self, Nat.sub_zero, if_true, Bool.false_eq_true, if_false, reduceIte, ite_true, ite_false, Bool.and_self, Bool.and_true, Bool.true_and, Bool.not_true, Bool.not_false, Nat.reduceLT, Nat.reduceLeDiff, decide_true, decide_false, Int.reduceLT, Int.reduceLE, Int.reduceAdd, Int.reduceSub, Int.reduceNeg, Bool.or_true, Bool.or_false, Bool.true_or, Bool.false_or, Bool.and_false, Bool.false_and, F_0', isK_i, get_k, c8 n ws (hv.mono (by omega)) (hp.mono hj), ol, (put_k a p.1 (val a p.1 + p.2)).1, (put_k a p.1 (val a p.1 + p.2)).2]
    exact e
theorem join52 {x y : D} {j : Nat} (hj : j ≤ 400) : ∀ {kv a : KV} {k : Nat} {t u : Slot}, 1 ≤ k → (∀ x ∈ a, Z k x.2) → (∀ x ∈ kv, Z j x.2) → k + kv.length * (j + 1) ≤ 400 → a.length + kv.length ≤ 1000 →
    ∃ t' u', forX (callO P (n + 2)) (.tp [3, 4]) l52_0 (kv.map rD) [.va x, .va y, .ow (dD a), t, u] ws = some (.nx, [.va x, .va y, .ow (dD (joinK a kv)), t', u'], ws)
  | [], a, k, t, u, _, _, _, _, _ => ⟨t, u, rfl⟩
  | p :: kv, a, k, t, u, hk, ha, hx, hl, hn => by
    rw [List.length_cons, Nat.add_mul] at hl
    rw [List.length_cons] at hn
    have hp := hx p List.mem_cons_self
    have hv := Z_val hk ha p.1
    have hs := Z_add hv hp
    have := len_put a p.1 (val a p.1 + p.2)
    obtain ⟨t', u', e⟩ := join52 (x := x) (y := y) hj (kv := kv) (a := put a p.1 (val a p.1 + p.2)) (t := .va (.int p.1)) (u := .va (F p.2)) (by omega) (Z_put ha hs (by omega)) (fun z hz => hx z (List.mem_cons_of_mem _ hz)) (by omega) (by omega)
    refine ⟨t', u', ?_⟩
    have ol : okLen (kD a).length = true := ol_le (by rw [len_k]; omega)
    rw [List.map_cons, for_cons]
    simp only [l52_0, bind_r, ev.eq_1, ev.eq_2, ev.eq_3, ev.eq_4, ev.eq_5, ev.eq_6, ev.eq_7, ev.eq_8, ev.eq_9, ev.eq_10, ev.eq_11, ev.eq_12, ev.eq_13, ev.eq_14, ev.eq_15, ev.eq_16, ev.eq_17, ev.eq_18, ev.eq_19, ev.eq_20, ev.eq_21, ev.eq_22, ev.eq_23, ev.eq_24, ev.eq_25, ev.eq_26, ev.eq_27, ev.eq_28, ev.eq_29, evs.eq_1, evs.eq_2, evT, exec.eq_1, exec.eq_2, exec.eq_3, exec.eq_4, exec.eq_5, exec.eq_6, exec.eq_7, exec.eq_8, exec.eq_9, exec.eq_10, exec.eq_11, exec.eq_12, exec.eq_13, exec.eq_14, exec.eq_15, exec.eq_16, exec.eq_19, exec.eq_20, exec.eq_21, exec.eq_22, exec.eq_23, execs.eq_1, execs.eq_2, x_whl, x_for, x_comp, x_compIf, bor, vi, mkEnv, eg, es, frzA, frzS, bn, bt, bind_F, setAll, setPar, wipeE, tgs, b_add, b_sub, b_mul, b_fdiv, b_mod, b_shl, b_shr, b_pow, b_tup, b_lst, o_lt, o_le, o_gt, o_ge, o_eqi, o_nei, o_neb, o_isb, u_len1, u_len2, u_len3, u_abs, u_int, u_lst1, u_lst2, u_tup, u_max, s_int, s_bl, s_tup, s_lst, s_non, s_str, a_add, a_sub, i_tup, i_lst, r_bl, r_int, fin, chk_own, chk_some, isN, bnd, isNone, ixW_0, ixW_1, ixW_2, F_0, F_1, ixW_w, wg_1, wg_0, wp_0, List.map, List.length, List.replicate, List.cons_append, List.nil_append, List.append_nil, Nat.reduceSub, Nat.reduceAdd, Nat.sub_self, Nat.sub_zero, if_true, Bool.false_eq_true, if_false, reduceIte, ite_true, ite_false, Bool.and_self, Bool.and_true, Bool.true_and, Bool.not_true, Bool.not_false, Nat.reduceLT, Nat.reduceLeDiff, decide_true, decide_false, Int.reduceLT, Int.reduceLE, Int.reduceAdd, Int.reduceSub, Int.reduceNeg, Bool.or_true, Bool.or_false, Bool.true_or, Bool.false_or, Bool.and_false, Bool.false_and, F_0', isK_i, get_k, c41_2 n ws (hv.mono (by omega)) (hp.mono hj), ol, (put_k a p.1 (val a p.1 + p.2)).1, (put_k a p.1 (val a p.1 + p.2)).2]
    exact e
theorem len_join : ∀ (kv a : KV), (joinK a kv).length ≤ a.length + kv.length
  | [], a => Nat.le_refl _
  | p :: kv, a => by
    have h1 := len_join kv (put a p.1 (val a p.1 + p.2))
    have h2 := len_put a p.1 (val a p.1 + p.2)
    show (joinK (put a p.1 _) kv).length ≤ _
    rw [List.length_cons]
    omega
theorem nd_join : ∀ {kv a : KV}, (keys a).Nodup → (keys (joinK a kv)).Nodup
  | [], a, h => h
  | p :: kv, a, h => nd_join (kv := kv) (nd_put h)
def joinF (f g : Fm) : Fm := ⟨f.n + g.n, strK (joinK f.k g.k), f.r + g.r⟩
theorem jl {f g : Fm} {b c : Nat} (h : OkF b f) (h2 : OkF c g) : (joinK f.k g.k).length < 64 := by
  have := len_join g.k f.k
  have := h.l
  have := h2.l
  omega
theorem jm {g : Fm} {b c k : Nat} (h : OkF c g) (e : b + 4 * (c + 1) ≤ k) : b + g.k.length * (c + 1) ≤ k := by
  have := Nat.mul_le_mul_right (c + 1) h.l
  omega
theorem c26 {f g : Fm} {b c : Nat} (hf : OkF b f) (hg : OkF c g) (hb : 1 ≤ b) (hb2 : b ≤ 100) (hc : c ≤ 50) : callO P (n + 4) 26 [fD f, fD g] ws = some (fD (joinF f g), ws) := by
  obtain ⟨t, u, e⟩ := join26 n ws (x := fD f) (y := fD g) (by omega) (t := .un) (u := .un) hb hf.k hg.k (jm hg (by omega)) (by have := hf.l; have := hg.l; omega)
  rw [call_at (d := d26) rfl rfl]
  simp only [d26, b26, ev.eq_1, ev.eq_2, ev.eq_3, ev.eq_4, ev.eq_5, ev.eq_6, ev.eq_7, ev.eq_8, ev.eq_9, ev.eq_10, ev.eq_11, ev.eq_12, ev.eq_13, ev.eq_14, ev.eq_15, ev.eq_16, ev.eq_17, ev.eq_18, ev.eq_19, ev.eq_20, ev.eq_21, ev.eq_22, ev.eq_23, ev.eq_24, ev.eq_25, ev.eq_26, ev.eq_27, ev.eq_28, ev.eq_29, evs.eq_1, evs.eq_2, evT, exec.eq_1, exec.eq_2, exec.eq_3, exec.eq_4, exec.eq_5, exec.eq_6, exec.eq_7, exec.eq_8, exec.eq_9, exec.eq_10, exec.eq_11, exec.eq_12, exec.eq_13, exec.eq_14, exec.eq_15, exec.eq_16, exec.eq_19, exec.eq_20, exec.eq_21, exec.eq_22, exec.eq_23, execs.eq_1, execs.eq_2, x_whl, x_for, x_comp, x_compIf, bor, vi, mkEnv, eg, es, frzA, frzS, bn, bt, bind_F, setAll, setPar, wipeE, tgs, b_add, b_sub, b_mul, b_fdiv, b_mod, b_shl, b_shr, b_pow, b_tup, b_lst, o_lt, o_le, o_gt, o_ge, o_eqi, o_nei, o_neb, o_isb, u_len1, u_len2, u_len3, u_abs, u_int, u_lst1, u_lst2, u_tup, u_max, s_int, s_bl, s_tup, s_lst, s_non, s_str, a_add, a_sub, i_tup, i_lst, r_bl, r_int, fin, chk_own, chk_some, isN, bnd, isNone, ixW_0, ixW_1, ixW_2, F_0, F_1, ixW_w, wg_1, wg_0, wp_0, List.map, List.length, List.replicate, List.cons_append, List.nil_append, List.append_nil, Nat.reduceSub, Nat.reduceAdd, Nat.sub_self, Nat.sub_zero, if_true, Bool.false_eq_true, if_false, reduceIte, ite_true, ite_false, Bool.and_self, Bool.and_true, Bool.true_and, Bool.not_true, Bool.not_false, Nat.reduceLT, Nat.reduceLeDiff, decide_true, decide_false, Int.reduceLT, Int.reduceLE, Int.reduceAdd, Int.reduceSub, Int.reduceNeg, Bool.or_true, Bool.or_false, Bool.true_or, Bool.false_or, Bool.and_false, Bool.false_and, (c_dict hf.nd).1, e, c8 n ws (hf.n.mono (by omega)) (hg.n.mono (by omega)), c8 n ws (hf.r.mono (by omega)) (hg.r.mono (by omega)), c19 (n + 2) ws (jl hf hg)]
  rfl
theorem c52 {f g : Fm} {b c : Nat} (hf : OkF b f) (hg : OkF c g) (hb : 1 ≤ b) (hb2 : b ≤ 100) (hc : c ≤ 50) : callO P (n + 3) 52 [fD f, fD g] ws = some (fD (joinF f g), ws) := by
  obtain ⟨t, u, e⟩ := join52 n ws (x := fD f) (y := fD g) (by omega) (t := .un) (u := .un) hb hf.k hg.k (jm hg (by omega)) (by have := hf.l; have := hg.l; omega)
  rw [call_at (d := d52) rfl rfl]
  simp only [d52, b52, ev.eq_1, ev.eq_2, ev.eq_3, ev.eq_4, ev.eq_5, ev.eq_6, ev.eq_7, ev.eq_8, ev.eq_9, ev.eq_10, ev.eq_11, ev.eq_12, ev.eq_13, ev.eq_14, ev.eq_15, ev.eq_16, ev.eq_17, ev.eq_18, ev.eq_19, ev.eq_20, ev.eq_21, ev.eq_22, ev.eq_23, ev.eq_24, ev.eq_25, ev.eq_26, ev.eq_27, ev.eq_28, ev.eq_29, evs.eq_1, evs.eq_2, evT, exec.eq_1, exec.eq_2, exec.eq_3, exec.eq_4, exec.eq_5, exec.eq_6, exec.eq_7, exec.eq_8, exec.eq_9, exec.eq_10, exec.eq_11, exec.eq_12, exec.eq_13, exec.eq_14, exec.eq_15, exec.eq_16, exec.eq_19, exec.eq_20, exec.eq_21, exec.eq_22, exec.eq_23, execs.eq_1, execs.eq_2, x_whl, x_for, x_comp, x_compIf, bor, vi, mkEnv, eg, es, frzA, frzS, bn, bt, bind_F, setAll, setPar, wipeE, tgs, b_add, b_sub, b_mul, b_fdiv, b_mod, b_shl, b_shr, b_pow, b_tup, b_lst, o_lt, o_le, o_gt, o_ge, o_eqi, o_nei, o_neb, o_isb, u_len1, u_len2, u_len3, u_abs, u_int, u_lst1, u_lst2, u_tup, u_max, s_int, s_bl, s_tup, s_lst, s_non, s_str, a_add, a_sub, i_tup, i_lst, r_bl, r_int, fin, chk_own, chk_some, isN, bnd, isNone, ixW_0, ixW_1, ixW_2, F_0, F_1, ixW_w, wg_1, wg_0, wp_0, List.map, List.length, List.replicate, List.cons_append, List.nil_append, List.append_nil, Nat.reduceSub, Nat.reduceAdd, Nat.sub_self, Nat.sub_zero, if_true, Bool.false_eq_true, if_false, reduceIte, ite_true, ite_false, Bool.and_self, Bool.and_true, Bool.true_and, Bool.not_true, Bool.not_false, Nat.reduceLT, Nat.reduceLeDiff, decide_true, decide_false, Int.reduceLT, Int.reduceLE, Int.reduceAdd, Int.reduceSub, Int.reduceNeg, Bool.or_true, Bool.or_false, Bool.true_or, Bool.false_or, Bool.and_false, Bool.false_and, (c_dict hf.nd).1, e, c41_2 n ws (hf.n.mono (by omega)) (hg.n.mono (by omega)), c41_2 n ws (hf.r.mono (by omega)) (hg.r.mono (by omega)), c48 (n + 1) ws (jl hf hg)]
  rfl
/-! scaled -/
def scK (a : KV) (q : Rat) : KV := a.map fun x => (x.1, x.2 * q)
def scF (f : Fm) (q : Rat) : Fm := ⟨f.n * q, strK (scK f.k q), f.r * ab q⟩
theorem keys_sc (a : KV) (q : Rat) : keys (scK a q) = keys a := by unfold keys scK; rw [List.map_map]; rfl
theorem len_sc (a : KV) (q : Rat) : (scK a q).length = a.length := by unfold scK; rw [List.length_map]
theorem Ok_sc {f : Fm} {q : Rat} {b c : Nat} (h : OkF b f) (hq : Z c q) : OkF (b + c) (scF f q) := by
  have nd : (keys (scK f.k q)).Nodup := by rw [keys_sc]; exact h.nd
  refine ⟨Z_mul h.n hq, fun x hx => ?_, Z_mul h.r (Z_ab hq), ?_, up_strK nd⟩
  · obtain ⟨h1, h2, _⟩ := mem_strK hx
    rw [h2]
    have : ∃ y ∈ scK f.k q, y.1 = x.1 := by
      obtain ⟨y, hy, e⟩ := List.mem_map.mp h1
      exact ⟨y, hy, e⟩
    obtain ⟨y, hy, e⟩ := this
    rw [← e, val_nd nd hy]
    obtain ⟨z, hz, rfl⟩ := List.mem_map.mp hy
    exact Z_mul (h.k z hz) hq
  · refine Nat.le_trans (len_strK _) ?_
    rw [len_sc]
    exact h.l
theorem sc_rows (a : KV) (q : Rat) : a.map (fun x => D.tup [.int x.1, F (x.2 * q)]) = (scK a q).map rD := by
  unfold scK
  rw [List.map_map]
  rfl
theorem c27 {f : Fm} {q : Rat} {b c : Nat} (h : OkF b f) (hq : Z c q) (hb : b ≤ 400) (hc : c ≤ 400) : callO P (n + 4) 27 [fD f, F q] ws = some (fD (scF f q), ws) := by
  have e := cmp_map (Φ := callO P (n + 3)) (tg := .tp [3, 4]) (elt := x27_0) (env := [.va (fD f), .va (F q), .un, .un, .un]) (ws := ws) (xs := f.k) (rep := rD) (g := fun x => D.tup [.int x.1, F (x.2 * q)]) fun x hx => by
    refine ⟨[.va (fD f), .va (F q), .un, .va (.int x.1), .va (F x.2)], rfl, ?_⟩
    simp only [x27_0, ev.eq_1, ev.eq_2, ev.eq_3, ev.eq_4, ev.eq_5, ev.eq_6, ev.eq_7, ev.eq_8, ev.eq_9, ev.eq_10, ev.eq_11, ev.eq_12, ev.eq_13, ev.eq_14, ev.eq_15, ev.eq_16, ev.eq_17, ev.eq_18, ev.eq_19, ev.eq_20, ev.eq_21, ev.eq_22, ev.eq_23, ev.eq_24, ev.eq_25, ev.eq_26, ev.eq_27, ev.eq_28, ev.eq_29, evs.eq_1, evs.eq_2, evT, exec.eq_1, exec.eq_2, exec.eq_3, exec.eq_4, exec.eq_5, exec.eq_6, exec.eq_7, exec.eq_8, exec.eq_9, exec.eq_10, exec.eq_11, exec.eq_12, exec.eq_13, exec.eq_14, exec.eq_15, exec.eq_16, exec.eq_19, exec.eq_20, exec.eq_21, exec.eq_22, exec.eq_23, execs.eq_1, execs.eq_2, x_whl, x_for, x_comp, x_compIf, bor, vi, mkEnv, eg, es, frzA, frzS, bn, bt, bind_F, setAll, setPar, wipeE, tgs, b_add, b_sub, b_mul, b_fdiv, b_mod, b_shl, b_shr, b_pow, b_tup, b_lst, o_lt, o_le, o_gt, o_ge, o_eqi, o_nei, o_neb, o_isb, u_len1, u_len2, u_len3, u_abs, u_int, u_lst1, u_lst2, u_tup, u_max, s_int, s_bl, s_tup, s_lst, s_non, s_str, a_add, a_sub, i_tup, i_lst, r_bl, r_int, fin, chk_own, chk_some, isN, bnd, isNone, ixW_0, ixW_1, ixW_2, F_0, F_1, ixW_w, wg_1, wg_0, wp_0, List.map, List.length, List.replicate, List.cons_append, List.nil_append, List.append_nil, Nat.reduceSub, Nat.reduceAdd, Nat.sub_self, Nat.sub_zero, if_true, Bool.false_eq_true, if_false, reduceIte, ite_true, ite_false, Bool.and_self, Bool.and_true, Bool.true_and, Bool.not_true, Bool.not_false, Nat.reduceLT, Nat.reduceLeDiff, decide_true, decide_false, Int.reduceLT, Int.reduceLE, Int.reduceAdd, Int.reduceSub, Int.reduceNeg, Bool.or_true, Bool.or_false, Bool.true_or, Bool.false_or, Bool.and_false, Bool.false_and, c11 n ws ((h.k x hx).mono (by omega)) (hq.mono (by omega))]
  rw [sc_rows] at e
  have nd : (keys (scK f.k q)).Nodup := by rw [keys_sc]; exact h.nd
  have hl : (scK f.k q).length < 64 := by rw [len_sc]; have := h.l; omega
  rw [call_at (d := d27) rfl rfl]
  simp only [d27, b27, ev.eq_1, ev.eq_2, ev.eq_3, ev.eq_4, ev.eq_5, ev.eq_6, ev.eq_7, ev.eq_8, ev.eq_9, ev.eq_10, ev.eq_11, ev.eq_12, ev.eq_13, ev.eq_14, ev.eq_15, ev.eq_16, ev.eq_17, ev.eq_18, ev.eq_19, ev.eq_20, ev.eq_21, ev.eq_22, ev.eq_23, ev.eq_24, ev.eq_25, ev.eq_26, ev.eq_27, ev.eq_28, ev.eq_29, evs.eq_1, evs.eq_2, evT, exec.eq_1, exec.eq_2, exec.eq_3, exec.eq_4, exec.eq_5, exec.eq_6, exec.eq_7, exec.eq_8, exec.eq_9, exec.eq_10, exec.eq_11, exec.eq_12, exec.eq_13, exec.eq_14, exec.eq_15, exec.eq_16, exec.eq_19, exec.eq_20, exec.eq_21, exec.eq_22, exec.eq_23, execs.eq_1, execs.eq_2, x_whl, x_for, x_comp, x_compIf, bor, vi, mkEnv, eg, es, frzA, frzS, bn, bt, bind_F, setAll, setPar, wipeE, tgs, b_add, b_sub, b_mul, b_fdiv, b_mod, b_shl, b_shr, b_pow, b_tup, b_lst, o_lt, o_le, o_gt, o_ge, o_eqi, o_nei, o_neb, o_isb, u_len1, u_len2, u_len3, u_abs, u_int, u_lst1, u_lst2, u_tup, u_max, s_int, s_bl, s_tup, s_lst, s_non, s_str, a_add, a_sub, i_tup, i_lst, r_bl, r_int, fin, chk_own, chk_some, isN, bnd, isNone, ixW_0, ixW_1, ixW_2, F_0, F_1, ixW_w, wg_1, wg_0, wp_0, List.map, List.length, List.replicate, List.cons_append, List.nil_append, List.append_nil, Nat.reduceSub, Nat.reduceAdd, Nat.sub_self, Nat.sub_zero, if_true, Bool.false_eq_true, if_false, reduceIte, ite_true, ite_false, Bool.and_self, Bool.and_true, Bool.true_and, Bool.not_true, Bool.not_false, Nat.reduceLT, Nat.reduceLeDiff, decide_true, decide_false, Int.reduceLT, Int.reduceLE, Int.reduceAdd, Int.reduceSub, Int.reduceNeg, Bool.or_true, Bool.or_false, Bool.true_or, Bool.false_or, Bool.and_false, Bool.false_and, List.length_map, rows_len h, e, (c_dict nd).2, c11 n ws (h.n.mono (by omega)) (hq.mono (by omega)), c12 (n + 2) ws, c11 n ws (h.r.mono (by omega)) ((Z_ab hq).mono (by omega)), c19 (n + 2) ws hl]
  rfl
theorem c53 {f : Fm} {q : Rat} {b c : Nat} (h : OkF b f) (hq : Z c q) (hb : b ≤ 400) (hc : c ≤ 400) : callO P (n + 3) 53 [fD f, F q] ws = some (fD (scF f q), ws) := by
  have e := cmp_map (Φ := callO P (n + 2)) (tg := .tp [2, 3]) (elt := x53_0) (env := [.va (fD f), .va (F q), .un, .un]) (ws := ws) (xs := f.k) (rep := rD) (g := fun x => D.tup [.int x.1, F (x.2 * q)]) fun x hx => by
    refine ⟨[.va (fD f), .va (F q), .va (.int x.1), .va (F x.2)], rfl, ?_⟩
    simp only [x53_0, ev.eq_1, ev.eq_2, ev.eq_3, ev.eq_4, ev.eq_5, ev.eq_6, ev.eq_7, ev.eq_8, ev.eq_9, ev.eq_10, ev.eq_11, ev.eq_12, ev.eq_13, ev.eq_14, ev.eq_15, ev.eq_16, ev.eq_17, ev.eq_18, ev.eq_19, ev.eq_20, ev.eq_21, ev.eq_22, ev.eq_23, ev.eq_24, ev.eq_25, ev.eq_26, ev.eq_27, ev.eq_28, ev.eq_29, evs.eq_1, evs.eq_2, evT, exec.eq_1, exec.eq_2, exec.eq_3, exec.eq_4, exec.eq_5, exec.eq_6, exec.eq_7, exec.eq_8, exec.eq_9, exec.eq_10, exec.eq_11, exec.eq_12, exec.eq_13, exec.eq_14, exec.eq_15, exec.eq_16, exec.eq_19, exec.eq_20, exec.eq_21, exec.eq_22, exec.eq_23, execs.eq_1, execs.eq_2, x_whl, x_for, x_comp, x_compIf, bor, vi, mkEnv, eg, es, frzA, frzS, bn, bt, bind_F, setAll, setPar, wipeE, tgs, b_add, b_sub, b_mul, b_fdiv, b_mod, b_shl, b_shr, b_pow, b_tup, b_lst, o_lt, o_le, o_gt, o_ge, o_eqi, o_nei, o_neb, o_isb, u_len1, u_len2, u_len3, u_abs, u_int, u_lst1, u_lst2, u_tup, u_max, s_int, s_bl, s_tup, s_lst, s_non, s_str, a_add, a_sub, i_tup, i_lst, r_bl, r_int, fin, chk_own, chk_some, isN, bnd, isNone, ixW_0, ixW_1, ixW_2, F_0, F_1, ixW_w, wg_1, wg_0, wp_0, List.map, List.length, List.replicate, List.cons_append, List.nil_append, List.append_nil, Nat.reduceSub, Nat.reduceAdd, Nat.sub_self, Nat.sub_zero, if_true, Bool.false_eq_true, if_false, reduceIte, ite_true, ite_false, Bool.and_self, Bool.and_true, Bool.true_and, Bool.not_true, Bool.not_false, Nat.reduceLT, Nat.reduceLeDiff, decide_true, decide_false, Int.reduceLT, Int.reduceLE, Int.reduceAdd, Int.reduceSub, Int.reduceNeg, Bool.or_true, Bool.or_false, Bool.true_or, Bool.false_or, Bool.and_false, Bool.false_and, c43 n ws ((h.k x hx).mono (by omega)) (hq.mono (by omega))]
  rw [sc_rows] at e
  have nd : (keys (scK f.k q)).Nodup := by rw [keys_sc]; exact h.nd
  have hl : (scK f.k q).length < 64 := by rw [len_sc]; have := h.l; omega
  rw [call_at (d := d53) rfl rfl]
  simp only [d53, b53, ev.eq_1, ev.eq_2, ev.eq_3, ev.eq_4, ev.eq_5, ev.eq_6, ev.eq_7, ev.eq_8, ev.eq_9, ev.eq_10, ev.eq_11, ev.eq_12, ev.eq_13, ev.eq_14, ev.eq_15, ev.eq_16, ev.eq_17, ev.eq_18, ev.eq_19, ev.eq_20, ev.eq_21, ev.eq_22, ev.eq_23, ev.eq_24, ev.eq_25, ev.eq_26, ev.eq_27, ev.eq_28, ev.eq_29, evs.eq_1, evs.eq_2, evT, exec.eq_1, exec.eq_2, exec.eq_3, exec.eq_4, exec.eq_5, exec.eq_6, exec.eq_7, exec.eq_8, exec.eq_9, exec.eq_10, exec.eq_11, exec.eq_12, exec.eq_13, exec.eq_14, exec.eq_15, exec.eq_16, exec.eq_19, exec.eq_20, exec.eq_21, exec.eq_22, exec.eq_23, execs.eq_1, execs.eq_2, x_whl, x_for, x_comp, x_compIf, bor, vi, mkEnv, eg, es, frzA, frzS, bn, bt, bind_F, setAll, setPar, wipeE, tgs, b_add, b_sub, b_mul, b_fdiv, b_mod, b_shl, b_shr, b_pow, b_tup, b_lst, o_lt, o_le, o_gt, o_ge, o_eqi, o_nei, o_neb, o_isb, u_len1, u_len2, u_len3, u_abs, u_int, u_lst1, u_lst2, u_tup, u_max, s_int, s_bl, s_tup, s_lst, s_non, s_str, a_add, a_sub, i_tup, i_lst, r_bl, r_int, fin, chk_own, chk_some, isN, bnd, isNone, ixW_0, ixW_1, ixW_2, F_0, F_1, ixW_w, wg_1, wg_0, wp_0, List.map, List.length, List.replicate, List.cons_append, List.nil_append, List.append_nil, Nat.reduceSub, Nat.reduceAdd, Nat.sub_self, Nat.sub_zero, if_true, Bool.false_eq_true, if_false, reduceIte, ite_true, ite_false, Bool.and_self, Bool.and_true, Bool.true_and, Bool.not_true, Bool.not_false, Nat.reduceLT, Nat.reduceLeDiff, decide_true, decide_false, Int.reduceLT, Int.reduceLE, Int.reduceAdd, Int.reduceSub, Int.reduceNeg, Bool.or_true, Bool.or_false, Bool.true_or, Bool.false_or, Bool.and_false, Bool.false_and, List.length_map, rows_len h, e, (c_dict nd).2, c43 n ws (h.n.mono (by omega)) (hq.mono (by omega)), c45 (n + 1) ws, c43 n ws (h.r.mono (by omega)) ((Z_ab hq).mono (by omega)), c48 (n + 1) ws hl]
  rfl
theorem c28 {f : Fm} {b : Nat} (h : OkF b f) (hb : b ≤ 400) : callO P (n + 5) 28 [fD f] ws = some (fD (scF f mone), ws) := by
  rw [call_at (d := d28) rfl rfl]
  simp only [d28, b28, ev.eq_1, ev.eq_2, ev.eq_3, ev.eq_4, ev.eq_5, ev.eq_6, ev.eq_7, ev.eq_8, ev.eq_9, ev.eq_10, ev.eq_11, ev.eq_12, ev.eq_13, ev.eq_14, ev.eq_15, ev.eq_16, ev.eq_17, ev.eq_18, ev.eq_19, ev.eq_20, ev.eq_21, ev.eq_22, ev.eq_23, ev.eq_24, ev.eq_25, ev.eq_26, ev.eq_27, ev.eq_28, ev.eq_29, evs.eq_1, evs.eq_2, evT, exec.eq_1, exec.eq_2, exec.eq_3, exec.eq_4, exec.eq_5, exec.eq_6, exec.eq_7, exec.eq_8, exec.eq_9, exec.eq_10, exec.eq_11, exec.eq_12, exec.eq_13, exec.eq_14, exec.eq_15, exec.eq_16, exec.eq_19, exec.eq_20, exec.eq_21, exec.eq_22, exec.eq_23, execs.eq_1, execs.eq_2, x_whl, x_for, x_comp, x_compIf, bor, vi, mkEnv, eg, es, frzA, frzS, bn, bt, bind_F, setAll, setPar, wipeE, tgs, b_add, b_sub, b_mul, b_fdiv, b_mod, b_shl, b_shr, b_pow, b_tup, b_lst, o_lt, o_le, o_gt, o_ge, o_eqi, o_nei, o_neb, o_isb, u_len1, u_len2, u_len3, u_abs, u_int, u_lst1, u_lst2, u_tup, u_max, s_int, s_bl, s_tup, s_lst, s_non, s_str, a_add, a_sub, i_tup, i_lst, r_bl, r_int, fin, chk_own, chk_some, isN, bnd, isNone, ixW_0, ixW_1, ixW_2, F_0, F_1, ixW_w, wg_1, wg_0, wp_0, List.map, List.length, List.replicate, List.cons_append, List.nil_append, List.append_nil, Nat.reduceSub, Nat.reduceAdd, Nat.sub_self, Nat.sub_zero, if_true, Bool.false_eq_true, if_false, reduceIte, ite_true, ite_false, Bool.and_self, Bool.and_true, Bool.true_and, Bool.not_true, Bool.not_false, Nat.reduceLT, Nat.reduceLeDiff, decide_true, decide_false, Int.reduceLT, Int.reduceLE, Int.reduceAdd, Int.reduceSub, Int.reduceNeg, Bool.or_true, Bool.or_false, Bool.true_or, Bool.false_or, Bool.and_false, Bool.false_and, F_mone, c27 n ws h Z_mone hb (by decide)]
/-! product -/
theorem c31 {f g : Fm} {b : Nat} (hf : OkF b f) (hg : OkF b g) (hb : 1 ≤ b) (hb2 : b ≤ 20) : callO P (n + 6) 31 [fD f, fD g] ws =
    some (.tup [F (f.n * g.n), .tup ((strK (joinK (scF f g.n).k (scF g f.n).k)).map rD), F ((f.r * ab g.n + g.r * ab f.n) + sw f * sw g)], ws) := by
  have h1 := Ok_sc hf hg.n
  have h2 := Ok_sc hg hf.n
  have z1 := Z_mul hf.n hg.n
  have z2 := Z_add (Z_mul hf.n hg.n) (Z_mul hg.n hf.n)
  have z3 := Z_mul (Z_sw hf) (Z_sw hg)
  have z4 := Z_add (Z_mul hf.r (Z_ab hg.n)) (Z_mul hg.r (Z_ab hf.n))
  have e1 : (scF f g.n).n + (scF g f.n).n - f.n * g.n = f.n * g.n := by show f.n * g.n + g.n * f.n - f.n * g.n = _; grind
  have ol : okLen (1 + 2) = true := ol_le (by decide)
  rw [call_at (d := d31) rfl rfl]
  simp only [d31, b31, ev.eq_1, ev.eq_2, ev.eq_3, ev.eq_4, ev.eq_5, ev.eq_6, ev.eq_7, ev.eq_8, ev.eq_9, ev.eq_10, ev.eq_11, ev.eq_12, ev.eq_13, ev.eq_14, ev.eq_15, ev.eq_16, ev.eq_17, ev.eq_18, ev.eq_19, ev.eq_20, ev.eq_21, ev.eq_22, ev.eq_23, ev.eq_24, ev.eq_25, ev.eq_26, ev.eq_27, ev.eq_28, ev.eq_29, evs.eq_1, evs.eq_2, evT, exec.eq_1, exec.eq_2, exec.eq_3, exec.eq_4, exec.eq_5, exec.eq_6, exec.eq_7, exec.eq_8, exec.eq_9, exec.eq_10, exec.eq_11, exec.eq_12, exec.eq_13, exec.eq_14, exec.eq_15, exec.eq_16, exec.eq_19, exec.eq_20, exec.eq_21, exec.eq_22, exec.eq_23, execs.eq_1, execs.eq_2, x_whl, x_for, x_comp, x_compIf, bor, vi, mkEnv, eg, es, frzA, frzS, bn, bt, bind_F, setAll, setPar, wipeE, tgs, b_add, b_sub, b_mul, b_fdiv, b_mod, b_shl, b_shr, b_pow, b_tup, b_lst, o_lt, o_le, o_gt, o_ge, o_eqi, o_nei, o_neb, o_isb, u_len1, u_len2, u_len3, u_abs, u_int, u_lst1, u_lst2, u_tup, u_max, s_int, s_bl, s_tup, s_lst, s_non, s_str, a_add, a_sub, i_tup, i_lst, r_bl, r_int, fin, chk_own, chk_some, isN, bnd, isNone, ixW_0, ixW_1, ixW_2, F_0, F_1, ixW_w, wg_1, wg_0, wp_0, List.map, List.length, List.replicate, List.cons_append, List.nil_append, List.append_nil, Nat.reduceSub, Nat.reduceAdd, Nat.sub_self, Nat.sub_zero, if_true, Bool.false_eq_true, if_false, reduceIte, ite_true, ite_false, Bool.and_self, Bool.and_true, Bool.true_and, Bool.not_true, Bool.not_false, Nat.reduceLT, Nat.reduceLeDiff, decide_true, decide_false, Int.reduceLT, Int.reduceLE, Int.reduceAdd, Int.reduceSub, Int.reduceNeg, Bool.or_true, Bool.or_false, Bool.true_or, Bool.false_or, Bool.and_false, Bool.false_and, c27 (n + 1) ws hf hg.n (by omega) (by omega), c27 (n + 1) ws hg hf.n (by omega) (by omega), c26 (n + 1) ws h1 h2 (by omega) (by omega) (by omega), joinF, c11 (n + 2) ws (hf.n.mono (by omega)) (hg.n.mono (by omega)),
    c10 (n + 1) ws (p := (scF f g.n).n + (scF g f.n).n) (z2.mono (by omega)) (z1.mono (by omega)), e1, sl_1, ol, c23 n ws hf (by omega), c23 n ws hg (by omega), c11 (n + 2) ws ((Z_sw hf).mono (by omega)) ((Z_sw hg).mono (by omega)),
    c29 (n + 1) ws (p := (scF f g.n).r + (scF g f.n).r) (z4.mono (by omega)) (z3.mono (by omega))]
  rfl
theorem c55 {f g : Fm} {b : Nat} (hf : OkF b f) (hg : OkF b g) (hb : 1 ≤ b) (hb2 : b ≤ 20) : callO P (n + 6) 55 [fD f, fD g] ws =
    some (.tup [F (f.n * g.n), .tup ((strK (joinK (scF f g.n).k (scF g f.n).k)).map rD), F ((f.r * ab g.n + g.r * ab f.n) + sw f * sw g)], ws) := by
  have h1 := Ok_sc hf hg.n
  have h2 := Ok_sc hg hf.n
  have z3 := Z_mul (Z_sw hf) (Z_sw hg)
  have z4 := Z_add (Z_mul hf.r (Z_ab hg.n)) (Z_mul hg.r (Z_ab hf.n))
  rw [call_at (d := d55) rfl rfl]
  simp only [d55, b55, ev.eq_1, ev.eq_2, ev.eq_3, ev.eq_4, ev.eq_5, ev.eq_6, ev.eq_7, ev.eq_8, ev.eq_9, ev.eq_10, ev.eq_11, ev.eq_12, ev.eq_13, ev.eq_14, ev.eq_15, ev.eq_16, ev.eq_17, ev.eq_18, ev.eq_19, ev.eq_20, ev.eq_21, ev.eq_22, ev.eq_23, ev.eq_24, ev.eq_25, ev.eq_26, ev.eq_27, ev.eq_28, ev.eq_29, evs.eq_1, evs.eq_2, evT, exec.eq_1, exec.eq_2, exec.eq_3, exec.eq_4, exec.eq_5, exec.eq_6, exec.eq_7, exec.eq_8, exec.eq_9, exec.eq_10, exec.eq_11, exec.eq_12, exec.eq_13, exec.eq_14, exec.eq_15, exec.eq_16, exec.eq_19, exec.eq_20, exec.eq_21, exec.eq_22, exec.eq_23, execs.eq_1, execs.eq_2, x_whl, x_for, x_comp, x_compIf, bor, vi, mkEnv, eg, es, frzA, frzS, bn, bt, bind_F, setAll, setPar, wipeE, tgs, b_add, b_sub, b_mul, b_fdiv, b_mod, b_shl, b_shr, b_pow, b_tup, b_lst, o_lt, o_le, o_gt, o_ge, o_eqi, o_nei, o_neb, o_isb, u_len1, u_len2, u_len3, u_abs, u_int, u_lst1, u_lst2, u_tup, u_max, s_int, s_bl, s_tup, s_lst, s_non, s_str, a_add, a_sub, i_tup, i_lst, r_bl, r_int, fin, chk_own, chk_some, isN, bnd, isNone, ixW_0, ixW_1, ixW_2, F_0, F_1, ixW_w, wg_1, wg_0, wp_0, List.map, List.length, List.replicate, List.cons_append, List.nil_append, List.append_nil, Nat.reduceSub, Nat.reduceAdd, Nat.sub_self, Nat.sub_zero, if_true, Bool.false_eq_true, if_false, reduceIte, ite_true, ite_false, Bool.and_self, Bool.and_true, Bool.true_and, Bool.not_true, Bool.not_false, Nat.reduceLT, Nat.reduceLeDiff, decide_true, decide_false, Int.reduceLT, Int.reduceLE, Int.reduceAdd, Int.reduceSub, Int.reduceNeg, Bool.or_true, Bool.or_false, Bool.true_or, Bool.false_or, Bool.and_false, Bool.false_and, c53 (n + 2) ws hf hg.n (by omega) (by omega), c53 (n + 2) ws hg hf.n (by omega) (by omega), c52 (n + 2) ws h1 h2 (by omega) (by omega) (by omega), joinF, c43 (n + 3) ws (hf.n.mono (by omega)) (hg.n.mono (by omega)),
    c49 (n + 2) ws hf (by omega), c49 (n + 2) ws hg (by omega), c43 (n + 3) ws ((Z_sw hf).mono (by omega)) ((Z_sw hg).mono (by omega)),
    c54 (n + 2) ws (p := (scF f g.n).r + (scF g f.n).r) (z4.mono (by omega)) (z3.mono (by omega))]
  rfl
end Pv.K36


set_option Elab.async false
set_option linter.all false
set_option maxRecDepth 100000
set_option exponentiation.threshold 20
/-! M7: the exponent; coarse. -/
namespace Pv.K36
open Pv
variable (n : Nat) (ws : WS)
theorem F_inj {q : Rat} {a b : Int} (h : F q = .tup [.int a, .int b]) : q.num = a ∧ (q.den : Int) = b := by
  unfold F at h
  simp only [D.tup.injEq, List.cons.injEq, D.int.injEq, and_true] at h
  exact h
theorem pw_nn {e : Int} (h : 0 ≤ e) : (pw e).num = 2 ^ e.toNat ∧ ((pw e).den : Int) = 1 := F_inj (by rw [F_pw, if_pos h])
theorem pw_ng {e : Int} (h : ¬ 0 ≤ e) : (pw e).num = 1 ∧ ((pw e).den : Int) = 2 ^ (-e).toNat := F_inj (by rw [F_pw, if_neg h])
theorem pw_le {e : Int} {a b : Nat} (h : e = (a : Int) - b) (q : Rat) : pw e ≤ q ↔ 2 ^ a * (q.den : Int) ≤ q.num * 2 ^ b := by
  rw [Rat.le_iff]
  by_cases h0 : 0 ≤ e
  · rw [(pw_nn h0).1, (pw_nn h0).2, Int.mul_one]
    have : a = e.toNat + b := by omega
    rw [this, Int.pow_add, Int.mul_right_comm]
    exact ⟨fun z => Int.mul_le_mul_of_nonneg_right z (Int.le_of_lt (pos2 b)), fun z => Int.le_of_mul_le_mul_right z (pos2 b)⟩
  · rw [(pw_ng h0).1, (pw_ng h0).2, Int.one_mul]
    have : b = a + (-e).toNat := by omega
    rw [this, Int.pow_add, ← Int.mul_assoc, Int.mul_right_comm q.num, Int.mul_comm (2 ^ a)]
    exact ⟨fun z => Int.mul_le_mul_of_nonneg_right z (Int.le_of_lt (pos2 a)), fun z => Int.le_of_mul_le_mul_right z (pos2 a)⟩
theorem lt_pw {e : Int} {a b : Nat} (h : e = (a : Int) - b) (q : Rat) : q < pw e ↔ q.num * 2 ^ b < 2 ^ a * (q.den : Int) := by
  rw [← Rat.not_le, pw_le h, Int.not_le]
theorem pw_pos (e : Int) : (0 : Rat) < pw e := by
  rw [Rat.lt_iff]
  have h1 : (0 : Rat).num = 0 := rfl
  have h2 : (((0 : Rat).den : Nat) : Int) = 1 := rfl
  rw [h1, h2, Int.zero_mul, Int.mul_one]
  by_cases h0 : 0 ≤ e
  · rw [(pw_nn h0).1]; exact pos2 _
  · rw [(pw_ng h0).1]; decide
theorem p2m {a b : Nat} (h : a ≤ b) : (2 : Int) ^ a ≤ 2 ^ b := by
  have := Int.ofNat_le.mpr (Nat.pow_le_pow_right (show 0 < 2 by decide) h)
  rw [Int.natCast_pow, Int.natCast_pow] at this
  exact this
theorem pw_mono {e f : Int} (h : e ≤ f) : pw e ≤ pw f := by
  have ea : e = ((e + (e.natAbs + f.natAbs : Nat)).toNat : Int) - ((e.natAbs + f.natAbs : Nat) : Int) := by omega
  rw [pw_le ea]
  by_cases h0 : 0 ≤ f
  · rw [(pw_nn h0).1, (pw_nn h0).2, Int.mul_one, ← Int.pow_add]
    exact p2m (by omega)
  · rw [(pw_ng h0).1, (pw_ng h0).2, Int.one_mul, ← Int.pow_add]
    exact p2m (by omega)
theorem pw_inv (e : Int) : pw e * pw (-e) = 1 := by
  have key : ∀ k : Nat, Rat.divInt (2 ^ k) 1 * Rat.divInt 1 (2 ^ k) = 1 := fun k => by
    rw [Rat.divInt_mul_divInt, Int.mul_one, Int.one_mul]
    have := Rat.divInt_self' (n := (2 : Int) ^ k) (by have := pos2 k; omega)
    exact this
  unfold pw
  by_cases h0 : 0 ≤ e
  · by_cases h1 : 0 ≤ -e
    · have : e = 0 := by omega
      subst this
      rw [if_pos h0, if_pos h1]
      simpa using key 0
    · rw [if_pos h0, if_neg h1, Int.neg_neg]
      exact key _
  · rw [if_neg h0, if_pos (by omega), Rat.mul_comm]
    exact key _
theorem two_lt {k : Nat} {e : Int} {m : Nat} (h1 : e.toNat ≤ m) : (2 ^ e.toNat : Int).natAbs < 2 ^ (m + 1) := by
  rw [Int.natAbs_pow]
  exact Nat.pow_lt_pow_right (by decide) (by omega)
theorem Z_pw {e : Int} {m : Nat} (h1 : -(m : Int) ≤ e) (h2 : e ≤ m) : Z (m + 1) (pw e) := by
  have o : (1 : Int).natAbs < 2 ^ (m + 1) := Nat.one_lt_two_pow (by omega)
  unfold pw
  split
  · exact Z_div (by decide) (two_lt (k := 0) (by omega)) o
  · exact Z_div (pos2 _) o (two_lt (k := 0) (by omega))
/-- the exponent of q -/
def isE (q : Rat) (e : Int) : Prop := pw e ≤ ab q ∧ ab q < pw (e + 1)
theorem isE_one {q : Rat} {e f : Int} (h1 : isE q e) (h2 : isE q f) : e = f := by
  have key : ∀ {e f : Int}, isE q e → isE q f → ¬ e < f := fun {e f} h1 h2 h => by
    have := pw_mono (show e + 1 ≤ f by omega)
    have a := h1.2
    have b := h2.1
    grind
  have := key h1 h2
  have := key h2 h1
  omega
open Classical in
noncomputable def ex (q : Rat) : Int := if h : ∃ e, isE q e then Classical.choose h else 0
theorem ex_of {q : Rat} {e : Int} (h : isE q e) : ex q = e := by
  unfold ex
  rw [dif_pos ⟨e, h⟩]
  exact isE_one (Classical.choose_spec _) h
/-! bits -/
theorem bits_loop : ∀ (j k m : Nat) (x : Int), 0 ≤ x → x < 2 ^ (k + j) → j + 1 ≤ m → (k = 0 ∨ 2 ^ (k - 1) ≤ x) →
    ∃ r : Nat, k ≤ r ∧ r ≤ k + j ∧ whlX (callO P n) t4_0 l4_1 m [.va (.int x), .va (.int k)] ws = some (.nx, [.va (.int x), .va (.int r)], ws) ∧ x < 2 ^ r ∧ (r = 0 ∨ 2 ^ (r - 1) ≤ x)
  | j, k, m, x, hx, hk, hm, hp => by
    obtain ⟨m, rfl⟩ : ∃ i, m = i + 1 := ⟨m - 1, by omega⟩
    have p0 := pos2 k
    have k0 : (0 : Int) ≤ k := by omega
    by_cases h : x < 2 ^ k
    · refine ⟨k, Nat.le_refl _, by omega, whl_stop ?_, h, hp⟩
      have : ¬ 0 < x / 2 ^ k := by rw [Int.ediv_eq_zero_of_lt hx h]; decide
      simp only [t4_0, ev.eq_1, ev.eq_2, ev.eq_3, ev.eq_4, ev.eq_5, ev.eq_6, ev.eq_7, ev.eq_8, ev.eq_9, ev.eq_10, ev.eq_11, ev.eq_12, ev.eq_13, ev.eq_14, ev.eq_15, ev.eq_16, ev.eq_17, ev.eq_18, ev.eq_19, ev.eq_20, ev.eq_21, ev.eq_22, ev.eq_23, ev.eq_24, ev.eq_25, ev.eq_26, ev.eq_27, ev.eq_28, ev.eq_29, evs.eq_1, evs.eq_2, evT, exec.eq_1, exec.eq_2, exec.eq_3, exec.eq_4, exec.eq_5, exec.eq_6, exec.eq_7, exec.eq_8, exec.eq_9, exec.eq_10, exec.eq_11, exec.eq_12, exec.eq_13, exec.eq_14, exec.eq_15, exec.eq_16, exec.eq_19, exec.eq_20, exec.eq_21, exec.eq_22, exec.eq_23, execs.eq_1, execs.eq_2, x_whl, x_for, x_comp, x_compIf, bor, vi, mkEnv, eg, es, frzA, frzS, bn, bt, bind_F, setAll, setPar, wipeE, tgs, b_add, b_sub, b_mul, b_fdiv, b_mod, b_shl, b_shr, b_pow, b_tup, b_lst, o_lt, o_le, o_gt, o_ge, o_eqi, o_nei, o_neb, o_isb, u_len1, u_len2, u_len3, u_abs, u_int, u_lst1, u_lst2, u_tup, u_max, s_int, s_bl, s_tup, s_lst, s_non, s_str, a_add, a_sub, i_tup, i_lst, r_bl, r_int, fin, chk_own, chk_some, isN, bnd, isNone, ixW_0, ixW_1, ixW_2, F_0, F_1, ixW_w, wg_1, wg_0, wp_0, List.map, List.length, List.replicate, List.cons_append, List.nil_append, List.append_nil, Nat.reduceSub, Nat.reduceAdd, Nat.sub_self, Nat.sub_zero, if_true, Bool.false_eq_true, if_false, reduceIte, ite_true, ite_false, Bool.and_self, Bool.and_true, Bool.true_and, Bool.not_true, Bool.not_false, Nat.reduceLT, Nat.reduceLeDiff, decide_true, decide_false, Int.reduceLT, Int.reduceLE, Int.reduceAdd, Int.reduceSub, Int.reduceNeg, Bool.or_true, Bool.or_false, Bool.true_or, Bool.false_or, Bool.and_false, Bool.false_and, decide_eq_true k0, Int.toNat_natCast, decide_eq_false this]
    · cases j with
      | zero => exact absurd hk h
      | succ j =>
        have : 0 < x / 2 ^ k := by have := (Int.le_ediv_iff_mul_le (a := 1) (b := x) p0).mpr (by omega); omega
        obtain ⟨r, h1, h2, h3, h4⟩ := bits_loop j (k + 1) m x hx (by rw [show k + 1 + j = k + (j + 1) by omega]; exact hk) (by omega) (.inr (by simpa using h))
        refine ⟨r, by omega, by omega, ?_, h4⟩
        rw [whl_go (ws1 := ws) (ws2 := ws) (env2 := [.va (.int x), .va (.int ((k + 1 : Nat) : Int))])]
        · exact h3
        · simp only [t4_0, ev.eq_1, ev.eq_2, ev.eq_3, ev.eq_4, ev.eq_5, ev.eq_6, ev.eq_7, ev.eq_8, ev.eq_9, ev.eq_10, ev.eq_11, ev.eq_12, ev.eq_13, ev.eq_14, ev.eq_15, ev.eq_16, ev.eq_17, ev.eq_18, ev.eq_19, ev.eq_20, ev.eq_21, ev.eq_22, ev.eq_23, ev.eq_24, ev.eq_25, ev.eq_26, ev.eq_27, ev.eq_28, ev.eq_29, evs.eq_1, evs.eq_2, evT, exec.eq_1, exec.eq_2, exec.eq_3, exec.eq_4, exec.eq_5, exec.eq_6, exec.eq_7, exec.eq_8, exec.eq_9, exec.eq_10, exec.eq_11, exec.eq_12, exec.eq_13, exec.eq_14, exec.eq_15, exec.eq_16, exec.eq_19, exec.eq_20, exec.eq_21, exec.eq_22, exec.eq_23, execs.eq_1, execs.eq_2, x_whl, x_for, x_comp, x_compIf, bor, vi, mkEnv, eg, es, frzA, frzS, bn, bt, bind_F, setAll, setPar, wipeE, tgs, b_add, b_sub, b_mul, b_fdiv, b_mod, b_shl, b_shr, b_pow, b_tup, b_lst, o_lt, o_le, o_gt, o_ge, o_eqi, o_nei, o_neb, o_isb, u_len1, u_len2, u_len3, u_abs, u_int, u_lst1, u_lst2, u_tup, u_max, s_int, s_bl, s_tup, s_lst, s_non, s_str, a_add, a_sub, i_tup, i_lst, r_bl, r_int, fin, chk_own, chk_some, isN, bnd, isNone, ixW_0, ixW_1, ixW_2, F_0, F_1, ixW_w, wg_1, wg_0, wp_0, List.map, List.length, List.replicate, List.cons_append, List.nil_append, List.append_nil, Nat.reduceSub, Nat.reduceAdd, Nat.sub_self, Nat.sub_zero, if_true, Bool.false_eq_true, if_false, reduceIte, ite_true, ite_false, Bool.and_self, Bool.and_true, Bool.true_and, Bool.not_true, Bool.not_false, Nat.reduceLT, Nat.reduceLeDiff, decide_true, decide_false, Int.reduceLT, Int.reduceLE, Int.reduceAdd, Int.reduceSub, Int.reduceNeg, Bool.or_true, Bool.or_false, Bool.true_or, Bool.false_or, Bool.and_false, Bool.false_and, decide_eq_true k0, Int.toNat_natCast, decide_eq_true this]
        · simp only [l4_1, ev.eq_1, ev.eq_2, ev.eq_3, ev.eq_4, ev.eq_5, ev.eq_6, ev.eq_7, ev.eq_8, ev.eq_9, ev.eq_10, ev.eq_11, ev.eq_12, ev.eq_13, ev.eq_14, ev.eq_15, ev.eq_16, ev.eq_17, ev.eq_18, ev.eq_19, ev.eq_20, ev.eq_21, ev.eq_22, ev.eq_23, ev.eq_24, ev.eq_25, ev.eq_26, ev.eq_27, ev.eq_28, ev.eq_29, evs.eq_1, evs.eq_2, evT, exec.eq_1, exec.eq_2, exec.eq_3, exec.eq_4, exec.eq_5, exec.eq_6, exec.eq_7, exec.eq_8, exec.eq_9, exec.eq_10, exec.eq_11, exec.eq_12, exec.eq_13, exec.eq_14, exec.eq_15, exec.eq_16, exec.eq_19, exec.eq_20, exec.eq_21, exec.eq_22, exec.eq_23, execs.eq_1, execs.eq_2, x_whl, x_for, x_comp, x_compIf, bor, vi, mkEnv, eg, es, frzA, frzS, bn, bt, bind_F, setAll, setPar, wipeE, tgs, b_add, b_sub, b_mul, b_fdiv, b_mod, b_shl, b_shr, b_pow, b_tup, b_lst, o_lt, o_le, o_gt, o_ge, o_eqi, o_nei, o_neb, o_isb, u_len1, u_len2, u_len3, u_abs, u_int, u_lst1, u_lst2, u_tup, u_max, s_int, s_bl, s_tup, s_lst, s_non, s_str, a_add, a_sub, i_tup, i_lst, r_bl, r_int, fin, chk_own, chk_some, isN, bnd, isNone, ixW_0, ixW_1, ixW_2, F_0, F_1, ixW_w, wg_1, wg_0, wp_0, List.map, List.length, List.replicate, List.cons_append, List.nil_append, List.append_nil, Nat.reduceSub, Nat.reduceAdd, Nat.sub_self, Nat.sub_zero, if_true, Bool.false_eq_true, if_false, reduceIte, ite_true, ite_false, Bool.and_self, Bool.and_true, Bool.true_and, Bool.not_true, Bool.not_false, Nat.reduceLT, Nat.reduceLeDiff, decide_true, decide_false, Int.reduceLT, Int.reduceLE, Int.reduceAdd, Int.reduceSub, Int.reduceNeg, Bool.or_true, Bool.or_false, Bool.true_or, Bool.false_or, Bool.and_false, Bool.false_and]
          rfl
theorem c4 {x : Int} (hx : 0 < x) (hl : x.natAbs < 2 ^ 1000) : ∃ r : Nat, r ≤ 1000 ∧ 1 ≤ r ∧ callO P (n + 1) 4 [.int x] ws = some (.int r, ws) ∧ x < 2 ^ r ∧ 2 ^ (r - 1) ≤ x := by
  have hx2 : x < 2 ^ (0 + 1000) := by
    have : ((x.natAbs : Nat) : Int) < ((2 ^ 1000 : Nat) : Int) := Int.ofNat_lt.mpr hl
    rw [Int.natCast_pow] at this
    rw [Nat.zero_add]
    have e : (x.natAbs : Int) = x := by omega
    rw [e] at this
    exact this
  obtain ⟨r, _, h2, h3, h4, h5⟩ := bits_loop n ws 1000 0 fuel x (by omega) hx2 (by unfold fuel; omega) (.inl rfl)
  have r1 : 1 ≤ r := by
    rcases Nat.eq_zero_or_pos r with z | z
    · subst z; simp at h4; omega
    · exact z
  refine ⟨r, by omega, r1, ?_, h4, h5.resolve_left (by omega)⟩
  have h3' : whlX (callO P n) t4_0 l4_1 fuel [.va (.int x), .va (.int 0)] ws = some (.nx, [.va (.int x), .va (.int r)], ws) := h3
  rw [call_at (d := d4) rfl rfl]
  simp only [d4, b4, ev.eq_1, ev.eq_2, ev.eq_3, ev.eq_4, ev.eq_5, ev.eq_6, ev.eq_7, ev.eq_8, ev.eq_9, ev.eq_10, ev.eq_11, ev.eq_12, ev.eq_13, ev.eq_14, ev.eq_15, ev.eq_16, ev.eq_17, ev.eq_18, ev.eq_19, ev.eq_20, ev.eq_21, ev.eq_22, ev.eq_23, ev.eq_24, ev.eq_25, ev.eq_26, ev.eq_27, ev.eq_28, ev.eq_29, evs.eq_1, evs.eq_2, evT, exec.eq_1, exec.eq_2, exec.eq_3, exec.eq_4, exec.eq_5, exec.eq_6, exec.eq_7, exec.eq_8, exec.eq_9, exec.eq_10, exec.eq_11, exec.eq_12, exec.eq_13, exec.eq_14, exec.eq_15, exec.eq_16, exec.eq_19, exec.eq_20, exec.eq_21, exec.eq_22, exec.eq_23, execs.eq_1, execs.eq_2, x_whl, x_for, x_comp, x_compIf, bor, vi, mkEnv, eg, es, frzA, frzS, bn, bt, bind_F, setAll, setPar, wipeE, tgs, b_add, b_sub, b_mul, b_fdiv, b_mod, b_shl, b_shr, b_pow, b_tup, b_lst, o_lt, o_le, o_gt, o_ge, o_eqi, o_nei, o_neb, o_isb, u_len1, u_len2, u_len3, u_abs, u_int, u_lst1, u_lst2, u_tup, u_max, s_int, s_bl, s_tup, s_lst, s_non, s_str, a_add, a_sub, i_tup, i_lst, r_bl, r_int, fin, chk_own, chk_some, isN, bnd, isNone, ixW_0, ixW_1, ixW_2, F_0, F_1, ixW_w, wg_1, wg_0, wp_0, List.map, List.length, List.replicate, List.cons_append, List.nil_append, List.append_nil, Nat.reduceSub, Nat.reduceAdd, Nat.sub_self, Nat.sub_zero, if_true, Bool.false_eq_true, if_false, reduceIte, ite_true, ite_false, Bool.and_self, Bool.and_true, Bool.true_and, Bool.not_true, Bool.not_false, Nat.reduceLT, Nat.reduceLeDiff, decide_true, decide_false, Int.reduceLT, Int.reduceLE, Int.reduceAdd, Int.reduceSub, Int.reduceNeg, Bool.or_true, Bool.or_false, Bool.true_or, Bool.false_or, Bool.and_false, Bool.false_and, h3']
end Pv.K36


set_option Elab.async false
set_option linter.all false
set_option maxRecDepth 100000
set_option exponentiation.threshold 20
/-! M8: coarse. -/
namespace Pv.K36
open Pv
variable (n : Nat) (ws : WS)
theorem ab_num (q : Rat) : (ab q).num = q.num.natAbs := by
  unfold ab
  split
  · rw [Rat.neg_num]; omega
  · omega
theorem ab_den (q : Rat) : (ab q).den = q.den := by
  unfold ab
  split
  · rw [Rat.neg_den]
  · rfl
theorem c15 {q : Rat} {e : Int} (hq : Z 1000 q) (h1 : -999 ≤ e) (h2 : e ≤ 999) : callO P (n + 4) 15 [F q, .int e] ws = some (F (q * pw e), ws) := by
  rw [call_at (d := d15) rfl rfl]
  simp only [d15, b15, ev.eq_1, ev.eq_2, ev.eq_3, ev.eq_4, ev.eq_5, ev.eq_6, ev.eq_7, ev.eq_8, ev.eq_9, ev.eq_10, ev.eq_11, ev.eq_12, ev.eq_13, ev.eq_14, ev.eq_15, ev.eq_16, ev.eq_17, ev.eq_18, ev.eq_19, ev.eq_20, ev.eq_21, ev.eq_22, ev.eq_23, ev.eq_24, ev.eq_25, ev.eq_26, ev.eq_27, ev.eq_28, ev.eq_29, evs.eq_1, evs.eq_2, evT, exec.eq_1, exec.eq_2, exec.eq_3, exec.eq_4, exec.eq_5, exec.eq_6, exec.eq_7, exec.eq_8, exec.eq_9, exec.eq_10, exec.eq_11, exec.eq_12, exec.eq_13, exec.eq_14, exec.eq_15, exec.eq_16, exec.eq_19, exec.eq_20, exec.eq_21, exec.eq_22, exec.eq_23, execs.eq_1, execs.eq_2, x_whl, x_for, x_comp, x_compIf, bor, vi, mkEnv, eg, es, frzA, frzS, bn, bt, bind_F, setAll, setPar, wipeE, tgs, b_add, b_sub, b_mul, b_fdiv, b_mod, b_shl, b_shr, b_pow, b_tup, b_lst, o_lt, o_le, o_gt, o_ge, o_eqi, o_nei, o_neb, o_isb, u_len1, u_len2, u_len3, u_abs, u_int, u_lst1, u_lst2, u_tup, u_max, s_int, s_bl, s_tup, s_lst, s_non, s_str, a_add, a_sub, i_tup, i_lst, r_bl, r_int, fin, chk_own, chk_some, isN, bnd, isNone, ixW_0, ixW_1, ixW_2, F_0, F_1, ixW_w, wg_1, wg_0, wp_0, List.map, List.length, List.replicate, List.cons_append, List.nil_append, List.append_nil, Nat.reduceSub, Nat.reduceAdd, Nat.sub_self, Nat.sub_zero, if_true, Bool.false_eq_true, if_false, reduceIte, ite_true, ite_false, Bool.and_self, Bool.and_true, Bool.true_and, Bool.not_true, Bool.not_false, Nat.reduceLT, Nat.reduceLeDiff, decide_true, decide_false, Int.reduceLT, Int.reduceLE, Int.reduceAdd, Int.reduceSub, Int.reduceNeg, Bool.or_true, Bool.or_false, Bool.true_or, Bool.false_or, Bool.and_false, Bool.false_and, c14 (n + 2) ws (e := e) (by omega) (by omega), c11 n ws hq (Z_pw (m := 999) (by omega) (by omega))]
theorem lt_of_pow {x : Int} {r b : Nat} (h1 : 2 ^ (r - 1) ≤ x) (h2 : x.natAbs < 2 ^ b) : r ≤ b := by
  by_cases h : r ≤ b
  · exact h
  · exfalso
    have := p2m (show b ≤ r - 1 by omega)
    have h3 : ((x.natAbs : Nat) : Int) < ((2 ^ b : Nat) : Int) := Int.ofNat_lt.mpr h2
    rw [Int.natCast_pow] at h3
    have e : ((2 : Nat) : Int) ^ b = 2 ^ b := rfl
    omega
theorem c16 {q : Rat} {b : Nat} (hq : Z b q) (hb : b ≤ 900) (h0 : q.num ≠ 0) : ∃ e : Int, isE q e ∧ -(b : Int) ≤ e ∧ e ≤ b ∧ callO P (n + 2) 16 [F q] ws = some (.int e, ws) := by
  have hu : (0 : Int) < q.num.natAbs := by omega
  have z := hq.mono (show b ≤ 1000 by omega)
  obtain ⟨u, _, u1, u2, u3, u4⟩ := c4 n ws hu (by rw [Int.natAbs_natCast]; exact z.1)
  obtain ⟨l, _, l1, l2, l3, l4⟩ := c4 n ws (den_pos q) (den_lt z)
  have ub := lt_of_pow u4 (by rw [Int.natAbs_natCast]; exact hq.1)
  have lb := lt_of_pow l4 (den_lt hq)
  have zf : Z 1000 (pw ((u : Int) - l)) := (Z_pw (m := 900) (by omega) (by omega)).mono (by decide)
  have eF : D.tup [.int (if q.num < 0 then -q.num else q.num), .int q.den] = F (ab q) := F_ab q
  rw [absI] at eF
  have e14 := c14 n ws (e := (u : Int) - l) (by omega) (by omega)
  have e13 := c13 n ws zf (Z_ab z)
  have e2 : (q.num.natAbs : Int) < 2 ^ u := u3
  by_cases hc : pw ((u : Int) - l) ≤ ab q
  · refine ⟨(u : Int) - l, ⟨hc, ?_⟩, by omega, by omega, ?_⟩
    · rw [lt_pw (a := u) (b := l - 1) (by omega), ab_num, ab_den]
      exact Int.lt_of_lt_of_le (Int.mul_lt_mul_of_pos_right u3 (pos2 _)) (Int.mul_le_mul_of_nonneg_left l4 (Int.le_of_lt (pos2 _)))
    · rw [call_at (d := d16) rfl rfl]
      simp only [d16, b16, ev.eq_1, ev.eq_2, ev.eq_3, ev.eq_4, ev.eq_5, ev.eq_6, ev.eq_7, ev.eq_8, ev.eq_9, ev.eq_10, ev.eq_11, ev.eq_12, ev.eq_13, ev.eq_14, ev.eq_15, ev.eq_16, ev.eq_17, ev.eq_18, ev.eq_19, ev.eq_20, ev.eq_21, ev.eq_22, ev.eq_23, ev.eq_24, ev.eq_25, ev.eq_26, ev.eq_27, ev.eq_28, ev.eq_29, evs.eq_1, evs.eq_2, evT, exec.eq_1, exec.eq_2, exec.eq_3, exec.eq_4, exec.eq_5, exec.eq_6, exec.eq_7, exec.eq_8, exec.eq_9, exec.eq_10, exec.eq_11, exec.eq_12, exec.eq_13, exec.eq_14, exec.eq_15, exec.eq_16, exec.eq_19, exec.eq_20, exec.eq_21, exec.eq_22, exec.eq_23, execs.eq_1, execs.eq_2, x_whl, x_for, x_comp, x_compIf, bor, vi, mkEnv, eg, es, frzA, frzS, bn, bt, bind_F, setAll, setPar, wipeE, tgs, b_add, b_sub, b_mul, b_fdiv, b_mod, b_shl, b_shr, b_pow, b_tup, b_lst, o_lt, o_le, o_gt, o_ge, o_eqi, o_nei, o_neb, o_isb, u_len1, u_len2, u_len3, u_abs, u_int, u_lst1, u_lst2, u_tup, u_max, s_int, s_bl, s_tup, s_lst, s_non, s_str, a_add, a_sub, i_tup, i_lst, r_bl, r_int, fin, chk_own, chk_some, isN, bnd, isNone, ixW_0, ixW_1, ixW_2, F_0, F_1, ixW_w, wg_1, wg_0, wp_0, List.map, List.length, List.replicate, List.cons_append, List.nil_append, List.append_nil, Nat.reduceSub, Nat.reduceAdd, Nat.sub_self, Nat.sub_zero, if_true, Bool.false_eq_true, if_false, reduceIte, ite_true, ite_false, Bool.and_self, Bool.and_true, Bool.true_and, Bool.not_true, Bool.not_false, Nat.reduceLT, Nat.reduceLeDiff, decide_true, decide_false, Int.reduceLT, Int.reduceLE, Int.reduceAdd, Int.reduceSub, Int.reduceNeg, Bool.or_true, Bool.or_false, Bool.true_or, Bool.false_or, Bool.and_false, Bool.false_and, absI, u2, l2, e14, eF, e13, decide_eq_true hc]
  · refine ⟨(u : Int) - l - 1, ⟨?_, ?_⟩, by omega, by omega, ?_⟩
    · rw [pw_le (a := u - 1) (b := l) (by omega), ab_num, ab_den]
      exact Int.mul_le_mul u4 (Int.le_of_lt l3) (Int.le_of_lt (den_pos q)) (Int.natCast_nonneg _)
    · rw [Int.sub_add_cancel]
      exact Rat.not_le.mp hc
    · rw [call_at (d := d16) rfl rfl]
      simp only [d16, b16, ev.eq_1, ev.eq_2, ev.eq_3, ev.eq_4, ev.eq_5, ev.eq_6, ev.eq_7, ev.eq_8, ev.eq_9, ev.eq_10, ev.eq_11, ev.eq_12, ev.eq_13, ev.eq_14, ev.eq_15, ev.eq_16, ev.eq_17, ev.eq_18, ev.eq_19, ev.eq_20, ev.eq_21, ev.eq_22, ev.eq_23, ev.eq_24, ev.eq_25, ev.eq_26, ev.eq_27, ev.eq_28, ev.eq_29, evs.eq_1, evs.eq_2, evT, exec.eq_1, exec.eq_2, exec.eq_3, exec.eq_4, exec.eq_5, exec.eq_6, exec.eq_7, exec.eq_8, exec.eq_9, exec.eq_10, exec.eq_11, exec.eq_12, exec.eq_13, exec.eq_14, exec.eq_15, exec.eq_16, exec.eq_19, exec.eq_20, exec.eq_21, exec.eq_22, exec.eq_23, execs.eq_1, execs.eq_2, x_whl, x_for, x_comp, x_compIf, bor, vi, mkEnv, eg, es, frzA, frzS, bn, bt, bind_F, setAll, setPar, wipeE, tgs, b_add, b_sub, b_mul, b_fdiv, b_mod, b_shl, b_shr, b_pow, b_tup, b_lst, o_lt, o_le, o_gt, o_ge, o_eqi, o_nei, o_neb, o_isb, u_len1, u_len2, u_len3, u_abs, u_int, u_lst1, u_lst2, u_tup, u_max, s_int, s_bl, s_tup, s_lst, s_non, s_str, a_add, a_sub, i_tup, i_lst, r_bl, r_int, fin, chk_own, chk_some, isN, bnd, isNone, ixW_0, ixW_1, ixW_2, F_0, F_1, ixW_w, wg_1, wg_0, wp_0, List.map, List.length, List.replicate, List.cons_append, List.nil_append, List.append_nil, Nat.reduceSub, Nat.reduceAdd, Nat.sub_self, Nat.sub_zero, if_true, Bool.false_eq_true, if_false, reduceIte, ite_true, ite_false, Bool.and_self, Bool.and_true, Bool.true_and, Bool.not_true, Bool.not_false, Nat.reduceLT, Nat.reduceLeDiff, decide_true, decide_false, Int.reduceLT, Int.reduceLE, Int.reduceAdd, Int.reduceSub, Int.reduceNeg, Bool.or_true, Bool.or_false, Bool.true_or, Bool.false_or, Bool.and_false, Bool.false_and, absI, u2, l2, e14, eF, e13, decide_eq_false hc]
def rI (w : Int) : Rat := Rat.divInt w 1
theorem F_rI (w : Int) : D.tup [.int w, .int 1] = F (rI w) := by rw [rI, ← mkF (by decide)]; simp
def whole (s : Rat) (u : Bool) : Int := if u = true then -((-s.num) / s.den) else s.num / s.den
noncomputable def crs (q : Rat) (d : Int) (u : Bool) : Rat := if q.num = 0 then q else rI (whole (q * pw (d - 1 - ex q)) u) * pw (ex q - d + 1)
theorem Z_whole {s : Rat} {k : Nat} (h : Z k s) (hk : 1 ≤ k) (u : Bool) : Z k (rI (whole s u)) := by
  refine Z_div (by decide) ?_ (Nat.one_lt_two_pow (by omega))
  unfold whole
  split
  · rw [Int.natAbs_neg]
    refine Nat.lt_of_le_of_lt (Int.natAbs_ediv_le_natAbs _ _) ?_
    rw [Int.natAbs_neg]; exact h.1
  · exact Nat.lt_of_le_of_lt (Int.natAbs_ediv_le_natAbs _ _) h.1
theorem c34 {q : Rat} {b : Nat} {d : Int} {u : Bool} (hq : Z b q) (hb : b ≤ 300) (h1 : 1 ≤ d) (h2 : d ≤ 10) : callO P (n + 5) 34 [F q, .int d, .bl u] ws = some (F (crs q d u), ws) := by
  by_cases h0 : q.num = 0
  · rw [call_at (d := d34) rfl rfl]
    simp only [d34, b34, ev.eq_1, ev.eq_2, ev.eq_3, ev.eq_4, ev.eq_5, ev.eq_6, ev.eq_7, ev.eq_8, ev.eq_9, ev.eq_10, ev.eq_11, ev.eq_12, ev.eq_13, ev.eq_14, ev.eq_15, ev.eq_16, ev.eq_17, ev.eq_18, ev.eq_19, ev.eq_20, ev.eq_21, ev.eq_22, ev.eq_23, ev.eq_24, ev.eq_25, ev.eq_26, ev.eq_27, ev.eq_28, ev.eq_29, evs.eq_1, evs.eq_2, evT, exec.eq_1, exec.eq_2, exec.eq_3, exec.eq_4, exec.eq_5, exec.eq_6, exec.eq_7, exec.eq_8, exec.eq_9, exec.eq_10, exec.eq_11, exec.eq_12, exec.eq_13, exec.eq_14, exec.eq_15, exec.eq_16, exec.eq_19, exec.eq_20, exec.eq_21, exec.eq_22, exec.eq_23, execs.eq_1, execs.eq_2, x_whl, x_for, x_comp, x_compIf, bor, vi, mkEnv, eg, es, frzA, frzS, bn, bt, bind_F, setAll, setPar, wipeE, tgs, b_add, b_sub, b_mul, b_fdiv, b_mod, b_shl, b_shr, b_pow, b_tup, b_lst, o_lt, o_le, o_gt, o_ge, o_eqi, o_nei, o_neb, o_isb, u_len1, u_len2, u_len3, u_abs, u_int, u_lst1, u_lst2, u_tup, u_max, s_int, s_bl, s_tup, s_lst, s_non, s_str, a_add, a_sub, i_tup, i_lst, r_bl, r_int, fin, chk_own, chk_some, isN, bnd, isNone, ixW_0, ixW_1, ixW_2, F_0, F_1, ixW_w, wg_1, wg_0, wp_0, List.map, List.length, List.replicate, List.cons_append, List.nil_append, List.append_nil, Nat.reduceSub, Nat.reduceAdd, Nat.sub_self, Nat.sub_zero, if_true, Bool.false_eq_true, if_false, reduceIte, ite_true, ite_false, Bool.and_self, Bool.and_true, Bool.true_and, Bool.not_true, Bool.not_false, Nat.reduceLT, Nat.reduceLeDiff, decide_true, decide_false, Int.reduceLT, Int.reduceLE, Int.reduceAdd, Int.reduceSub, Int.reduceNeg, Bool.or_true, Bool.or_false, Bool.true_or, Bool.false_or, Bool.and_false, Bool.false_and, decide_eq_true h0, crs, if_pos h0]
  · obtain ⟨e, e1, e2, e3, e4⟩ := c16 (n + 2) ws hq (by omega) h0
    have zp := Z_pw (e := d - 1 - e) (m := b + 10) (by omega) (by omega)
    have zs := Z_mul hq zp
    have okd : okI ((q * pw (d - 1 - e)).den : Int) = true := okI_of (p3 (k := 0) (den_lt zs) (by omega))
    have hd := decide_eq_true (den_pos (q * pw (d - 1 - e)))
    have en : -(e - d + 1) = d - 1 - e := by omega
    rw [call_at (d := d34) rfl rfl]
    cases u with
    | true =>
      simp only [d34, b34, ev.eq_1, ev.eq_2, ev.eq_3, ev.eq_4, ev.eq_5, ev.eq_6, ev.eq_7, ev.eq_8, ev.eq_9, ev.eq_10, ev.eq_11, ev.eq_12, ev.eq_13, ev.eq_14, ev.eq_15, ev.eq_16, ev.eq_17, ev.eq_18, ev.eq_19, ev.eq_20, ev.eq_21, ev.eq_22, ev.eq_23, ev.eq_24, ev.eq_25, ev.eq_26, ev.eq_27, ev.eq_28, ev.eq_29, evs.eq_1, evs.eq_2, evT, exec.eq_1, exec.eq_2, exec.eq_3, exec.eq_4, exec.eq_5, exec.eq_6, exec.eq_7, exec.eq_8, exec.eq_9, exec.eq_10, exec.eq_11, exec.eq_12, exec.eq_13, exec.eq_14, exec.eq_15, exec.eq_16, exec.eq_19, exec.eq_20, exec.eq_21, exec.eq_22, exec.eq_23, execs.eq_1, execs.eq_2, x_whl, x_for, x_comp, x_compIf, bor, vi, mkEnv, eg, es, frzA, frzS, bn, bt, bind_F, setAll, setPar, wipeE, tgs, b_add, b_sub, b_mul, b_fdiv, b_mod, b_shl, b_shr, b_pow, b_tup, b_lst, o_lt, o_le, o_gt, o_ge, o_eqi, o_nei, o_neb, o_isb, u_len1, u_len2, u_len3, u_abs, u_int, u_lst1, u_lst2, u_tup, u_max, s_int, s_bl, s_tup, s_lst, s_non, s_str, a_add, a_sub, i_tup, i_lst, r_bl, r_int, fin, chk_own, chk_some, isN, bnd, isNone, ixW_0, ixW_1, ixW_2, F_0, F_1, ixW_w, wg_1, wg_0, wp_0, List.map, List.length, List.replicate, List.cons_append, List.nil_append, List.append_nil, Nat.reduceSub, Nat.reduceAdd, Nat.sub_self, Nat.sub_zero, if_true, Bool.false_eq_true, if_false, reduceIte, ite_true, ite_false, Bool.and_self, Bool.and_true, Bool.true_and, Bool.not_true, Bool.not_false, Nat.reduceLT, Nat.reduceLeDiff, decide_true, decide_false, Int.reduceLT, Int.reduceLE, Int.reduceAdd, Int.reduceSub, Int.reduceNeg, Bool.or_true, Bool.or_false, Bool.true_or, Bool.false_or, Bool.and_false, Bool.false_and, decide_eq_false h0, e4, en, c15 n ws (hq.mono (by omega)) (e := d - 1 - e) (by omega) (by omega), hd, okd, F_rI]
      have w : Z 1000 (rI (-(-(q * pw (d - 1 - e)).num / ((q * pw (d - 1 - e)).den : Int)))) := (Z_whole zs (by omega) true).mono (by omega)
      simp only [c15 n ws w (e := e - d + 1) (by omega) (by omega), ev.eq_1, ev.eq_2, ev.eq_3, ev.eq_4, ev.eq_5, ev.eq_6, ev.eq_7, ev.eq_8, ev.eq_9, ev.eq_10, ev.eq_11, ev.eq_12, ev.eq_13, ev.eq_14, ev.eq_15, ev.eq_16, ev.eq_17, ev.eq_18, ev.eq_19, ev.eq_20, ev.eq_21, ev.eq_22, ev.eq_23, ev.eq_24, ev.eq_25, ev.eq_26, ev.eq_27, ev.eq_28, ev.eq_29, evs.eq_1, evs.eq_2, evT, exec.eq_1, exec.eq_2, exec.eq_3, exec.eq_4, exec.eq_5, exec.eq_6, exec.eq_7, exec.eq_8, exec.eq_9, exec.eq_10, exec.eq_11, exec.eq_12, exec.eq_13, exec.eq_14, exec.eq_15, exec.eq_16, exec.eq_19, exec.eq_20, exec.eq_21, exec.eq_22, exec.eq_23, execs.eq_1, execs.eq_2, x_whl, x_for, x_comp, x_compIf, bor, vi, mkEnv, eg, es, frzA, frzS, bn, bt, bind_F, setAll, setPar, wipeE, tgs, b_add, b_sub, b_mul, b_fdiv, b_mod, b_shl, b_shr, b_pow, b_tup, b_lst, o_lt, o_le, o_gt, o_ge, o_eqi, o_nei, o_neb, o_isb, u_len1, u_len2, u_len3, u_abs, u_int, u_lst1, u_lst2, u_tup, u_max, s_int, s_bl, s_tup, s_lst, s_non, s_str, a_add, a_sub, i_tup, i_lst, r_bl, r_int, fin, chk_own, chk_some, isN, bnd, isNone, ixW_0, ixW_1, ixW_2, F_0, F_1, ixW_w, wg_1, wg_0, wp_0, List.map, List.length, List.replicate, List.cons_append, List.nil_append, List.append_nil, Nat.reduceSub, Nat.reduceAdd, Nat.sub_self, Nat.sub_zero, if_true, Bool.false_eq_true, if_false, reduceIte, ite_true, ite_false, Bool.and_self, Bool.and_true, Bool.true_and, Bool.not_true, Bool.not_false, Nat.reduceLT, Nat.reduceLeDiff, decide_true, decide_false, Int.reduceLT, Int.reduceLE, Int.reduceAdd, Int.reduceSub, Int.reduceNeg, Bool.or_true, Bool.or_false, Bool.true_or, Bool.false_or, Bool.and_false, Bool.false_and]
      unfold crs
      rw [if_neg h0, ex_of e1]
      rfl
    | false =>
      simp only [d34, b34, ev.eq_1, ev.eq_2, ev.eq_3, ev.eq_4, ev.eq_5, ev.eq_6, ev.eq_7, ev.eq_8, ev.eq_9, ev.eq_10, ev.eq_11, ev.eq_12, ev.eq_13, ev.eq_14, ev.eq_15, ev.eq_16, ev.eq_17, ev.eq_18, ev.eq_19, ev.eq_20, ev.eq_21, ev.eq_22, ev.eq_23, ev.eq_24, ev.eq_25, ev.eq_26, ev.eq_27, ev.eq_28, ev.eq_29, evs.eq_1, evs.eq_2, evT, exec.eq_1, exec.eq_2, exec.eq_3, exec.eq_4, exec.eq_5, exec.eq_6, exec.eq_7, exec.eq_8, exec.eq_9, exec.eq_10, exec.eq_11, exec.eq_12, exec.eq_13, exec.eq_14, exec.eq_15, exec.eq_16, exec.eq_19, exec.eq_20, exec.eq_21, exec.eq_22, exec.eq_23, execs.eq_1, execs.eq_2, x_whl, x_for, x_comp, x_compIf, bor, vi, mkEnv, eg, es, frzA, frzS, bn, bt, bind_F, setAll, setPar, wipeE, tgs, b_add, b_sub, b_mul, b_fdiv, b_mod, b_shl, b_shr, b_pow, b_tup, b_lst, o_lt, o_le, o_gt, o_ge, o_eqi, o_nei, o_neb, o_isb, u_len1, u_len2, u_len3, u_abs, u_int, u_lst1, u_lst2, u_tup, u_max, s_int, s_bl, s_tup, s_lst, s_non, s_str, a_add, a_sub, i_tup, i_lst, r_bl, r_int, fin, chk_own, chk_some, isN, bnd, isNone, ixW_0, ixW_1, ixW_2, F_0, F_1, ixW_w, wg_1, wg_0, wp_0, List.map, List.length, List.replicate, List.cons_append, List.nil_append, List.append_nil, Nat.reduceSub, Nat.reduceAdd, Nat.sub_self, Nat.sub_zero, if_true, Bool.false_eq_true, if_false, reduceIte, ite_true, ite_false, Bool.and_self, Bool.and_true, Bool.true_and, Bool.not_true, Bool.not_false, Nat.reduceLT, Nat.reduceLeDiff, decide_true, decide_false, Int.reduceLT, Int.reduceLE, Int.reduceAdd, Int.reduceSub, Int.reduceNeg, Bool.or_true, Bool.or_false, Bool.true_or, Bool.false_or, Bool.and_false, Bool.false_and, decide_eq_false h0, e4, en, c15 n ws (hq.mono (by omega)) (e := d - 1 - e) (by omega) (by omega), hd, okd, F_rI]
      have w : Z 1000 (rI ((q * pw (d - 1 - e)).num / ((q * pw (d - 1 - e)).den : Int))) := (Z_whole zs (by omega) false).mono (by omega)
      simp only [c15 n ws w (e := e - d + 1) (by omega) (by omega), ev.eq_1, ev.eq_2, ev.eq_3, ev.eq_4, ev.eq_5, ev.eq_6, ev.eq_7, ev.eq_8, ev.eq_9, ev.eq_10, ev.eq_11, ev.eq_12, ev.eq_13, ev.eq_14, ev.eq_15, ev.eq_16, ev.eq_17, ev.eq_18, ev.eq_19, ev.eq_20, ev.eq_21, ev.eq_22, ev.eq_23, ev.eq_24, ev.eq_25, ev.eq_26, ev.eq_27, ev.eq_28, ev.eq_29, evs.eq_1, evs.eq_2, evT, exec.eq_1, exec.eq_2, exec.eq_3, exec.eq_4, exec.eq_5, exec.eq_6, exec.eq_7, exec.eq_8, exec.eq_9, exec.eq_10, exec.eq_11, exec.eq_12, exec.eq_13, exec.eq_14, exec.eq_15, exec.eq_16, exec.eq_19, exec.eq_20, exec.eq_21, exec.eq_22, exec.eq_23, execs.eq_1, execs.eq_2, x_whl, x_for, x_comp, x_compIf, bor, vi, mkEnv, eg, es, frzA, frzS, bn, bt, bind_F, setAll, setPar, wipeE, tgs, b_add, b_sub, b_mul, b_fdiv, b_mod, b_shl, b_shr, b_pow, b_tup, b_lst, o_lt, o_le, o_gt, o_ge, o_eqi, o_nei, o_neb, o_isb, u_len1, u_len2, u_len3, u_abs, u_int, u_lst1, u_lst2, u_tup, u_max, s_int, s_bl, s_tup, s_lst, s_non, s_str, a_add, a_sub, i_tup, i_lst, r_bl, r_int, fin, chk_own, chk_some, isN, bnd, isNone, ixW_0, ixW_1, ixW_2, F_0, F_1, ixW_w, wg_1, wg_0, wp_0, List.map, List.length, List.replicate, List.cons_append, List.nil_append, List.append_nil, Nat.reduceSub, Nat.reduceAdd, Nat.sub_self, Nat.sub_zero, if_true, Bool.false_eq_true, if_false, reduceIte, ite_true, ite_false, Bool.and_self, Bool.and_true, Bool.true_and, Bool.not_true, Bool.not_false, Nat.reduceLT, Nat.reduceLeDiff, decide_true, decide_false, Int.reduceLT, Int.reduceLE, Int.reduceAdd, Int.reduceSub, Int.reduceNeg, Bool.or_true, Bool.or_false, Bool.true_or, Bool.false_or, Bool.and_false, Bool.false_and]
      unfold crs
      rw [if_neg h0, ex_of e1]
      rfl
/-! the same by steps -/
section
variable {q : Rat} {b : Nat} {x0 x1 x2 : D}
theorem lo_pw (hq : Z b q) (h0 : q.num ≠ 0) : pw (-(b : Int)) ≤ ab q := by
  rw [pw_le (a := 0) (b := b) (by omega), ab_num, ab_den, Int.pow_zero, Int.one_mul]
  have h1 : ((q.den : Nat) : Int) < ((2 ^ b : Nat) : Int) := Int.ofNat_lt.mpr hq.2
  rw [Int.natCast_pow] at h1
  have h2 : (1 : Int) ≤ q.num.natAbs := by omega
  have := Int.mul_le_mul_of_nonneg_right h2 (Int.le_of_lt (pos2 b))
  have e : ((2 : Nat) : Int) ^ b = 2 ^ b := rfl
  omega
theorem hi_pw (hq : Z b q) : ab q < pw b := by
  rw [lt_pw (a := b) (b := 0) (by omega), ab_num, ab_den, Int.pow_zero, Int.mul_one]
  have h1 : ((q.num.natAbs : Nat) : Int) < ((2 ^ b : Nat) : Int) := Int.ofNat_lt.mpr hq.1
  rw [Int.natCast_pow] at h1
  have h2 := den_pos q
  have := Int.mul_le_mul_of_nonneg_left (show (1 : Int) ≤ q.den by omega) (Int.le_of_lt (pos2 b))
  have e : ((2 : Nat) : Int) ^ b = 2 ^ b := rfl
  omega
theorem down (hq : Z b q) (hb : b ≤ 900) (h0 : q.num ≠ 0) : ∀ (j : Nat) (p : Int) (m : Nat), p ≤ 0 → -(b : Int) ≤ p → p + b ≤ j → j + 1 ≤ m →
    ∃ p' : Int, -(b : Int) ≤ p' ∧ p' ≤ 0 ∧ pw p' ≤ ab q ∧ whlX (callO P (n + 1)) t47_0 l47_1 m [.va x0, .va x1, .va x2, .un, .un, .va (F (ab q)), .va (.int p)] ws = some (.nx, [.va x0, .va x1, .va x2, .un, .un, .va (F (ab q)), .va (.int p')], ws)
  | j, p, m, h1, h2, h3, hm => by
    obtain ⟨m, rfl⟩ : ∃ i, m = i + 1 := ⟨m - 1, by omega⟩
    have z := hq.mono (show b ≤ 1000 by omega)
    have e46 := c46 n ws (e := p) (by omega) (by omega)
    have e42 := c42 n ws (Z_ab z) ((Z_pw (e := p) (m := 900) (by omega) (by omega)).mono (by decide))
    by_cases h : ab q < pw p
    · have hp : -(b : Int) < p := by
        by_cases g : -(b : Int) < p
        · exact g
        · have : p = -(b : Int) := by omega
          subst this
          have := lo_pw hq h0
          exact absurd h (Rat.not_lt.mpr this)
      obtain ⟨j, rfl⟩ : ∃ i, j = i + 1 := ⟨j - 1, by omega⟩
      obtain ⟨p', g1, g2, g3, g4⟩ := down hq hb h0 j (p - 1) m (by omega) (by omega) (by omega) (by omega)
      refine ⟨p', g1, g2, g3, ?_⟩
      rw [whl_go (ws1 := ws) (ws2 := ws) (env2 := [.va x0, .va x1, .va x2, .un, .un, .va (F (ab q)), .va (.int (p - 1))])]
      · exact g4
      · simp only [t47_0, ev.eq_1, ev.eq_2, ev.eq_3, ev.eq_4, ev.eq_5, ev.eq_6, ev.eq_7, ev.eq_8, ev.eq_9, ev.eq_10, ev.eq_11, ev.eq_12, ev.eq_13, ev.eq_14, ev.eq_15, ev.eq_16, ev.eq_17, ev.eq_18, ev.eq_19, ev.eq_20, ev.eq_21, ev.eq_22, ev.eq_23, ev.eq_24, ev.eq_25, ev.eq_26, ev.eq_27, ev.eq_28, ev.eq_29, evs.eq_1, evs.eq_2, evT, exec.eq_1, exec.eq_2, exec.eq_3, exec.eq_4, exec.eq_5, exec.eq_6, exec.eq_7, exec.eq_8, exec.eq_9, exec.eq_10, exec.eq_11, exec.eq_12, exec.eq_13, exec.eq_14, exec.eq_15, exec.eq_16, exec.eq_19, exec.eq_20, exec.eq_21, exec.eq_22, exec.eq_23, execs.eq_1, execs.eq_2, x_whl, x_for, x_comp, x_compIf, bor, vi, mkEnv, eg, es, frzA, frzS, bn, bt, bind_F, setAll, setPar, wipeE, tgs, b_add, b_sub, b_mul, b_fdiv, b_mod, b_shl, b_shr, b_pow, b_tup, b_lst, o_lt, o_le, o_gt, o_ge, o_eqi, o_nei, o_neb, o_isb, u_len1, u_len2, u_len3, u_abs, u_int, u_lst1, u_lst2, u_tup, u_max, s_int, s_bl, s_tup, s_lst, s_non, s_str, a_add, a_sub, i_tup, i_lst, r_bl, r_int, fin, chk_own, chk_some, isN, bnd, isNone, ixW_0, ixW_1, ixW_2, F_0, F_1, ixW_w, wg_1, wg_0, wp_0, List.map, List.length, List.replicate, List.cons_append, List.nil_append, List.append_nil, Nat.reduceSub, Nat.reduceAdd, Nat.sub_self, Nat.sub_zero, if_true, Bool.false_eq_true, if_false, reduceIte, ite_true, ite_false, Bool.and_self, Bool.and_true, Bool.true_and, Bool.not_true, Bool.not_false, Nat.reduceLT, Nat.reduceLeDiff, decide_true, decide_false, Int.reduceLT, Int.reduceLE, Int.reduceAdd, Int.reduceSub, Int.reduceNeg, Bool.or_true, Bool.or_false, Bool.true_or, Bool.false_or, Bool.and_false, Bool.false_and, e46, e42, decide_eq_true h]
      · simp only [l47_1, ev.eq_1, ev.eq_2, ev.eq_3, ev.eq_4, ev.eq_5, ev.eq_6, ev.eq_7, ev.eq_8, ev.eq_9, ev.eq_10, ev.eq_11, ev.eq_12, ev.eq_13, ev.eq_14, ev.eq_15, ev.eq_16, ev.eq_17, ev.eq_18, ev.eq_19, ev.eq_20, ev.eq_21, ev.eq_22, ev.eq_23, ev.eq_24, ev.eq_25, ev.eq_26, ev.eq_27, ev.eq_28, ev.eq_29, evs.eq_1, evs.eq_2, evT, exec.eq_1, exec.eq_2, exec.eq_3, exec.eq_4, exec.eq_5, exec.eq_6, exec.eq_7, exec.eq_8, exec.eq_9, exec.eq_10, exec.eq_11, exec.eq_12, exec.eq_13, exec.eq_14, exec.eq_15, exec.eq_16, exec.eq_19, exec.eq_20, exec.eq_21, exec.eq_22, exec.eq_23, execs.eq_1, execs.eq_2, x_whl, x_for, x_comp, x_compIf, bor, vi, mkEnv, eg, es, frzA, frzS, bn, bt, bind_F, setAll, setPar, wipeE, tgs, b_add, b_sub, b_mul, b_fdiv, b_mod, b_shl, b_shr, b_pow, b_tup, b_lst, o_lt, o_le, o_gt, o_ge, o_eqi, o_nei, o_neb, o_isb, u_len1, u_len2, u_len3, u_abs, u_int, u_lst1, u_lst2, u_tup, u_max, s_int, s_bl, s_tup, s_lst, s_non, s_str, a_add, a_sub, i_tup, i_lst, r_bl, r_int, fin, chk_own, chk_some, isN, bnd, isNone, ixW_0, ixW_1, ixW_2, F_0, F_1, ixW_w, wg_1, wg_0, wp_0, List.map, List.length, List.replicate, List.cons_append, List.nil_append, List.append_nil, Nat.reduceSub, Nat.reduceAdd, Nat.sub_self, Nat.sub_zero, if_true, Bool.false_eq_true, if_false, reduceIte, ite_true, ite_false, Bool.and_self, Bool.and_true, Bool.true_and, Bool.not_true, Bool.not_false, Nat.reduceLT, Nat.reduceLeDiff, decide_true, decide_false, Int.reduceLT, Int.reduceLE, Int.reduceAdd, Int.reduceSub, Int.reduceNeg, Bool.or_true, Bool.or_false, Bool.true_or, Bool.false_or, Bool.and_false, Bool.false_and]
    · refine ⟨p, h2, h1, Rat.not_lt.mp h, whl_stop ?_⟩
      simp only [t47_0, ev.eq_1, ev.eq_2, ev.eq_3, ev.eq_4, ev.eq_5, ev.eq_6, ev.eq_7, ev.eq_8, ev.eq_9, ev.eq_10, ev.eq_11, ev.eq_12, ev.eq_13, ev.eq_14, ev.eq_15, ev.eq_16, ev.eq_17, ev.eq_18, ev.eq_19, ev.eq_20, ev.eq_21, ev.eq_22, ev.eq_23, ev.eq_24, ev.eq_25, ev.eq_26, ev.eq_27, ev.eq_28, ev.eq_29, evs.eq_1, evs.eq_2, evT, exec.eq_1, exec.eq_2, exec.eq_3, exec.eq_4, exec.eq_5, exec.eq_6, exec.eq_7, exec.eq_8, exec.eq_9, exec.eq_10, exec.eq_11, exec.eq_12, exec.eq_13, exec.eq_14, exec.eq_15, exec.eq_16, exec.eq_19, exec.eq_20, exec.eq_21, exec.eq_22, exec.eq_23, execs.eq_1, execs.eq_2, x_whl, x_for, x_comp, x_compIf, bor, vi, mkEnv, eg, es, frzA, frzS, bn, bt, bind_F, setAll, setPar, wipeE, tgs, b_add, b_sub, b_mul, b_fdiv, b_mod, b_shl, b_shr, b_pow, b_tup, b_lst, o_lt, o_le, o_gt, o_ge, o_eqi, o_nei, o_neb, o_isb, u_len1, u_len2, u_len3, u_abs, u_int, u_lst1, u_lst2, u_tup, u_max, s_int, s_bl, s_tup, s_lst, s_non, s_str, a_add, a_sub, i_tup, i_lst, r_bl, r_int, fin, chk_own, chk_some, isN, bnd, isNone, ixW_0, ixW_1, ixW_2, F_0, F_1, ixW_w, wg_1, wg_0, wp_0, List.map, List.length, List.replicate, List.cons_append, List.nil_append, List.append_nil, Nat.reduceSub, Nat.reduceAdd, Nat.sub_self, Nat.sub_zero, if_true, Bool.false_eq_true, if_false, reduceIte, ite_true, ite_false, Bool.and_self, Bool.and_true, Bool.true_and, Bool.not_true, Bool.not_false, Nat.reduceLT, Nat.reduceLeDiff, decide_true, decide_false, Int.reduceLT, Int.reduceLE, Int.reduceAdd, Int.reduceSub, Int.reduceNeg, Bool.or_true, Bool.or_false, Bool.true_or, Bool.false_or, Bool.and_false, Bool.false_and, e46, e42, decide_eq_false h]
theorem climb (hq : Z b q) (hb : b ≤ 900) : ∀ (j : Nat) (p : Int) (m : Nat), pw p ≤ ab q → -(b : Int) ≤ p → p < b → b - p ≤ j → j + 1 ≤ m →
    ∃ p' : Int, -(b : Int) ≤ p' ∧ p' ≤ b ∧ isE q p' ∧ whlX (callO P (n + 1)) t47_2 l47_3 m [.va x0, .va x1, .va x2, .un, .un, .va (F (ab q)), .va (.int p)] ws = some (.nx, [.va x0, .va x1, .va x2, .un, .un, .va (F (ab q)), .va (.int p')], ws)
  | j, p, m, h1, h2, h2', h3, hm => by
    obtain ⟨m, rfl⟩ : ∃ i, m = i + 1 := ⟨m - 1, by omega⟩
    have z := hq.mono (show b ≤ 1000 by omega)
    have e46 := c46 n ws (e := p + 1) (by omega) (by omega)
    have e42 := c42 n ws (Z_ab z) ((Z_pw (e := p + 1) (m := 901) (by omega) (by omega)).mono (by decide))
    by_cases h : ab q < pw (p + 1)
    · refine ⟨p, h2, by omega, ⟨h1, h⟩, whl_stop ?_⟩
      simp only [t47_2, ev.eq_1, ev.eq_2, ev.eq_3, ev.eq_4, ev.eq_5, ev.eq_6, ev.eq_7, ev.eq_8, ev.eq_9, ev.eq_10, ev.eq_11, ev.eq_12, ev.eq_13, ev.eq_14, ev.eq_15, ev.eq_16, ev.eq_17, ev.eq_18, ev.eq_19, ev.eq_20, ev.eq_21, ev.eq_22, ev.eq_23, ev.eq_24, ev.eq_25, ev.eq_26, ev.eq_27, ev.eq_28, ev.eq_29, evs.eq_1, evs.eq_2, evT, exec.eq_1, exec.eq_2, exec.eq_3, exec.eq_4, exec.eq_5, exec.eq_6, exec.eq_7, exec.eq_8, exec.eq_9, exec.eq_10, exec.eq_11, exec.eq_12, exec.eq_13, exec.eq_14, exec.eq_15, exec.eq_16, exec.eq_19, exec.eq_20, exec.eq_21, exec.eq_22, exec.eq_23, execs.eq_1, execs.eq_2, x_whl, x_for, x_comp, x_compIf, bor, vi, mkEnv, eg, es, frzA, frzS, bn, bt, bind_F, setAll, setPar, wipeE, tgs, b_add, b_sub, b_mul, b_fdiv, b_mod, b_shl, b_shr, b_pow, b_tup, b_lst, o_lt, o_le, o_gt, o_ge, o_eqi, o_nei, o_neb, o_isb, u_len1, u_len2, u_len3, u_abs, u_int, u_lst1, u_lst2, u_tup, u_max, s_int, s_bl, s_tup, s_lst, s_non, s_str, a_add, a_sub, i_tup, i_lst, r_bl, r_int, fin, chk_own, chk_some, isN, bnd, isNone, ixW_0, ixW_1, ixW_2, F_0, F_1, ixW_w, wg_1, wg_0, wp_0, List.map, List.length, List.replicate, List.cons_append, List.nil_append, List.append_nil, Nat.reduceSub, Nat.reduceAdd, Nat.sub_self, Nat.sub_zero, if_true, Bool.false_eq_true, if_false, reduceIte, ite_true, ite_false, Bool.and_self, Bool.and_true, Bool.true_and, Bool.not_true, Bool.not_false, Nat.reduceLT, Nat.reduceLeDiff, decide_true, decide_false, Int.reduceLT, Int.reduceLE, Int.reduceAdd, Int.reduceSub, Int.reduceNeg, Bool.or_true, Bool.or_false, Bool.true_or, Bool.false_or, Bool.and_false, Bool.false_and, e46, e42, decide_eq_true h]
    · have hp : p + 1 < b := by
        by_cases g : p + 1 < b
        · exact g
        · have : p + 1 = b := by omega
          rw [this] at h
          exact absurd (hi_pw hq) h
      obtain ⟨j, rfl⟩ : ∃ i, j = i + 1 := ⟨j - 1, by omega⟩
      obtain ⟨p', g1, g2, g3, g4⟩ := climb hq hb j (p + 1) m (Rat.not_lt.mp h) (by omega) hp (by omega) (by omega)
      refine ⟨p', g1, g2, g3, ?_⟩
      rw [whl_go (ws1 := ws) (ws2 := ws) (env2 := [.va x0, .va x1, .va x2, .un, .un, .va (F (ab q)), .va (.int (p + 1))])]
      · exact g4
      · simp only [t47_2, ev.eq_1, ev.eq_2, ev.eq_3, ev.eq_4, ev.eq_5, ev.eq_6, ev.eq_7, ev.eq_8, ev.eq_9, ev.eq_10, ev.eq_11, ev.eq_12, ev.eq_13, ev.eq_14, ev.eq_15, ev.eq_16, ev.eq_17, ev.eq_18, ev.eq_19, ev.eq_20, ev.eq_21, ev.eq_22, ev.eq_23, ev.eq_24, ev.eq_25, ev.eq_26, ev.eq_27, ev.eq_28, ev.eq_29, evs.eq_1, evs.eq_2, evT, exec.eq_1, exec.eq_2, exec.eq_3, exec.eq_4, exec.eq_5, exec.eq_6, exec.eq_7, exec.eq_8, exec.eq_9, exec.eq_10, exec.eq_11, exec.eq_12, exec.eq_13, exec.eq_14, exec.eq_15, exec.eq_16, exec.eq_19, exec.eq_20, exec.eq_21, exec.eq_22, exec.eq_23, execs.eq_1, execs.eq_2, x_whl, x_for, x_comp, x_compIf, bor, vi, mkEnv, eg, es, frzA, frzS, bn, bt, bind_F, setAll, setPar, wipeE, tgs, b_add, b_sub, b_mul, b_fdiv, b_mod, b_shl, b_shr, b_pow, b_tup, b_lst, o_lt, o_le, o_gt, o_ge, o_eqi, o_nei, o_neb, o_isb, u_len1, u_len2, u_len3, u_abs, u_int, u_lst1, u_lst2, u_tup, u_max, s_int, s_bl, s_tup, s_lst, s_non, s_str, a_add, a_sub, i_tup, i_lst, r_bl, r_int, fin, chk_own, chk_some, isN, bnd, isNone, ixW_0, ixW_1, ixW_2, F_0, F_1, ixW_w, wg_1, wg_0, wp_0, List.map, List.length, List.replicate, List.cons_append, List.nil_append, List.append_nil, Nat.reduceSub, Nat.reduceAdd, Nat.sub_self, Nat.sub_zero, if_true, Bool.false_eq_true, if_false, reduceIte, ite_true, ite_false, Bool.and_self, Bool.and_true, Bool.true_and, Bool.not_true, Bool.not_false, Nat.reduceLT, Nat.reduceLeDiff, decide_true, decide_false, Int.reduceLT, Int.reduceLE, Int.reduceAdd, Int.reduceSub, Int.reduceNeg, Bool.or_true, Bool.or_false, Bool.true_or, Bool.false_or, Bool.and_false, Bool.false_and, e46, e42, decide_eq_false h]
      · simp only [l47_3, ev.eq_1, ev.eq_2, ev.eq_3, ev.eq_4, ev.eq_5, ev.eq_6, ev.eq_7, ev.eq_8, ev.eq_9, ev.eq_10, ev.eq_11, ev.eq_12, ev.eq_13, ev.eq_14, ev.eq_15, ev.eq_16, ev.eq_17, ev.eq_18, ev.eq_19, ev.eq_20, ev.eq_21, ev.eq_22, ev.eq_23, ev.eq_24, ev.eq_25, ev.eq_26, ev.eq_27, ev.eq_28, ev.eq_29, evs.eq_1, evs.eq_2, evT, exec.eq_1, exec.eq_2, exec.eq_3, exec.eq_4, exec.eq_5, exec.eq_6, exec.eq_7, exec.eq_8, exec.eq_9, exec.eq_10, exec.eq_11, exec.eq_12, exec.eq_13, exec.eq_14, exec.eq_15, exec.eq_16, exec.eq_19, exec.eq_20, exec.eq_21, exec.eq_22, exec.eq_23, execs.eq_1, execs.eq_2, x_whl, x_for, x_comp, x_compIf, bor, vi, mkEnv, eg, es, frzA, frzS, bn, bt, bind_F, setAll, setPar, wipeE, tgs, b_add, b_sub, b_mul, b_fdiv, b_mod, b_shl, b_shr, b_pow, b_tup, b_lst, o_lt, o_le, o_gt, o_ge, o_eqi, o_nei, o_neb, o_isb, u_len1, u_len2, u_len3, u_abs, u_int, u_lst1, u_lst2, u_tup, u_max, s_int, s_bl, s_tup, s_lst, s_non, s_str, a_add, a_sub, i_tup, i_lst, r_bl, r_int, fin, chk_own, chk_some, isN, bnd, isNone, ixW_0, ixW_1, ixW_2, F_0, F_1, ixW_w, wg_1, wg_0, wp_0, List.map, List.length, List.replicate, List.cons_append, List.nil_append, List.append_nil, Nat.reduceSub, Nat.reduceAdd, Nat.sub_self, Nat.sub_zero, if_true, Bool.false_eq_true, if_false, reduceIte, ite_true, ite_false, Bool.and_self, Bool.and_true, Bool.true_and, Bool.not_true, Bool.not_false, Nat.reduceLT, Nat.reduceLeDiff, decide_true, decide_false, Int.reduceLT, Int.reduceLE, Int.reduceAdd, Int.reduceSub, Int.reduceNeg, Bool.or_true, Bool.or_false, Bool.true_or, Bool.false_or, Bool.and_false, Bool.false_and]
end
theorem c47 {q : Rat} {b : Nat} {d : Int} {u : Bool} (hq : Z b q) (hb : b ≤ 300) (h1 : 1 ≤ d) (h2 : d ≤ 10) : callO P (n + 3) 47 [F q, .int d, .bl u] ws = some (F (crs q d u), ws) := by
  by_cases h0 : q.num = 0
  · rw [call_at (d := d47) rfl rfl]
    simp only [d47, b47, ev.eq_1, ev.eq_2, ev.eq_3, ev.eq_4, ev.eq_5, ev.eq_6, ev.eq_7, ev.eq_8, ev.eq_9, ev.eq_10, ev.eq_11, ev.eq_12, ev.eq_13, ev.eq_14, ev.eq_15, ev.eq_16, ev.eq_17, ev.eq_18, ev.eq_19, ev.eq_20, ev.eq_21, ev.eq_22, ev.eq_23, ev.eq_24, ev.eq_25, ev.eq_26, ev.eq_27, ev.eq_28, ev.eq_29, evs.eq_1, evs.eq_2, evT, exec.eq_1, exec.eq_2, exec.eq_3, exec.eq_4, exec.eq_5, exec.eq_6, exec.eq_7, exec.eq_8, exec.eq_9, exec.eq_10, exec.eq_11, exec.eq_12, exec.eq_13, exec.eq_14, exec.eq_15, exec.eq_16, exec.eq_19, exec.eq_20, exec.eq_21, exec.eq_22, exec.eq_23, execs.eq_1, execs.eq_2, x_whl, x_for, x_comp, x_compIf, bor, vi, mkEnv, eg, es, frzA, frzS, bn, bt, bind_F, setAll, setPar, wipeE, tgs, b_add, b_sub, b_mul, b_fdiv, b_mod, b_shl, b_shr, b_pow, b_tup, b_lst, o_lt, o_le, o_gt, o_ge, o_eqi, o_nei, o_neb, o_isb, u_len1, u_len2, u_len3, u_abs, u_int, u_lst1, u_lst2, u_tup, u_max, s_int, s_bl, s_tup, s_lst, s_non, s_str, a_add, a_sub, i_tup, i_lst, r_bl, r_int, fin, chk_own, chk_some, isN, bnd, isNone, ixW_0, ixW_1, ixW_2, F_0, F_1, ixW_w, wg_1, wg_0, wp_0, List.map, List.length, List.replicate, List.cons_append, List.nil_append, List.append_nil, Nat.reduceSub, Nat.reduceAdd, Nat.sub_self, Nat.sub_zero, if_true, Bool.false_eq_true, if_false, reduceIte, ite_true, ite_false, Bool.and_self, Bool.and_true, Bool.true_and, Bool.not_true, Bool.not_false, Nat.reduceLT, Nat.reduceLeDiff, decide_true, decide_false, Int.reduceLT, Int.reduceLE, Int.reduceAdd, Int.reduceSub, Int.reduceNeg, Bool.or_true, Bool.or_false, Bool.true_or, Bool.false_or, Bool.and_false, Bool.false_and, decide_eq_true h0, crs, if_pos h0]
  · obtain ⟨p, p1, p2, p3', p4⟩ := down (n + 1) ws (x0 := F q) (x1 := .int d) (x2 := .bl u) hq (by omega) h0 (b + 1) 0 fuel (by omega) (by omega) (by omega) (by unfold fuel; omega)
    have hlt : p < b := by
      by_cases g : p < b
      · exact g
      · exfalso
        have a := pw_mono (show (b : Int) ≤ p by omega)
        have c := hi_pw hq
        grind
    obtain ⟨e, e2, e3, e1, e4⟩ := climb (n + 1) ws (x0 := F q) (x1 := .int d) (x2 := .bl u) hq (by omega) (2 * b + 1) p fuel p3' p1 hlt (by omega) (by unfold fuel; omega)
    have zp := Z_pw (e := d - 1 - e) (m := b + 10) (by omega) (by omega)
    have zs := Z_mul hq zp
    have okd : okI ((q * pw (d - 1 - e)).den : Int) = true := okI_of (p3 (k := 0) (den_lt zs) (by omega))
    have hd := decide_eq_true (den_pos (q * pw (d - 1 - e)))
    have zq := Z_pw (e := e - d + 1) (m := 999) (by omega) (by omega)
    rw [call_at (d := d47) rfl rfl]
    cases u with
    | true =>
      simp only [d47, b47, ev.eq_1, ev.eq_2, ev.eq_3, ev.eq_4, ev.eq_5, ev.eq_6, ev.eq_7, ev.eq_8, ev.eq_9, ev.eq_10, ev.eq_11, ev.eq_12, ev.eq_13, ev.eq_14, ev.eq_15, ev.eq_16, ev.eq_17, ev.eq_18, ev.eq_19, ev.eq_20, ev.eq_21, ev.eq_22, ev.eq_23, ev.eq_24, ev.eq_25, ev.eq_26, ev.eq_27, ev.eq_28, ev.eq_29, evs.eq_1, evs.eq_2, evT, exec.eq_1, exec.eq_2, exec.eq_3, exec.eq_4, exec.eq_5, exec.eq_6, exec.eq_7, exec.eq_8, exec.eq_9, exec.eq_10, exec.eq_11, exec.eq_12, exec.eq_13, exec.eq_14, exec.eq_15, exec.eq_16, exec.eq_19, exec.eq_20, exec.eq_21, exec.eq_22, exec.eq_23, execs.eq_1, execs.eq_2, x_whl, x_for, x_comp, x_compIf, bor, vi, mkEnv, eg, es, frzA, frzS, bn, bt, bind_F, setAll, setPar, wipeE, tgs, b_add, b_sub, b_mul, b_fdiv, b_mod, b_shl, b_shr, b_pow, b_tup, b_lst, o_lt, o_le, o_gt, o_ge, o_eqi, o_nei, o_neb, o_isb, u_len1, u_len2, u_len3, u_abs, u_int, u_lst1, u_lst2, u_tup, u_max, s_int, s_bl, s_tup, s_lst, s_non, s_str, a_add, a_sub, i_tup, i_lst, r_bl, r_int, fin, chk_own, chk_some, isN, bnd, isNone, ixW_0, ixW_1, ixW_2, F_0, F_1, ixW_w, wg_1, wg_0, wp_0, List.map, List.length, List.replicate, List.cons_append, List.nil_append, List.append_nil, Nat.reduceSub, Nat.reduceAdd, Nat.sub_self, Nat.sub_zero, if_true, Bool.false_eq_true, if_false, reduceIte, ite_true, ite_false, Bool.and_self, Bool.and_true, Bool.true_and, Bool.not_true, Bool.not_false, Nat.reduceLT, Nat.reduceLeDiff, decide_true, decide_false, Int.reduceLT, Int.reduceLE, Int.reduceAdd, Int.reduceSub, Int.reduceNeg, Bool.or_true, Bool.or_false, Bool.true_or, Bool.false_or, Bool.and_false, Bool.false_and, decide_eq_false h0, c45 (n + 1) ws, p4, e4, c46 (n + 1) ws (e := d - 1 - e) (by omega) (by omega), c43 n ws (hq.mono (by omega)) (zp.mono (by omega)), hd, okd, F_rI, Int.zero_sub, c46 (n + 1) ws (e := e - d + 1) (by omega) (by omega)]
      have w : Z 1000 (rI (-(-(q * pw (d - 1 - e)).num / ((q * pw (d - 1 - e)).den : Int)))) := (Z_whole zs (by omega) true).mono (by omega)
      simp only [c43 n ws w zq, ev.eq_1, ev.eq_2, ev.eq_3, ev.eq_4, ev.eq_5, ev.eq_6, ev.eq_7, ev.eq_8, ev.eq_9, ev.eq_10, ev.eq_11, ev.eq_12, ev.eq_13, ev.eq_14, ev.eq_15, ev.eq_16, ev.eq_17, ev.eq_18, ev.eq_19, ev.eq_20, ev.eq_21, ev.eq_22, ev.eq_23, ev.eq_24, ev.eq_25, ev.eq_26, ev.eq_27, ev.eq_28, ev.eq_29, evs.eq_1, evs.eq_2, evT, exec.eq_1, exec.eq_2, exec.eq_3, exec.eq_4, exec.eq_5, exec.eq_6, exec.eq_7, exec.eq_8, exec.eq_9, exec.eq_10, exec.eq_11, exec.eq_12, exec.eq_13, exec.eq_14, exec.eq_15, exec.eq_16, exec.eq_19, exec.eq_20, exec.eq_21, exec.eq_22, exec.eq_23, execs.eq_1, execs.eq_2, x_whl, x_for, x_comp, x_compIf, bor, vi, mkEnv, eg, es, frzA, frzS, bn, bt, bind_F, setAll, setPar, wipeE, tgs, b_add, b_sub, b_mul, b_fdiv, b_mod, b_shl, b_shr, b_pow, b_tup, b_lst, o_lt, o_le, o_gt, o_ge, o_eqi, o_nei, o_neb, o_isb, u_len1, u_len2, u_len3, u_abs, u_int, u_lst1, u_lst2, u_tup, u_max, s_int, s_bl, s_tup, s_lst, s_non, s_str, a_add, a_sub, i_tup, i_lst, r_bl, r_int, fin, chk_own, chk_some, isN, bnd, isNone, ixW_0, ixW_1, ixW_2, F_0, F_1, ixW_w, wg_1, wg_0, wp_0, List.map, List.length, List.replicate, List.cons_append, List.nil_append, List.append_nil, Nat.reduceSub, Nat.reduceAdd, Nat.sub_self, Nat.sub_zero, if_true, Bool.false_eq_true, if_false, reduceIte, ite_true, ite_false, Bool.and_self, Bool.and_true, Bool.true_and, Bool.not_true, Bool.not_false, Nat.reduceLT, Nat.reduceLeDiff, decide_true, decide_false, Int.reduceLT, Int.reduceLE, Int.reduceAdd, Int.reduceSub, Int.reduceNeg, Bool.or_true, Bool.or_false, Bool.true_or, Bool.false_or, Bool.and_false, Bool.false_and]
      unfold crs
      rw [if_neg h0, ex_of e1]
      rfl
    | false =>
      simp only [d47, b47, ev.eq_1, ev.eq_2, ev.eq_3, ev.eq_4, ev.eq_5, ev.eq_6, ev.eq_7, ev.eq_8, ev.eq_9, ev.eq_10, ev.eq_11, ev.eq_12, ev.eq_13, ev.eq_14, ev.eq_15, ev.eq_16, ev.eq_17, ev.eq_18, ev.eq_19, ev.eq_20, ev.eq_21, ev.eq_22, ev.eq_23, ev.eq_24, ev.eq_25, ev.eq_26, ev.eq_27, ev.eq_28, ev.eq_29, evs.eq_1, evs.eq_2, evT, exec.eq_1, exec.eq_2, exec.eq_3, exec.eq_4, exec.eq_5, exec.eq_6, exec.eq_7, exec.eq_8, exec.eq_9, exec.eq_10, exec.eq_11, exec.eq_12, exec.eq_13, exec.eq_14, exec.eq_15, exec.eq_16, exec.eq_19, exec.eq_20, exec.eq_21, exec.eq_22, exec.eq_23, execs.eq_1, execs.eq_2, x_whl, x_for, x_comp, x_compIf, bor, vi, mkEnv, eg, es, frzA, frzS, bn, bt, bind_F, setAll, setPar, wipeE, tgs, b_add, b_sub, b_mul, b_fdiv, b_mod, b_shl, b_shr, b_pow, b_tup, b_lst, o_lt, o_le, o_gt, o_ge, o_eqi, o_nei, o_neb, o_isb, u_len1, u_len2, u_len3, u_abs, u_int, u_lst1, u_lst2, u_tup, u_max, s_int, s_bl, s_tup, s_lst, s_non, s_str, a_add, a_sub, i_tup, i_lst, r_bl, r_int, fin, chk_own, chk_some, isN, bnd, isNone, ixW_0, ixW_1, ixW_2, F_0, F_1, ixW_w, wg_1, wg_0, wp_0, List.map, List.length, List.replicate, List.cons_append, List.nil_append, List.append_nil, Nat.reduceSub, Nat.reduceAdd, Nat.sub_self, Nat.sub_zero, if_true, Bool.false_eq_true, if_false, reduceIte, ite_true, ite_false, Bool.and_self, Bool.and_true, Bool.true_and, Bool.not_true, Bool.not_false, Nat.reduceLT, Nat.reduceLeDiff, decide_true, decide_false, Int.reduceLT, Int.reduceLE, Int.reduceAdd, Int.reduceSub, Int.reduceNeg, Bool.or_true, Bool.or_false, Bool.true_or, Bool.false_or, Bool.and_false, Bool.false_and, decide_eq_false h0, c45 (n + 1) ws, p4, e4, c46 (n + 1) ws (e := d - 1 - e) (by omega) (by omega), c43 n ws (hq.mono (by omega)) (zp.mono (by omega)), hd, okd, F_rI, Int.zero_sub, c46 (n + 1) ws (e := e - d + 1) (by omega) (by omega)]
      have w : Z 1000 (rI ((q * pw (d - 1 - e)).num / ((q * pw (d - 1 - e)).den : Int))) := (Z_whole zs (by omega) false).mono (by omega)
      simp only [c43 n ws w zq, ev.eq_1, ev.eq_2, ev.eq_3, ev.eq_4, ev.eq_5, ev.eq_6, ev.eq_7, ev.eq_8, ev.eq_9, ev.eq_10, ev.eq_11, ev.eq_12, ev.eq_13, ev.eq_14, ev.eq_15, ev.eq_16, ev.eq_17, ev.eq_18, ev.eq_19, ev.eq_20, ev.eq_21, ev.eq_22, ev.eq_23, ev.eq_24, ev.eq_25, ev.eq_26, ev.eq_27, ev.eq_28, ev.eq_29, evs.eq_1, evs.eq_2, evT, exec.eq_1, exec.eq_2, exec.eq_3, exec.eq_4, exec.eq_5, exec.eq_6, exec.eq_7, exec.eq_8, exec.eq_9, exec.eq_10, exec.eq_11, exec.eq_12, exec.eq_13, exec.eq_14, exec.eq_15, exec.eq_16, exec.eq_19, exec.eq_20, exec.eq_21, exec.eq_22, exec.eq_23, execs.eq_1, execs.eq_2, x_whl, x_for, x_comp, x_compIf, bor, vi, mkEnv, eg, es, frzA, frzS, bn, bt, bind_F, setAll, setPar, wipeE, tgs, b_add, b_sub, b_mul, b_fdiv, b_mod, b_shl, b_shr, b_pow, b_tup, b_lst, o_lt, o_le, o_gt, o_ge, o_eqi, o_nei, o_neb, o_isb, u_len1, u_len2, u_len3, u_abs, u_int, u_lst1, u_lst2, u_tup, u_max, s_int, s_bl, s_tup, s_lst, s_non, s_str, a_add, a_sub, i_tup, i_lst, r_bl, r_int, fin, chk_own, chk_some, isN, bnd, isNone, ixW_0, ixW_1, ixW_2, F_0, F_1, ixW_w, wg_1, wg_0, wp_0, List.map, List.length, List.replicate, List.cons_append, List.nil_append, List.append_nil, Nat.reduceSub, Nat.reduceAdd, Nat.sub_self, Nat.sub_zero, if_true, Bool.false_eq_true, if_false, reduceIte, ite_true, ite_false, Bool.and_self, Bool.and_true, Bool.true_and, Bool.not_true, Bool.not_false, Nat.reduceLT, Nat.reduceLeDiff, decide_true, decide_false, Int.reduceLT, Int.reduceLE, Int.reduceAdd, Int.reduceSub, Int.reduceNeg, Bool.or_true, Bool.or_false, Bool.true_or, Bool.false_or, Bool.and_false, Bool.false_and]
      unfold crs
      rw [if_neg h0, ex_of e1]
      rfl
end Pv.K36


set_option Elab.async false
set_option linter.all false
set_option maxRecDepth 100000
set_option exponentiation.threshold 20
/-! M9: coarse forms. -/
namespace Pv.K36
open Pv
variable (n : Nat) (ws : WS)
theorem exE {q : Rat} {b : Nat} (hq : Z b q) (hb : b ≤ 900) (h0 : q.num ≠ 0) : ∃ e : Int, isE q e ∧ -(b : Int) ≤ e ∧ e ≤ b := by
  obtain ⟨e, e1, e2, e3, _⟩ := c16 0 none hq hb h0
  exact ⟨e, e1, e2, e3⟩
theorem Z_crs {q : Rat} {b : Nat} {d : Int} {u : Bool} (hq : Z b q) (hb : b ≤ 900) (h1 : 1 ≤ d) (h2 : d ≤ 10) : Z (3 * b + 30) (crs q d u) := by
  unfold crs
  split
  · exact hq.mono (by omega)
  · rename_i h0
    obtain ⟨e, e1, e2, e3⟩ := exE hq hb h0
    rw [ex_of e1]
    have zp := Z_pw (e := d - 1 - e) (m := b + 10) (by omega) (by omega)
    have zs := Z_mul hq zp
    have zq := Z_pw (e := e - d + 1) (m := b + 10) (by omega) (by omega)
    exact (Z_mul (Z_whole zs (by omega) u) zq).mono (by omega)
theorem rI_floor (s : Rat) : rI (s.num / s.den) ≤ s := by
  have e : F (rI (s.num / s.den)) = .tup [.int (s.num / s.den), .int 1] := (F_rI _).symm
  obtain ⟨h1, h2⟩ := F_inj e
  rw [Rat.le_iff, h1, h2, Int.mul_one]
  exact Int.ediv_mul_le _ (by have := den_pos s; omega)
theorem crs_le {q : Rat} {d : Int} : crs q d false ≤ q := by
  unfold crs
  split
  · exact Rat.le_refl
  · have h1 := rI_floor (q * pw (d - 1 - ex q))
    have h2 := Rat.mul_le_mul_of_nonneg_right h1 (Rat.le_of_lt (pw_pos (ex q - d + 1)))
    have e : pw (d - 1 - ex q) * pw (ex q - d + 1) = 1 := by
      have := pw_inv (d - 1 - ex q)
      rw [show -(d - 1 - ex q) = ex q - d + 1 by omega] at this
      exact this
    rw [Rat.mul_assoc, e, Rat.mul_one] at h2
    exact h2
theorem ab_pos {q : Rat} (h : 0 ≤ q) : ab q = q := by
  unfold ab
  rw [if_neg]
  have := Rat.num_nonneg.mpr h
  omega
theorem ab_crs (q : Rat) (d : Int) : ab (q - crs q d false) = q - crs q d false := by
  apply ab_pos
  have := crs_le (q := q) (d := d)
  grind
noncomputable def crK (d : Int) (a kv : KV) : KV := kv.foldl (fun a x => put a x.1 (crs x.2 d false)) a
noncomputable def crR (d : Int) (r : Rat) (kv : KV) : Rat := kv.foldl (fun r x => r + (x.2 - crs x.2 d false)) r
theorem len_cr (d : Int) : ∀ (kv a : KV), (crK d a kv).length ≤ a.length + kv.length
  | [], a => Nat.le_refl _
  | p :: kv, a => by
    have h1 := len_cr d kv (put a p.1 (crs p.2 d false))
    have h2 := len_put a p.1 (crs p.2 d false)
    show (crK d (put a p.1 _) kv).length ≤ _
    rw [List.length_cons]
    omega
theorem key_put (a : KV) (m : Int) (q : Rat) : m ∈ keys (put a m q) := look_mem.mp (by rw [look_put, if_pos rfl]; rfl)
theorem loop35 {x0 x2 : D} {d : Int} {j : Nat} (h1 : 1 ≤ d) (h2 : d ≤ 10) (hj : j ≤ 300) : ∀ {kv a : KV} {r : Rat} {k : Nat} {t u : Slot}, Z k r → (∀ x ∈ kv, Z j x.2) → k + kv.length * (4 * j + 32) ≤ 1000 → a.length + kv.length ≤ 1000 →
    ∃ t' u', forX (callO P (n + 5)) (.tp [5, 6]) l35_0 (kv.map rD) [.va x0, .va (.int d), .va x2, .ow (dD a), .va (F r), t, u] ws = some (.nx, [.va x0, .va (.int d), .va x2, .ow (dD (crK d a kv)), .va (F (crR d r kv)), t', u'], ws)
  | [], a, r, k, t, u, _, _, _, _ => ⟨t, u, rfl⟩
  | p :: kv, a, r, k, t, u, hr, hx, hl, hn => by
    rw [List.length_cons, Nat.add_mul] at hl
    rw [List.length_cons] at hn
    have hp := hx p List.mem_cons_self
    have zc := Z_crs (u := false) hp (by omega) h1 h2
    have zd := Z_sub hp zc
    have zr := Z_add hr zd
    have := len_put a p.1 (crs p.2 d false)
    obtain ⟨t', u', e⟩ := loop35 (x0 := x0) (x2 := x2) h1 h2 hj (kv := kv) (a := put a p.1 (crs p.2 d false)) (r := r + (p.2 - crs p.2 d false)) (t := .va (.int p.1)) (u := .va (F p.2)) (zr.mono (show _ ≤ k + (4 * j + 32) by omega)) (fun z hz => hx z (List.mem_cons_of_mem _ hz)) (by omega) (by omega)
    refine ⟨t', u', ?_⟩
    have ol : okLen (kD a).length = true := ol_le (by rw [len_k]; omega)
    have ix := ix_d ws (key_put a p.1 (crs p.2 d false))
    rw [val_put, if_pos rfl] at ix
    rw [List.map_cons, for_cons]
    simp only [l35_0, bind_r, ev.eq_1, ev.eq_2, ev.eq_3, ev.eq_4, ev.eq_5, ev.eq_6, ev.eq_7, ev.eq_8, ev.eq_9, ev.eq_10, ev.eq_11, ev.eq_12, ev.eq_13, ev.eq_14, ev.eq_15, ev.eq_16, ev.eq_17, ev.eq_18, ev.eq_19, ev.eq_20, ev.eq_21, ev.eq_22, ev.eq_23, ev.eq_24, ev.eq_25, ev.eq_26, ev.eq_27, ev.eq_28, ev.eq_29, evs.eq_1, evs.eq_2, evT, exec.eq_1, exec.eq_2, exec.eq_3, exec.eq_4, exec.eq_5, exec.eq_6, exec.eq_7, exec.eq_8, exec.eq_9, exec.eq_10, exec.eq_11, exec.eq_12, exec.eq_13, exec.eq_14, exec.eq_15, exec.eq_16, exec.eq_19, exec.eq_20, exec.eq_21, exec.eq_22, exec.eq_23, execs.eq_1, execs.eq_2, x_whl, x_for, x_comp, x_compIf, bor, vi, mkEnv, eg, es, frzA, frzS, bn, bt, bind_F, setAll, setPar, wipeE, tgs, b_add, b_sub, b_mul, b_fdiv, b_mod, b_shl, b_shr, b_pow, b_tup, b_lst, o_lt, o_le, o_gt, o_ge, o_eqi, o_nei, o_neb, o_isb, u_len1, u_len2, u_len3, u_abs, u_int, u_lst1, u_lst2, u_tup, u_max, s_int, s_bl, s_tup, s_lst, s_non, s_str, a_add, a_sub, i_tup, i_lst, r_bl, r_int, fin, chk_own, chk_some, isN, bnd, isNone, ixW_0, ixW_1, ixW_2, F_0, F_1, ixW_w, wg_1, wg_0, wp_0, List.map, List.length, List.replicate, List.cons_append, List.nil_append, List.append_nil, Nat.reduceSub, Nat.reduceAdd, Nat.sub_self, Nat.sub_zero, if_true, Bool.false_eq_true, if_false, reduceIte, ite_true, ite_false, Bool.and_self, Bool.and_true, Bool.true_and, Bool.not_true, Bool.not_false, Nat.reduceLT, Nat.reduceLeDiff, decide_true, decide_false, Int.reduceLT, Int.reduceLE, Int.reduceAdd, Int.reduceSub, Int.reduceNeg, Bool.or_true, Bool.or_false, Bool.true_or, Bool.false_or, Bool.and_false, Bool.false_and, isK_i, c34 n ws hp hj h1 h2 (u := false), ol, (put_k a p.1 (crs p.2 d false)).1, (put_k a p.1 (crs p.2 d false)).2, ix, c10 (n + 1) ws (hp.mono (by omega)) (zc.mono (by omega)), c12 (n + 4) ws, ab_crs, c8 (n + 2) ws (hr.mono (by omega)) (zd.mono (by omega))]
    exact e
theorem loop60 {x0 x3 : D} {d : Int} {j : Nat} (h1 : 1 ≤ d) (h2 : d ≤ 10) (hj : j ≤ 60) : ∀ {kv a : KV} {r : Rat} {k : Nat} {t u : Slot}, Z k r → (∀ x ∈ kv, Z j x.2) → k + kv.length * (4 * j + 32) ≤ 300 → a.length + kv.length ≤ 1000 →
    ∃ t' u', forX (callO P (n + 3)) (.tp [5, 6]) l60_0 (kv.map rD) [.va x0, .va (.int d), .va (F r), .va x3, .ow (dD a), t, u] ws = some (.nx, [.va x0, .va (.int d), .va (F (crR d r kv)), .va x3, .ow (dD (crK d a kv)), t', u'], ws)
  | [], a, r, k, t, u, _, _, _, _ => ⟨t, u, rfl⟩
  | p :: kv, a, r, k, t, u, hr, hx, hl, hn => by
    rw [List.length_cons, Nat.add_mul] at hl
    rw [List.length_cons] at hn
    have hp := hx p List.mem_cons_self
    have zc := Z_crs (u := false) hp (by omega) h1 h2
    have zd := Z_sub hp zc
    have zr := Z_add hr zd
    have := len_put a p.1 (crs p.2 d false)
    obtain ⟨t', u', e⟩ := loop60 (x0 := x0) (x3 := x3) h1 h2 hj (kv := kv) (a := put a p.1 (crs p.2 d false)) (r := r + (p.2 - crs p.2 d false)) (t := .va (.int p.1)) (u := .va (F p.2)) (zr.mono (show _ ≤ k + (4 * j + 32) by omega)) (fun z hz => hx z (List.mem_cons_of_mem _ hz)) (by omega) (by omega)
    refine ⟨t', u', ?_⟩
    have ol : okLen (kD a).length = true := ol_le (by rw [len_k]; omega)
    have ix := ix_d ws (key_put a p.1 (crs p.2 d false))
    rw [val_put, if_pos rfl] at ix
    have e3 : r + p.2 + -crs p.2 d false = r + (p.2 - crs p.2 d false) := by grind
    rw [List.map_cons, for_cons]
    simp only [l60_0, bind_r, ev.eq_1, ev.eq_2, ev.eq_3, ev.eq_4, ev.eq_5, ev.eq_6, ev.eq_7, ev.eq_8, ev.eq_9, ev.eq_10, ev.eq_11, ev.eq_12, ev.eq_13, ev.eq_14, ev.eq_15, ev.eq_16, ev.eq_17, ev.eq_18, ev.eq_19, ev.eq_20, ev.eq_21, ev.eq_22, ev.eq_23, ev.eq_24, ev.eq_25, ev.eq_26, ev.eq_27, ev.eq_28, ev.eq_29, evs.eq_1, evs.eq_2, evT, exec.eq_1, exec.eq_2, exec.eq_3, exec.eq_4, exec.eq_5, exec.eq_6, exec.eq_7, exec.eq_8, exec.eq_9, exec.eq_10, exec.eq_11, exec.eq_12, exec.eq_13, exec.eq_14, exec.eq_15, exec.eq_16, exec.eq_19, exec.eq_20, exec.eq_21, exec.eq_22, exec.eq_23, execs.eq_1, execs.eq_2, x_whl, x_for, x_comp, x_compIf, bor, vi, mkEnv, eg, es, frzA, frzS, bn, bt, bind_F, setAll, setPar, wipeE, tgs, b_add, b_sub, b_mul, b_fdiv, b_mod, b_shl, b_shr, b_pow, b_tup, b_lst, o_lt, o_le, o_gt, o_ge, o_eqi, o_nei, o_neb, o_isb, u_len1, u_len2, u_len3, u_abs, u_int, u_lst1, u_lst2, u_tup, u_max, s_int, s_bl, s_tup, s_lst, s_non, s_str, a_add, a_sub, i_tup, i_lst, r_bl, r_int, fin, chk_own, chk_some, isN, bnd, isNone, ixW_0, ixW_1, ixW_2, F_0, F_1, ixW_w, wg_1, wg_0, wp_0, List.map, List.length, List.replicate, List.cons_append, List.nil_append, List.append_nil, Nat.reduceSub, Nat.reduceAdd, Nat.sub_self, Nat.sub_zero, if_true, Bool.false_eq_true, if_false, reduceIte, ite_true, ite_false, Bool.and_self, Bool.and_true, Bool.true_and, Bool.not_true, Bool.not_false, Nat.reduceLT, Nat.reduceLeDiff, decide_true, decide_false, Int.reduceLT, Int.reduceLE, Int.reduceAdd, Int.reduceSub, Int.reduceNeg, Bool.or_true, Bool.or_false, Bool.true_or, Bool.false_or, Bool.and_false, Bool.false_and, isK_i, c47 n ws hp (by omega) h1 h2 (u := false), ol, (put_k a p.1 (crs p.2 d false)).1, (put_k a p.1 (crs p.2 d false)).2, ix, c44 (n + 2) ws, c41_3 (n + 1) ws (hr.mono (by omega)) (hp.mono (by omega)) (Z_neg (zc.mono (by omega))), e3]
    exact e
noncomputable def crF (f : Fm) (d : Int) : Fm := ⟨crs f.n d false, strK (crK d [] f.k), crs (crR d (f.r + (f.n - crs f.n d false)) f.k) d true⟩
theorem Z_crR {d : Int} {j : Nat} (h1 : 1 ≤ d) (h2 : d ≤ 10) (hj : j ≤ 300) : ∀ {kv : KV} {r : Rat} {k : Nat}, Z k r → (∀ x ∈ kv, Z j x.2) → Z (k + kv.length * (4 * j + 32)) (crR d r kv)
  | [], r, k, h, _ => by simpa [crR] using h
  | p :: kv, r, k, h, hx => by
    have hp := hx p List.mem_cons_self
    have zc := Z_crs (u := false) hp (by omega) h1 h2
    have := Z_crR h1 h2 hj (kv := kv) ((Z_add h (Z_sub hp zc)).mono (show _ ≤ k + (4 * j + 32) by omega)) fun z hz => hx z (List.mem_cons_of_mem _ hz)
    rw [List.length_cons, Nat.add_mul]
    exact this.mono (by omega)
theorem c35 {f : Fm} {b : Nat} {d : Int} (h : OkF b f) (hb : b ≤ 5) (h1 : 1 ≤ d) (h2 : d ≤ 10) : callO P (n + 6) 35 [fD f, .int d] ws = some (fD (crF f d), ws) := by
  have zc := Z_crs (u := false) h.n (by omega) h1 h2
  have zd := Z_sub h.n zc
  have zr := (Z_add h.r zd).mono (show _ ≤ 5 * b + 32 by omega)
  have hl := h.l
  have hm : f.k.length * (4 * b + 32) ≤ 4 * (4 * b + 32) := Nat.mul_le_mul_right _ hl
  obtain ⟨t, u, e⟩ := loop35 n ws (x0 := fD f) (x2 := F (crs f.n d false)) h1 h2 (by omega) (t := .un) (u := .un) (a := []) zr h.k (by omega) (by simp; omega)
  have zR := (Z_crR h1 h2 (by omega) zr h.k).mono (show _ ≤ 300 by omega)
  have hlen : (crK d [] f.k).length < 64 := by have := len_cr d f.k []; simp at this; omega
  have e' : forX (callO P (n + 5)) (.tp [5, 6]) l35_0 (f.k.map rD) [.va (fD f), .va (.int d), .va (F (crs f.n d false)), .ow (.dic [] []), .va (F (f.r + (f.n - crs f.n d false))), .un, .un] ws = _ := e
  rw [call_at (d := d35) rfl rfl]
  simp only [d35, b35, ev.eq_1, ev.eq_2, ev.eq_3, ev.eq_4, ev.eq_5, ev.eq_6, ev.eq_7, ev.eq_8, ev.eq_9, ev.eq_10, ev.eq_11, ev.eq_12, ev.eq_13, ev.eq_14, ev.eq_15, ev.eq_16, ev.eq_17, ev.eq_18, ev.eq_19, ev.eq_20, ev.eq_21, ev.eq_22, ev.eq_23, ev.eq_24, ev.eq_25, ev.eq_26, ev.eq_27, ev.eq_28, ev.eq_29, evs.eq_1, evs.eq_2, evT, exec.eq_1, exec.eq_2, exec.eq_3, exec.eq_4, exec.eq_5, exec.eq_6, exec.eq_7, exec.eq_8, exec.eq_9, exec.eq_10, exec.eq_11, exec.eq_12, exec.eq_13, exec.eq_14, exec.eq_15, exec.eq_16, exec.eq_19, exec.eq_20, exec.eq_21, exec.eq_22, exec.eq_23, execs.eq_1, execs.eq_2, x_whl, x_for, x_comp, x_compIf, bor, vi, mkEnv, eg, es, frzA, frzS, bn, bt, bind_F, setAll, setPar, wipeE, tgs, b_add, b_sub, b_mul, b_fdiv, b_mod, b_shl, b_shr, b_pow, b_tup, b_lst, o_lt, o_le, o_gt, o_ge, o_eqi, o_nei, o_neb, o_isb, u_len1, u_len2, u_len3, u_abs, u_int, u_lst1, u_lst2, u_tup, u_max, s_int, s_bl, s_tup, s_lst, s_non, s_str, a_add, a_sub, i_tup, i_lst, r_bl, r_int, fin, chk_own, chk_some, isN, bnd, isNone, ixW_0, ixW_1, ixW_2, F_0, F_1, ixW_w, wg_1, wg_0, wp_0, List.map, List.length, List.replicate, List.cons_append, List.nil_append, List.append_nil, Nat.reduceSub, Nat.reduceAdd, Nat.sub_self, Nat.sub_zero, if_true, Bool.false_eq_true, if_false, reduceIte, ite_true, ite_false, Bool.and_self, Bool.and_true, Bool.true_and, Bool.not_true, Bool.not_false, Nat.reduceLT, Nat.reduceLeDiff, decide_true, decide_false, Int.reduceLT, Int.reduceLE, Int.reduceAdd, Int.reduceSub, Int.reduceNeg, Bool.or_true, Bool.or_false, Bool.true_or, Bool.false_or, Bool.and_false, Bool.false_and, c34 n ws h.n (by omega) h1 h2 (u := false), c10 (n + 1) ws (h.n.mono (by omega)) (zc.mono (by omega)), c12 (n + 4) ws, ab_crs, c8 (n + 2) ws (h.r.mono (by omega)) (zd.mono (by omega)), e', c34 n ws zR (by omega) h1 h2 (u := true), c19 (n + 4) ws hlen]
  rfl
theorem c60 {f : Fm} {b : Nat} {d : Int} (h : OkF b f) (hb : b ≤ 5) (h1 : 1 ≤ d) (h2 : d ≤ 10) : callO P (n + 4) 60 [fD f, .int d] ws = some (fD (crF f d), ws) := by
  have zc := Z_crs (u := false) h.n (by omega) h1 h2
  have zd := Z_sub h.n zc
  have zr := (Z_add h.r zd).mono (show _ ≤ 5 * b + 32 by omega)
  have hl := h.l
  have hm : f.k.length * (4 * b + 32) ≤ 4 * (4 * b + 32) := Nat.mul_le_mul_right _ hl
  obtain ⟨t, u, e⟩ := loop60 n ws (x0 := fD f) (x3 := F (crs f.n d false)) h1 h2 (by omega) (t := .un) (u := .un) (a := []) zr h.k (by omega) (by simp; omega)
  have zR := (Z_crR h1 h2 (by omega) zr h.k).mono (show _ ≤ 300 by omega)
  have hlen : (crK d [] f.k).length < 64 := by have := len_cr d f.k []; simp at this; omega
  have e' : forX (callO P (n + 3)) (.tp [5, 6]) l60_0 (f.k.map rD) [.va (fD f), .va (.int d), .va (F (f.r + (f.n - crs f.n d false))), .va (F (crs f.n d false)), .ow (.dic [] []), .un, .un] ws = _ := e
  have e3 : f.r + f.n + -crs f.n d false = f.r + (f.n - crs f.n d false) := by grind
  rw [call_at (d := d60) rfl rfl]
  simp only [d60, b60, ev.eq_1, ev.eq_2, ev.eq_3, ev.eq_4, ev.eq_5, ev.eq_6, ev.eq_7, ev.eq_8, ev.eq_9, ev.eq_10, ev.eq_11, ev.eq_12, ev.eq_13, ev.eq_14, ev.eq_15, ev.eq_16, ev.eq_17, ev.eq_18, ev.eq_19, ev.eq_20, ev.eq_21, ev.eq_22, ev.eq_23, ev.eq_24, ev.eq_25, ev.eq_26, ev.eq_27, ev.eq_28, ev.eq_29, evs.eq_1, evs.eq_2, evT, exec.eq_1, exec.eq_2, exec.eq_3, exec.eq_4, exec.eq_5, exec.eq_6, exec.eq_7, exec.eq_8, exec.eq_9, exec.eq_10, exec.eq_11, exec.eq_12, exec.eq_13, exec.eq_14, exec.eq_15, exec.eq_16, exec.eq_19, exec.eq_20, exec.eq_21, exec.eq_22, exec.eq_23, execs.eq_1, execs.eq_2, x_whl, x_for, x_comp, x_compIf, bor, vi, mkEnv, eg, es, frzA, frzS, bn, bt, bind_F, setAll, setPar, wipeE, tgs, b_add, b_sub, b_mul, b_fdiv, b_mod, b_shl, b_shr, b_pow, b_tup, b_lst, o_lt, o_le, o_gt, o_ge, o_eqi, o_nei, o_neb, o_isb, u_len1, u_len2, u_len3, u_abs, u_int, u_lst1, u_lst2, u_tup, u_max, s_int, s_bl, s_tup, s_lst, s_non, s_str, a_add, a_sub, i_tup, i_lst, r_bl, r_int, fin, chk_own, chk_some, isN, bnd, isNone, ixW_0, ixW_1, ixW_2, F_0, F_1, ixW_w, wg_1, wg_0, wp_0, List.map, List.length, List.replicate, List.cons_append, List.nil_append, List.append_nil, Nat.reduceSub, Nat.reduceAdd, Nat.sub_self, Nat.sub_zero, if_true, Bool.false_eq_true, if_false, reduceIte, ite_true, ite_false, Bool.and_self, Bool.and_true, Bool.true_and, Bool.not_true, Bool.not_false, Nat.reduceLT, Nat.reduceLeDiff, decide_true, decide_false, Int.reduceLT, Int.reduceLE, Int.reduceAdd, Int.reduceSub, Int.reduceNeg, Bool.or_true, Bool.or_false, Bool.true_or, Bool.false_or, Bool.and_false, Bool.false_and, c47 n ws h.n (by omega) h1 h2 (u := false), c44 (n + 2) ws, c41_3 (n + 1) ws (h.r.mono (by omega)) (h.n.mono (by omega)) (Z_neg (zc.mono (by omega))), e3, e', c47 n ws zR (by omega) h1 h2 (u := true), c48 (n + 2) ws hlen]
  rfl
end Pv.K36


set_option Elab.async false
set_option linter.all false
set_option maxRecDepth 100000
set_option exponentiation.threshold 20
/-! M10: marks, looser, at marks. -/
namespace Pv.K36
open Pv
variable (n : Nat) (ws : WS)
/-! of a span -/
theorem c21 {p q : Rat} {b : Nat} {m : Int} (hp : Z b p) (hq : Z b q) (hb : b ≤ 100) : callO P (n + 5) 21 [.tup [F p, F q], .int m] ws = some (.tup [F ((p + q) * half), .tup ((strK [(m, q - (p + q) * half)]).map rD), F 0], ws) := by
  have h1 := Z_add hp hq
  have h2 := Z_mul h1 Z_half
  have e := c19 (n + 3) ws (x := F ((p + q) * half)) (z := F 0) (a := [(m, q - (p + q) * half)]) (by simp)
  have e' : callO P (n + 4) 19 [F ((p + q) * half), .dic [.int m] [F (q - (p + q) * half)], F 0] ws = _ := e
  rw [call_at (d := d21) rfl rfl]
  simp only [d21, b21, ev.eq_1, ev.eq_2, ev.eq_3, ev.eq_4, ev.eq_5, ev.eq_6, ev.eq_7, ev.eq_8, ev.eq_9, ev.eq_10, ev.eq_11, ev.eq_12, ev.eq_13, ev.eq_14, ev.eq_15, ev.eq_16, ev.eq_17, ev.eq_18, ev.eq_19, ev.eq_20, ev.eq_21, ev.eq_22, ev.eq_23, ev.eq_24, ev.eq_25, ev.eq_26, ev.eq_27, ev.eq_28, ev.eq_29, evs.eq_1, evs.eq_2, evT, exec.eq_1, exec.eq_2, exec.eq_3, exec.eq_4, exec.eq_5, exec.eq_6, exec.eq_7, exec.eq_8, exec.eq_9, exec.eq_10, exec.eq_11, exec.eq_12, exec.eq_13, exec.eq_14, exec.eq_15, exec.eq_16, exec.eq_19, exec.eq_20, exec.eq_21, exec.eq_22, exec.eq_23, execs.eq_1, execs.eq_2, x_whl, x_for, x_comp, x_compIf, bor, vi, mkEnv, eg, es, frzA, frzS, bn, bt, bind_F, setAll, setPar, wipeE, tgs, b_add, b_sub, b_mul, b_fdiv, b_mod, b_shl, b_shr, b_pow, b_tup, b_lst, o_lt, o_le, o_gt, o_ge, o_eqi, o_nei, o_neb, o_isb, u_len1, u_len2, u_len3, u_abs, u_int, u_lst1, u_lst2, u_tup, u_max, s_int, s_bl, s_tup, s_lst, s_non, s_str, a_add, a_sub, i_tup, i_lst, r_bl, r_int, fin, chk_own, chk_some, isN, bnd, isNone, ixW_0, ixW_1, ixW_2, F_0, F_1, ixW_w, wg_1, wg_0, wp_0, List.map, List.length, List.replicate, List.cons_append, List.nil_append, List.append_nil, Nat.reduceSub, Nat.reduceAdd, Nat.sub_self, Nat.sub_zero, if_true, Bool.false_eq_true, if_false, reduceIte, ite_true, ite_false, Bool.and_self, Bool.and_true, Bool.true_and, Bool.not_true, Bool.not_false, Nat.reduceLT, Nat.reduceLeDiff, decide_true, decide_false, Int.reduceLT, Int.reduceLE, Int.reduceAdd, Int.reduceSub, Int.reduceNeg, Bool.or_true, Bool.or_false, Bool.true_or, Bool.false_or, Bool.and_false, Bool.false_and, F_0', isK_i, c8 (n + 1) ws (hp.mono (by omega)) (hq.mono (by omega)), F_half, c11 (n + 1) ws (h1.mono (by omega)) (Z_half.mono (by omega)), c10 n ws (hq.mono (by omega)) (h2.mono (by omega)), e']
theorem c48_1 {x z : D} {m : Int} {q : Rat} : callO P (n + 1) 48 [x, .dic [.int m] [F q], z] ws = some (.tup [x, .tup ((strK [(m, q)]).map rD), z], ws) := c48 n ws (x := x) (z := z) (a := [(m, q)]) (by simp)
/-! marked -/
theorem nd1 (m : Int) (q : Rat) : (keys [(m, q)]).Nodup := by simp [keys]
theorem val_1 (m : Int) (q : Rat) (x : Int) : val [(m, q)] x = if x = m then q else 0 := by
  unfold val
  simp only [look]
  by_cases h : m = x
  · subst h; simp
  · simp [h, Ne.symm h]
theorem join_str1 {a : KV} {m : Int} {q : Rat} (h : (keys a).Nodup) : strK (joinK a (strK [(m, q)])) = strK (put a m (val a m + q)) := by
  have nd := up_nd (up_strK (nd1 m q))
  refine strK_congr (nd_join h) (nd_put h) fun x => ?_
  have e : strK [(m, q)] = if q ≠ 0 then [(m, q)] else [] := by
    have hv : val [(m, q)] m = q := by rw [val_1, if_pos rfl]
    unfold strK keys
    simp only [List.map_cons, List.map_nil, isort, ins]
    by_cases z : q = 0
    · subst z; simp [hv]
    · simp [hv, z]
  rw [e, val_put]
  by_cases z : q = 0
  · subst z
    simp only [ne_eq, not_true, if_false, joinK, List.foldl_nil]
    split
    · rename_i e; subst e; grind
    · rfl
  · simp only [ne_eq, z, not_false_iff, if_true, joinK, List.foldl_cons, List.foldl_nil]
    rw [val_put]
theorem c30 {f : Fm} {b : Nat} {m : Int} {q : Rat} (h : OkF b f) (hq : Z b q) (hb : 1 ≤ b) (hb2 : b ≤ 300) : callO P (n + 4) 30 [fD f, .int m, F q] ws = some (.tup [F f.n, .tup ((strK (put f.k m (val f.k m + q))).map rD), F f.r], ws) := by
  have hl : (put f.k m (val f.k m + q)).length < 64 := by have := len_put f.k m (val f.k m + q); have := h.l; omega
  have ol : okLen (kD f.k).length = true := ol_le (by rw [len_k]; have := h.l; omega)
  have e := c19 (n + 2) ws (x := F f.n) (z := F f.r) hl
  rw [call_at (d := d30) rfl rfl]
  simp only [d30, b30, ev.eq_1, ev.eq_2, ev.eq_3, ev.eq_4, ev.eq_5, ev.eq_6, ev.eq_7, ev.eq_8, ev.eq_9, ev.eq_10, ev.eq_11, ev.eq_12, ev.eq_13, ev.eq_14, ev.eq_15, ev.eq_16, ev.eq_17, ev.eq_18, ev.eq_19, ev.eq_20, ev.eq_21, ev.eq_22, ev.eq_23, ev.eq_24, ev.eq_25, ev.eq_26, ev.eq_27, ev.eq_28, ev.eq_29, evs.eq_1, evs.eq_2, evT, exec.eq_1, exec.eq_2, exec.eq_3, exec.eq_4, exec.eq_5, exec.eq_6, exec.eq_7, exec.eq_8, exec.eq_9, exec.eq_10, exec.eq_11, exec.eq_12, exec.eq_13, exec.eq_14, exec.eq_15, exec.eq_16, exec.eq_19, exec.eq_20, exec.eq_21, exec.eq_22, exec.eq_23, execs.eq_1, execs.eq_2, x_whl, x_for, x_comp, x_compIf, bor, vi, mkEnv, eg, es, frzA, frzS, bn, bt, bind_F, setAll, setPar, wipeE, tgs, b_add, b_sub, b_mul, b_fdiv, b_mod, b_shl, b_shr, b_pow, b_tup, b_lst, o_lt, o_le, o_gt, o_ge, o_eqi, o_nei, o_neb, o_isb, u_len1, u_len2, u_len3, u_abs, u_int, u_lst1, u_lst2, u_tup, u_max, s_int, s_bl, s_tup, s_lst, s_non, s_str, a_add, a_sub, i_tup, i_lst, r_bl, r_int, fin, chk_own, chk_some, isN, bnd, isNone, ixW_0, ixW_1, ixW_2, F_0, F_1, ixW_w, wg_1, wg_0, wp_0, List.map, List.length, List.replicate, List.cons_append, List.nil_append, List.append_nil, Nat.reduceSub, Nat.reduceAdd, Nat.sub_self, Nat.sub_zero, if_true, Bool.false_eq_true, if_false, reduceIte, ite_true, ite_false, Bool.and_self, Bool.and_true, Bool.true_and, Bool.not_true, Bool.not_false, Nat.reduceLT, Nat.reduceLeDiff, decide_true, decide_false, Int.reduceLT, Int.reduceLE, Int.reduceAdd, Int.reduceSub, Int.reduceNeg, Bool.or_true, Bool.or_false, Bool.true_or, Bool.false_or, Bool.and_false, Bool.false_and, (c_dict h.nd).1, F_0', isK_i, get_k, c8 n ws ((Z_val hb h.k m).mono (by omega)) (hq.mono (by omega)), ol, (put_k f.k m (val f.k m + q)).1, (put_k f.k m (val f.k m + q)).2, e]
theorem Ok_1 {b : Nat} {m : Int} {q : Rat} (hb : 1 ≤ b) (hq : Z b q) : OkF b ⟨0, strK [(m, q)], 0⟩ := by
  refine ⟨Z_0 hb, fun x hx => ?_, Z_0 hb, Nat.le_trans (len_strK _) (by simp), up_strK (nd1 m q)⟩
  obtain ⟨_, h2, _⟩ := mem_strK hx
  rw [h2, val_1]
  split
  · exact hq
  · exact Z_0 hb
theorem c52_1 {f : Fm} {b : Nat} {m : Int} {q : Rat} (h : OkF b f) (hq : Z b q) (hb : 1 ≤ b) (hb2 : b ≤ 50) : callO P (n + 3) 52 [fD f, .tup [F 0, .tup ((strK [(m, q)]).map rD), F 0]] ws = some (.tup [F f.n, .tup ((strK (put f.k m (val f.k m + q))).map rD), F f.r], ws) := by
  have := c52 n ws h (Ok_1 (m := m) hb hq) hb (by omega) hb2
  rw [this]
  unfold joinF
  simp only [join_str1 h.nd, Rat.add_zero]
/-! looser -/
theorem ints_app : ∀ {xs ys : List D} {is js : List Int}, intsOf xs = some is → intsOf ys = some js → intsOf (xs ++ ys) = some (is ++ js)
  | [], _, is, _, h, h2 => by simp [intsOf] at h; subst h; simpa using h2
  | .int i :: xs, ys, is, js, h, h2 => by
    simp only [intsOf] at h
    split at h
    · rename_i r hr
      cases h
      have := ints_app hr h2
      simp only [List.cons_append, intsOf, this]
    · cases h
  | .non :: _, _, _, _, h, _ | .bl _ :: _, _, _, _, h, _ | .str _ :: _, _, _, _, h, _ | .tup _ :: _, _, _, _, h, _ | .lst _ :: _, _, _, _, h, _ | .dic _ _ :: _, _, _, _, h, _ | .scr _ :: _, _, _, _, h, _ | .wd :: _, _, _, _, h, _ => by simp [intsOf] at h
def allK (a b : KV) : List Int := usort (keys a ++ keys b)
theorem c_set {a b : KV} (h : a.length + b.length < 64) : bf1 .sortedSet (.lst (kD a ++ kD b)) = some (.lst ((allK a b).map .int)) := by
  have e : (keys a ++ keys b).length < 64 := by unfold keys; simp; exact h
  simp only [bf1, ints_app (ints_k a) (ints_k b), decide_eq_true e, if_true]
  rfl
theorem insU_len (x : Int) : ∀ ys : List Int, (insU x ys).length ≤ ys.length + 1
  | [] => Nat.le_refl _
  | y :: ys => by
    unfold insU
    split
    · simp
    · split
      · simp
      · have := insU_len x ys
        simp only [List.length_cons]; omega
theorem usort_len : ∀ xs : List Int, (usort xs).length ≤ xs.length
  | [] => Nat.le_refl _
  | x :: xs => by
    unfold usort
    have h1 := insU_len x (usort xs)
    have h2 := usort_len xs
    simp only [List.length_cons]; omega
theorem allK_len (a b : KV) : (allK a b).length ≤ a.length + b.length := by
  have := usort_len (keys a ++ keys b)
  unfold keys at this
  simp at this
  exact this
def gap (a b : KV) (m : Int) : Rat := ab (val a m - val b m)
theorem Z_gap {a b : KV} {j : Nat} (hj : 1 ≤ j) (ha : ∀ x ∈ a, Z j x.2) (hb : ∀ x ∈ b, Z j x.2) (m : Int) : Z (2 * j + 1) (gap a b m) := (Z_ab (Z_sub (Z_val hj ha m) (Z_val hj hb m))).mono (by omega)
theorem loop33 {x y : D} {a b : KV} {j : Nat} (hj : 1 ≤ j) (hj2 : j ≤ 300) (ha : ∀ x ∈ a, Z j x.2) (hb : ∀ x ∈ b, Z j x.2) : ∀ {ms : List Int} {r : Rat} {k : Nat} {t : Slot}, Z k r → k + ms.length * (2 * j + 2) ≤ 1000 →
    ∃ t', forX (callO P (n + 4)) (.nm 3) l33_0 (ms.map .int) [.va x, .va y, .va (F r), t, .va (dD a), .va (dD b)] ws = some (.nx, [.va x, .va y, .va (F (sumF r (ms.map (gap a b)))), t', .va (dD a), .va (dD b)], ws)
  | [], r, k, t, _, _ => ⟨t, rfl⟩
  | m :: ms, r, k, t, hr, hl => by
    rw [List.length_cons, Nat.add_mul] at hl
    have z1 := Z_val hj ha m
    have z2 := Z_val hj hb m
    have z3 := Z_gap hj ha hb m
    obtain ⟨t', e⟩ := loop33 (x := x) (y := y) hj hj2 ha hb (ms := ms) (r := r + gap a b m) (t := .va (.int m)) ((Z_add hr z3).mono (show _ ≤ k + (2 * j + 2) by omega)) (by omega)
    refine ⟨t', ?_⟩
    have egp : ab (val a m - val b m) = gap a b m := rfl
    rw [List.map_cons, for_cons]
    simp only [l33_0, ev.eq_1, ev.eq_2, ev.eq_3, ev.eq_4, ev.eq_5, ev.eq_6, ev.eq_7, ev.eq_8, ev.eq_9, ev.eq_10, ev.eq_11, ev.eq_12, ev.eq_13, ev.eq_14, ev.eq_15, ev.eq_16, ev.eq_17, ev.eq_18, ev.eq_19, ev.eq_20, ev.eq_21, ev.eq_22, ev.eq_23, ev.eq_24, ev.eq_25, ev.eq_26, ev.eq_27, ev.eq_28, ev.eq_29, evs.eq_1, evs.eq_2, evT, exec.eq_1, exec.eq_2, exec.eq_3, exec.eq_4, exec.eq_5, exec.eq_6, exec.eq_7, exec.eq_8, exec.eq_9, exec.eq_10, exec.eq_11, exec.eq_12, exec.eq_13, exec.eq_14, exec.eq_15, exec.eq_16, exec.eq_19, exec.eq_20, exec.eq_21, exec.eq_22, exec.eq_23, execs.eq_1, execs.eq_2, x_whl, x_for, x_comp, x_compIf, bor, vi, mkEnv, eg, es, frzA, frzS, bn, bt, bind_F, setAll, setPar, wipeE, tgs, b_add, b_sub, b_mul, b_fdiv, b_mod, b_shl, b_shr, b_pow, b_tup, b_lst, o_lt, o_le, o_gt, o_ge, o_eqi, o_nei, o_neb, o_isb, u_len1, u_len2, u_len3, u_abs, u_int, u_lst1, u_lst2, u_tup, u_max, s_int, s_bl, s_tup, s_lst, s_non, s_str, a_add, a_sub, i_tup, i_lst, r_bl, r_int, fin, chk_own, chk_some, isN, bnd, isNone, ixW_0, ixW_1, ixW_2, F_0, F_1, ixW_w, wg_1, wg_0, wp_0, List.map, List.length, List.replicate, List.cons_append, List.nil_append, List.append_nil, Nat.reduceSub, Nat.reduceAdd, Nat.sub_self, Nat.sub_zero, if_true, Bool.false_eq_true, if_false, reduceIte, ite_true, ite_false, Bool.and_self, Bool.and_true, Bool.true_and, Bool.not_true, Bool.not_false, Nat.reduceLT, Nat.reduceLeDiff, decide_true, decide_false, Int.reduceLT, Int.reduceLE, Int.reduceAdd, Int.reduceSub, Int.reduceNeg, Bool.or_true, Bool.or_false, Bool.true_or, Bool.false_or, Bool.and_false, Bool.false_and, F_0', isK_i, get_k, c10 n ws (z1.mono (by omega)) (z2.mono (by omega)), c12 (n + 3) ws, egp, c8 (n + 1) ws (hr.mono (by omega)) (z3.mono (by omega))]
    exact e
def loo (f g : Fm) : Rat := sumF (ab (f.n - g.n)) ((allK f.k g.k).map (gap f.k g.k)) + g.r
theorem le_iff' {p q : Rat} : decide (p.num * q.den ≤ q.num * p.den) = decide (p ≤ q) := by rw [decide_eq_decide]; exact (Rat.le_iff p q).symm
theorem c33 {f g : Fm} {b : Nat} (hf : OkF b f) (hg : OkF b g) (hb : 1 ≤ b) (hb2 : b ≤ 20) : callO P (n + 5) 33 [fD f, fD g] ws = some (.bl (decide (loo f g ≤ f.r)), ws) := by
  have hl := hf.l
  have hl2 := hg.l
  have hk := allK_len f.k g.k
  have z0 := Z_ab (Z_sub hf.n hg.n)
  have hm : (allK f.k g.k).length * (2 * b + 2) ≤ 8 * (2 * b + 2) := Nat.mul_le_mul_right _ (by omega)
  have zs : Z 900 (sumF (ab (f.n - g.n)) ((allK f.k g.k).map (gap f.k g.k))) := by
    refine (Z_sum z0 (j := 2 * b + 1) (fun x hx => ?_)).mono ?_
    · obtain ⟨m, _, rfl⟩ := List.mem_map.mp hx
      exact Z_gap hb hf.k hg.k m
    · rw [List.length_map]; show _ + (allK f.k g.k).length * (2 * b + 2) ≤ 900; omega
  obtain ⟨t, e⟩ := loop33 n ws (x := fD f) (y := fD g) (ms := allK f.k g.k) hb (by omega) hf.k hg.k (t := .un) z0 (by omega)
  have zr : Z 1000 (loo f g) := (Z_add (zs.mono (show 900 ≤ 900 by omega)) hg.r).mono (by omega)
  have zr1 := hf.r.mono (show b ≤ 1000 by omega)
  have el : sumF (ab (f.n - g.n)) ((allK f.k g.k).map (gap f.k g.k)) + g.r = loo f g := rfl
  have o1 : okLen ((kD f.k).length + (kD g.k).length) = true := ol_le (by rw [len_k, len_k]; omega)
  rw [call_at (d := d33) rfl rfl]
  simp only [d33, b33, ev.eq_1, ev.eq_2, ev.eq_3, ev.eq_4, ev.eq_5, ev.eq_6, ev.eq_7, ev.eq_8, ev.eq_9, ev.eq_10, ev.eq_11, ev.eq_12, ev.eq_13, ev.eq_14, ev.eq_15, ev.eq_16, ev.eq_17, ev.eq_18, ev.eq_19, ev.eq_20, ev.eq_21, ev.eq_22, ev.eq_23, ev.eq_24, ev.eq_25, ev.eq_26, ev.eq_27, ev.eq_28, ev.eq_29, evs.eq_1, evs.eq_2, evT, exec.eq_1, exec.eq_2, exec.eq_3, exec.eq_4, exec.eq_5, exec.eq_6, exec.eq_7, exec.eq_8, exec.eq_9, exec.eq_10, exec.eq_11, exec.eq_12, exec.eq_13, exec.eq_14, exec.eq_15, exec.eq_16, exec.eq_19, exec.eq_20, exec.eq_21, exec.eq_22, exec.eq_23, execs.eq_1, execs.eq_2, x_whl, x_for, x_comp, x_compIf, bor, vi, mkEnv, eg, es, frzA, frzS, bn, bt, bind_F, setAll, setPar, wipeE, tgs, b_add, b_sub, b_mul, b_fdiv, b_mod, b_shl, b_shr, b_pow, b_tup, b_lst, o_lt, o_le, o_gt, o_ge, o_eqi, o_nei, o_neb, o_isb, u_len1, u_len2, u_len3, u_abs, u_int, u_lst1, u_lst2, u_tup, u_max, s_int, s_bl, s_tup, s_lst, s_non, s_str, a_add, a_sub, i_tup, i_lst, r_bl, r_int, fin, chk_own, chk_some, isN, bnd, isNone, ixW_0, ixW_1, ixW_2, F_0, F_1, ixW_w, wg_1, wg_0, wp_0, List.map, List.length, List.replicate, List.cons_append, List.nil_append, List.append_nil, Nat.reduceSub, Nat.reduceAdd, Nat.sub_self, Nat.sub_zero, if_true, Bool.false_eq_true, if_false, reduceIte, ite_true, ite_false, Bool.and_self, Bool.and_true, Bool.true_and, Bool.not_true, Bool.not_false, Nat.reduceLT, Nat.reduceLeDiff, decide_true, decide_false, Int.reduceLT, Int.reduceLE, Int.reduceAdd, Int.reduceSub, Int.reduceNeg, Bool.or_true, Bool.or_false, Bool.true_or, Bool.false_or, Bool.and_false, Bool.false_and, (c_dict hf.nd).1, (c_dict hg.nd).1, o1, c_set (show f.k.length + g.k.length < 64 by omega), c10 (n) ws (hf.n.mono (by omega)) (hg.n.mono (by omega)), c12 (n + 3) ws, e, c8 (n + 1) ws (zs.mono (by omega)) (hg.r.mono (by omega)), el, okZ1 zr, okZ2 zr, okZ1 zr1, okZ2 zr1, le_iff']
theorem c59 {f g : Fm} {b : Nat} (hf : OkF b f) (hg : OkF b g) (hb : 1 ≤ b) (hb2 : b ≤ 20) : callO P (n + 4) 59 [fD f, fD g] ws = some (.bl (decide (loo f g ≤ f.r)), ws) := by
  have hl := hf.l
  have hl2 := hg.l
  have hk := allK_len f.k g.k
  have z0 := Z_ab (Z_sub hf.n hg.n)
  have e := cmp_map (Φ := callO P (n + 3)) (tg := .nm 5) (elt := x59_0) (env := [.va (fD f), .va (fD g), .un, .va (dD f.k), .va (dD g.k), .un]) (ws := ws) (xs := allK f.k g.k) (rep := D.int) (g := fun m => F (gap f.k g.k m)) fun m hm => by
    refine ⟨[.va (fD f), .va (fD g), .un, .va (dD f.k), .va (dD g.k), .va (.int m)], rfl, ?_⟩
    have z1 := Z_val hb hf.k m
    have z2 := Z_val hb hg.k m
    have egp : ab (val f.k m + -val g.k m) = gap f.k g.k m := by unfold gap; rw [Rat.sub_eq_add_neg]
    simp only [x59_0, ev.eq_1, ev.eq_2, ev.eq_3, ev.eq_4, ev.eq_5, ev.eq_6, ev.eq_7, ev.eq_8, ev.eq_9, ev.eq_10, ev.eq_11, ev.eq_12, ev.eq_13, ev.eq_14, ev.eq_15, ev.eq_16, ev.eq_17, ev.eq_18, ev.eq_19, ev.eq_20, ev.eq_21, ev.eq_22, ev.eq_23, ev.eq_24, ev.eq_25, ev.eq_26, ev.eq_27, ev.eq_28, ev.eq_29, evs.eq_1, evs.eq_2, evT, exec.eq_1, exec.eq_2, exec.eq_3, exec.eq_4, exec.eq_5, exec.eq_6, exec.eq_7, exec.eq_8, exec.eq_9, exec.eq_10, exec.eq_11, exec.eq_12, exec.eq_13, exec.eq_14, exec.eq_15, exec.eq_16, exec.eq_19, exec.eq_20, exec.eq_21, exec.eq_22, exec.eq_23, execs.eq_1, execs.eq_2, x_whl, x_for, x_comp, x_compIf, bor, vi, mkEnv, eg, es, frzA, frzS, bn, bt, bind_F, setAll, setPar, wipeE, tgs, b_add, b_sub, b_mul, b_fdiv, b_mod, b_shl, b_shr, b_pow, b_tup, b_lst, o_lt, o_le, o_gt, o_ge, o_eqi, o_nei, o_neb, o_isb, u_len1, u_len2, u_len3, u_abs, u_int, u_lst1, u_lst2, u_tup, u_max, s_int, s_bl, s_tup, s_lst, s_non, s_str, a_add, a_sub, i_tup, i_lst, r_bl, r_int, fin, chk_own, chk_some, isN, bnd, isNone, ixW_0, ixW_1, ixW_2, F_0, F_1, ixW_w, wg_1, wg_0, wp_0, List.map, List.length, List.replicate, List.cons_append, List.nil_append, List.append_nil, Nat.reduceSub, Nat.reduceAdd, Nat.sub_self, Nat.sub_zero, if_true, Bool.false_eq_true, if_false, reduceIte, ite_true, ite_false, Bool.and_self, Bool.and_true, Bool.true_and, Bool.not_true, Bool.not_false, Nat.reduceLT, Nat.reduceLeDiff, decide_true, decide_false, Int.reduceLT, Int.reduceLE, Int.reduceAdd, Int.reduceSub, Int.reduceNeg, Bool.or_true, Bool.or_false, Bool.true_or, Bool.false_or, Bool.and_false, Bool.false_and, F_0', isK_i, get_k, c44 (n + 2) ws, c41_2 (n + 1) ws (z1.mono (by omega)) (Z_neg (z2.mono (by omega))), c45 (n + 2) ws, egp]
  have e2 : (allK f.k g.k).map (fun m => F (gap f.k g.k m)) = ((allK f.k g.k).map (gap f.k g.k)).map F := by rw [List.map_map]; rfl
  rw [e2] at e
  have hz : ∀ x ∈ (allK f.k g.k).map (gap f.k g.k) ++ [ab (f.n - g.n), g.r], Z (2 * b + 1) x := fun x hx => by
    rcases List.mem_append.mp hx with hx | hx
    · obtain ⟨m, _, rfl⟩ := List.mem_map.mp hx
      exact Z_gap hb hf.k hg.k m
    · simp at hx
      rcases hx with rfl | rfl
      · exact z0.mono (by omega)
      · exact hg.r.mono (by omega)
  have hlen : ((allK f.k g.k).map (gap f.k g.k) ++ [ab (f.n - g.n), g.r]).length * (2 * b + 1 + 1) ≤ 999 := by
    rw [List.length_append, List.length_map]
    simp only [List.length_cons, List.length_nil]
    have := Nat.mul_le_mul_right (2 * b + 2) (show (allK f.k g.k).length + 2 ≤ 10 by omega)
    show ((allK f.k g.k).length + 2) * (2 * b + 2) ≤ 999
    omega
  have e3 := c41 (n + 1) ws hz (by omega) hlen
  have e4 : sumF 0 ((allK f.k g.k).map (gap f.k g.k) ++ [ab (f.n - g.n), g.r]) = loo f g := by
    unfold loo
    rw [sum_app, sum_cons, sum_cons, sum_nil, sum_sh (ab (f.n - g.n))]
    grind
  have e5 : ((allK f.k g.k).map (gap f.k g.k)).map F ++ [F (ab (f.n - g.n)), F g.r] = ((allK f.k g.k).map (gap f.k g.k) ++ [ab (f.n - g.n), g.r]).map F := by simp
  have zS := Z_sum (Z_0 (b := 1) (by decide)) hz
  rw [e4] at e3 zS
  rw [← e5] at e3
  have o1 : okLen ((kD f.k).length + (kD g.k).length) = true := ol_le (by rw [len_k, len_k]; omega)
  have o2 : okLen (allK f.k g.k).length = true := ol_le (by omega)
  have o3 : okLen ((allK f.k g.k).length + (0 + 1 + 1)) = true := ol_le (by omega)
  have em : ab (f.n + -g.n) = ab (f.n - g.n) := by rw [Rat.sub_eq_add_neg]
  have e6 : (!decide (f.r < loo f g)) = decide (loo f g ≤ f.r) := by
    by_cases h : f.r < loo f g
    · rw [decide_eq_true h, decide_eq_false (Rat.not_le.mpr h)]; rfl
    · rw [decide_eq_false h, decide_eq_true (Rat.not_lt.mp h)]; rfl
  rw [call_at (d := d59) rfl rfl]
  simp only [d59, b59, ev.eq_1, ev.eq_2, ev.eq_3, ev.eq_4, ev.eq_5, ev.eq_6, ev.eq_7, ev.eq_8, ev.eq_9, ev.eq_10, ev.eq_11, ev.eq_12, ev.eq_13, ev.eq_14, ev.eq_15, ev.eq_16, ev.eq_17, ev.eq_18, ev.eq_19, ev.eq_20, ev.eq_21, ev.eq_22, ev.eq_23, ev.eq_24, ev.eq_25, ev.eq_26, ev.eq_27, ev.eq_28, ev.eq_29, evs.eq_1, evs.eq_2, evT, exec.eq_1, exec.eq_2, exec.eq_3, exec.eq_4, exec.eq_5, exec.eq_6, exec.eq_7, exec.eq_8, exec.eq_9, exec.eq_10, exec.eq_11, exec.eq_12, exec.eq_13, exec.eq_14, exec.eq_15, exec.eq_16, exec.eq_19, exec.eq_20, exec.eq_21, exec.eq_22, exec.eq_23, execs.eq_1, execs.eq_2, x_whl, x_for, x_comp, x_compIf, bor, vi, mkEnv, eg, es, frzA, frzS, bn, bt, bind_F, setAll, setPar, wipeE, tgs, b_add, b_sub, b_mul, b_fdiv, b_mod, b_shl, b_shr, b_pow, b_tup, b_lst, o_lt, o_le, o_gt, o_ge, o_eqi, o_nei, o_neb, o_isb, u_len1, u_len2, u_len3, u_abs, u_int, u_lst1, u_lst2, u_tup, u_max, s_int, s_bl, s_tup, s_lst, s_non, s_str, a_add, a_sub, i_tup, i_lst, r_bl, r_int, fin, chk_own, chk_some, isN, bnd, isNone, ixW_0, ixW_1, ixW_2, F_0, F_1, ixW_w, wg_1, wg_0, wp_0, List.map, List.length, List.replicate, List.cons_append, List.nil_append, List.append_nil, Nat.reduceSub, Nat.reduceAdd, Nat.sub_self, Nat.sub_zero, if_true, Bool.false_eq_true, if_false, reduceIte, ite_true, ite_false, Bool.and_self, Bool.and_true, Bool.true_and, Bool.not_true, Bool.not_false, Nat.reduceLT, Nat.reduceLeDiff, decide_true, decide_false, Int.reduceLT, Int.reduceLE, Int.reduceAdd, Int.reduceSub, Int.reduceNeg, Bool.or_true, Bool.or_false, Bool.true_or, Bool.false_or, Bool.and_false, Bool.false_and, (c_dict hf.nd).1, (c_dict hg.nd).1, o1, c_set (show f.k.length + g.k.length < 64 by omega), List.length_map, o2, e, c44 (n + 2) ws, c41_2 (n + 1) ws (hf.n.mono (by omega)) (Z_neg (hg.n.mono (by omega))), em, c45 (n + 2) ws, o3, Nat.zero_add, Nat.reduceAdd, e3, c42 (n + 2) ws (hf.r.mono (by omega)) (zS.mono (by omega)), e6]
end Pv.K36


set_option Elab.async false
set_option linter.all false
set_option maxRecDepth 100000
set_option exponentiation.threshold 20
/-! M11: the same. -/
namespace Pv.K36
open Pv
variable (n : Nat) (ws : WS)
mutual
def pln : D → Bool
  | .int _ => true
  | .bl _ => true
  | .tup xs => plns xs
  | _ => false
def plns : List D → Bool
  | [] => true
  | x :: xs => pln x && plns xs
end
mutual
def wt : D → Nat
  | .tup xs => 1 + wts xs
  | _ => 1
def wts : List D → Nat
  | [] => 0
  | x :: xs => wt x + wts xs
end
mutual
theorem okq_up : ∀ {d : D} {k : Nat}, okq d k = true → okq d (k + 1) = true
  | .non, _, _ => by simp [okq]
  | .bl _, _, _ => by simp [okq]
  | .int _, _, _ => by simp [okq]
  | .str j, _, h => by simpa [okq] using h
  | .tup xs, 0, h => by simp [okq] at h
  | .tup xs, k + 1, h => by
    simp only [okq] at h ⊢
    exact okqs_up h
  | .lst xs, 0, h => by simp [okq] at h
  | .lst xs, k + 1, h => by
    simp only [okq] at h ⊢
    exact okqs_up h
  | .dic _ _, _, h => by simp [okq] at h
  | .scr _, _, h => by simp [okq] at h
  | .wd, _, h => by simp [okq] at h
theorem okqs_up : ∀ {d : List D} {k : Nat}, okqs d k = true → okqs d (k + 1) = true
  | [], _, _ => by simp [okqs]
  | x :: xs, k, h => by
    simp only [okqs, Bool.and_eq_true] at h ⊢
    exact ⟨okq_up h.1, okqs_up h.2⟩
end
theorem okqs_of : ∀ {ds : List D} {k : Nat}, (∀ d ∈ ds, okq d k = true) → okqs ds k = true
  | [], _, _ => by simp [okqs]
  | d :: ds, k, h => by
    simp only [okqs, Bool.and_eq_true]
    exact ⟨h d List.mem_cons_self, okqs_of fun x hx => h x (List.mem_cons_of_mem _ hx)⟩
theorem okqs_all : ∀ {ds : List D} {k : Nat}, okqs ds k = true → ∀ d ∈ ds, okq d k = true
  | d :: ds, k, h, x, hx => by
    simp only [okqs, Bool.and_eq_true] at h
    rcases List.mem_cons.mp hx with rfl | hx
    · exact h.1
    · exact okqs_all h.2 x hx
theorem plns_all : ∀ {ds : List D}, plns ds = true → ∀ d ∈ ds, pln d = true
  | d :: ds, h, x, hx => by
    simp only [plns, Bool.and_eq_true] at h
    rcases List.mem_cons.mp hx with rfl | hx
    · exact h.1
    · exact plns_all h.2 x hx
theorem wts_app : ∀ (a b : List D), wts (a ++ b) = wts a + wts b
  | [], b => by simp [wts]
  | x :: a, b => by simp only [List.cons_append, wts, wts_app a b]; omega
theorem wt_pos : ∀ d : D, 1 ≤ wt d
  | .tup xs => by simp only [wt]; omega
  | .non | .bl _ | .int _ | .str _ | .lst _ | .dic _ _ | .scr _ | .wd => by simp [wt]
theorem len_wts : ∀ ds : List D, ds.length ≤ wts ds
  | [] => Nat.le_refl _
  | x :: ds => by
    have := wt_pos x
    have := len_wts ds
    simp only [List.length_cons, wts]; omega
def pr (d : D) : D := .tup [d, d]
theorem ne_nil {st : List D} (h : ∀ d ∈ st, okq d 60 = true) : cop .ne (.lst (st.map pr)) (.lst []) = some (!st.isEmpty) := by
  have h1 : okq (.lst (st.map pr)) 64 = true := by
    simp only [okq]
    refine okqs_of fun d hd => ?_
    obtain ⟨x, hx, rfl⟩ := List.mem_map.mp hd
    simp only [pr, okq, okqs, Bool.and_eq_true, and_true]
    exact ⟨okq_up (okq_up (h x hx)), okq_up (okq_up (h x hx))⟩
  have h2 : okq (.lst []) 64 = true := rfl
  show (if (okq (.lst (st.map pr)) 64 && okq (.lst []) 64) = true then some (!deq (.lst (st.map pr)) (.lst [])) else none) = _
  rw [h1, h2]
  cases st <;> rfl
theorem range_map {f : D → D} : ∀ (xs : List D), (List.range xs.length).map (fun k => f (xs.getD k .non)) = xs.map f := by
  intro xs
  apply List.ext_getElem
  · simp
  · intro i h1 h2
    simp at h1
    simp [List.getD_eq_getElem?_getD, List.getElem?_eq_getElem h1]
theorem ix_at {xs : List D} {k : Nat} (h : k < xs.length) : ixW ws (.tup xs) (.int (0 + (k : Int))) = some (xs.getD k .non) := by
  show L2.atI xs (0 + (k : Int)) = _
  refine atI_of (j := k) (by omega) ?_
  rw [List.getD_eq_getElem?_getD, List.getElem?_eq_getElem h]
  rfl
theorem pops (st : List D) (d : D) : ((st ++ [d]).map pr).getLast? = some (.tup [d, d]) ∧ ((st ++ [d]).map pr).dropLast = st.map pr := by
  rw [List.map_append]
  simp [pr]
theorem same_loop {a b : D} : ∀ (m : Nat) (st : List D) (t3 t4 t5 t6 t7 : Slot), wts st < m → wts st ≤ 1000 → (∀ d ∈ st, pln d = true ∧ okq d 60 = true) →
    ∃ u3 u4 u5 u6 u7, whlX (callO P n) t39_0 l39_7 m [.va a, .va b, .ow (.lst (st.map pr)), t3, t4, t5, t6, t7] ws = some (.nx, [.va a, .va b, .ow (.lst []), u3, u4, u5, u6, u7], ws)
  | 0, _, _, _, _, _, _, h, _, _ => absurd h (by omega)
  | m + 1, st, t3, t4, t5, t6, t7, hm, hw, hp => by
    have hne := ne_nil fun d hd => (hp d hd).2
    rcases List.eq_nil_or_concat st with rfl | ⟨st, d, rfl⟩
    · refine ⟨t3, t4, t5, t6, t7, whl_stop ?_⟩
      simp only [t39_0, ev.eq_1, ev.eq_2, ev.eq_3, ev.eq_4, ev.eq_5, ev.eq_6, ev.eq_7, ev.eq_8, ev.eq_9, ev.eq_10, ev.eq_11, ev.eq_12, ev.eq_13, ev.eq_14, ev.eq_15, ev.eq_16, ev.eq_17, ev.eq_18, ev.eq_19, ev.eq_20, ev.eq_21, ev.eq_22, ev.eq_23, ev.eq_24, ev.eq_25, ev.eq_26, ev.eq_27, ev.eq_28, ev.eq_29, evs.eq_1, evs.eq_2, evT, exec.eq_1, exec.eq_2, exec.eq_3, exec.eq_4, exec.eq_5, exec.eq_6, exec.eq_7, exec.eq_8, exec.eq_9, exec.eq_10, exec.eq_11, exec.eq_12, exec.eq_13, exec.eq_14, exec.eq_15, exec.eq_16, exec.eq_19, exec.eq_20, exec.eq_21, exec.eq_22, exec.eq_23, execs.eq_1, execs.eq_2, x_whl, x_for, x_comp, x_compIf, bor, vi, mkEnv, eg, es, frzA, frzS, bn, bt, bind_F, setAll, setPar, wipeE, tgs, b_add, b_sub, b_mul, b_fdiv, b_mod, b_shl, b_shr, b_pow, b_tup, b_lst, o_lt, o_le, o_gt, o_ge, o_eqi, o_nei, o_neb, o_isb, u_len1, u_len2, u_len3, u_abs, u_int, u_lst1, u_lst2, u_tup, u_max, s_int, s_bl, s_tup, s_lst, s_non, s_str, a_add, a_sub, i_tup, i_lst, r_bl, r_int, fin, chk_own, chk_some, isN, bnd, isNone, ixW_0, ixW_1, ixW_2, F_0, F_1, ixW_w, wg_1, wg_0, wp_0, List.map, List.length, List.replicate, List.cons_append, List.nil_append, List.append_nil, Nat.reduceSub, Nat.reduceAdd, Nat.sub_self, Nat.sub_zero, if_true, Bool.false_eq_true, if_false, reduceIte, ite_true, ite_false, Bool.and_self, Bool.and_true, Bool.true_and, Bool.not_true, Bool.not_false, Nat.reduceLT, Nat.reduceLeDiff, decide_true, decide_false, Int.reduceLT, Int.reduceLE, Int.reduceAdd, Int.reduceSub, Int.reduceNeg, Bool.or_true, Bool.or_false, Bool.true_or, Bool.false_or, Bool.and_false, Bool.false_and, hne]
      rfl
    · rw [List.concat_eq_append] at *
      have e1 : (st ++ [d]).isEmpty = false := by cases st <;> rfl
      rw [e1] at hne
      obtain ⟨g1, g2⟩ := pops st d
      rw [wts_app] at hm hw
      have hd := hp d (by simp)
      have hst : ∀ x ∈ st, pln x = true ∧ okq x 60 = true := fun x hx => hp x (by simp [hx])
      have w1 : wts [d] = wt d := by simp [wts]
      rw [w1] at hm hw
      cases d with
      | int i =>
        have w2 := wt_pos (.int i)
        obtain ⟨u3, u4, u5, u6, u7, e⟩ := same_loop m st (.va (.int i)) (.va (.int i)) t5 t6 t7 (by omega) (by omega) hst
        refine ⟨u3, u4, u5, u6, u7, ?_⟩
        rw [whl_go (ws1 := ws) (ws2 := ws) (env2 := [.va a, .va b, .ow (.lst (st.map pr)), .va (.int i), .va (.int i), t5, t6, t7])]
        · exact e
        · simp only [t39_0, ev.eq_1, ev.eq_2, ev.eq_3, ev.eq_4, ev.eq_5, ev.eq_6, ev.eq_7, ev.eq_8, ev.eq_9, ev.eq_10, ev.eq_11, ev.eq_12, ev.eq_13, ev.eq_14, ev.eq_15, ev.eq_16, ev.eq_17, ev.eq_18, ev.eq_19, ev.eq_20, ev.eq_21, ev.eq_22, ev.eq_23, ev.eq_24, ev.eq_25, ev.eq_26, ev.eq_27, ev.eq_28, ev.eq_29, evs.eq_1, evs.eq_2, evT, exec.eq_1, exec.eq_2, exec.eq_3, exec.eq_4, exec.eq_5, exec.eq_6, exec.eq_7, exec.eq_8, exec.eq_9, exec.eq_10, exec.eq_11, exec.eq_12, exec.eq_13, exec.eq_14, exec.eq_15, exec.eq_16, exec.eq_19, exec.eq_20, exec.eq_21, exec.eq_22, exec.eq_23, execs.eq_1, execs.eq_2, x_whl, x_for, x_comp, x_compIf, bor, vi, mkEnv, eg, es, frzA, frzS, bn, bt, bind_F, setAll, setPar, wipeE, tgs, b_add, b_sub, b_mul, b_fdiv, b_mod, b_shl, b_shr, b_pow, b_tup, b_lst, o_lt, o_le, o_gt, o_ge, o_eqi, o_nei, o_neb, o_isb, u_len1, u_len2, u_len3, u_abs, u_int, u_lst1, u_lst2, u_tup, u_max, s_int, s_bl, s_tup, s_lst, s_non, s_str, a_add, a_sub, i_tup, i_lst, r_bl, r_int, fin, chk_own, chk_some, isN, bnd, isNone, ixW_0, ixW_1, ixW_2, F_0, F_1, ixW_w, wg_1, wg_0, wp_0, List.map, List.length, List.replicate, List.cons_append, List.nil_append, List.append_nil, Nat.reduceSub, Nat.reduceAdd, Nat.sub_self, Nat.sub_zero, if_true, Bool.false_eq_true, if_false, reduceIte, ite_true, ite_false, Bool.and_self, Bool.and_true, Bool.true_and, Bool.not_true, Bool.not_false, Nat.reduceLT, Nat.reduceLeDiff, decide_true, decide_false, Int.reduceLT, Int.reduceLE, Int.reduceAdd, Int.reduceSub, Int.reduceNeg, Bool.or_true, Bool.or_false, Bool.true_or, Bool.false_or, Bool.and_false, Bool.false_and, hne]
        · simp only [l39_7, ev.eq_1, ev.eq_2, ev.eq_3, ev.eq_4, ev.eq_5, ev.eq_6, ev.eq_7, ev.eq_8, ev.eq_9, ev.eq_10, ev.eq_11, ev.eq_12, ev.eq_13, ev.eq_14, ev.eq_15, ev.eq_16, ev.eq_17, ev.eq_18, ev.eq_19, ev.eq_20, ev.eq_21, ev.eq_22, ev.eq_23, ev.eq_24, ev.eq_25, ev.eq_26, ev.eq_27, ev.eq_28, ev.eq_29, evs.eq_1, evs.eq_2, evT, exec.eq_1, exec.eq_2, exec.eq_3, exec.eq_4, exec.eq_5, exec.eq_6, exec.eq_7, exec.eq_8, exec.eq_9, exec.eq_10, exec.eq_11, exec.eq_12, exec.eq_13, exec.eq_14, exec.eq_15, exec.eq_16, exec.eq_19, exec.eq_20, exec.eq_21, exec.eq_22, exec.eq_23, execs.eq_1, execs.eq_2, x_whl, x_for, x_comp, x_compIf, bor, vi, mkEnv, eg, es, frzA, frzS, bn, bt, bind_F, setAll, setPar, wipeE, tgs, b_add, b_sub, b_mul, b_fdiv, b_mod, b_shl, b_shr, b_pow, b_tup, b_lst, o_lt, o_le, o_gt, o_ge, o_eqi, o_nei, o_neb, o_isb, u_len1, u_len2, u_len3, u_abs, u_int, u_lst1, u_lst2, u_tup, u_max, s_int, s_bl, s_tup, s_lst, s_non, s_str, a_add, a_sub, i_tup, i_lst, r_bl, r_int, fin, chk_own, chk_some, isN, bnd, isNone, ixW_0, ixW_1, ixW_2, F_0, F_1, ixW_w, wg_1, wg_0, wp_0, List.map, List.length, List.replicate, List.cons_append, List.nil_append, List.append_nil, Nat.reduceSub, Nat.reduceAdd, Nat.sub_self, Nat.sub_zero, if_true, Bool.false_eq_true, if_false, reduceIte, ite_true, ite_false, Bool.and_self, Bool.and_true, Bool.true_and, Bool.not_true, Bool.not_false, Nat.reduceLT, Nat.reduceLeDiff, decide_true, decide_false, Int.reduceLT, Int.reduceLE, Int.reduceAdd, Int.reduceSub, Int.reduceNeg, Bool.or_true, Bool.or_false, Bool.true_or, Bool.false_or, Bool.and_false, Bool.false_and, g1, g2, beq_self_eq_true]
      | bl i =>
        have w2 := wt_pos (.bl i)
        obtain ⟨u3, u4, u5, u6, u7, e⟩ := same_loop m st (.va (.bl i)) (.va (.bl i)) t5 t6 t7 (by omega) (by omega) hst
        refine ⟨u3, u4, u5, u6, u7, ?_⟩
        rw [whl_go (ws1 := ws) (ws2 := ws) (env2 := [.va a, .va b, .ow (.lst (st.map pr)), .va (.bl i), .va (.bl i), t5, t6, t7])]
        · exact e
        · simp only [t39_0, ev.eq_1, ev.eq_2, ev.eq_3, ev.eq_4, ev.eq_5, ev.eq_6, ev.eq_7, ev.eq_8, ev.eq_9, ev.eq_10, ev.eq_11, ev.eq_12, ev.eq_13, ev.eq_14, ev.eq_15, ev.eq_16, ev.eq_17, ev.eq_18, ev.eq_19, ev.eq_20, ev.eq_21, ev.eq_22, ev.eq_23, ev.eq_24, ev.eq_25, ev.eq_26, ev.eq_27, ev.eq_28, ev.eq_29, evs.eq_1, evs.eq_2, evT, exec.eq_1, exec.eq_2, exec.eq_3, exec.eq_4, exec.eq_5, exec.eq_6, exec.eq_7, exec.eq_8, exec.eq_9, exec.eq_10, exec.eq_11, exec.eq_12, exec.eq_13, exec.eq_14, exec.eq_15, exec.eq_16, exec.eq_19, exec.eq_20, exec.eq_21, exec.eq_22, exec.eq_23, execs.eq_1, execs.eq_2, x_whl, x_for, x_comp, x_compIf, bor, vi, mkEnv, eg, es, frzA, frzS, bn, bt, bind_F, setAll, setPar, wipeE, tgs, b_add, b_sub, b_mul, b_fdiv, b_mod, b_shl, b_shr, b_pow, b_tup, b_lst, o_lt, o_le, o_gt, o_ge, o_eqi, o_nei, o_neb, o_isb, u_len1, u_len2, u_len3, u_abs, u_int, u_lst1, u_lst2, u_tup, u_max, s_int, s_bl, s_tup, s_lst, s_non, s_str, a_add, a_sub, i_tup, i_lst, r_bl, r_int, fin, chk_own, chk_some, isN, bnd, isNone, ixW_0, ixW_1, ixW_2, F_0, F_1, ixW_w, wg_1, wg_0, wp_0, List.map, List.length, List.replicate, List.cons_append, List.nil_append, List.append_nil, Nat.reduceSub, Nat.reduceAdd, Nat.sub_self, Nat.sub_zero, if_true, Bool.false_eq_true, if_false, reduceIte, ite_true, ite_false, Bool.and_self, Bool.and_true, Bool.true_and, Bool.not_true, Bool.not_false, Nat.reduceLT, Nat.reduceLeDiff, decide_true, decide_false, Int.reduceLT, Int.reduceLE, Int.reduceAdd, Int.reduceSub, Int.reduceNeg, Bool.or_true, Bool.or_false, Bool.true_or, Bool.false_or, Bool.and_false, Bool.false_and, hne]
        · simp only [l39_7, ev.eq_1, ev.eq_2, ev.eq_3, ev.eq_4, ev.eq_5, ev.eq_6, ev.eq_7, ev.eq_8, ev.eq_9, ev.eq_10, ev.eq_11, ev.eq_12, ev.eq_13, ev.eq_14, ev.eq_15, ev.eq_16, ev.eq_17, ev.eq_18, ev.eq_19, ev.eq_20, ev.eq_21, ev.eq_22, ev.eq_23, ev.eq_24, ev.eq_25, ev.eq_26, ev.eq_27, ev.eq_28, ev.eq_29, evs.eq_1, evs.eq_2, evT, exec.eq_1, exec.eq_2, exec.eq_3, exec.eq_4, exec.eq_5, exec.eq_6, exec.eq_7, exec.eq_8, exec.eq_9, exec.eq_10, exec.eq_11, exec.eq_12, exec.eq_13, exec.eq_14, exec.eq_15, exec.eq_16, exec.eq_19, exec.eq_20, exec.eq_21, exec.eq_22, exec.eq_23, execs.eq_1, execs.eq_2, x_whl, x_for, x_comp, x_compIf, bor, vi, mkEnv, eg, es, frzA, frzS, bn, bt, bind_F, setAll, setPar, wipeE, tgs, b_add, b_sub, b_mul, b_fdiv, b_mod, b_shl, b_shr, b_pow, b_tup, b_lst, o_lt, o_le, o_gt, o_ge, o_eqi, o_nei, o_neb, o_isb, u_len1, u_len2, u_len3, u_abs, u_int, u_lst1, u_lst2, u_tup, u_max, s_int, s_bl, s_tup, s_lst, s_non, s_str, a_add, a_sub, i_tup, i_lst, r_bl, r_int, fin, chk_own, chk_some, isN, bnd, isNone, ixW_0, ixW_1, ixW_2, F_0, F_1, ixW_w, wg_1, wg_0, wp_0, List.map, List.length, List.replicate, List.cons_append, List.nil_append, List.append_nil, Nat.reduceSub, Nat.reduceAdd, Nat.sub_self, Nat.sub_zero, if_true, Bool.false_eq_true, if_false, reduceIte, ite_true, ite_false, Bool.and_self, Bool.and_true, Bool.true_and, Bool.not_true, Bool.not_false, Nat.reduceLT, Nat.reduceLeDiff, decide_true, decide_false, Int.reduceLT, Int.reduceLE, Int.reduceAdd, Int.reduceSub, Int.reduceNeg, Bool.or_true, Bool.or_false, Bool.true_or, Bool.false_or, Bool.and_false, Bool.false_and, g1, g2, beq_self_eq_true]
      | tup xs =>
        simp only [wt] at hm hw
        have hx1 := plns_all (by simpa only [pln] using hd.1)
        have hx2 := okqs_all (by simpa only [okq] using hd.2)
        obtain ⟨u3, u4, u5, u6, u7, e⟩ := same_loop m (st ++ xs) (.va (.tup xs)) (.va (.tup xs)) t5 t6 t7 (by rw [wts_app]; omega) (by rw [wts_app]; omega) (fun x hx => (List.mem_append.mp hx).elim (hst x) fun q => ⟨hx1 x q, okq_up (hx2 x q)⟩)
        refine ⟨u3, u4, u5, u6, u7, ?_⟩
        rw [List.map_append] at e
        have l1 := len_wts xs
        have l2 := len_wts st
        have c := cmp_map (Φ := callO P n) (tg := .nm 7) (elt := x39_6) (env := [.va a, .va b, .ow (.lst (st.map pr)), .va (.tup xs), .va (.tup xs), t5, t6, .un]) (ws := ws) (xs := List.range xs.length) (rep := fun k : Nat => D.int (0 + (k : Int))) (g := fun k => pr (xs.getD k .non)) fun k hk => by
          refine ⟨[.va a, .va b, .ow (.lst (st.map pr)), .va (.tup xs), .va (.tup xs), t5, t6, .va (.int (0 + (k : Int)))], rfl, ?_⟩
          have := ix_at ws (xs := xs) (List.mem_range.mp hk)
          simp only [x39_6, ev.eq_1, ev.eq_2, ev.eq_3, ev.eq_4, ev.eq_5, ev.eq_6, ev.eq_7, ev.eq_8, ev.eq_9, ev.eq_10, ev.eq_11, ev.eq_12, ev.eq_13, ev.eq_14, ev.eq_15, ev.eq_16, ev.eq_17, ev.eq_18, ev.eq_19, ev.eq_20, ev.eq_21, ev.eq_22, ev.eq_23, ev.eq_24, ev.eq_25, ev.eq_26, ev.eq_27, ev.eq_28, ev.eq_29, evs.eq_1, evs.eq_2, evT, exec.eq_1, exec.eq_2, exec.eq_3, exec.eq_4, exec.eq_5, exec.eq_6, exec.eq_7, exec.eq_8, exec.eq_9, exec.eq_10, exec.eq_11, exec.eq_12, exec.eq_13, exec.eq_14, exec.eq_15, exec.eq_16, exec.eq_19, exec.eq_20, exec.eq_21, exec.eq_22, exec.eq_23, execs.eq_1, execs.eq_2, x_whl, x_for, x_comp, x_compIf, bor, vi, mkEnv, eg, es, frzA, frzS, bn, bt, bind_F, setAll, setPar, wipeE, tgs, b_add, b_sub, b_mul, b_fdiv, b_mod, b_shl, b_shr, b_pow, b_tup, b_lst, o_lt, o_le, o_gt, o_ge, o_eqi, o_nei, o_neb, o_isb, u_len1, u_len2, u_len3, u_abs, u_int, u_lst1, u_lst2, u_tup, u_max, s_int, s_bl, s_tup, s_lst, s_non, s_str, a_add, a_sub, i_tup, i_lst, r_bl, r_int, fin, chk_own, chk_some, isN, bnd, isNone, ixW_0, ixW_1, ixW_2, F_0, F_1, ixW_w, wg_1, wg_0, wp_0, List.map, List.length, List.replicate, List.cons_append, List.nil_append, List.append_nil, Nat.reduceSub, Nat.reduceAdd, Nat.sub_self, Nat.sub_zero, if_true, Bool.false_eq_true, if_false, reduceIte, ite_true, ite_false, Bool.and_self, Bool.and_true, Bool.true_and, Bool.not_true, Bool.not_false, Nat.reduceLT, Nat.reduceLeDiff, decide_true, decide_false, Int.reduceLT, Int.reduceLE, Int.reduceAdd, Int.reduceSub, Int.reduceNeg, Bool.or_true, Bool.or_false, Bool.true_or, Bool.false_or, Bool.and_false, Bool.false_and, this, pr]
        rw [range_map] at c
        have o1 : okLen xs.length = true := ol_le (by omega)
        have o2 : okLen (st.length + xs.length) = true := ol_le (by omega)
        have o3 : (-100000 : Int) ≤ xs.length := by omega
        have o4 : (xs.length : Int) ≤ 100000 := by omega
        rw [whl_go (ws1 := ws) (ws2 := ws) (env2 := [.va a, .va b, .ow (.lst (st.map pr ++ xs.map pr)), .va (.tup xs), .va (.tup xs), t5, t6, t7])]
        · exact e
        · simp only [t39_0, ev.eq_1, ev.eq_2, ev.eq_3, ev.eq_4, ev.eq_5, ev.eq_6, ev.eq_7, ev.eq_8, ev.eq_9, ev.eq_10, ev.eq_11, ev.eq_12, ev.eq_13, ev.eq_14, ev.eq_15, ev.eq_16, ev.eq_17, ev.eq_18, ev.eq_19, ev.eq_20, ev.eq_21, ev.eq_22, ev.eq_23, ev.eq_24, ev.eq_25, ev.eq_26, ev.eq_27, ev.eq_28, ev.eq_29, evs.eq_1, evs.eq_2, evT, exec.eq_1, exec.eq_2, exec.eq_3, exec.eq_4, exec.eq_5, exec.eq_6, exec.eq_7, exec.eq_8, exec.eq_9, exec.eq_10, exec.eq_11, exec.eq_12, exec.eq_13, exec.eq_14, exec.eq_15, exec.eq_16, exec.eq_19, exec.eq_20, exec.eq_21, exec.eq_22, exec.eq_23, execs.eq_1, execs.eq_2, x_whl, x_for, x_comp, x_compIf, bor, vi, mkEnv, eg, es, frzA, frzS, bn, bt, bind_F, setAll, setPar, wipeE, tgs, b_add, b_sub, b_mul, b_fdiv, b_mod, b_shl, b_shr, b_pow, b_tup, b_lst, o_lt, o_le, o_gt, o_ge, o_eqi, o_nei, o_neb, o_isb, u_len1, u_len2, u_len3, u_abs, u_int, u_lst1, u_lst2, u_tup, u_max, s_int, s_bl, s_tup, s_lst, s_non, s_str, a_add, a_sub, i_tup, i_lst, r_bl, r_int, fin, chk_own, chk_some, isN, bnd, isNone, ixW_0, ixW_1, ixW_2, F_0, F_1, ixW_w, wg_1, wg_0, wp_0, List.map, List.length, List.replicate, List.cons_append, List.nil_append, List.append_nil, Nat.reduceSub, Nat.reduceAdd, Nat.sub_self, Nat.sub_zero, if_true, Bool.false_eq_true, if_false, reduceIte, ite_true, ite_false, Bool.and_self, Bool.and_true, Bool.true_and, Bool.not_true, Bool.not_false, Nat.reduceLT, Nat.reduceLeDiff, decide_true, decide_false, Int.reduceLT, Int.reduceLE, Int.reduceAdd, Int.reduceSub, Int.reduceNeg, Bool.or_true, Bool.or_false, Bool.true_or, Bool.false_or, Bool.and_false, Bool.false_and, hne]
        · simp only [l39_7, ev.eq_1, ev.eq_2, ev.eq_3, ev.eq_4, ev.eq_5, ev.eq_6, ev.eq_7, ev.eq_8, ev.eq_9, ev.eq_10, ev.eq_11, ev.eq_12, ev.eq_13, ev.eq_14, ev.eq_15, ev.eq_16, ev.eq_17, ev.eq_18, ev.eq_19, ev.eq_20, ev.eq_21, ev.eq_22, ev.eq_23, ev.eq_24, ev.eq_25, ev.eq_26, ev.eq_27, ev.eq_28, ev.eq_29, evs.eq_1, evs.eq_2, evT, exec.eq_1, exec.eq_2, exec.eq_3, exec.eq_4, exec.eq_5, exec.eq_6, exec.eq_7, exec.eq_8, exec.eq_9, exec.eq_10, exec.eq_11, exec.eq_12, exec.eq_13, exec.eq_14, exec.eq_15, exec.eq_16, exec.eq_19, exec.eq_20, exec.eq_21, exec.eq_22, exec.eq_23, execs.eq_1, execs.eq_2, x_whl, x_for, x_comp, x_compIf, bor, vi, mkEnv, eg, es, frzA, frzS, bn, bt, bind_F, setAll, setPar, wipeE, tgs, b_add, b_sub, b_mul, b_fdiv, b_mod, b_shl, b_shr, b_pow, b_tup, b_lst, o_lt, o_le, o_gt, o_ge, o_eqi, o_nei, o_neb, o_isb, u_len1, u_len2, u_len3, u_abs, u_int, u_lst1, u_lst2, u_tup, u_max, s_int, s_bl, s_tup, s_lst, s_non, s_str, a_add, a_sub, i_tup, i_lst, r_bl, r_int, fin, chk_own, chk_some, isN, bnd, isNone, ixW_0, ixW_1, ixW_2, F_0, F_1, ixW_w, wg_1, wg_0, wp_0, List.map, List.length, List.replicate, List.cons_append, List.nil_append, List.append_nil, Nat.reduceSub, Nat.reduceAdd, Nat.sub_self, Nat.sub_zero, if_true, Bool.false_eq_true, if_false, reduceIte, ite_true, ite_false, Bool.and_self, Bool.and_true, Bool.true_and, Bool.not_true, Bool.not_false, Nat.reduceLT, Nat.reduceLeDiff, decide_true, decide_false, Int.reduceLT, Int.reduceLE, Int.reduceAdd, Int.reduceSub, Int.reduceNeg, Bool.or_true, Bool.or_false, Bool.true_or, Bool.false_or, Bool.and_false, Bool.false_and, g1, g2, beq_self_eq_true, decide_eq_true o3, decide_eq_true o4, Int.toNat_natCast, List.length_map, List.length_range, o1, c, o2]
      | non => simp [pln] at hd
      | str _ => simp [pln] at hd
      | lst _ => simp [pln] at hd
      | dic _ _ => simp [pln] at hd
      | scr _ => simp [pln] at hd
      | wd => simp [pln] at hd
structure Good (d : D) : Prop where
  p : pln d = true
  q : okq d 60 = true
  w : wt d ≤ 1000
theorem c39 {d : D} (h : Good d) : callO P (n + 1) 39 [d, d] ws = some (.bl true, ws) := by
  have hw := h.w
  obtain ⟨u3, u4, u5, u6, u7, e⟩ := same_loop n ws (a := d) (b := d) fuel [d] .un .un .un .un .un (by simp only [wts]; unfold fuel; omega) (by simp only [wts]; omega) (by simp [h.p, h.q])
  have e' : whlX (callO P n) t39_0 l39_7 fuel [.va d, .va d, .ow (.lst [.tup [d, d]]), .un, .un, .un, .un, .un] ws = _ := e
  rw [call_at (d := d39) rfl rfl]
  simp only [d39, b39, ev.eq_1, ev.eq_2, ev.eq_3, ev.eq_4, ev.eq_5, ev.eq_6, ev.eq_7, ev.eq_8, ev.eq_9, ev.eq_10, ev.eq_11, ev.eq_12, ev.eq_13, ev.eq_14, ev.eq_15, ev.eq_16, ev.eq_17, ev.eq_18, ev.eq_19, ev.eq_20, ev.eq_21, ev.eq_22, ev.eq_23, ev.eq_24, ev.eq_25, ev.eq_26, ev.eq_27, ev.eq_28, ev.eq_29, evs.eq_1, evs.eq_2, evT, exec.eq_1, exec.eq_2, exec.eq_3, exec.eq_4, exec.eq_5, exec.eq_6, exec.eq_7, exec.eq_8, exec.eq_9, exec.eq_10, exec.eq_11, exec.eq_12, exec.eq_13, exec.eq_14, exec.eq_15, exec.eq_16, exec.eq_19, exec.eq_20, exec.eq_21, exec.eq_22, exec.eq_23, execs.eq_1, execs.eq_2, x_whl, x_for, x_comp, x_compIf, bor, vi, mkEnv, eg, es, frzA, frzS, bn, bt, bind_F, setAll, setPar, wipeE, tgs, b_add, b_sub, b_mul, b_fdiv, b_mod, b_shl, b_shr, b_pow, b_tup, b_lst, o_lt, o_le, o_gt, o_ge, o_eqi, o_nei, o_neb, o_isb, u_len1, u_len2, u_len3, u_abs, u_int, u_lst1, u_lst2, u_tup, u_max, s_int, s_bl, s_tup, s_lst, s_non, s_str, a_add, a_sub, i_tup, i_lst, r_bl, r_int, fin, chk_own, chk_some, isN, bnd, isNone, ixW_0, ixW_1, ixW_2, F_0, F_1, ixW_w, wg_1, wg_0, wp_0, List.map, List.length, List.replicate, List.cons_append, List.nil_append, List.append_nil, Nat.reduceSub, Nat.reduceAdd, Nat.sub_self, Nat.sub_zero, if_true, Bool.false_eq_true, if_false, reduceIte, ite_true, ite_false, Bool.and_self, Bool.and_true, Bool.true_and, Bool.not_true, Bool.not_false, Nat.reduceLT, Nat.reduceLeDiff, decide_true, decide_false, Int.reduceLT, Int.reduceLE, Int.reduceAdd, Int.reduceSub, Int.reduceNeg, Bool.or_true, Bool.or_false, Bool.true_or, Bool.false_or, Bool.and_false, Bool.false_and, e']
theorem good_bl (b : Bool) : Good (.bl b) := ⟨rfl, rfl, by simp [wt]⟩
theorem good_F (q : Rat) : Good (F q) := ⟨rfl, rfl, by simp [F, wt, wts]⟩
theorem good_FF (p q : Rat) : Good (.tup [F p, F q]) := ⟨rfl, rfl, by simp [F, wt, wts]⟩
theorem rows_p : ∀ kv : KV, plns (kv.map rD) = true
  | [] => rfl
  | x :: kv => by
    simp only [List.map_cons, plns, rows_p kv, Bool.and_true]
    rfl
theorem rows_q : ∀ (kv : KV) (k : Nat), okqs (kv.map rD) (k + 2) = true
  | [], _ => rfl
  | x :: kv, k => by
    simp only [List.map_cons, okqs, rows_q kv k, Bool.and_true]
    rfl
theorem rows_w : ∀ kv : KV, wts (kv.map rD) = 5 * kv.length
  | [] => rfl
  | x :: kv => by
    simp only [List.map_cons, wts, rows_w kv, List.length_cons]
    simp only [rD, F, wt, wts]
    omega
theorem good_fm {p q : Rat} {kv : KV} (h : kv.length ≤ 100) : Good (.tup [F p, .tup (kv.map rD), F q]) := by
  refine ⟨?_, ?_, ?_⟩
  · simp only [pln, plns, rows_p, F, Bool.and_self]
  · simp only [okq, okqs, rows_q, F, Bool.and_self]
  · simp only [F, wt, wts, rows_w]
    omega
end Pv.K36


set_option Elab.async false
set_option linter.all false
set_option maxRecDepth 100000
set_option exponentiation.threshold 20
/-! M12: at marks; what is straight. -/
namespace Pv.K36
open Pv
variable (n : Nat) (ws : WS)
def atL (mk kv : KV) : List Rat := kv.map fun x => x.2 * val mk x.1
theorem loop32 {x : D} {mk : KV} {j : Nat} (hj : 1 ≤ j) (hj2 : j ≤ 300) (hm : ∀ x ∈ mk, Z j x.2) : ∀ {kv : KV} {r : Rat} {k : Nat} {t u : Slot}, Z k r → (∀ x ∈ kv, Z j x.2 ∧ x.1 ∈ keys mk) → k + kv.length * (2 * j + 1) ≤ 1000 →
    ∃ t' u', forX (callO P (n + 4)) (.tp [3, 4]) l32_0 (kv.map rD) [.va x, .va (dD mk), .va (F r), t, u] ws = some (.nx, [.va x, .va (dD mk), .va (F (sumF r (atL mk kv))), t', u'], ws)
  | [], r, k, t, u, _, _, _ => ⟨t, u, rfl⟩
  | p :: kv, r, k, t, u, hr, hx, hl => by
    rw [List.length_cons, Nat.add_mul] at hl
    obtain ⟨hp, hp2⟩ := hx p List.mem_cons_self
    have zv := Z_val hj hm p.1
    have zm := Z_mul hp zv
    obtain ⟨t', u', e⟩ := loop32 (x := x) hj hj2 hm (kv := kv) (r := r + p.2 * val mk p.1) (t := .va (.int p.1)) (u := .va (F p.2)) ((Z_add hr zm).mono (show _ ≤ k + (2 * j + 1) by omega)) (fun z hz => hx z (List.mem_cons_of_mem _ hz)) (by omega)
    refine ⟨t', u', ?_⟩
    have ix := ix_d ws hp2
    rw [List.map_cons, for_cons]
    simp only [l32_0, bind_r, ev.eq_1, ev.eq_2, ev.eq_3, ev.eq_4, ev.eq_5, ev.eq_6, ev.eq_7, ev.eq_8, ev.eq_9, ev.eq_10, ev.eq_11, ev.eq_12, ev.eq_13, ev.eq_14, ev.eq_15, ev.eq_16, ev.eq_17, ev.eq_18, ev.eq_19, ev.eq_20, ev.eq_21, ev.eq_22, ev.eq_23, ev.eq_24, ev.eq_25, ev.eq_26, ev.eq_27, ev.eq_28, ev.eq_29, evs.eq_1, evs.eq_2, evT, exec.eq_1, exec.eq_2, exec.eq_3, exec.eq_4, exec.eq_5, exec.eq_6, exec.eq_7, exec.eq_8, exec.eq_9, exec.eq_10, exec.eq_11, exec.eq_12, exec.eq_13, exec.eq_14, exec.eq_15, exec.eq_16, exec.eq_19, exec.eq_20, exec.eq_21, exec.eq_22, exec.eq_23, execs.eq_1, execs.eq_2, x_whl, x_for, x_comp, x_compIf, bor, vi, mkEnv, eg, es, frzA, frzS, bn, bt, bind_F, setAll, setPar, wipeE, tgs, b_add, b_sub, b_mul, b_fdiv, b_mod, b_shl, b_shr, b_pow, b_tup, b_lst, o_lt, o_le, o_gt, o_ge, o_eqi, o_nei, o_neb, o_isb, u_len1, u_len2, u_len3, u_abs, u_int, u_lst1, u_lst2, u_tup, u_max, s_int, s_bl, s_tup, s_lst, s_non, s_str, a_add, a_sub, i_tup, i_lst, r_bl, r_int, fin, chk_own, chk_some, isN, bnd, isNone, ixW_0, ixW_1, ixW_2, F_0, F_1, ixW_w, wg_1, wg_0, wp_0, List.map, List.length, List.replicate, List.cons_append, List.nil_append, List.append_nil, Nat.reduceSub, Nat.reduceAdd, Nat.sub_self, Nat.sub_zero, if_true, Bool.false_eq_true, if_false, reduceIte, ite_true, ite_false, Bool.and_self, Bool.and_true, Bool.true_and, Bool.not_true, Bool.not_false, Nat.reduceLT, Nat.reduceLeDiff, decide_true, decide_false, Int.reduceLT, Int.reduceLE, Int.reduceAdd, Int.reduceSub, Int.reduceNeg, Bool.or_true, Bool.or_false, Bool.true_or, Bool.false_or, Bool.and_false, Bool.false_and, ix, c11 (n + 1) ws (hp.mono (by omega)) (zv.mono (by omega)), c8 (n + 1) ws (hr.mono (by omega)) (zm.mono (by omega))]
    exact e
theorem Z_at {mk kv : KV} {j : Nat} (hj : 1 ≤ j) (hm : ∀ x ∈ mk, Z j x.2) (hx : ∀ x ∈ kv, Z j x.2) : ∀ x ∈ atL mk kv, Z (2 * j) x := by
  intro x h
  obtain ⟨y, hy, rfl⟩ := List.mem_map.mp h
  exact (Z_mul (hx y hy) (Z_val hj hm y.1)).mono (by omega)
theorem c32 {f : Fm} {mk : KV} {b : Nat} (h : OkF b f) (hb : 1 ≤ b) (hb2 : b ≤ 20) (hm : ∀ x ∈ mk, Z b x.2) (hk : ∀ x ∈ f.k, x.1 ∈ keys mk) : callO P (n + 5) 32 [fD f, dD mk] ws = some (.tup [F (sumF f.n (atL mk f.k) - f.r), F (sumF f.n (atL mk f.k) + f.r)], ws) := by
  have hl := Nat.mul_le_mul_right (2 * b + 1) h.l
  obtain ⟨t, u, e⟩ := loop32 n ws (x := fD f) hb (by omega) hm (kv := f.k) (r := f.n) (t := .un) (u := .un) h.n (fun x hx => ⟨h.k x hx, hk x hx⟩) (by omega)
  have zs : Z 900 (sumF f.n (atL mk f.k)) := by
    refine (Z_sum h.n (Z_at hb hm h.k)).mono ?_
    unfold atL
    rw [List.length_map]
    omega
  rw [call_at (d := d32) rfl rfl]
  simp only [d32, b32, ev.eq_1, ev.eq_2, ev.eq_3, ev.eq_4, ev.eq_5, ev.eq_6, ev.eq_7, ev.eq_8, ev.eq_9, ev.eq_10, ev.eq_11, ev.eq_12, ev.eq_13, ev.eq_14, ev.eq_15, ev.eq_16, ev.eq_17, ev.eq_18, ev.eq_19, ev.eq_20, ev.eq_21, ev.eq_22, ev.eq_23, ev.eq_24, ev.eq_25, ev.eq_26, ev.eq_27, ev.eq_28, ev.eq_29, evs.eq_1, evs.eq_2, evT, exec.eq_1, exec.eq_2, exec.eq_3, exec.eq_4, exec.eq_5, exec.eq_6, exec.eq_7, exec.eq_8, exec.eq_9, exec.eq_10, exec.eq_11, exec.eq_12, exec.eq_13, exec.eq_14, exec.eq_15, exec.eq_16, exec.eq_19, exec.eq_20, exec.eq_21, exec.eq_22, exec.eq_23, execs.eq_1, execs.eq_2, x_whl, x_for, x_comp, x_compIf, bor, vi, mkEnv, eg, es, frzA, frzS, bn, bt, bind_F, setAll, setPar, wipeE, tgs, b_add, b_sub, b_mul, b_fdiv, b_mod, b_shl, b_shr, b_pow, b_tup, b_lst, o_lt, o_le, o_gt, o_ge, o_eqi, o_nei, o_neb, o_isb, u_len1, u_len2, u_len3, u_abs, u_int, u_lst1, u_lst2, u_tup, u_max, s_int, s_bl, s_tup, s_lst, s_non, s_str, a_add, a_sub, i_tup, i_lst, r_bl, r_int, fin, chk_own, chk_some, isN, bnd, isNone, ixW_0, ixW_1, ixW_2, F_0, F_1, ixW_w, wg_1, wg_0, wp_0, List.map, List.length, List.replicate, List.cons_append, List.nil_append, List.append_nil, Nat.reduceSub, Nat.reduceAdd, Nat.sub_self, Nat.sub_zero, if_true, Bool.false_eq_true, if_false, reduceIte, ite_true, ite_false, Bool.and_self, Bool.and_true, Bool.true_and, Bool.not_true, Bool.not_false, Nat.reduceLT, Nat.reduceLeDiff, decide_true, decide_false, Int.reduceLT, Int.reduceLE, Int.reduceAdd, Int.reduceSub, Int.reduceNeg, Bool.or_true, Bool.or_false, Bool.true_or, Bool.false_or, Bool.and_false, Bool.false_and, e, c10 n ws (zs.mono (by omega)) (h.r.mono (by omega)), c8 (n + 1) ws (zs.mono (by omega)) (h.r.mono (by omega))]
/-! is straight -/
theorem c0_i {i : Int} : callO P (n + 1) 0 [.int i] ws = some (.bl true, ws) := by
  rw [call_at (d := d0) rfl rfl]
  simp only [d0, b0, ev.eq_1, ev.eq_2, ev.eq_3, ev.eq_4, ev.eq_5, ev.eq_6, ev.eq_7, ev.eq_8, ev.eq_9, ev.eq_10, ev.eq_11, ev.eq_12, ev.eq_13, ev.eq_14, ev.eq_15, ev.eq_16, ev.eq_17, ev.eq_18, ev.eq_19, ev.eq_20, ev.eq_21, ev.eq_22, ev.eq_23, ev.eq_24, ev.eq_25, ev.eq_26, ev.eq_27, ev.eq_28, ev.eq_29, evs.eq_1, evs.eq_2, evT, exec.eq_1, exec.eq_2, exec.eq_3, exec.eq_4, exec.eq_5, exec.eq_6, exec.eq_7, exec.eq_8, exec.eq_9, exec.eq_10, exec.eq_11, exec.eq_12, exec.eq_13, exec.eq_14, exec.eq_15, exec.eq_16, exec.eq_19, exec.eq_20, exec.eq_21, exec.eq_22, exec.eq_23, execs.eq_1, execs.eq_2, x_whl, x_for, x_comp, x_compIf, bor, vi, mkEnv, eg, es, frzA, frzS, bn, bt, bind_F, setAll, setPar, wipeE, tgs, b_add, b_sub, b_mul, b_fdiv, b_mod, b_shl, b_shr, b_pow, b_tup, b_lst, o_lt, o_le, o_gt, o_ge, o_eqi, o_nei, o_neb, o_isb, u_len1, u_len2, u_len3, u_abs, u_int, u_lst1, u_lst2, u_tup, u_max, s_int, s_bl, s_tup, s_lst, s_non, s_str, a_add, a_sub, i_tup, i_lst, r_bl, r_int, fin, chk_own, chk_some, isN, bnd, isNone, ixW_0, ixW_1, ixW_2, F_0, F_1, ixW_w, wg_1, wg_0, wp_0, List.map, List.length, List.replicate, List.cons_append, List.nil_append, List.append_nil, Nat.reduceSub, Nat.reduceAdd, Nat.sub_self, Nat.sub_zero, if_true, Bool.false_eq_true, if_false, reduceIte, ite_true, ite_false, Bool.and_self, Bool.and_true, Bool.true_and, Bool.not_true, Bool.not_false, Nat.reduceLT, Nat.reduceLeDiff, decide_true, decide_false, Int.reduceLT, Int.reduceLE, Int.reduceAdd, Int.reduceSub, Int.reduceNeg, Bool.or_true, Bool.or_false, Bool.true_or, Bool.false_or, Bool.and_false, Bool.false_and]
theorem c1_i {i j : Int} : callO P (n + 2) 1 [.int i, .int j] ws = some (.bl (decide (j ≤ i)), ws) := by
  rw [call_at (d := d1) rfl rfl]
  simp only [d1, b1, ev.eq_1, ev.eq_2, ev.eq_3, ev.eq_4, ev.eq_5, ev.eq_6, ev.eq_7, ev.eq_8, ev.eq_9, ev.eq_10, ev.eq_11, ev.eq_12, ev.eq_13, ev.eq_14, ev.eq_15, ev.eq_16, ev.eq_17, ev.eq_18, ev.eq_19, ev.eq_20, ev.eq_21, ev.eq_22, ev.eq_23, ev.eq_24, ev.eq_25, ev.eq_26, ev.eq_27, ev.eq_28, ev.eq_29, evs.eq_1, evs.eq_2, evT, exec.eq_1, exec.eq_2, exec.eq_3, exec.eq_4, exec.eq_5, exec.eq_6, exec.eq_7, exec.eq_8, exec.eq_9, exec.eq_10, exec.eq_11, exec.eq_12, exec.eq_13, exec.eq_14, exec.eq_15, exec.eq_16, exec.eq_19, exec.eq_20, exec.eq_21, exec.eq_22, exec.eq_23, execs.eq_1, execs.eq_2, x_whl, x_for, x_comp, x_compIf, bor, vi, mkEnv, eg, es, frzA, frzS, bn, bt, bind_F, setAll, setPar, wipeE, tgs, b_add, b_sub, b_mul, b_fdiv, b_mod, b_shl, b_shr, b_pow, b_tup, b_lst, o_lt, o_le, o_gt, o_ge, o_eqi, o_nei, o_neb, o_isb, u_len1, u_len2, u_len3, u_abs, u_int, u_lst1, u_lst2, u_tup, u_max, s_int, s_bl, s_tup, s_lst, s_non, s_str, a_add, a_sub, i_tup, i_lst, r_bl, r_int, fin, chk_own, chk_some, isN, bnd, isNone, ixW_0, ixW_1, ixW_2, F_0, F_1, ixW_w, wg_1, wg_0, wp_0, List.map, List.length, List.replicate, List.cons_append, List.nil_append, List.append_nil, Nat.reduceSub, Nat.reduceAdd, Nat.sub_self, Nat.sub_zero, if_true, Bool.false_eq_true, if_false, reduceIte, ite_true, ite_false, Bool.and_self, Bool.and_true, Bool.true_and, Bool.not_true, Bool.not_false, Nat.reduceLT, Nat.reduceLeDiff, decide_true, decide_false, Int.reduceLT, Int.reduceLE, Int.reduceAdd, Int.reduceSub, Int.reduceNeg, Bool.or_true, Bool.or_false, Bool.true_or, Bool.false_or, Bool.and_false, Bool.false_and, c0_i]
theorem c2_t {xs : List D} {j : Int} : callO P (n + 1) 2 [.tup xs, .int j] ws = some (.bl (decide ((xs.length : Int) = j)), ws) := by
  rw [call_at (d := d2) rfl rfl]
  simp only [d2, b2, ev.eq_1, ev.eq_2, ev.eq_3, ev.eq_4, ev.eq_5, ev.eq_6, ev.eq_7, ev.eq_8, ev.eq_9, ev.eq_10, ev.eq_11, ev.eq_12, ev.eq_13, ev.eq_14, ev.eq_15, ev.eq_16, ev.eq_17, ev.eq_18, ev.eq_19, ev.eq_20, ev.eq_21, ev.eq_22, ev.eq_23, ev.eq_24, ev.eq_25, ev.eq_26, ev.eq_27, ev.eq_28, ev.eq_29, evs.eq_1, evs.eq_2, evT, exec.eq_1, exec.eq_2, exec.eq_3, exec.eq_4, exec.eq_5, exec.eq_6, exec.eq_7, exec.eq_8, exec.eq_9, exec.eq_10, exec.eq_11, exec.eq_12, exec.eq_13, exec.eq_14, exec.eq_15, exec.eq_16, exec.eq_19, exec.eq_20, exec.eq_21, exec.eq_22, exec.eq_23, execs.eq_1, execs.eq_2, x_whl, x_for, x_comp, x_compIf, bor, vi, mkEnv, eg, es, frzA, frzS, bn, bt, bind_F, setAll, setPar, wipeE, tgs, b_add, b_sub, b_mul, b_fdiv, b_mod, b_shl, b_shr, b_pow, b_tup, b_lst, o_lt, o_le, o_gt, o_ge, o_eqi, o_nei, o_neb, o_isb, u_len1, u_len2, u_len3, u_abs, u_int, u_lst1, u_lst2, u_tup, u_max, s_int, s_bl, s_tup, s_lst, s_non, s_str, a_add, a_sub, i_tup, i_lst, r_bl, r_int, fin, chk_own, chk_some, isN, bnd, isNone, ixW_0, ixW_1, ixW_2, F_0, F_1, ixW_w, wg_1, wg_0, wp_0, List.map, List.length, List.replicate, List.cons_append, List.nil_append, List.append_nil, Nat.reduceSub, Nat.reduceAdd, Nat.sub_self, Nat.sub_zero, if_true, Bool.false_eq_true, if_false, reduceIte, ite_true, ite_false, Bool.and_self, Bool.and_true, Bool.true_and, Bool.not_true, Bool.not_false, Nat.reduceLT, Nat.reduceLeDiff, decide_true, decide_false, Int.reduceLT, Int.reduceLE, Int.reduceAdd, Int.reduceSub, Int.reduceNeg, Bool.or_true, Bool.or_false, Bool.true_or, Bool.false_or, Bool.and_false, Bool.false_and]
theorem c2_l {xs : List D} {j : Int} : callO P (n + 1) 2 [.lst xs, .int j] ws = some (.bl false, ws) := by
  rw [call_at (d := d2) rfl rfl]
  simp only [d2, b2, ev.eq_1, ev.eq_2, ev.eq_3, ev.eq_4, ev.eq_5, ev.eq_6, ev.eq_7, ev.eq_8, ev.eq_9, ev.eq_10, ev.eq_11, ev.eq_12, ev.eq_13, ev.eq_14, ev.eq_15, ev.eq_16, ev.eq_17, ev.eq_18, ev.eq_19, ev.eq_20, ev.eq_21, ev.eq_22, ev.eq_23, ev.eq_24, ev.eq_25, ev.eq_26, ev.eq_27, ev.eq_28, ev.eq_29, evs.eq_1, evs.eq_2, evT, exec.eq_1, exec.eq_2, exec.eq_3, exec.eq_4, exec.eq_5, exec.eq_6, exec.eq_7, exec.eq_8, exec.eq_9, exec.eq_10, exec.eq_11, exec.eq_12, exec.eq_13, exec.eq_14, exec.eq_15, exec.eq_16, exec.eq_19, exec.eq_20, exec.eq_21, exec.eq_22, exec.eq_23, execs.eq_1, execs.eq_2, x_whl, x_for, x_comp, x_compIf, bor, vi, mkEnv, eg, es, frzA, frzS, bn, bt, bind_F, setAll, setPar, wipeE, tgs, b_add, b_sub, b_mul, b_fdiv, b_mod, b_shl, b_shr, b_pow, b_tup, b_lst, o_lt, o_le, o_gt, o_ge, o_eqi, o_nei, o_neb, o_isb, u_len1, u_len2, u_len3, u_abs, u_int, u_lst1, u_lst2, u_tup, u_max, s_int, s_bl, s_tup, s_lst, s_non, s_str, a_add, a_sub, i_tup, i_lst, r_bl, r_int, fin, chk_own, chk_some, isN, bnd, isNone, ixW_0, ixW_1, ixW_2, F_0, F_1, ixW_w, wg_1, wg_0, wp_0, List.map, List.length, List.replicate, List.cons_append, List.nil_append, List.append_nil, Nat.reduceSub, Nat.reduceAdd, Nat.sub_self, Nat.sub_zero, if_true, Bool.false_eq_true, if_false, reduceIte, ite_true, ite_false, Bool.and_self, Bool.and_true, Bool.true_and, Bool.not_true, Bool.not_false, Nat.reduceLT, Nat.reduceLeDiff, decide_true, decide_false, Int.reduceLT, Int.reduceLE, Int.reduceAdd, Int.reduceSub, Int.reduceNeg, Bool.or_true, Bool.or_false, Bool.true_or, Bool.false_or, Bool.and_false, Bool.false_and]
theorem c2_n {j : Int} : callO P (n + 1) 2 [.non, .int j] ws = some (.bl false, ws) := by
  rw [call_at (d := d2) rfl rfl]
  simp only [d2, b2, ev.eq_1, ev.eq_2, ev.eq_3, ev.eq_4, ev.eq_5, ev.eq_6, ev.eq_7, ev.eq_8, ev.eq_9, ev.eq_10, ev.eq_11, ev.eq_12, ev.eq_13, ev.eq_14, ev.eq_15, ev.eq_16, ev.eq_17, ev.eq_18, ev.eq_19, ev.eq_20, ev.eq_21, ev.eq_22, ev.eq_23, ev.eq_24, ev.eq_25, ev.eq_26, ev.eq_27, ev.eq_28, ev.eq_29, evs.eq_1, evs.eq_2, evT, exec.eq_1, exec.eq_2, exec.eq_3, exec.eq_4, exec.eq_5, exec.eq_6, exec.eq_7, exec.eq_8, exec.eq_9, exec.eq_10, exec.eq_11, exec.eq_12, exec.eq_13, exec.eq_14, exec.eq_15, exec.eq_16, exec.eq_19, exec.eq_20, exec.eq_21, exec.eq_22, exec.eq_23, execs.eq_1, execs.eq_2, x_whl, x_for, x_comp, x_compIf, bor, vi, mkEnv, eg, es, frzA, frzS, bn, bt, bind_F, setAll, setPar, wipeE, tgs, b_add, b_sub, b_mul, b_fdiv, b_mod, b_shl, b_shr, b_pow, b_tup, b_lst, o_lt, o_le, o_gt, o_ge, o_eqi, o_nei, o_neb, o_isb, u_len1, u_len2, u_len3, u_abs, u_int, u_lst1, u_lst2, u_tup, u_max, s_int, s_bl, s_tup, s_lst, s_non, s_str, a_add, a_sub, i_tup, i_lst, r_bl, r_int, fin, chk_own, chk_some, isN, bnd, isNone, ixW_0, ixW_1, ixW_2, F_0, F_1, ixW_w, wg_1, wg_0, wp_0, List.map, List.length, List.replicate, List.cons_append, List.nil_append, List.append_nil, Nat.reduceSub, Nat.reduceAdd, Nat.sub_self, Nat.sub_zero, if_true, Bool.false_eq_true, if_false, reduceIte, ite_true, ite_false, Bool.and_self, Bool.and_true, Bool.true_and, Bool.not_true, Bool.not_false, Nat.reduceLT, Nat.reduceLeDiff, decide_true, decide_false, Int.reduceLT, Int.reduceLE, Int.reduceAdd, Int.reduceSub, Int.reduceNeg, Bool.or_true, Bool.or_false, Bool.true_or, Bool.false_or, Bool.and_false, Bool.false_and]
theorem c7 {q : Rat} (hq : Z 1000 q) : callO P (n + 3) 7 [F q] ws = some (.bl true, ws) := by
  have e2 : callO P (n + 2) 2 [F q, .int 2] ws = some (.bl true, ws) := c2_t (n + 1) ws (xs := [.int q.num, .int q.den]) (j := 2)
  have e5 := c5 (n + 1) q.num q.den ws (p3 (k := 0) (den_lt hq))
  have g : (Int.gcd q.num q.den : Int) = 1 := by
    have := q.reduced
    unfold Nat.Coprime at this
    unfold Int.gcd
    rw [Int.natAbs_natCast, this]
    rfl
  rw [g] at e5
  have hd := den_pos q
  have e1 := c1_i n ws (i := q.den) (j := 1)
  rw [decide_eq_true (by omega)] at e1
  rw [call_at (d := d7) rfl rfl]
  simp only [d7, b7, ev.eq_1, ev.eq_2, ev.eq_3, ev.eq_4, ev.eq_5, ev.eq_6, ev.eq_7, ev.eq_8, ev.eq_9, ev.eq_10, ev.eq_11, ev.eq_12, ev.eq_13, ev.eq_14, ev.eq_15, ev.eq_16, ev.eq_17, ev.eq_18, ev.eq_19, ev.eq_20, ev.eq_21, ev.eq_22, ev.eq_23, ev.eq_24, ev.eq_25, ev.eq_26, ev.eq_27, ev.eq_28, ev.eq_29, evs.eq_1, evs.eq_2, evT, exec.eq_1, exec.eq_2, exec.eq_3, exec.eq_4, exec.eq_5, exec.eq_6, exec.eq_7, exec.eq_8, exec.eq_9, exec.eq_10, exec.eq_11, exec.eq_12, exec.eq_13, exec.eq_14, exec.eq_15, exec.eq_16, exec.eq_19, exec.eq_20, exec.eq_21, exec.eq_22, exec.eq_23, execs.eq_1, execs.eq_2, x_whl, x_for, x_comp, x_compIf, bor, vi, mkEnv, eg, es, frzA, frzS, bn, bt, bind_F, setAll, setPar, wipeE, tgs, b_add, b_sub, b_mul, b_fdiv, b_mod, b_shl, b_shr, b_pow, b_tup, b_lst, o_lt, o_le, o_gt, o_ge, o_eqi, o_nei, o_neb, o_isb, u_len1, u_len2, u_len3, u_abs, u_int, u_lst1, u_lst2, u_tup, u_max, s_int, s_bl, s_tup, s_lst, s_non, s_str, a_add, a_sub, i_tup, i_lst, r_bl, r_int, fin, chk_own, chk_some, isN, bnd, isNone, ixW_0, ixW_1, ixW_2, F_0, F_1, ixW_w, wg_1, wg_0, wp_0, List.map, List.length, List.replicate, List.cons_append, List.nil_append, List.append_nil, Nat.reduceSub, Nat.reduceAdd, Nat.sub_self, Nat.sub_zero, if_true, Bool.false_eq_true, if_false, reduceIte, ite_true, ite_false, Bool.and_self, Bool.and_true, Bool.true_and, Bool.not_true, Bool.not_false, Nat.reduceLT, Nat.reduceLeDiff, decide_true, decide_false, Int.reduceLT, Int.reduceLE, Int.reduceAdd, Int.reduceSub, Int.reduceNeg, Bool.or_true, Bool.or_false, Bool.true_or, Bool.false_or, Bool.and_false, Bool.false_and, e2, c0_i (n + 1) ws, e1, e5]
def ascB (ms : List Int) : Bool := (List.range (ms.length - 1)).all fun k => decide (ms.getD k 0 < ms.getD (k + 1) 0)
theorem bls_map : ∀ xs : List Bool, blsOf (xs.map .bl) = some xs
  | [] => rfl
  | x :: xs => by simp only [List.map_cons, blsOf, bls_map xs]
theorem u_all (xs : List Bool) : bf1 .all (.lst (xs.map .bl)) = some (.bl (xs.all id)) := by simp only [bf1, bls_map]
theorem u_any (xs : List Bool) : bf1 .any (.lst (xs.map .bl)) = some (.bl (xs.any id)) := by simp only [bf1, bls_map]
theorem ix_li {ms : List Int} {k : Nat} {i : Int} (hi : i = (k : Int)) (h : k < ms.length) : ixW ws (.lst (ms.map .int)) (.int i) = some (.int (ms.getD k 0)) := by
  show L2.atI (ms.map D.int) i = _
  refine atI_of (j := k) hi ?_
  rw [List.getElem?_map, List.getElem?_eq_getElem h, List.getD_eq_getElem?_getD, List.getElem?_eq_getElem h]
  rfl
theorem c3 {ms : List Int} (h : ms.length ≤ 1000) : callO P (n + 1) 3 [.lst (ms.map .int)] ws = some (.bl (ascB ms), ws) := by
  have c := cmp_map (Φ := callO P n) (tg := .nm 1) (elt := x3_0) (env := [.va (.lst (ms.map .int)), .un]) (ws := ws) (xs := List.range (ms.length - 1)) (rep := fun k : Nat => D.int (0 + (k : Int))) (g := fun k => D.bl (decide (ms.getD k 0 < ms.getD (k + 1) 0))) fun k hk => by
    refine ⟨[.va (.lst (ms.map .int)), .va (.int (0 + (k : Int)))], rfl, ?_⟩
    have hk := List.mem_range.mp hk
    have i1 := ix_li ws (ms := ms) (k := k) (i := 0 + (k : Int)) (by omega) (by omega)
    have i2 := ix_li ws (ms := ms) (k := k + 1) (i := 0 + (k : Int) + 1) (by omega) (by omega)
    simp only [x3_0, ev.eq_1, ev.eq_2, ev.eq_3, ev.eq_4, ev.eq_5, ev.eq_6, ev.eq_7, ev.eq_8, ev.eq_9, ev.eq_10, ev.eq_11, ev.eq_12, ev.eq_13, ev.eq_14, ev.eq_15, ev.eq_16, ev.eq_17, ev.eq_18, ev.eq_19, ev.eq_20, ev.eq_21, ev.eq_22, ev.eq_23, ev.eq_24, ev.eq_25, ev.eq_26, ev.eq_27, ev.eq_28, ev.eq_29, evs.eq_1, evs.eq_2, evT, exec.eq_1, exec.eq_2, exec.eq_3, exec.eq_4, exec.eq_5, exec.eq_6, exec.eq_7, exec.eq_8, exec.eq_9, exec.eq_10, exec.eq_11, exec.eq_12, exec.eq_13, exec.eq_14, exec.eq_15, exec.eq_16, exec.eq_19, exec.eq_20, exec.eq_21, exec.eq_22, exec.eq_23, execs.eq_1, execs.eq_2, x_whl, x_for, x_comp, x_compIf, bor, vi, mkEnv, eg, es, frzA, frzS, bn, bt, bind_F, setAll, setPar, wipeE, tgs, b_add, b_sub, b_mul, b_fdiv, b_mod, b_shl, b_shr, b_pow, b_tup, b_lst, o_lt, o_le, o_gt, o_ge, o_eqi, o_nei, o_neb, o_isb, u_len1, u_len2, u_len3, u_abs, u_int, u_lst1, u_lst2, u_tup, u_max, s_int, s_bl, s_tup, s_lst, s_non, s_str, a_add, a_sub, i_tup, i_lst, r_bl, r_int, fin, chk_own, chk_some, isN, bnd, isNone, ixW_0, ixW_1, ixW_2, F_0, F_1, ixW_w, wg_1, wg_0, wp_0, List.map, List.length, List.replicate, List.cons_append, List.nil_append, List.append_nil, Nat.reduceSub, Nat.reduceAdd, Nat.sub_self, Nat.sub_zero, if_true, Bool.false_eq_true, if_false, reduceIte, ite_true, ite_false, Bool.and_self, Bool.and_true, Bool.true_and, Bool.not_true, Bool.not_false, Nat.reduceLT, Nat.reduceLeDiff, decide_true, decide_false, Int.reduceLT, Int.reduceLE, Int.reduceAdd, Int.reduceSub, Int.reduceNeg, Bool.or_true, Bool.or_false, Bool.true_or, Bool.false_or, Bool.and_false, Bool.false_and, i1, i2]
  have e2 : (List.range (ms.length - 1)).map (fun k => D.bl (decide (ms.getD k 0 < ms.getD (k + 1) 0))) = ((List.range (ms.length - 1)).map fun k => decide (ms.getD k 0 < ms.getD (k + 1) 0)).map .bl := by rw [List.map_map]; rfl
  rw [e2] at c
  have e3 : ((List.range (ms.length - 1)).map fun k => decide (ms.getD k 0 < ms.getD (k + 1) 0)).all id = ascB ms := by rw [List.all_map]; rfl
  have o1 : (-100000 : Int) ≤ (ms.length : Int) - 1 := by omega
  have o2 : (ms.length : Int) - 1 ≤ 100000 := by omega
  have o3 : ((ms.length : Int) - 1).toNat = ms.length - 1 := by omega
  have o4 : okLen (ms.length - 1) = true := ol_le (by omega)
  rw [call_at (d := d3) rfl rfl]
  simp only [d3, b3, ev.eq_1, ev.eq_2, ev.eq_3, ev.eq_4, ev.eq_5, ev.eq_6, ev.eq_7, ev.eq_8, ev.eq_9, ev.eq_10, ev.eq_11, ev.eq_12, ev.eq_13, ev.eq_14, ev.eq_15, ev.eq_16, ev.eq_17, ev.eq_18, ev.eq_19, ev.eq_20, ev.eq_21, ev.eq_22, ev.eq_23, ev.eq_24, ev.eq_25, ev.eq_26, ev.eq_27, ev.eq_28, ev.eq_29, evs.eq_1, evs.eq_2, evT, exec.eq_1, exec.eq_2, exec.eq_3, exec.eq_4, exec.eq_5, exec.eq_6, exec.eq_7, exec.eq_8, exec.eq_9, exec.eq_10, exec.eq_11, exec.eq_12, exec.eq_13, exec.eq_14, exec.eq_15, exec.eq_16, exec.eq_19, exec.eq_20, exec.eq_21, exec.eq_22, exec.eq_23, execs.eq_1, execs.eq_2, x_whl, x_for, x_comp, x_compIf, bor, vi, mkEnv, eg, es, frzA, frzS, bn, bt, bind_F, setAll, setPar, wipeE, tgs, b_add, b_sub, b_mul, b_fdiv, b_mod, b_shl, b_shr, b_pow, b_tup, b_lst, o_lt, o_le, o_gt, o_ge, o_eqi, o_nei, o_neb, o_isb, u_len1, u_len2, u_len3, u_abs, u_int, u_lst1, u_lst2, u_tup, u_max, s_int, s_bl, s_tup, s_lst, s_non, s_str, a_add, a_sub, i_tup, i_lst, r_bl, r_int, fin, chk_own, chk_some, isN, bnd, isNone, ixW_0, ixW_1, ixW_2, F_0, F_1, ixW_w, wg_1, wg_0, wp_0, List.map, List.length, List.replicate, List.cons_append, List.nil_append, List.append_nil, Nat.reduceSub, Nat.reduceAdd, Nat.sub_self, Nat.sub_zero, if_true, Bool.false_eq_true, if_false, reduceIte, ite_true, ite_false, Bool.and_self, Bool.and_true, Bool.true_and, Bool.not_true, Bool.not_false, Nat.reduceLT, Nat.reduceLeDiff, decide_true, decide_false, Int.reduceLT, Int.reduceLE, Int.reduceAdd, Int.reduceSub, Int.reduceNeg, Bool.or_true, Bool.or_false, Bool.true_or, Bool.false_or, Bool.and_false, Bool.false_and, List.length_map, List.length_range, decide_eq_true o1, decide_eq_true o2, o3, o4, c, u_all, e3]
theorem F_eq (q : Rat) : cop .eq (F q) (F 0) = some (decide (q = 0)) := by
  have h := F_ne q
  have e1 : cop .ne (F q) (F 0) = some (!deq (F q) (F 0)) := rfl
  have e2 : cop .eq (F q) (F 0) = some (deq (F q) (F 0)) := rfl
  rw [e1] at h
  rw [e2]
  have h := Option.some.inj h
  congr 1
  by_cases z : q = 0
  · subst z; rfl
  · rw [decide_eq_false z]
    simpa [z] using h
/-- what is_straight answers of three parts -/
def stB (kv : KV) (r : Rat) : Bool := (kv.all fun x => decide (0 ≤ x.1)) && (ascB (keys kv) && !(kv.any fun x => decide (x.2 = 0))) && decide (0 ≤ r.num)
theorem c18 {p r : Rat} {kv : KV} (hp : Z 1000 p) (hr : Z 1000 r) (hk : ∀ x ∈ kv, Z 1000 x.2) (hl : kv.length ≤ 1000) : callO P (n + 5) 18 [.tup [F p, .tup (kv.map rD), F r]] ws = some (.bl (stB kv r), ws) := by
  let T : D := .tup [F p, .tup (kv.map rD), F r]
  have k1 := cmp_map (Φ := callO P (n + 4)) (tg := .nm 1) (elt := x18_0) (env := [.va T, .un, .un, .un]) (ws := ws) (xs := kv) (rep := rD) (g := fun x => D.bl (decide (0 ≤ x.1))) fun x hx => by
    refine ⟨[.va T, .va (rD x), .un, .un], rfl, ?_⟩
    have e2 : callO P (n + 4) 2 [.tup [.int x.1, F x.2], .int 2] ws = some (.bl true, ws) := c2_t (n + 3) ws (xs := [.int x.1, F x.2]) (j := 2)
    have h0 := c1_i (n + 2) ws (i := x.1) (j := 0)
    have h7 := c7 (n + 1) ws (hk x hx)
    by_cases g : 0 ≤ x.1
    · rw [decide_eq_true g] at h0 ⊢
      simp only [x18_0, rD, ev.eq_1, ev.eq_2, ev.eq_3, ev.eq_4, ev.eq_5, ev.eq_6, ev.eq_7, ev.eq_8, ev.eq_9, ev.eq_10, ev.eq_11, ev.eq_12, ev.eq_13, ev.eq_14, ev.eq_15, ev.eq_16, ev.eq_17, ev.eq_18, ev.eq_19, ev.eq_20, ev.eq_21, ev.eq_22, ev.eq_23, ev.eq_24, ev.eq_25, ev.eq_26, ev.eq_27, ev.eq_28, ev.eq_29, evs.eq_1, evs.eq_2, evT, exec.eq_1, exec.eq_2, exec.eq_3, exec.eq_4, exec.eq_5, exec.eq_6, exec.eq_7, exec.eq_8, exec.eq_9, exec.eq_10, exec.eq_11, exec.eq_12, exec.eq_13, exec.eq_14, exec.eq_15, exec.eq_16, exec.eq_19, exec.eq_20, exec.eq_21, exec.eq_22, exec.eq_23, execs.eq_1, execs.eq_2, x_whl, x_for, x_comp, x_compIf, bor, vi, mkEnv, eg, es, frzA, frzS, bn, bt, bind_F, setAll, setPar, wipeE, tgs, b_add, b_sub, b_mul, b_fdiv, b_mod, b_shl, b_shr, b_pow, b_tup, b_lst, o_lt, o_le, o_gt, o_ge, o_eqi, o_nei, o_neb, o_isb, u_len1, u_len2, u_len3, u_abs, u_int, u_lst1, u_lst2, u_tup, u_max, s_int, s_bl, s_tup, s_lst, s_non, s_str, a_add, a_sub, i_tup, i_lst, r_bl, r_int, fin, chk_own, chk_some, isN, bnd, isNone, ixW_0, ixW_1, ixW_2, F_0, F_1, ixW_w, wg_1, wg_0, wp_0, List.map, List.length, List.replicate, List.cons_append, List.nil_append, List.append_nil, Nat.reduceSub, Nat.reduceAdd, Nat.sub_self, Nat.sub_zero, if_true, Bool.false_eq_true, if_false, reduceIte, ite_true, ite_false, Bool.and_self, Bool.and_true, Bool.true_and, Bool.not_true, Bool.not_false, Nat.reduceLT, Nat.reduceLeDiff, decide_true, decide_false, Int.reduceLT, Int.reduceLE, Int.reduceAdd, Int.reduceSub, Int.reduceNeg, Bool.or_true, Bool.or_false, Bool.true_or, Bool.false_or, Bool.and_false, Bool.false_and, e2, h0, h7]
    · rw [decide_eq_false g] at h0 ⊢
      simp only [x18_0, rD, ev.eq_1, ev.eq_2, ev.eq_3, ev.eq_4, ev.eq_5, ev.eq_6, ev.eq_7, ev.eq_8, ev.eq_9, ev.eq_10, ev.eq_11, ev.eq_12, ev.eq_13, ev.eq_14, ev.eq_15, ev.eq_16, ev.eq_17, ev.eq_18, ev.eq_19, ev.eq_20, ev.eq_21, ev.eq_22, ev.eq_23, ev.eq_24, ev.eq_25, ev.eq_26, ev.eq_27, ev.eq_28, ev.eq_29, evs.eq_1, evs.eq_2, evT, exec.eq_1, exec.eq_2, exec.eq_3, exec.eq_4, exec.eq_5, exec.eq_6, exec.eq_7, exec.eq_8, exec.eq_9, exec.eq_10, exec.eq_11, exec.eq_12, exec.eq_13, exec.eq_14, exec.eq_15, exec.eq_16, exec.eq_19, exec.eq_20, exec.eq_21, exec.eq_22, exec.eq_23, execs.eq_1, execs.eq_2, x_whl, x_for, x_comp, x_compIf, bor, vi, mkEnv, eg, es, frzA, frzS, bn, bt, bind_F, setAll, setPar, wipeE, tgs, b_add, b_sub, b_mul, b_fdiv, b_mod, b_shl, b_shr, b_pow, b_tup, b_lst, o_lt, o_le, o_gt, o_ge, o_eqi, o_nei, o_neb, o_isb, u_len1, u_len2, u_len3, u_abs, u_int, u_lst1, u_lst2, u_tup, u_max, s_int, s_bl, s_tup, s_lst, s_non, s_str, a_add, a_sub, i_tup, i_lst, r_bl, r_int, fin, chk_own, chk_some, isN, bnd, isNone, ixW_0, ixW_1, ixW_2, F_0, F_1, ixW_w, wg_1, wg_0, wp_0, List.map, List.length, List.replicate, List.cons_append, List.nil_append, List.append_nil, Nat.reduceSub, Nat.reduceAdd, Nat.sub_self, Nat.sub_zero, if_true, Bool.false_eq_true, if_false, reduceIte, ite_true, ite_false, Bool.and_self, Bool.and_true, Bool.true_and, Bool.not_true, Bool.not_false, Nat.reduceLT, Nat.reduceLeDiff, decide_true, decide_false, Int.reduceLT, Int.reduceLE, Int.reduceAdd, Int.reduceSub, Int.reduceNeg, Bool.or_true, Bool.or_false, Bool.true_or, Bool.false_or, Bool.and_false, Bool.false_and, e2, h0]
  have k2 := cmp_map (Φ := callO P (n + 4)) (tg := .tp [3, 2]) (elt := x18_1) (env := [.va T, .un, .un, .un]) (ws := ws) (xs := kv) (rep := rD) (g := fun x => D.int x.1) fun x hx => by
    refine ⟨[.va T, .un, .va (F x.2), .va (.int x.1)], rfl, ?_⟩
    simp only [x18_1, ev.eq_1, ev.eq_2, ev.eq_3, ev.eq_4, ev.eq_5, ev.eq_6, ev.eq_7, ev.eq_8, ev.eq_9, ev.eq_10, ev.eq_11, ev.eq_12, ev.eq_13, ev.eq_14, ev.eq_15, ev.eq_16, ev.eq_17, ev.eq_18, ev.eq_19, ev.eq_20, ev.eq_21, ev.eq_22, ev.eq_23, ev.eq_24, ev.eq_25, ev.eq_26, ev.eq_27, ev.eq_28, ev.eq_29, evs.eq_1, evs.eq_2, evT, exec.eq_1, exec.eq_2, exec.eq_3, exec.eq_4, exec.eq_5, exec.eq_6, exec.eq_7, exec.eq_8, exec.eq_9, exec.eq_10, exec.eq_11, exec.eq_12, exec.eq_13, exec.eq_14, exec.eq_15, exec.eq_16, exec.eq_19, exec.eq_20, exec.eq_21, exec.eq_22, exec.eq_23, execs.eq_1, execs.eq_2, x_whl, x_for, x_comp, x_compIf, bor, vi, mkEnv, eg, es, frzA, frzS, bn, bt, bind_F, setAll, setPar, wipeE, tgs, b_add, b_sub, b_mul, b_fdiv, b_mod, b_shl, b_shr, b_pow, b_tup, b_lst, o_lt, o_le, o_gt, o_ge, o_eqi, o_nei, o_neb, o_isb, u_len1, u_len2, u_len3, u_abs, u_int, u_lst1, u_lst2, u_tup, u_max, s_int, s_bl, s_tup, s_lst, s_non, s_str, a_add, a_sub, i_tup, i_lst, r_bl, r_int, fin, chk_own, chk_some, isN, bnd, isNone, ixW_0, ixW_1, ixW_2, F_0, F_1, ixW_w, wg_1, wg_0, wp_0, List.map, List.length, List.replicate, List.cons_append, List.nil_append, List.append_nil, Nat.reduceSub, Nat.reduceAdd, Nat.sub_self, Nat.sub_zero, if_true, Bool.false_eq_true, if_false, reduceIte, ite_true, ite_false, Bool.and_self, Bool.and_true, Bool.true_and, Bool.not_true, Bool.not_false, Nat.reduceLT, Nat.reduceLeDiff, decide_true, decide_false, Int.reduceLT, Int.reduceLE, Int.reduceAdd, Int.reduceSub, Int.reduceNeg, Bool.or_true, Bool.or_false, Bool.true_or, Bool.false_or, Bool.and_false, Bool.false_and]
  have k3 := cmp_map (Φ := callO P (n + 4)) (tg := .tp [2, 1]) (elt := x18_2) (env := [.va T, .un, .un, .un]) (ws := ws) (xs := kv) (rep := rD) (g := fun x => D.bl (decide (x.2 = 0))) fun x hx => by
    refine ⟨[.va T, .va (F x.2), .va (.int x.1), .un], rfl, ?_⟩
    simp only [x18_2, ev.eq_1, ev.eq_2, ev.eq_3, ev.eq_4, ev.eq_5, ev.eq_6, ev.eq_7, ev.eq_8, ev.eq_9, ev.eq_10, ev.eq_11, ev.eq_12, ev.eq_13, ev.eq_14, ev.eq_15, ev.eq_16, ev.eq_17, ev.eq_18, ev.eq_19, ev.eq_20, ev.eq_21, ev.eq_22, ev.eq_23, ev.eq_24, ev.eq_25, ev.eq_26, ev.eq_27, ev.eq_28, ev.eq_29, evs.eq_1, evs.eq_2, evT, exec.eq_1, exec.eq_2, exec.eq_3, exec.eq_4, exec.eq_5, exec.eq_6, exec.eq_7, exec.eq_8, exec.eq_9, exec.eq_10, exec.eq_11, exec.eq_12, exec.eq_13, exec.eq_14, exec.eq_15, exec.eq_16, exec.eq_19, exec.eq_20, exec.eq_21, exec.eq_22, exec.eq_23, execs.eq_1, execs.eq_2, x_whl, x_for, x_comp, x_compIf, bor, vi, mkEnv, eg, es, frzA, frzS, bn, bt, bind_F, setAll, setPar, wipeE, tgs, b_add, b_sub, b_mul, b_fdiv, b_mod, b_shl, b_shr, b_pow, b_tup, b_lst, o_lt, o_le, o_gt, o_ge, o_eqi, o_nei, o_neb, o_isb, u_len1, u_len2, u_len3, u_abs, u_int, u_lst1, u_lst2, u_tup, u_max, s_int, s_bl, s_tup, s_lst, s_non, s_str, a_add, a_sub, i_tup, i_lst, r_bl, r_int, fin, chk_own, chk_some, isN, bnd, isNone, ixW_0, ixW_1, ixW_2, F_0, F_1, ixW_w, wg_1, wg_0, wp_0, List.map, List.length, List.replicate, List.cons_append, List.nil_append, List.append_nil, Nat.reduceSub, Nat.reduceAdd, Nat.sub_self, Nat.sub_zero, if_true, Bool.false_eq_true, if_false, reduceIte, ite_true, ite_false, Bool.and_self, Bool.and_true, Bool.true_and, Bool.not_true, Bool.not_false, Nat.reduceLT, Nat.reduceLeDiff, decide_true, decide_false, Int.reduceLT, Int.reduceLE, Int.reduceAdd, Int.reduceSub, Int.reduceNeg, Bool.or_true, Bool.or_false, Bool.true_or, Bool.false_or, Bool.and_false, Bool.false_and, F_0', F_eq]
  have m1 : kv.map (fun x => D.bl (decide (0 ≤ x.1))) = (kv.map fun x => decide (0 ≤ x.1)).map .bl := by rw [List.map_map]; rfl
  have m2 : kv.map (fun x => D.int x.1) = (keys kv).map .int := by unfold keys; rw [List.map_map]; rfl
  have m3 : kv.map (fun x => D.bl (decide (x.2 = 0))) = (kv.map fun x => decide (x.2 = 0)).map .bl := by rw [List.map_map]; rfl
  rw [m1] at k1
  rw [m2] at k2
  rw [m3] at k3
  have a1 : (kv.map fun x => decide (0 ≤ x.1)).all id = kv.all fun x => decide (0 ≤ x.1) := by rw [List.all_map]; rfl
  have a3 : (kv.map fun x => decide (x.2 = 0)).any id = kv.any fun x => decide (x.2 = 0) := by rw [List.any_map]; rfl
  have e2 : callO P (n + 4) 2 [.tup [F p, .tup (kv.map rD), F r], .int 3] ws = some (.bl true, ws) := c2_t (n + 3) ws (xs := [F p, .tup (kv.map rD), F r]) (j := 3)
  have e3 := c3 (n + 3) ws (ms := keys kv) (by unfold keys; rw [List.length_map]; exact hl)
  have o1 : okLen kv.length = true := ol_le hl
  rw [call_at (d := d18) rfl rfl]
  show chk ws (fin (execs (callO P (n + 4)) b18 [.va T, .un, .un, .un] ws)) = _
  unfold stB
  cases g1 : kv.all fun x => decide (0 ≤ x.1) with
  | false =>
    rw [g1] at a1
    simp only [b18, T, ev.eq_1, ev.eq_2, ev.eq_3, ev.eq_4, ev.eq_5, ev.eq_6, ev.eq_7, ev.eq_8, ev.eq_9, ev.eq_10, ev.eq_11, ev.eq_12, ev.eq_13, ev.eq_14, ev.eq_15, ev.eq_16, ev.eq_17, ev.eq_18, ev.eq_19, ev.eq_20, ev.eq_21, ev.eq_22, ev.eq_23, ev.eq_24, ev.eq_25, ev.eq_26, ev.eq_27, ev.eq_28, ev.eq_29, evs.eq_1, evs.eq_2, evT, exec.eq_1, exec.eq_2, exec.eq_3, exec.eq_4, exec.eq_5, exec.eq_6, exec.eq_7, exec.eq_8, exec.eq_9, exec.eq_10, exec.eq_11, exec.eq_12, exec.eq_13, exec.eq_14, exec.eq_15, exec.eq_16, exec.eq_19, exec.eq_20, exec.eq_21, exec.eq_22, exec.eq_23, execs.eq_1, execs.eq_2, x_whl, x_for, x_comp, x_compIf, bor, vi, mkEnv, eg, es, frzA, frzS, bn, bt, bind_F, setAll, setPar, wipeE, tgs, b_add, b_sub, b_mul, b_fdiv, b_mod, b_shl, b_shr, b_pow, b_tup, b_lst, o_lt, o_le, o_gt, o_ge, o_eqi, o_nei, o_neb, o_isb, u_len1, u_len2, u_len3, u_abs, u_int, u_lst1, u_lst2, u_tup, u_max, s_int, s_bl, s_tup, s_lst, s_non, s_str, a_add, a_sub, i_tup, i_lst, r_bl, r_int, fin, chk_own, chk_some, isN, bnd, isNone, ixW_0, ixW_1, ixW_2, F_0, F_1, ixW_w, wg_1, wg_0, wp_0, List.map, List.length, List.replicate, List.cons_append, List.nil_append, List.append_nil, Nat.reduceSub, Nat.reduceAdd, Nat.sub_self, Nat.sub_zero, if_true, Bool.false_eq_true, if_false, reduceIte, ite_true, ite_false, Bool.and_self, Bool.and_true, Bool.true_and, Bool.not_true, Bool.not_false, Nat.reduceLT, Nat.reduceLeDiff, decide_true, decide_false, Int.reduceLT, Int.reduceLE, Int.reduceAdd, Int.reduceSub, Int.reduceNeg, Bool.or_true, Bool.or_false, Bool.true_or, Bool.false_or, Bool.and_false, Bool.false_and, e2, c7 (n + 1) ws hp, List.length_map, o1, k1, u_all, a1]
  | true =>
    rw [g1] at a1
    cases g2 : ascB (keys kv) with
    | false =>
      rw [g2] at e3
      simp only [b18, T, ev.eq_1, ev.eq_2, ev.eq_3, ev.eq_4, ev.eq_5, ev.eq_6, ev.eq_7, ev.eq_8, ev.eq_9, ev.eq_10, ev.eq_11, ev.eq_12, ev.eq_13, ev.eq_14, ev.eq_15, ev.eq_16, ev.eq_17, ev.eq_18, ev.eq_19, ev.eq_20, ev.eq_21, ev.eq_22, ev.eq_23, ev.eq_24, ev.eq_25, ev.eq_26, ev.eq_27, ev.eq_28, ev.eq_29, evs.eq_1, evs.eq_2, evT, exec.eq_1, exec.eq_2, exec.eq_3, exec.eq_4, exec.eq_5, exec.eq_6, exec.eq_7, exec.eq_8, exec.eq_9, exec.eq_10, exec.eq_11, exec.eq_12, exec.eq_13, exec.eq_14, exec.eq_15, exec.eq_16, exec.eq_19, exec.eq_20, exec.eq_21, exec.eq_22, exec.eq_23, execs.eq_1, execs.eq_2, x_whl, x_for, x_comp, x_compIf, bor, vi, mkEnv, eg, es, frzA, frzS, bn, bt, bind_F, setAll, setPar, wipeE, tgs, b_add, b_sub, b_mul, b_fdiv, b_mod, b_shl, b_shr, b_pow, b_tup, b_lst, o_lt, o_le, o_gt, o_ge, o_eqi, o_nei, o_neb, o_isb, u_len1, u_len2, u_len3, u_abs, u_int, u_lst1, u_lst2, u_tup, u_max, s_int, s_bl, s_tup, s_lst, s_non, s_str, a_add, a_sub, i_tup, i_lst, r_bl, r_int, fin, chk_own, chk_some, isN, bnd, isNone, ixW_0, ixW_1, ixW_2, F_0, F_1, ixW_w, wg_1, wg_0, wp_0, List.map, List.length, List.replicate, List.cons_append, List.nil_append, List.append_nil, Nat.reduceSub, Nat.reduceAdd, Nat.sub_self, Nat.sub_zero, if_true, Bool.false_eq_true, if_false, reduceIte, ite_true, ite_false, Bool.and_self, Bool.and_true, Bool.true_and, Bool.not_true, Bool.not_false, Nat.reduceLT, Nat.reduceLeDiff, decide_true, decide_false, Int.reduceLT, Int.reduceLE, Int.reduceAdd, Int.reduceSub, Int.reduceNeg, Bool.or_true, Bool.or_false, Bool.true_or, Bool.false_or, Bool.and_false, Bool.false_and, e2, c7 (n + 1) ws hp, List.length_map, o1, k1, u_all, a1, k2, e3]
    | true =>
      rw [g2] at e3
      cases g3 : kv.any fun x => decide (x.2 = 0) with
      | true =>
        rw [g3] at a3
        simp only [b18, T, ev.eq_1, ev.eq_2, ev.eq_3, ev.eq_4, ev.eq_5, ev.eq_6, ev.eq_7, ev.eq_8, ev.eq_9, ev.eq_10, ev.eq_11, ev.eq_12, ev.eq_13, ev.eq_14, ev.eq_15, ev.eq_16, ev.eq_17, ev.eq_18, ev.eq_19, ev.eq_20, ev.eq_21, ev.eq_22, ev.eq_23, ev.eq_24, ev.eq_25, ev.eq_26, ev.eq_27, ev.eq_28, ev.eq_29, evs.eq_1, evs.eq_2, evT, exec.eq_1, exec.eq_2, exec.eq_3, exec.eq_4, exec.eq_5, exec.eq_6, exec.eq_7, exec.eq_8, exec.eq_9, exec.eq_10, exec.eq_11, exec.eq_12, exec.eq_13, exec.eq_14, exec.eq_15, exec.eq_16, exec.eq_19, exec.eq_20, exec.eq_21, exec.eq_22, exec.eq_23, execs.eq_1, execs.eq_2, x_whl, x_for, x_comp, x_compIf, bor, vi, mkEnv, eg, es, frzA, frzS, bn, bt, bind_F, setAll, setPar, wipeE, tgs, b_add, b_sub, b_mul, b_fdiv, b_mod, b_shl, b_shr, b_pow, b_tup, b_lst, o_lt, o_le, o_gt, o_ge, o_eqi, o_nei, o_neb, o_isb, u_len1, u_len2, u_len3, u_abs, u_int, u_lst1, u_lst2, u_tup, u_max, s_int, s_bl, s_tup, s_lst, s_non, s_str, a_add, a_sub, i_tup, i_lst, r_bl, r_int, fin, chk_own, chk_some, isN, bnd, isNone, ixW_0, ixW_1, ixW_2, F_0, F_1, ixW_w, wg_1, wg_0, wp_0, List.map, List.length, List.replicate, List.cons_append, List.nil_append, List.append_nil, Nat.reduceSub, Nat.reduceAdd, Nat.sub_self, Nat.sub_zero, if_true, Bool.false_eq_true, if_false, reduceIte, ite_true, ite_false, Bool.and_self, Bool.and_true, Bool.true_and, Bool.not_true, Bool.not_false, Nat.reduceLT, Nat.reduceLeDiff, decide_true, decide_false, Int.reduceLT, Int.reduceLE, Int.reduceAdd, Int.reduceSub, Int.reduceNeg, Bool.or_true, Bool.or_false, Bool.true_or, Bool.false_or, Bool.and_false, Bool.false_and, e2, c7 (n + 1) ws hp, List.length_map, o1, k1, u_all, a1, k2, e3, k3, u_any, a3]
      | false =>
        rw [g3] at a3
        simp only [b18, T, ev.eq_1, ev.eq_2, ev.eq_3, ev.eq_4, ev.eq_5, ev.eq_6, ev.eq_7, ev.eq_8, ev.eq_9, ev.eq_10, ev.eq_11, ev.eq_12, ev.eq_13, ev.eq_14, ev.eq_15, ev.eq_16, ev.eq_17, ev.eq_18, ev.eq_19, ev.eq_20, ev.eq_21, ev.eq_22, ev.eq_23, ev.eq_24, ev.eq_25, ev.eq_26, ev.eq_27, ev.eq_28, ev.eq_29, evs.eq_1, evs.eq_2, evT, exec.eq_1, exec.eq_2, exec.eq_3, exec.eq_4, exec.eq_5, exec.eq_6, exec.eq_7, exec.eq_8, exec.eq_9, exec.eq_10, exec.eq_11, exec.eq_12, exec.eq_13, exec.eq_14, exec.eq_15, exec.eq_16, exec.eq_19, exec.eq_20, exec.eq_21, exec.eq_22, exec.eq_23, execs.eq_1, execs.eq_2, x_whl, x_for, x_comp, x_compIf, bor, vi, mkEnv, eg, es, frzA, frzS, bn, bt, bind_F, setAll, setPar, wipeE, tgs, b_add, b_sub, b_mul, b_fdiv, b_mod, b_shl, b_shr, b_pow, b_tup, b_lst, o_lt, o_le, o_gt, o_ge, o_eqi, o_nei, o_neb, o_isb, u_len1, u_len2, u_len3, u_abs, u_int, u_lst1, u_lst2, u_tup, u_max, s_int, s_bl, s_tup, s_lst, s_non, s_str, a_add, a_sub, i_tup, i_lst, r_bl, r_int, fin, chk_own, chk_some, isN, bnd, isNone, ixW_0, ixW_1, ixW_2, F_0, F_1, ixW_w, wg_1, wg_0, wp_0, List.map, List.length, List.replicate, List.cons_append, List.nil_append, List.append_nil, Nat.reduceSub, Nat.reduceAdd, Nat.sub_self, Nat.sub_zero, if_true, Bool.false_eq_true, if_false, reduceIte, ite_true, ite_false, Bool.and_self, Bool.and_true, Bool.true_and, Bool.not_true, Bool.not_false, Nat.reduceLT, Nat.reduceLeDiff, decide_true, decide_false, Int.reduceLT, Int.reduceLE, Int.reduceAdd, Int.reduceSub, Int.reduceNeg, Bool.or_true, Bool.or_false, Bool.true_or, Bool.false_or, Bool.and_false, Bool.false_and, e2, c7 (n + 1) ws hp, List.length_map, o1, k1, u_all, a1, k2, e3, k3, u_any, a3, c7 (n + 1) ws hr]
theorem c18_2 {x y : D} : callO P (n + 5) 18 [.tup [x, y]] ws = some (.bl false, ws) := by
  have e2 : callO P (n + 4) 2 [.tup [x, y], .int 3] ws = some (.bl false, ws) := c2_t (n + 3) ws (xs := [x, y]) (j := 3)
  rw [call_at (d := d18) rfl rfl]
  simp only [d18, b18, ev.eq_1, ev.eq_2, ev.eq_3, ev.eq_4, ev.eq_5, ev.eq_6, ev.eq_7, ev.eq_8, ev.eq_9, ev.eq_10, ev.eq_11, ev.eq_12, ev.eq_13, ev.eq_14, ev.eq_15, ev.eq_16, ev.eq_17, ev.eq_18, ev.eq_19, ev.eq_20, ev.eq_21, ev.eq_22, ev.eq_23, ev.eq_24, ev.eq_25, ev.eq_26, ev.eq_27, ev.eq_28, ev.eq_29, evs.eq_1, evs.eq_2, evT, exec.eq_1, exec.eq_2, exec.eq_3, exec.eq_4, exec.eq_5, exec.eq_6, exec.eq_7, exec.eq_8, exec.eq_9, exec.eq_10, exec.eq_11, exec.eq_12, exec.eq_13, exec.eq_14, exec.eq_15, exec.eq_16, exec.eq_19, exec.eq_20, exec.eq_21, exec.eq_22, exec.eq_23, execs.eq_1, execs.eq_2, x_whl, x_for, x_comp, x_compIf, bor, vi, mkEnv, eg, es, frzA, frzS, bn, bt, bind_F, setAll, setPar, wipeE, tgs, b_add, b_sub, b_mul, b_fdiv, b_mod, b_shl, b_shr, b_pow, b_tup, b_lst, o_lt, o_le, o_gt, o_ge, o_eqi, o_nei, o_neb, o_isb, u_len1, u_len2, u_len3, u_abs, u_int, u_lst1, u_lst2, u_tup, u_max, s_int, s_bl, s_tup, s_lst, s_non, s_str, a_add, a_sub, i_tup, i_lst, r_bl, r_int, fin, chk_own, chk_some, isN, bnd, isNone, ixW_0, ixW_1, ixW_2, F_0, F_1, ixW_w, wg_1, wg_0, wp_0, List.map, List.length, List.replicate, List.cons_append, List.nil_append, List.append_nil, Nat.reduceSub, Nat.reduceAdd, Nat.sub_self, Nat.sub_zero, if_true, Bool.false_eq_true, if_false, reduceIte, ite_true, ite_false, Bool.and_self, Bool.and_true, Bool.true_and, Bool.not_true, Bool.not_false, Nat.reduceLT, Nat.reduceLeDiff, decide_true, decide_false, Int.reduceLT, Int.reduceLE, Int.reduceAdd, Int.reduceSub, Int.reduceNeg, Bool.or_true, Bool.or_false, Bool.true_or, Bool.false_or, Bool.and_false, Bool.false_and, e2]
theorem c18_l {xs : List D} : callO P (n + 5) 18 [.lst xs] ws = some (.bl false, ws) := by
  rw [call_at (d := d18) rfl rfl]
  simp only [d18, b18, ev.eq_1, ev.eq_2, ev.eq_3, ev.eq_4, ev.eq_5, ev.eq_6, ev.eq_7, ev.eq_8, ev.eq_9, ev.eq_10, ev.eq_11, ev.eq_12, ev.eq_13, ev.eq_14, ev.eq_15, ev.eq_16, ev.eq_17, ev.eq_18, ev.eq_19, ev.eq_20, ev.eq_21, ev.eq_22, ev.eq_23, ev.eq_24, ev.eq_25, ev.eq_26, ev.eq_27, ev.eq_28, ev.eq_29, evs.eq_1, evs.eq_2, evT, exec.eq_1, exec.eq_2, exec.eq_3, exec.eq_4, exec.eq_5, exec.eq_6, exec.eq_7, exec.eq_8, exec.eq_9, exec.eq_10, exec.eq_11, exec.eq_12, exec.eq_13, exec.eq_14, exec.eq_15, exec.eq_16, exec.eq_19, exec.eq_20, exec.eq_21, exec.eq_22, exec.eq_23, execs.eq_1, execs.eq_2, x_whl, x_for, x_comp, x_compIf, bor, vi, mkEnv, eg, es, frzA, frzS, bn, bt, bind_F, setAll, setPar, wipeE, tgs, b_add, b_sub, b_mul, b_fdiv, b_mod, b_shl, b_shr, b_pow, b_tup, b_lst, o_lt, o_le, o_gt, o_ge, o_eqi, o_nei, o_neb, o_isb, u_len1, u_len2, u_len3, u_abs, u_int, u_lst1, u_lst2, u_tup, u_max, s_int, s_bl, s_tup, s_lst, s_non, s_str, a_add, a_sub, i_tup, i_lst, r_bl, r_int, fin, chk_own, chk_some, isN, bnd, isNone, ixW_0, ixW_1, ixW_2, F_0, F_1, ixW_w, wg_1, wg_0, wp_0, List.map, List.length, List.replicate, List.cons_append, List.nil_append, List.append_nil, Nat.reduceSub, Nat.reduceAdd, Nat.sub_self, Nat.sub_zero, if_true, Bool.false_eq_true, if_false, reduceIte, ite_true, ite_false, Bool.and_self, Bool.and_true, Bool.true_and, Bool.not_true, Bool.not_false, Nat.reduceLT, Nat.reduceLeDiff, decide_true, decide_false, Int.reduceLT, Int.reduceLE, Int.reduceAdd, Int.reduceSub, Int.reduceNeg, Bool.or_true, Bool.or_false, Bool.true_or, Bool.false_or, Bool.and_false, Bool.false_and, c2_l (n + 3) ws]
theorem c18_n : callO P (n + 5) 18 [.non] ws = some (.bl false, ws) := by
  rw [call_at (d := d18) rfl rfl]
  simp only [d18, b18, ev.eq_1, ev.eq_2, ev.eq_3, ev.eq_4, ev.eq_5, ev.eq_6, ev.eq_7, ev.eq_8, ev.eq_9, ev.eq_10, ev.eq_11, ev.eq_12, ev.eq_13, ev.eq_14, ev.eq_15, ev.eq_16, ev.eq_17, ev.eq_18, ev.eq_19, ev.eq_20, ev.eq_21, ev.eq_22, ev.eq_23, ev.eq_24, ev.eq_25, ev.eq_26, ev.eq_27, ev.eq_28, ev.eq_29, evs.eq_1, evs.eq_2, evT, exec.eq_1, exec.eq_2, exec.eq_3, exec.eq_4, exec.eq_5, exec.eq_6, exec.eq_7, exec.eq_8, exec.eq_9, exec.eq_10, exec.eq_11, exec.eq_12, exec.eq_13, exec.eq_14, exec.eq_15, exec.eq_16, exec.eq_19, exec.eq_20, exec.eq_21, exec.eq_22, exec.eq_23, execs.eq_1, execs.eq_2, x_whl, x_for, x_comp, x_compIf, bor, vi, mkEnv, eg, es, frzA, frzS, bn, bt, bind_F, setAll, setPar, wipeE, tgs, b_add, b_sub, b_mul, b_fdiv, b_mod, b_shl, b_shr, b_pow, b_tup, b_lst, o_lt, o_le, o_gt, o_ge, o_eqi, o_nei, o_neb, o_isb, u_len1, u_len2, u_len3, u_abs, u_int, u_lst1, u_lst2, u_tup, u_max, s_int, s_bl, s_tup, s_lst, s_non, s_str, a_add, a_sub, i_tup, i_lst, r_bl, r_int, fin, chk_own, chk_some, isN, bnd, isNone, ixW_0, ixW_1, ixW_2, F_0, F_1, ixW_w, wg_1, wg_0, wp_0, List.map, List.length, List.replicate, List.cons_append, List.nil_append, List.append_nil, Nat.reduceSub, Nat.reduceAdd, Nat.sub_self, Nat.sub_zero, if_true, Bool.false_eq_true, if_false, reduceIte, ite_true, ite_false, Bool.and_self, Bool.and_true, Bool.true_and, Bool.not_true, Bool.not_false, Nat.reduceLT, Nat.reduceLeDiff, decide_true, decide_false, Int.reduceLT, Int.reduceLE, Int.reduceAdd, Int.reduceSub, Int.reduceNeg, Bool.or_true, Bool.or_false, Bool.true_or, Bool.false_or, Bool.and_false, Bool.false_and, c2_n (n + 3) ws]
end Pv.K36


set_option Elab.async false
set_option linter.all false
set_option maxRecDepth 100000
set_option exponentiation.threshold 20
/-! M13: what is drawn. -/
namespace Pv.K36
open Pv
variable (n : Nat) (ws : WS)
theorem okI_m {i : Int} (h1 : 0 ≤ i) (h2 : i < 65537) : okI i = true := okI_s (by omega)
theorem app_len (ds : List Int) (x : Int) : ds.map D.int ++ [.int x] = (ds ++ [x]).map .int := by simp
/-- inner walk -/
def I0 (s0 s1 s3 s4 s5 : Slot) (c : Nat) (w : WS) (s : Nat) (env : Env) (ws : WS) : Prop := ws = w ∧ ∃ (ds : List Int) (r : Int) (t7 : Slot), env = [s0, s1, .ow (.lst (ds.map .int)), s3, s4, s5, .va (.int r), t7] ∧ ds.length ≤ c + s
theorem in36 {s0 s1 s3 s4 s5 : Slot} {c : Nat} {s : Nat} {k : Nat} {env : Env} (hs : c + s ≤ 90000) (h : I0 s0 s1 s3 s4 s5 c ws s env ws) :
    ∃ env1 env2 ws2, bindT env (.nm 7) (.int (0 + (k : Int))) = some env1 ∧ execs (callO P n) l36_0 env1 ws = some (.nx, env2, ws2) ∧ I0 s0 s1 s3 s4 s5 c ws (s + 1) env2 ws2 := by
  obtain ⟨_, ds, r, t7, rfl, hl⟩ := h
  have o1 : okLen ds.length = true := decide_eq_true (by omega)
  have o2 : okI 997 = true := okI_s (by decide)
  by_cases g : 0 < r
  · refine ⟨[s0, s1, .ow (.lst (ds.map .int)), s3, s4, s5, .va (.int r), .va (.int (0 + (k : Int)))], [s0, s1, .ow (.lst ((ds ++ [r % 997]).map .int)), s3, s4, s5, .va (.int (r / 997)), .va (.int (0 + (k : Int)))], ws, rfl, ?_, rfl, ds ++ [r % 997], r / 997, _, rfl, by simp; omega⟩
    rw [← app_len]
    simp only [l36_0, ev.eq_1, ev.eq_2, ev.eq_3, ev.eq_4, ev.eq_5, ev.eq_6, ev.eq_7, ev.eq_8, ev.eq_9, ev.eq_10, ev.eq_11, ev.eq_12, ev.eq_13, ev.eq_14, ev.eq_15, ev.eq_16, ev.eq_17, ev.eq_18, ev.eq_19, ev.eq_20, ev.eq_21, ev.eq_22, ev.eq_23, ev.eq_24, ev.eq_25, ev.eq_26, ev.eq_27, ev.eq_28, ev.eq_29, evs.eq_1, evs.eq_2, evT, exec.eq_1, exec.eq_2, exec.eq_3, exec.eq_4, exec.eq_5, exec.eq_6, exec.eq_7, exec.eq_8, exec.eq_9, exec.eq_10, exec.eq_11, exec.eq_12, exec.eq_13, exec.eq_14, exec.eq_15, exec.eq_16, exec.eq_19, exec.eq_20, exec.eq_21, exec.eq_22, exec.eq_23, execs.eq_1, execs.eq_2, x_whl, x_for, x_comp, x_compIf, bor, vi, mkEnv, eg, es, frzA, frzS, bn, bt, bind_F, setAll, setPar, wipeE, tgs, b_add, b_sub, b_mul, b_fdiv, b_mod, b_shl, b_shr, b_pow, b_tup, b_lst, o_lt, o_le, o_gt, o_ge, o_eqi, o_nei, o_neb, o_isb, u_len1, u_len2, u_len3, u_abs, u_int, u_lst1, u_lst2, u_tup, u_max, s_int, s_bl, s_tup, s_lst, s_non, s_str, a_add, a_sub, i_tup, i_lst, r_bl, r_int, fin, chk_own, chk_some, isN, bnd, isNone, ixW_0, ixW_1, ixW_2, F_0, F_1, ixW_w, wg_1, wg_0, wp_0, List.map, List.length, List.replicate, List.cons_append, List.nil_append, List.append_nil, Nat.reduceSub, Nat.reduceAdd, Nat.sub_self, Nat.sub_zero, if_true, Bool.false_eq_true, if_false, reduceIte, ite_true, ite_false, Bool.and_self, Bool.and_true, Bool.true_and, Bool.not_true, Bool.not_false, Nat.reduceLT, Nat.reduceLeDiff, decide_true, decide_false, Int.reduceLT, Int.reduceLE, Int.reduceAdd, Int.reduceSub, Int.reduceNeg, Bool.or_true, Bool.or_false, Bool.true_or, Bool.false_or, Bool.and_false, Bool.false_and, decide_eq_true g, List.length_map, o1, o2]
  · refine ⟨[s0, s1, .ow (.lst (ds.map .int)), s3, s4, s5, .va (.int r), .va (.int (0 + (k : Int)))], _, ws, rfl, ?_, rfl, ds, r, .va (.int (0 + (k : Int))), rfl, by omega⟩
    simp only [l36_0, ev.eq_1, ev.eq_2, ev.eq_3, ev.eq_4, ev.eq_5, ev.eq_6, ev.eq_7, ev.eq_8, ev.eq_9, ev.eq_10, ev.eq_11, ev.eq_12, ev.eq_13, ev.eq_14, ev.eq_15, ev.eq_16, ev.eq_17, ev.eq_18, ev.eq_19, ev.eq_20, ev.eq_21, ev.eq_22, ev.eq_23, ev.eq_24, ev.eq_25, ev.eq_26, ev.eq_27, ev.eq_28, ev.eq_29, evs.eq_1, evs.eq_2, evT, exec.eq_1, exec.eq_2, exec.eq_3, exec.eq_4, exec.eq_5, exec.eq_6, exec.eq_7, exec.eq_8, exec.eq_9, exec.eq_10, exec.eq_11, exec.eq_12, exec.eq_13, exec.eq_14, exec.eq_15, exec.eq_16, exec.eq_19, exec.eq_20, exec.eq_21, exec.eq_22, exec.eq_23, execs.eq_1, execs.eq_2, x_whl, x_for, x_comp, x_compIf, bor, vi, mkEnv, eg, es, frzA, frzS, bn, bt, bind_F, setAll, setPar, wipeE, tgs, b_add, b_sub, b_mul, b_fdiv, b_mod, b_shl, b_shr, b_pow, b_tup, b_lst, o_lt, o_le, o_gt, o_ge, o_eqi, o_nei, o_neb, o_isb, u_len1, u_len2, u_len3, u_abs, u_int, u_lst1, u_lst2, u_tup, u_max, s_int, s_bl, s_tup, s_lst, s_non, s_str, a_add, a_sub, i_tup, i_lst, r_bl, r_int, fin, chk_own, chk_some, isN, bnd, isNone, ixW_0, ixW_1, ixW_2, F_0, F_1, ixW_w, wg_1, wg_0, wp_0, List.map, List.length, List.replicate, List.cons_append, List.nil_append, List.append_nil, Nat.reduceSub, Nat.reduceAdd, Nat.sub_self, Nat.sub_zero, if_true, Bool.false_eq_true, if_false, reduceIte, ite_true, ite_false, Bool.and_self, Bool.and_true, Bool.true_and, Bool.not_true, Bool.not_false, Nat.reduceLT, Nat.reduceLeDiff, decide_true, decide_false, Int.reduceLT, Int.reduceLE, Int.reduceAdd, Int.reduceSub, Int.reduceNeg, Bool.or_true, Bool.or_false, Bool.true_or, Bool.false_or, Bool.and_false, Bool.false_and, decide_eq_false g]
theorem loopIn {s0 s1 s3 s4 s5 : Slot} {c : Nat} : ∀ (xs : List Nat) (s : Nat) (env : Env), c + s + xs.length ≤ 90000 → I0 s0 s1 s3 s4 s5 c ws s env ws →
    ∃ env2, forX (callO P n) (.nm 7) l36_0 (xs.map fun k : Nat => .int (0 + (k : Int))) env ws = some (.nx, env2, ws) ∧ I0 s0 s1 s3 s4 s5 c ws (s + xs.length) env2 ws
  | [], s, env, _, h => ⟨env, rfl, h⟩
  | x :: xs, s, env, hl, h => by
    rw [List.length_cons] at hl
    obtain ⟨env1, env2, ws2, h1, h2, h3⟩ := in36 n ws (k := x) (by omega) h
    have ew := h3.1
    rw [ew] at h2 h3
    obtain ⟨env3, g1, g2⟩ := loopIn xs (s + 1) env2 (by omega) h3
    refine ⟨env3, ?_, by rw [List.length_cons, show s + (xs.length + 1) = s + 1 + xs.length by omega]; exact g2⟩
    rw [List.map_cons, for_cons, h1]
    dsimp only
    rw [h2]
    exact g1
/-- outer walk -/
def I1 (s0 s1 : Slot) (c : Nat) (env : Env) : Prop := ∃ (ds : List Int) (m : Int) (t4 t5 t6 t7 : Slot), env = [s0, s1, .ow (.lst (ds.map .int)), .va (.int m), t4, t5, t6, t7] ∧ 0 ≤ m ∧ m < 65537 ∧ ds.length ≤ c
theorem ix_scr {ns : List Int} {k : Nat} (h : k < ns.length) : ixW ws (.scr ns) (.int (0 + (k : Int))) = some (.int (ns.getD k 0)) := by
  show (L2.atI ns (0 + (k : Int))).map D.int = _
  rw [atI_of (j := k) (x := ns.getD k 0) (by omega)]
  · rfl
  · rw [List.getD_eq_getElem?_getD, List.getElem?_eq_getElem h]
    rfl
theorem step36 {ns : List Int} {s1 : Slot} {c k : Nat} {env : Env} (hk : k < ns.length) (hc : c ≤ 80000) (h : I1 (.va (.scr ns)) s1 c env) :
    ∃ env1 env2, bindT env (.nm 4) (.int (0 + (k : Int))) = some env1 ∧ execs (callO P n) l36_1 env1 ws = some (.nx, env2, ws) ∧ I1 (.va (.scr ns)) s1 (c + 62) env2 := by
  obtain ⟨ds, m, t4, t5, t6, t7, rfl, h1, h2, hl⟩ := h
  have ix := ix_scr ws hk
  have o1 : okLen ds.length = true := decide_eq_true (by omega)
  have o1' : okLen (ds.length + 1) = true := decide_eq_true (by omega)
  have q1 := okI_m h1 h2
  have q2 : okI 48271 = true := okI_s (by decide)
  have q3 : okI 69621 = true := okI_s (by decide)
  let cell : Int := (ns.getD k 0).natAbs
  let m2 : Int := (m * 48271 + cell % 1000003 + (0 + (k : Int))) % 65537
  have m20 : 0 ≤ m2 := Int.emod_nonneg _ (by decide)
  have m21 : m2 < 65537 := Int.emod_lt_of_pos _ (by decide)
  have q4 := okI_m m20 m21
  have p1 : (10 : Int) ^ Int.toNat 18 = 1000000000000000000 := by decide
  have r60 : (List.range 60).length = 60 := by simp
  have t60 : Int.toNat 60 = 60 := rfl
  have na : Int.natAbs 10 = 10 := rfl
  have tn : Int.toNat 18 = 18 := rfl
  have p2 : (10 : Int) ^ 18 = 1000000000000000000 := by decide
  have e60 : (List.range 60).map (fun k : Nat => D.int (0 + (k : Int))) = (List.range (Int.toNat 60)).map (fun k : Nat => D.int (0 + (k : Int))) := rfl
  have m2e : (m * 48271 + cell % 1000003 + (0 + (k : Int))) % 65537 = m2 := rfl
  have ce : ((ns.getD k 0).natAbs : Int) = cell := rfl
  by_cases g : (1000000000000000000 : Int) ≤ cell
  · obtain ⟨env2, e, _, ds2, r, t, rfl, hl2⟩ := loopIn n ws (s0 := .va (.scr ns)) (s1 := s1) (s3 := .va (.int m2)) (s4 := .va (.int (0 + (k : Int)))) (s5 := .va (.int cell)) (c := ds.length) (List.range 60) 0 [.va (.scr ns), s1, .ow (.lst (ds.map .int)), .va (.int m2), .va (.int (0 + (k : Int))), .va (.int cell), .va (.int cell), t7] (by simp; omega)
      ⟨rfl, ds, cell, t7, rfl, by omega⟩
    refine ⟨[.va (.scr ns), s1, .ow (.lst (ds.map .int)), .va (.int m), .va (.int (0 + (k : Int))), t5, t6, t7], [.va (.scr ns), s1, .ow (.lst (ds2.map .int)), .va (.int m2), .va (.int (0 + (k : Int))), .va (.int cell), .va (.int r), t], rfl, ?_, ds2, m2, _, _, _, _, rfl, m20, m21, by simp at hl2; omega⟩
    simp only [l36_1, ev.eq_1, ev.eq_2, ev.eq_3, ev.eq_4, ev.eq_5, ev.eq_6, ev.eq_7, ev.eq_8, ev.eq_9, ev.eq_10, ev.eq_11, ev.eq_12, ev.eq_13, ev.eq_14, ev.eq_15, ev.eq_16, ev.eq_17, ev.eq_18, ev.eq_19, ev.eq_20, ev.eq_21, ev.eq_22, ev.eq_23, ev.eq_24, ev.eq_25, ev.eq_26, ev.eq_27, ev.eq_28, ev.eq_29, evs.eq_1, evs.eq_2, evT, exec.eq_1, exec.eq_2, exec.eq_3, exec.eq_4, exec.eq_5, exec.eq_6, exec.eq_7, exec.eq_8, exec.eq_9, exec.eq_10, exec.eq_11, exec.eq_12, exec.eq_13, exec.eq_14, exec.eq_15, exec.eq_16, exec.eq_19, exec.eq_20, exec.eq_21, exec.eq_22, exec.eq_23, execs.eq_1, execs.eq_2, x_whl, x_for, x_comp, x_compIf, bor, vi, mkEnv, eg, es, frzA, frzS, bn, bt, bind_F, setAll, setPar, wipeE, tgs, b_add, b_sub, b_mul, b_fdiv, b_mod, b_shl, b_shr, b_pow, b_tup, b_lst, o_lt, o_le, o_gt, o_ge, o_eqi, o_nei, o_neb, o_isb, u_len1, u_len2, u_len3, u_abs, u_int, u_lst1, u_lst2, u_tup, u_max, s_int, s_bl, s_tup, s_lst, s_non, s_str, a_add, a_sub, i_tup, i_lst, r_bl, r_int, fin, chk_own, chk_some, isN, bnd, isNone, ixW_0, ixW_1, ixW_2, F_0, F_1, ixW_w, wg_1, wg_0, wp_0, List.map, List.length, List.replicate, List.cons_append, List.nil_append, List.append_nil, Nat.reduceSub, Nat.reduceAdd, Nat.sub_self, Nat.sub_zero, if_true, Bool.false_eq_true, if_false, reduceIte, ite_true, ite_false, Bool.and_self, Bool.and_true, Bool.true_and, Bool.not_true, Bool.not_false, Nat.reduceLT, Nat.reduceLeDiff, decide_true, decide_false, Int.reduceLT, Int.reduceLE, Int.reduceAdd, Int.reduceSub, Int.reduceNeg, Bool.or_true, Bool.or_false, Bool.true_or, Bool.false_or, Bool.and_false, Bool.false_and, ix, absI, ce, q1, q2, m2e, na, tn, p2, decide_eq_true g, t60, e]
  · obtain ⟨env2, e, _, ds2, r, t, rfl, hl2⟩ := loopIn n ws (s0 := .va (.scr ns)) (s1 := s1) (s3 := .va (.int m2)) (s4 := .va (.int (0 + (k : Int)))) (s5 := .va (.int cell)) (c := ds.length + 2) (List.range 60) 0 [.va (.scr ns), s1, .ow (.lst (((ds ++ [cell % 997]) ++ [(m2 * 69621 + 5) % 65521 % 997]).map .int)), .va (.int m2), .va (.int (0 + (k : Int))), .va (.int cell), .va (.int 0), t7] (by simp; omega)
      ⟨rfl, (ds ++ [cell % 997]) ++ [(m2 * 69621 + 5) % 65521 % 997], 0, t7, rfl, by simp⟩
    rw [← app_len, ← app_len] at e
    refine ⟨[.va (.scr ns), s1, .ow (.lst (ds.map .int)), .va (.int m), .va (.int (0 + (k : Int))), t5, t6, t7], [.va (.scr ns), s1, .ow (.lst (ds2.map .int)), .va (.int m2), .va (.int (0 + (k : Int))), .va (.int cell), .va (.int r), t], rfl, ?_, ds2, m2, _, _, _, _, rfl, m20, m21, by simp at hl2; omega⟩
    have o3 : okLen (List.map D.int ds).length = true := by rw [List.length_map]; exact o1
    have o4 : okLen (List.map D.int ds ++ [D.int (cell % 997)]).length = true := by rw [List.length_append, List.length_map]; exact o1'
    simp only [l36_1, ix, absI, ce, q1, q2, q3, q4, m2e, na, tn, p2, decide_eq_false g, t60, o3, o4, e, ev.eq_1, ev.eq_2, ev.eq_3, ev.eq_4, ev.eq_5, ev.eq_6, ev.eq_7, ev.eq_8, ev.eq_9, ev.eq_10, ev.eq_11, ev.eq_12, ev.eq_13, ev.eq_14, ev.eq_15, ev.eq_16, ev.eq_17, ev.eq_18, ev.eq_19, ev.eq_20, ev.eq_21, ev.eq_22, ev.eq_23, ev.eq_24, ev.eq_25, ev.eq_26, ev.eq_27, ev.eq_28, ev.eq_29, evs.eq_1, evs.eq_2, evT, exec.eq_1, exec.eq_2, exec.eq_3, exec.eq_4, exec.eq_5, exec.eq_6, exec.eq_7, exec.eq_8, exec.eq_9, exec.eq_10, exec.eq_11, exec.eq_12, exec.eq_13, exec.eq_14, exec.eq_15, exec.eq_16, exec.eq_19, exec.eq_20, exec.eq_21, exec.eq_22, exec.eq_23, execs.eq_1, execs.eq_2, x_whl, x_for, x_comp, x_compIf, bor, vi, mkEnv, eg, es, frzA, frzS, bn, bt, bind_F, setAll, setPar, wipeE, tgs, b_add, b_sub, b_mul, b_fdiv, b_mod, b_shl, b_shr, b_pow, b_tup, b_lst, o_lt, o_le, o_gt, o_ge, o_eqi, o_nei, o_neb, o_isb, u_len1, u_len2, u_len3, u_abs, u_int, u_lst1, u_lst2, u_tup, u_max, s_int, s_bl, s_tup, s_lst, s_non, s_str, a_add, a_sub, i_tup, i_lst, r_bl, r_int, fin, chk_own, chk_some, isN, bnd, isNone, ixW_0, ixW_1, ixW_2, F_0, F_1, ixW_w, wg_1, wg_0, wp_0, List.map, List.length, List.replicate, List.cons_append, List.nil_append, List.append_nil, Nat.reduceSub, Nat.reduceAdd, Nat.sub_self, Nat.sub_zero, if_true, Bool.false_eq_true, if_false, reduceIte, ite_true, ite_false, Bool.and_self, Bool.and_true, Bool.true_and, Bool.not_true, Bool.not_false, Nat.reduceLT, Nat.reduceLeDiff, decide_true, decide_false, Int.reduceLT, Int.reduceLE, Int.reduceAdd, Int.reduceSub, Int.reduceNeg, Bool.or_true, Bool.or_false, Bool.true_or, Bool.false_or, Bool.and_false, Bool.false_and]
end Pv.K36


set_option Elab.async false
set_option linter.all false
set_option maxRecDepth 100000
set_option exponentiation.threshold 20
/-! M14: draws, next, pick, a plain form. -/
namespace Pv.K36
open Pv
variable (n : Nat) (ws : WS)
theorem out36 {ns : List Int} {s1 : Slot} : ∀ (xs : List Nat) (c : Nat) (env : Env), (∀ x ∈ xs, x < ns.length) → c + 62 * xs.length ≤ 80000 → I1 (.va (.scr ns)) s1 c env →
    ∃ env2, forX (callO P n) (.nm 4) l36_1 (xs.map fun k : Nat => .int (0 + (k : Int))) env ws = some (.nx, env2, ws) ∧ I1 (.va (.scr ns)) s1 (c + 62 * xs.length) env2
  | [], c, env, _, _, h => ⟨env, rfl, h⟩
  | x :: xs, c, env, hx, hl, h => by
    rw [List.length_cons] at hl
    obtain ⟨env1, env2, h1, h2, h3⟩ := step36 n ws (hx x List.mem_cons_self) (by omega) h
    obtain ⟨env3, g1, g2⟩ := out36 xs (c + 62) env2 (fun y hy => hx y (List.mem_cons_of_mem _ hy)) (by omega) h3
    refine ⟨env3, ?_, by rw [List.length_cons, show c + 62 * (xs.length + 1) = c + 62 + 62 * xs.length by omega]; exact g2⟩
    rw [List.map_cons, for_cons, h1]
    dsimp only
    rw [h2]
    exact g1
theorem last36 {s0 s1 : Slot} : ∀ (xs : List Nat) (c : Nat) (env : Env), c + xs.length ≤ 80000 → I1 s0 s1 c env →
    ∃ env2, forX (callO P n) (.nm 4) l36_2 (xs.map fun k : Nat => .int (0 + (k : Int))) env ws = some (.nx, env2, ws) ∧ I1 s0 s1 (c + xs.length) env2
  | [], c, env, _, h => ⟨env, rfl, h⟩
  | x :: xs, c, env, hl, h => by
    rw [List.length_cons] at hl
    obtain ⟨ds, m, t4, t5, t6, t7, rfl, h1, h2, h3⟩ := h
    let m2 : Int := (m * 16807 + (0 + (x : Int)) + 1) % 65537
    have m2e : (m * 16807 + (0 + (x : Int)) + 1) % 65537 = m2 := rfl
    have m20 : 0 ≤ m2 := Int.emod_nonneg _ (by decide)
    have m21 : m2 < 65537 := Int.emod_lt_of_pos _ (by decide)
    obtain ⟨env3, g1, g2⟩ := last36 (s0 := s0) (s1 := s1) xs (c + 1) [s0, s1, .ow (.lst ((ds ++ [m2 % 997]).map .int)), .va (.int m2), .va (.int (0 + (x : Int))), t5, t6, t7] (by omega) ⟨_, m2, _, _, _, _, rfl, m20, m21, by simp; omega⟩
    refine ⟨env3, ?_, by rw [List.length_cons, show c + (xs.length + 1) = c + 1 + xs.length by omega]; exact g2⟩
    have q1 := okI_m h1 h2
    have q2 : okI 16807 = true := okI_s (by decide)
    have o3 : okLen (List.map D.int ds).length = true := by rw [List.length_map]; exact decide_eq_true (by omega)
    rw [← app_len] at g1
    rw [List.map_cons, for_cons]
    simp only [l36_2, q1, q2, m2e, o3, ev.eq_1, ev.eq_2, ev.eq_3, ev.eq_4, ev.eq_5, ev.eq_6, ev.eq_7, ev.eq_8, ev.eq_9, ev.eq_10, ev.eq_11, ev.eq_12, ev.eq_13, ev.eq_14, ev.eq_15, ev.eq_16, ev.eq_17, ev.eq_18, ev.eq_19, ev.eq_20, ev.eq_21, ev.eq_22, ev.eq_23, ev.eq_24, ev.eq_25, ev.eq_26, ev.eq_27, ev.eq_28, ev.eq_29, evs.eq_1, evs.eq_2, evT, exec.eq_1, exec.eq_2, exec.eq_3, exec.eq_4, exec.eq_5, exec.eq_6, exec.eq_7, exec.eq_8, exec.eq_9, exec.eq_10, exec.eq_11, exec.eq_12, exec.eq_13, exec.eq_14, exec.eq_15, exec.eq_16, exec.eq_19, exec.eq_20, exec.eq_21, exec.eq_22, exec.eq_23, execs.eq_1, execs.eq_2, x_whl, x_for, x_comp, x_compIf, bor, vi, mkEnv, eg, es, frzA, frzS, bn, bt, bind_F, setAll, setPar, wipeE, tgs, b_add, b_sub, b_mul, b_fdiv, b_mod, b_shl, b_shr, b_pow, b_tup, b_lst, o_lt, o_le, o_gt, o_ge, o_eqi, o_nei, o_neb, o_isb, u_len1, u_len2, u_len3, u_abs, u_int, u_lst1, u_lst2, u_tup, u_max, s_int, s_bl, s_tup, s_lst, s_non, s_str, a_add, a_sub, i_tup, i_lst, r_bl, r_int, fin, chk_own, chk_some, isN, bnd, isNone, ixW_0, ixW_1, ixW_2, F_0, F_1, ixW_w, wg_1, wg_0, wp_0, List.map, List.length, List.replicate, List.cons_append, List.nil_append, List.append_nil, Nat.reduceSub, Nat.reduceAdd, Nat.sub_self, Nat.sub_zero, if_true, Bool.false_eq_true, if_false, reduceIte, ite_true, ite_false, Bool.and_self, Bool.and_true, Bool.true_and, Bool.not_true, Bool.not_false, Nat.reduceLT, Nat.reduceLeDiff, decide_true, decide_false, Int.reduceLT, Int.reduceLE, Int.reduceAdd, Int.reduceSub, Int.reduceNeg, Bool.or_true, Bool.or_false, Bool.true_or, Bool.false_or, Bool.and_false, Bool.false_and]
    exact g1
theorem c36 {ns : List Int} (h : ns.length ≤ 63) : ∃ ds : List Int, callO P (n + 1) 36 [.scr ns, .int 260] ws = some (.lst (ds.map .int), ws) := by
  obtain ⟨env2, e1, hI⟩ := out36 n ws (ns := ns) (s1 := .va (.int 260)) (List.range ns.length) 0 [.va (.scr ns), .va (.int 260), .ow (.lst []), .va (.int 7), .un, .un, .un, .un] (fun x hx => List.mem_range.mp hx) (by simp; omega) ⟨[], 7, _, _, _, _, rfl, by decide, by decide, Nat.le_refl _⟩
  obtain ⟨env3, e2, ds, m, t4, t5, t6, t7, rfl, _, _, _⟩ := last36 n ws (List.range 260) _ env2 (by simp; omega) hI
  have r : (List.range (Int.toNat 260)).map (fun k : Nat => D.int (0 + (k : Int))) = (List.range 260).map (fun k : Nat => D.int (0 + (k : Int))) := rfl
  obtain ⟨ds0, m0, u4, u5, u6, u7, rfl, _, _, _⟩ := hI
  have o1 : (-100000 : Int) ≤ (ns.length : Int) := by omega
  have o2 : (ns.length : Int) ≤ 100000 := by omega
  have sl : ∃ ds' : List Int, slD (.lst (ds.map .int)) none (some 260) = some (.lst (ds'.map .int)) := by
    refine ⟨(ds.drop (HT.sIx ds.length 0 none)).take (HT.sIx ds.length ds.length (some 260) - HT.sIx ds.length 0 none), ?_⟩
    show some (D.lst (cutD (ds.map .int) none (some 260))) = _
    unfold cutD
    rw [List.length_map, ← List.map_drop, ← List.map_take]
  obtain ⟨ds', sl⟩ := sl
  refine ⟨ds', ?_⟩
  rw [call_at (d := d36) rfl rfl]
  simp only [d36, b36, ev.eq_1, ev.eq_2, ev.eq_3, ev.eq_4, ev.eq_5, ev.eq_6, ev.eq_7, ev.eq_8, ev.eq_9, ev.eq_10, ev.eq_11, ev.eq_12, ev.eq_13, ev.eq_14, ev.eq_15, ev.eq_16, ev.eq_17, ev.eq_18, ev.eq_19, ev.eq_20, ev.eq_21, ev.eq_22, ev.eq_23, ev.eq_24, ev.eq_25, ev.eq_26, ev.eq_27, ev.eq_28, ev.eq_29, evs.eq_1, evs.eq_2, evT, exec.eq_1, exec.eq_2, exec.eq_3, exec.eq_4, exec.eq_5, exec.eq_6, exec.eq_7, exec.eq_8, exec.eq_9, exec.eq_10, exec.eq_11, exec.eq_12, exec.eq_13, exec.eq_14, exec.eq_15, exec.eq_16, exec.eq_19, exec.eq_20, exec.eq_21, exec.eq_22, exec.eq_23, execs.eq_1, execs.eq_2, x_whl, x_for, x_comp, x_compIf, bor, vi, mkEnv, eg, es, frzA, frzS, bn, bt, bind_F, setAll, setPar, wipeE, tgs, b_add, b_sub, b_mul, b_fdiv, b_mod, b_shl, b_shr, b_pow, b_tup, b_lst, o_lt, o_le, o_gt, o_ge, o_eqi, o_nei, o_neb, o_isb, u_len1, u_len2, u_len3, u_abs, u_int, u_lst1, u_lst2, u_tup, u_max, s_int, s_bl, s_tup, s_lst, s_non, s_str, a_add, a_sub, i_tup, i_lst, r_bl, r_int, fin, chk_own, chk_some, isN, bnd, isNone, ixW_0, ixW_1, ixW_2, F_0, F_1, ixW_w, wg_1, wg_0, wp_0, List.map, List.length, List.replicate, List.cons_append, List.nil_append, List.append_nil, Nat.reduceSub, Nat.reduceAdd, Nat.sub_self, Nat.sub_zero, if_true, Bool.false_eq_true, if_false, reduceIte, ite_true, ite_false, Bool.and_self, Bool.and_true, Bool.true_and, Bool.not_true, Bool.not_false, Nat.reduceLT, Nat.reduceLeDiff, decide_true, decide_false, Int.reduceLT, Int.reduceLE, Int.reduceAdd, Int.reduceSub, Int.reduceNeg, Bool.or_true, Bool.or_false, Bool.true_or, Bool.false_or, Bool.and_false, Bool.false_and, decide_eq_true o1, decide_eq_true o2, Int.toNat_natCast, e1, r, e2, sl]
/-! next -/
abbrev W (ds : List Int) (k : Int) : WS := some [(1, .lst (ds.map .int)), (0, .int k)]
theorem c37 (ds : List Int) {m k : Int} (hm : 0 < m) (hk : 0 ≤ k) : ∃ r : Int, 0 ≤ r ∧ r < m ∧ callO P (n + 1) 37 [.wd, .int m] (W ds k) = some (.int r, W ds (k + 1)) := by
  have o1 : okLen (0 + 1 + 1) = true := ol_le (by decide)
  have o2 : (some (D.int k)).isSome = true := rfl
  by_cases g : (ds.length : Int) < k + 1
  · refine ⟨0, by omega, hm, ?_⟩
    rw [call_at (d := d37) rfl rfl]
    simp only [d37, b37, W, ev.eq_1, ev.eq_2, ev.eq_3, ev.eq_4, ev.eq_5, ev.eq_6, ev.eq_7, ev.eq_8, ev.eq_9, ev.eq_10, ev.eq_11, ev.eq_12, ev.eq_13, ev.eq_14, ev.eq_15, ev.eq_16, ev.eq_17, ev.eq_18, ev.eq_19, ev.eq_20, ev.eq_21, ev.eq_22, ev.eq_23, ev.eq_24, ev.eq_25, ev.eq_26, ev.eq_27, ev.eq_28, ev.eq_29, evs.eq_1, evs.eq_2, evT, exec.eq_1, exec.eq_2, exec.eq_3, exec.eq_4, exec.eq_5, exec.eq_6, exec.eq_7, exec.eq_8, exec.eq_9, exec.eq_10, exec.eq_11, exec.eq_12, exec.eq_13, exec.eq_14, exec.eq_15, exec.eq_16, exec.eq_19, exec.eq_20, exec.eq_21, exec.eq_22, exec.eq_23, execs.eq_1, execs.eq_2, x_whl, x_for, x_comp, x_compIf, bor, vi, mkEnv, eg, es, frzA, frzS, bn, bt, bind_F, setAll, setPar, wipeE, tgs, b_add, b_sub, b_mul, b_fdiv, b_mod, b_shl, b_shr, b_pow, b_tup, b_lst, o_lt, o_le, o_gt, o_ge, o_eqi, o_nei, o_neb, o_isb, u_len1, u_len2, u_len3, u_abs, u_int, u_lst1, u_lst2, u_tup, u_max, s_int, s_bl, s_tup, s_lst, s_non, s_str, a_add, a_sub, i_tup, i_lst, r_bl, r_int, fin, chk_own, chk_some, isN, bnd, isNone, ixW_0, ixW_1, ixW_2, F_0, F_1, ixW_w, wg_1, wg_0, wp_0, List.map, List.length, List.replicate, List.cons_append, List.nil_append, List.append_nil, Nat.reduceSub, Nat.reduceAdd, Nat.sub_self, Nat.sub_zero, if_true, Bool.false_eq_true, if_false, reduceIte, ite_true, ite_false, Bool.and_self, Bool.and_true, Bool.true_and, Bool.not_true, Bool.not_false, Nat.reduceLT, Nat.reduceLeDiff, decide_true, decide_false, Int.reduceLT, Int.reduceLE, Int.reduceAdd, Int.reduceSub, Int.reduceNeg, Bool.or_true, Bool.or_false, Bool.true_or, Bool.false_or, Bool.and_false, Bool.false_and, o1, o2, List.length_map, decide_eq_true g]
  · have ix := ix_li (some [(1, .lst (ds.map .int)), (0, .int (k + 1))]) (ms := ds) (k := k.toNat) (i := k + 1 - 1) (by omega) (by omega)
    refine ⟨ds.getD k.toNat 0 % m, Int.emod_nonneg _ (by omega), Int.emod_lt_of_pos _ hm, ?_⟩
    rw [call_at (d := d37) rfl rfl]
    simp only [d37, b37, W, ev.eq_1, ev.eq_2, ev.eq_3, ev.eq_4, ev.eq_5, ev.eq_6, ev.eq_7, ev.eq_8, ev.eq_9, ev.eq_10, ev.eq_11, ev.eq_12, ev.eq_13, ev.eq_14, ev.eq_15, ev.eq_16, ev.eq_17, ev.eq_18, ev.eq_19, ev.eq_20, ev.eq_21, ev.eq_22, ev.eq_23, ev.eq_24, ev.eq_25, ev.eq_26, ev.eq_27, ev.eq_28, ev.eq_29, evs.eq_1, evs.eq_2, evT, exec.eq_1, exec.eq_2, exec.eq_3, exec.eq_4, exec.eq_5, exec.eq_6, exec.eq_7, exec.eq_8, exec.eq_9, exec.eq_10, exec.eq_11, exec.eq_12, exec.eq_13, exec.eq_14, exec.eq_15, exec.eq_16, exec.eq_19, exec.eq_20, exec.eq_21, exec.eq_22, exec.eq_23, execs.eq_1, execs.eq_2, x_whl, x_for, x_comp, x_compIf, bor, vi, mkEnv, eg, es, frzA, frzS, bn, bt, bind_F, setAll, setPar, wipeE, tgs, b_add, b_sub, b_mul, b_fdiv, b_mod, b_shl, b_shr, b_pow, b_tup, b_lst, o_lt, o_le, o_gt, o_ge, o_eqi, o_nei, o_neb, o_isb, u_len1, u_len2, u_len3, u_abs, u_int, u_lst1, u_lst2, u_tup, u_max, s_int, s_bl, s_tup, s_lst, s_non, s_str, a_add, a_sub, i_tup, i_lst, r_bl, r_int, fin, chk_own, chk_some, isN, bnd, isNone, ixW_0, ixW_1, ixW_2, F_0, F_1, ixW_w, wg_1, wg_0, wp_0, List.map, List.length, List.replicate, List.cons_append, List.nil_append, List.append_nil, Nat.reduceSub, Nat.reduceAdd, Nat.sub_self, Nat.sub_zero, if_true, Bool.false_eq_true, if_false, reduceIte, ite_true, ite_false, Bool.and_self, Bool.and_true, Bool.true_and, Bool.not_true, Bool.not_false, Nat.reduceLT, Nat.reduceLeDiff, decide_true, decide_false, Int.reduceLT, Int.reduceLE, Int.reduceAdd, Int.reduceSub, Int.reduceNeg, Bool.or_true, Bool.or_false, Bool.true_or, Bool.false_or, Bool.and_false, Bool.false_and, o1, o2, List.length_map, decide_eq_false g, ix, decide_eq_true hm]
theorem c38 (ds : List Int) {xs : List Int} {k : Int} (hx : 0 < xs.length) (hk : 0 ≤ k) : ∃ x ∈ xs, callO P (n + 2) 38 [.wd, .lst (xs.map .int)] (W ds k) = some (.int x, W ds (k + 1)) := by
  obtain ⟨r, r1, r2, e⟩ := c37 n ds (m := xs.length) (by omega) hk
  have hr : r.toNat < xs.length := by omega
  have ix := ix_li (W ds (k + 1)) (ms := xs) (k := r.toNat) (i := r) (by omega) hr
  refine ⟨xs.getD r.toNat 0, ?_, ?_⟩
  · rw [List.getD_eq_getElem?_getD, List.getElem?_eq_getElem hr]
    exact List.getElem_mem hr
  · rw [call_at (d := d38) rfl rfl]
    simp only [d38, b38, ev.eq_1, ev.eq_2, ev.eq_3, ev.eq_4, ev.eq_5, ev.eq_6, ev.eq_7, ev.eq_8, ev.eq_9, ev.eq_10, ev.eq_11, ev.eq_12, ev.eq_13, ev.eq_14, ev.eq_15, ev.eq_16, ev.eq_17, ev.eq_18, ev.eq_19, ev.eq_20, ev.eq_21, ev.eq_22, ev.eq_23, ev.eq_24, ev.eq_25, ev.eq_26, ev.eq_27, ev.eq_28, ev.eq_29, evs.eq_1, evs.eq_2, evT, exec.eq_1, exec.eq_2, exec.eq_3, exec.eq_4, exec.eq_5, exec.eq_6, exec.eq_7, exec.eq_8, exec.eq_9, exec.eq_10, exec.eq_11, exec.eq_12, exec.eq_13, exec.eq_14, exec.eq_15, exec.eq_16, exec.eq_19, exec.eq_20, exec.eq_21, exec.eq_22, exec.eq_23, execs.eq_1, execs.eq_2, x_whl, x_for, x_comp, x_compIf, bor, vi, mkEnv, eg, es, frzA, frzS, bn, bt, bind_F, setAll, setPar, wipeE, tgs, b_add, b_sub, b_mul, b_fdiv, b_mod, b_shl, b_shr, b_pow, b_tup, b_lst, o_lt, o_le, o_gt, o_ge, o_eqi, o_nei, o_neb, o_isb, u_len1, u_len2, u_len3, u_abs, u_int, u_lst1, u_lst2, u_tup, u_max, s_int, s_bl, s_tup, s_lst, s_non, s_str, a_add, a_sub, i_tup, i_lst, r_bl, r_int, fin, chk_own, chk_some, isN, bnd, isNone, ixW_0, ixW_1, ixW_2, F_0, F_1, ixW_w, wg_1, wg_0, wp_0, List.map, List.length, List.replicate, List.cons_append, List.nil_append, List.append_nil, Nat.reduceSub, Nat.reduceAdd, Nat.sub_self, Nat.sub_zero, if_true, Bool.false_eq_true, if_false, reduceIte, ite_true, ite_false, Bool.and_self, Bool.and_true, Bool.true_and, Bool.not_true, Bool.not_false, Nat.reduceLT, Nat.reduceLeDiff, decide_true, decide_false, Int.reduceLT, Int.reduceLE, Int.reduceAdd, Int.reduceSub, Int.reduceNeg, Bool.or_true, Bool.or_false, Bool.true_or, Bool.false_or, Bool.and_false, Bool.false_and, List.length_map, e, ix]
/-! a plain form -/
structure OkA (a : KV) : Prop where
  nd : (keys a).Nodup
  z : ∀ x ∈ a, Z 4 x.2
  m : ∀ x ∈ a, 0 ≤ x.1 ∧ x.1 < 4
theorem Z_d {u l : Int} (h1 : u.natAbs < 16) (h2 : 0 < l) (h3 : l < 16) : Z 4 (Rat.divInt u l) := Z_div h2 h1 (by show l.natAbs < 16; omega)
theorem lt3 {l : Int} (h2 : 0 < l) (h3 : l < 16) : l.natAbs < 2 ^ 3000 := Nat.lt_of_lt_of_le (show l.natAbs < 2 ^ 4 by show l.natAbs < 16; omega) (Nat.pow_le_pow_right (by decide) (by decide))
theorem loop57 (ds : List Int) : ∀ (xs : List Nat) (a : KV) (k : Int) (t : Slot), 0 ≤ k → OkA a → a.length + xs.length ≤ 100 →
    ∃ (a' : KV) (k' : Int) (t' : Slot), 0 ≤ k' ∧ forX (callO P (n + 2)) (.nm 2) l57_0 (xs.map fun k : Nat => .int (0 + (k : Int))) [.va .wd, .ow (dD a), t] (W ds k) = some (.nx, [.va .wd, .ow (dD a'), t'], W ds k') ∧ OkA a' ∧ a'.length ≤ a.length + xs.length
  | [], a, k, t, hk, ha, _ => ⟨a, k, t, hk, rfl, ha, Nat.le_refl _⟩
  | x :: xs, a, k, t, hk, ha, hl => by
    rw [List.length_cons] at hl
    obtain ⟨r1, g1, g2, e1⟩ := c37 (n + 1) ds (m := 9) (k := k) (by decide) hk
    obtain ⟨l, hm, e2⟩ := c38 n ds (xs := [1, 2, 3]) (k := k + 1) (by decide) (by omega)
    obtain ⟨r3, g3, g4, e3⟩ := c37 (n + 1) ds (m := 4) (k := k + 1 + 1) (by decide) (by omega)
    have hl0 : 0 < l ∧ l < 16 := by simp at hm; omega
    have e2' : callO P (n + 2) 38 [.wd, .lst [.int 1, .int 2, .int 3]] (W ds (k + 1)) = some (.int l, W ds (k + 1 + 1)) := e2
    have e4 := c40 (n + 1) (r1 - 4) l (W ds (k + 1 + 1)) hl0.1 (lt3 hl0.1 hl0.2)
    have zq := Z_d (u := r1 - 4) (l := l) (by omega) hl0.1 hl0.2
    have hp := len_put a r3 (Rat.divInt (r1 - 4) l)
    obtain ⟨a', k', t', q1, q2, q3, q4⟩ := loop57 ds xs (put a r3 (Rat.divInt (r1 - 4) l)) (k + 1 + 1 + 1) (.va (.int (0 + (x : Int)))) (by omega) ⟨nd_put ha.nd, Z_put ha.z zq (Nat.le_refl _), fun y hy => by
      rcases mem_put hy with rfl | hy
      · exact ⟨g3, g4⟩
      · exact ha.m y hy⟩ (by omega)
    refine ⟨a', k', t', q1, ?_, q3, by rw [List.length_cons]; omega⟩
    have ol : okLen (kD a).length = true := ol_le (by rw [len_k]; omega)
    rw [List.map_cons, for_cons]
    simp only [l57_0, ev.eq_1, ev.eq_2, ev.eq_3, ev.eq_4, ev.eq_5, ev.eq_6, ev.eq_7, ev.eq_8, ev.eq_9, ev.eq_10, ev.eq_11, ev.eq_12, ev.eq_13, ev.eq_14, ev.eq_15, ev.eq_16, ev.eq_17, ev.eq_18, ev.eq_19, ev.eq_20, ev.eq_21, ev.eq_22, ev.eq_23, ev.eq_24, ev.eq_25, ev.eq_26, ev.eq_27, ev.eq_28, ev.eq_29, evs.eq_1, evs.eq_2, evT, exec.eq_1, exec.eq_2, exec.eq_3, exec.eq_4, exec.eq_5, exec.eq_6, exec.eq_7, exec.eq_8, exec.eq_9, exec.eq_10, exec.eq_11, exec.eq_12, exec.eq_13, exec.eq_14, exec.eq_15, exec.eq_16, exec.eq_19, exec.eq_20, exec.eq_21, exec.eq_22, exec.eq_23, execs.eq_1, execs.eq_2, x_whl, x_for, x_comp, x_compIf, bor, vi, mkEnv, eg, es, frzA, frzS, bn, bt, bind_F, setAll, setPar, wipeE, tgs, b_add, b_sub, b_mul, b_fdiv, b_mod, b_shl, b_shr, b_pow, b_tup, b_lst, o_lt, o_le, o_gt, o_ge, o_eqi, o_nei, o_neb, o_isb, u_len1, u_len2, u_len3, u_abs, u_int, u_lst1, u_lst2, u_tup, u_max, s_int, s_bl, s_tup, s_lst, s_non, s_str, a_add, a_sub, i_tup, i_lst, r_bl, r_int, fin, chk_own, chk_some, isN, bnd, isNone, ixW_0, ixW_1, ixW_2, F_0, F_1, ixW_w, wg_1, wg_0, wp_0, List.map, List.length, List.replicate, List.cons_append, List.nil_append, List.append_nil, Nat.reduceSub, Nat.reduceAdd, Nat.sub_self, Nat.sub_zero, if_true, Bool.false_eq_true, if_false, reduceIte, ite_true, ite_false, Bool.and_self, Bool.and_true, Bool.true_and, Bool.not_true, Bool.not_false, Nat.reduceLT, Nat.reduceLeDiff, decide_true, decide_false, Int.reduceLT, Int.reduceLE, Int.reduceAdd, Int.reduceSub, Int.reduceNeg, Bool.or_true, Bool.or_false, Bool.true_or, Bool.false_or, Bool.and_false, Bool.false_and, e1, e2', e4, e3, isK_i, ol, (put_k a r3 (Rat.divInt (r1 - 4) l)).1, (put_k a r3 (Rat.divInt (r1 - 4) l)).2]
    exact q2
/-- a plain form of the law -/
structure OkP (f : Fm) : Prop where
  ok : OkF 4 f
  m : ∀ x ∈ f.k, 0 ≤ x.1 ∧ x.1 < 4
  nz : ∀ x ∈ f.k, x.2 ≠ 0
  r : 0 ≤ f.r.num
theorem c57 (ds : List Int) {k : Int} (hk : 0 ≤ k) : ∃ (f : Fm) (k' : Int), 0 ≤ k' ∧ callO P (n + 3) 57 [.wd] (W ds k) = some (fD f, W ds k') ∧ OkP f := by
  obtain ⟨c, g1, g2, e1⟩ := c37 (n + 1) ds (m := 4) (k := k) (by decide) hk
  obtain ⟨a, k1, t, q1, e2, ha, hl⟩ := loop57 n ds (List.range c.toNat) [] (k + 1) .un (by omega) ⟨List.nodup_nil, by simp, by simp⟩ (by simp; omega)
  obtain ⟨r3, g3, g4, e3⟩ := c37 (n + 1) ds (m := 13) (k := k1) (by decide) q1
  obtain ⟨l4, hm4, e4⟩ := c38 n ds (xs := [1, 2, 5]) (k := k1 + 1) (by decide) (by omega)
  obtain ⟨r5, g5, g6, e5⟩ := c37 (n + 1) ds (m := 4) (k := k1 + 1 + 1) (by decide) (by omega)
  obtain ⟨l6, hm6, e6⟩ := c38 n ds (xs := [1, 3, 4]) (k := k1 + 1 + 1 + 1) (by decide) (by omega)
  have h4 : 0 < l4 ∧ l4 < 16 := by simp at hm4; omega
  have h6 : 0 < l6 ∧ l6 < 16 := by simp at hm6; omega
  have e4' : callO P (n + 2) 38 [.wd, .lst [.int 1, .int 2, .int 5]] (W ds (k1 + 1)) = some (.int l4, W ds (k1 + 1 + 1)) := e4
  have e6' : callO P (n + 2) 38 [.wd, .lst [.int 1, .int 3, .int 4]] (W ds (k1 + 1 + 1 + 1)) = some (.int l6, W ds (k1 + 1 + 1 + 1 + 1)) := e6
  have e7 := c40 (n + 1) (r3 - 6) l4 (W ds (k1 + 1 + 1)) h4.1 (lt3 h4.1 h4.2)
  have e8 := c40 (n + 1) r5 l6 (W ds (k1 + 1 + 1 + 1 + 1)) h6.1 (lt3 h6.1 h6.2)
  have hl3 : a.length ≤ 4 := by simp at hl; omega
  have e9 := c48 (n + 1) (W ds (k1 + 1 + 1 + 1 + 1)) (x := F (Rat.divInt (r3 - 6) l4)) (z := F (Rat.divInt r5 l6)) (a := a) (by omega)
  have e2' : forX (callO P (n + 2)) (.nm 2) l57_0 ((List.range c.toNat).map fun k : Nat => .int (0 + (k : Int))) [.va .wd, .ow (.dic [] []), .un] (W ds (k + 1)) = _ := e2
  have o1 : (-100000 : Int) ≤ c := by omega
  have o2 : c ≤ 100000 := by omega
  refine ⟨⟨Rat.divInt (r3 - 6) l4, strK a, Rat.divInt r5 l6⟩, k1 + 1 + 1 + 1 + 1, by omega, ?_, ⟨Z_d (by omega) h4.1 h4.2, fun x hx => ?_, Z_d (by omega) h6.1 h6.2, Nat.le_trans (len_strK a) hl3, up_strK ha.nd⟩, fun x hx => ?_, fun x hx => (mem_strK hx).2.2, ?_⟩
  · rw [call_at (d := d57) rfl rfl]
    simp only [d57, b57, ev.eq_1, ev.eq_2, ev.eq_3, ev.eq_4, ev.eq_5, ev.eq_6, ev.eq_7, ev.eq_8, ev.eq_9, ev.eq_10, ev.eq_11, ev.eq_12, ev.eq_13, ev.eq_14, ev.eq_15, ev.eq_16, ev.eq_17, ev.eq_18, ev.eq_19, ev.eq_20, ev.eq_21, ev.eq_22, ev.eq_23, ev.eq_24, ev.eq_25, ev.eq_26, ev.eq_27, ev.eq_28, ev.eq_29, evs.eq_1, evs.eq_2, evT, exec.eq_1, exec.eq_2, exec.eq_3, exec.eq_4, exec.eq_5, exec.eq_6, exec.eq_7, exec.eq_8, exec.eq_9, exec.eq_10, exec.eq_11, exec.eq_12, exec.eq_13, exec.eq_14, exec.eq_15, exec.eq_16, exec.eq_19, exec.eq_20, exec.eq_21, exec.eq_22, exec.eq_23, execs.eq_1, execs.eq_2, x_whl, x_for, x_comp, x_compIf, bor, vi, mkEnv, eg, es, frzA, frzS, bn, bt, bind_F, setAll, setPar, wipeE, tgs, b_add, b_sub, b_mul, b_fdiv, b_mod, b_shl, b_shr, b_pow, b_tup, b_lst, o_lt, o_le, o_gt, o_ge, o_eqi, o_nei, o_neb, o_isb, u_len1, u_len2, u_len3, u_abs, u_int, u_lst1, u_lst2, u_tup, u_max, s_int, s_bl, s_tup, s_lst, s_non, s_str, a_add, a_sub, i_tup, i_lst, r_bl, r_int, fin, chk_own, chk_some, isN, bnd, isNone, ixW_0, ixW_1, ixW_2, F_0, F_1, ixW_w, wg_1, wg_0, wp_0, List.map, List.length, List.replicate, List.cons_append, List.nil_append, List.append_nil, Nat.reduceSub, Nat.reduceAdd, Nat.sub_self, Nat.sub_zero, if_true, Bool.false_eq_true, if_false, reduceIte, ite_true, ite_false, Bool.and_self, Bool.and_true, Bool.true_and, Bool.not_true, Bool.not_false, Nat.reduceLT, Nat.reduceLeDiff, decide_true, decide_false, Int.reduceLT, Int.reduceLE, Int.reduceAdd, Int.reduceSub, Int.reduceNeg, Bool.or_true, Bool.or_false, Bool.true_or, Bool.false_or, Bool.and_false, Bool.false_and, e1, decide_eq_true o1, decide_eq_true o2, e2', e3, e4', e5, e6', e7, e8, e9]
  · rw [(mem_strK hx).2.1]
    exact val_of (Z 4) (Z_0 (by decide)) ha.z x.1
  · obtain ⟨y, hy, e⟩ := List.mem_map.mp (mem_strK hx).1
    rw [← e]
    exact ha.m y hy
  · show 0 ≤ (Rat.divInt r5 l6).num
    rw [Rat.num_divInt, Int.sign_eq_one_of_pos h6.1, Int.one_mul]
    exact Int.ediv_nonneg g5 (by omega)
end Pv.K36


set_option Elab.async false
set_option linter.all false
set_option maxRecDepth 100000
set_option exponentiation.threshold 20
/-! M15: the forms are right. -/
namespace Pv.K36
open Pv
variable (n : Nat) (ws : WS)
theorem good_e (p q : Rat) : Good (.tup [F p, .tup [], F q]) := good_fm (kv := []) (by simp)
theorem loo_self (f : Fm) : loo f f = f.r := by
  have g : ∀ m, gap f.k f.k m = 0 := fun m => by unfold gap; rw [Rat.sub_self]; rfl
  have s : ∀ (xs : List Int), sumF 0 (xs.map (gap f.k f.k)) = 0 := fun xs => by
    induction xs with
    | nil => rfl
    | cons x xs ih => rw [List.map_cons, sum_cons, g, Rat.add_zero]; exact ih
  unfold loo
  rw [Rat.sub_self, show ab 0 = 0 from rfl, s, Rat.zero_add]
theorem c58 (ds : List Int) {k : Int} (hk : 0 ≤ k) : ∃ k' : Int, 0 ≤ k' ∧ callO P (n + 8) 58 [.wd] (W ds k) = some (.bl true, W ds k') := by
  obtain ⟨f, k1, q1, e1, hf⟩ := c57 (n + 4) ds hk
  obtain ⟨g, k2, q2, e2, hg⟩ := c57 (n + 4) ds q1
  obtain ⟨r3, g3, g3', e3⟩ := c37 (n + 6) ds (m := 9) (k := k2) (by decide) q2
  obtain ⟨r4, g4, g4', e4⟩ := c37 (n + 6) ds (m := 3) (k := k2 + 1) (by decide) (by omega)
  have e5 := c40 (n + 6) (r3 - 4) (1 + r4) (W ds (k2 + 1 + 1)) (by omega) (lt3 (by omega) (by omega))
  have zby := Z_d (u := r3 - 4) (l := 1 + r4) (by omega) (by omega) (by omega)
  obtain ⟨mk, g6, g6', e6⟩ := c37 (n + 6) ds (m := 5) (k := k2 + 1 + 1) (by decide) (by omega)
  obtain ⟨r7, g7, g7', e7⟩ := c37 (n + 6) ds (m := 5) (k := k2 + 1 + 1 + 1) (by decide) (by omega)
  have e8 := c40 (n + 6) r7 3 (W ds (k2 + 1 + 1 + 1 + 1)) (by decide) (lt3 (by decide) (by decide))
  have zmo := Z_d (u := r7) (l := 3) (by omega) (by decide) (by decide)
  obtain ⟨r9, g9, g9', e9⟩ := c37 (n + 6) ds (m := 9) (k := k2 + 1 + 1 + 1 + 1) (by decide) (by omega)
  generalize Rat.divInt (r3 - 4) (1 + r4) = by_ at e5 zby
  generalize Rat.divInt r7 3 = mo at e8 zmo
  refine ⟨k2 + 1 + 1 + 1 + 1 + 1, by omega, ?_⟩
  generalize hw : W ds (k2 + 1 + 1 + 1 + 1 + 1) = w at e9 ⊢
  have F4 := hf.ok
  have G4 := hg.ok
  have d1 : (1 : Int) ≤ 1 + r9 := by omega
  have d2 : 1 + r9 ≤ 10 := by omega
  have L4 := F4.l
  have L4' := G4.l
  -- the parts
  have a1 := c26 (n + 3) w F4 G4 (by decide) (by decide) (by decide)
  have a2 := c52 (n + 4) w F4 G4 (by decide) (by decide) (by decide)
  have a3 := c27 (n + 3) w F4 zby (by decide) (by decide)
  have a4 := c53 (n + 4) w F4 zby (by decide) (by decide)
  have a5 := c28 (n + 2) w F4 (by decide)
  have a6 := c53 (n + 4) w F4 Z_mone (by decide) (by decide)
  have a7 := c31 (n + 1) w F4 G4 (by decide) (by decide)
  have a8 := c55 (n + 1) w F4 G4 (by decide) (by decide)
  have a9 := c29 (n + 3) w (x := F f.n) (y := .tup (f.k.map rD)) (F4.r.mono (by decide)) (zmo.mono (by decide))
  have a10 := c54 (n + 4) w (x := F f.n) (y := .tup (f.k.map rD)) (F4.r.mono (by decide)) (zmo.mono (by decide))
  have a11 := c30 (n + 3) w (m := mk) F4 zby (by decide) (by decide)
  have a12 := c48_1 (n + 6) w (x := F 0) (z := F 0) (m := mk) (q := by_)
  have a13 := c52_1 (n + 4) w (m := mk) F4 zby (by decide) (by decide)
  have a14 := c20 (n + 6) w (x := F by_)
  have a15 := c23 (n + 2) w F4 (by decide)
  have a16 := c49 (n + 4) w F4 (by decide)
  have a17 := c25 (n + 1) w F4 (by decide)
  have a18 := c50 (n + 3) w F4 (by decide)
  have a19 := c24 (n + 1) w F4 (by decide)
  have a20 := c51 (n + 3) w F4 (by decide)
  have a21 := c51 (n + 3) w G4 (by decide)
  have zp : Z 40 (g.n - sw g) := (Z_sub G4.n (Z_sw G4)).mono (by decide)
  have zq : Z 40 (g.n + sw g) := (Z_add G4.n (Z_sw G4)).mono (by decide)
  have a22 := c56 (n + 4) w zp zq (by decide)
  have a23 := c22 (n + 2) w zp zq (by decide)
  have a24 := c21 (n + 2) w (m := mk) zp zq (by decide)
  have a25 := c48_1 (n + 6) w (x := F ((g.n - sw g + (g.n + sw g)) * half)) (z := F 0) (m := mk) (q := g.n + sw g - (g.n - sw g + (g.n + sw g)) * half)
  have a26 := c59 (n + 3) w F4 G4 (by decide) (by decide)
  have a27 := c35 (n + 1) w F4 (by decide) d1 d2
  have a28 := c60 (n + 3) w F4 (by decide) d1 d2
  have a29 := c33 (n + 2) w F4 G4 (by decide) (by decide)
  have a30 := c33 (n + 2) w F4 F4 (by decide) (by decide)
  rw [loo_self, decide_eq_true Rat.le_refl] at a30
  -- the comparisons
  have b1 := c39 (n + 6) w (good_fm (p := (joinF f g).n) (q := (joinF f g).r) (kv := (joinF f g).k) (by have := len_strK (joinK f.k g.k); have := jl F4 G4; show (strK _).length ≤ 100; omega))
  have b2 := c39 (n + 6) w (good_fm (p := (scF f by_).n) (q := (scF f by_).r) (kv := (scF f by_).k) (by have := (Ok_sc F4 zby).l; omega))
  have b3 := c39 (n + 6) w (good_fm (p := (scF f mone).n) (q := (scF f mone).r) (kv := (scF f mone).k) (by have := (Ok_sc F4 Z_mone).l; omega))
  have b4 := c39 (n + 6) w (good_fm (p := f.n * g.n) (q := (f.r * ab g.n + g.r * ab f.n) + sw f * sw g) (kv := strK (joinK (scF f g.n).k (scF g f.n).k)) (by have := len_strK (joinK (scF f g.n).k (scF g f.n).k); have := jl (Ok_sc F4 G4.n) (Ok_sc G4 F4.n); omega))
  have b5 := c39 (n + 6) w (good_fm (p := f.n) (q := f.r + mo) (kv := f.k) (by omega))
  have b6 := c39 (n + 6) w (good_fm (p := f.n) (q := f.r) (kv := strK (put f.k mk (val f.k mk + by_))) (by have := len_strK (put f.k mk (val f.k mk + by_)); have := len_put f.k mk (val f.k mk + by_); omega))
  have b7 := c39 (n + 6) w (good_e by_ 0)
  have b8 := c39 (n + 6) w (good_F (sw f))
  have b9 := c39 (n + 6) w (good_F (ab f.n + sw f))
  have b10 := c39 (n + 6) w (good_FF (f.n - sw f) (f.n + sw f))
  have b11 := c39 (n + 6) w (good_e ((g.n - sw g + (g.n + sw g)) * half) (g.n + sw g - (g.n - sw g + (g.n + sw g)) * half))
  have b12 := c39 (n + 6) w (good_fm (p := (g.n - sw g + (g.n + sw g)) * half) (q := 0) (kv := strK [(mk, g.n + sw g - (g.n - sw g + (g.n + sw g)) * half)]) (by have := len_strK [(mk, g.n + sw g - (g.n - sw g + (g.n + sw g)) * half)]; simp at this; omega))
  have b13 := c39 (n + 6) w (good_fm (p := (crF f (1 + r9)).n) (q := (crF f (1 + r9)).r) (kv := (crF f (1 + r9)).k) (by have := len_strK (crK (1 + r9) [] f.k); have := len_cr (1 + r9) f.k []; simp at this; show (strK _).length ≤ 100; omega))
  have b14 := c39 (n + 6) w (good_bl (decide (loo f g ≤ f.r)))
  rw [call_at (d := d58) rfl rfl]
  simp only [d58, b58, ev.eq_1, ev.eq_2, ev.eq_3, ev.eq_4, ev.eq_5, ev.eq_6, ev.eq_7, ev.eq_8, ev.eq_9, ev.eq_10, ev.eq_11, ev.eq_12, ev.eq_13, ev.eq_14, ev.eq_15, ev.eq_16, ev.eq_17, ev.eq_18, ev.eq_19, ev.eq_20, ev.eq_21, ev.eq_22, ev.eq_23, ev.eq_24, ev.eq_25, ev.eq_26, ev.eq_27, ev.eq_28, ev.eq_29, evs.eq_1, evs.eq_2, evT, exec.eq_1, exec.eq_2, exec.eq_3, exec.eq_4, exec.eq_5, exec.eq_6, exec.eq_7, exec.eq_8, exec.eq_9, exec.eq_10, exec.eq_11, exec.eq_12, exec.eq_13, exec.eq_14, exec.eq_15, exec.eq_16, exec.eq_19, exec.eq_20, exec.eq_21, exec.eq_22, exec.eq_23, execs.eq_1, execs.eq_2, x_whl, x_for, x_comp, x_compIf, bor, vi, mkEnv, eg, es, frzA, frzS, bn, bt, bind_F, setAll, setPar, wipeE, tgs, b_add, b_sub, b_mul, b_fdiv, b_mod, b_shl, b_shr, b_pow, b_tup, b_lst, o_lt, o_le, o_gt, o_ge, o_eqi, o_nei, o_neb, o_isb, u_len1, u_len2, u_len3, u_abs, u_int, u_lst1, u_lst2, u_tup, u_max, s_int, s_bl, s_tup, s_lst, s_non, s_str, a_add, a_sub, i_tup, i_lst, r_bl, r_int, fin, chk_own, chk_some, isN, bnd, isNone, ixW_0, ixW_1, ixW_2, F_0, F_1, ixW_w, wg_1, wg_0, wp_0, List.map, List.length, List.replicate, List.cons_append, List.nil_append, List.append_nil, Nat.reduceSub, Nat.reduceAdd, Nat.sub_self, Nat.sub_zero, if_true, Bool.false_eq_true, if_false, reduceIte, ite_true, ite_false, Bool.and_self, Bool.and_true, Bool.true_and, Bool.not_true, Bool.not_false, Nat.reduceLT, Nat.reduceLeDiff, decide_true, decide_false, Int.reduceLT, Int.reduceLE, Int.reduceAdd, Int.reduceSub, Int.reduceNeg, Bool.or_true, Bool.or_false, Bool.true_or, Bool.false_or, Bool.and_false, Bool.false_and, e1, e2, e3, e4, e5, e6, e7, e8, e9, a1, a2, b1, a3, a4, b2, a5, F_mone, a6, b3, a7, a8, b4, a9, a10, b5, a11, F_0', isK_i, a12, a13, b6, a14, b7, a15, a16, b8, a17, a18, b9, a19, a20, b10, a21, a22, a23, b11, a24, a25, b12, a26, a27, a28, b13, a29, b14, a30]
end Pv.K36


set_option Elab.async false
set_option linter.all false
set_option maxRecDepth 100000
set_option exponentiation.threshold 20
/-! M16: the law. -/
namespace Pv.K36
open Pv
variable (n : Nat) (ws : WS)
theorem marks61 {s0 s2 s3 s4 s5 s6 s8 : Slot} (ds : List Int) : ∀ (xs : List Nat) (k : Int), 0 ≤ k →
    ∃ (mk : KV) (k' : Int), 0 ≤ k' ∧ cmpX (callO P (n + 2)) (.nm 7) x61_0 [s0, .va .wd, s2, s3, s4, s5, s6, .un, s8] (xs.map fun k : Nat => .int (0 + (k : Int))) (W ds k) = some (mk.map rD, W ds k') ∧ keys mk = xs.map (fun k : Nat => 0 + (k : Int)) ∧ ∀ x ∈ mk, Z 4 x.2
  | [], k, hk => ⟨[], k, hk, rfl, rfl, by simp⟩
  | x :: xs, k, hk => by
    obtain ⟨r, g1, g2, e1⟩ := c37 (n + 1) ds (m := 9) (k := k) (by decide) hk
    have e2 := c40 (n + 1) (r - 4) 4 (W ds (k + 1)) (by decide) (lt3 (by decide) (by decide))
    have zq := Z_d (u := r - 4) (l := 4) (by omega) (by decide) (by decide)
    obtain ⟨mk, k', q1, q2, q3, q4⟩ := marks61 (s0 := s0) (s2 := s2) (s3 := s3) (s4 := s4) (s5 := s5) (s6 := s6) (s8 := s8) ds xs (k + 1) (by omega)
    refine ⟨(0 + (x : Int), Rat.divInt (r - 4) 4) :: mk, k', q1, ?_, ?_, ?_⟩
    · rw [List.map_cons, cmp_cons]
      simp only [x61_0, ev.eq_1, ev.eq_2, ev.eq_3, ev.eq_4, ev.eq_5, ev.eq_6, ev.eq_7, ev.eq_8, ev.eq_9, ev.eq_10, ev.eq_11, ev.eq_12, ev.eq_13, ev.eq_14, ev.eq_15, ev.eq_16, ev.eq_17, ev.eq_18, ev.eq_19, ev.eq_20, ev.eq_21, ev.eq_22, ev.eq_23, ev.eq_24, ev.eq_25, ev.eq_26, ev.eq_27, ev.eq_28, ev.eq_29, evs.eq_1, evs.eq_2, evT, exec.eq_1, exec.eq_2, exec.eq_3, exec.eq_4, exec.eq_5, exec.eq_6, exec.eq_7, exec.eq_8, exec.eq_9, exec.eq_10, exec.eq_11, exec.eq_12, exec.eq_13, exec.eq_14, exec.eq_15, exec.eq_16, exec.eq_19, exec.eq_20, exec.eq_21, exec.eq_22, exec.eq_23, execs.eq_1, execs.eq_2, x_whl, x_for, x_comp, x_compIf, bor, vi, mkEnv, eg, es, frzA, frzS, bn, bt, bind_F, setAll, setPar, wipeE, tgs, b_add, b_sub, b_mul, b_fdiv, b_mod, b_shl, b_shr, b_pow, b_tup, b_lst, o_lt, o_le, o_gt, o_ge, o_eqi, o_nei, o_neb, o_isb, u_len1, u_len2, u_len3, u_abs, u_int, u_lst1, u_lst2, u_tup, u_max, s_int, s_bl, s_tup, s_lst, s_non, s_str, a_add, a_sub, i_tup, i_lst, r_bl, r_int, fin, chk_own, chk_some, isN, bnd, isNone, ixW_0, ixW_1, ixW_2, F_0, F_1, ixW_w, wg_1, wg_0, wp_0, List.map, List.length, List.replicate, List.cons_append, List.nil_append, List.append_nil, Nat.reduceSub, Nat.reduceAdd, Nat.sub_self, Nat.sub_zero, if_true, Bool.false_eq_true, if_false, reduceIte, ite_true, ite_false, Bool.and_self, Bool.and_true, Bool.true_and, Bool.not_true, Bool.not_false, Nat.reduceLT, Nat.reduceLeDiff, decide_true, decide_false, Int.reduceLT, Int.reduceLE, Int.reduceAdd, Int.reduceSub, Int.reduceNeg, Bool.or_true, Bool.or_false, Bool.true_or, Bool.false_or, Bool.and_false, Bool.false_and, e1, e2]
      rw [show (Ex.tup (.cons (.var 7) (.cons (.call 40 (.cons (.bin .sub (.call 37 (.cons (.var 1) (.cons (.num 9) .nil))) (.num 4)) (.cons (.num 4) .nil))) .nil))) = x61_0 from rfl, q2]
      rfl
    · unfold keys at q3 ⊢
      rw [List.map_cons, q3, List.map_cons]
    · intro y hy
      rcases List.mem_cons.mp hy with rfl | hy
      · exact zq
      · exact q4 y hy
/-- things that are not straight -/
theorem not61 {s0 s1 s2 s3 s4 s5 s7 s8 : Slot} : ∀ (xs : List D) (s6 : Slot), (∀ x ∈ xs, callO P (n + 5) 18 [x] ws = some (.bl false, ws)) →
    ∃ t6, forX (callO P (n + 5)) (.nm 6) l61_2 xs [s0, s1, s2, s3, s4, s5, s6, s7, s8] ws = some (.nx, [s0, s1, s2, s3, s4, s5, t6, s7, s8], ws)
  | [], s6, _ => ⟨s6, rfl⟩
  | x :: xs, s6, h => by
    obtain ⟨t6, e⟩ := not61 xs (.va x) fun y hy => h y (List.mem_cons_of_mem _ hy)
    refine ⟨t6, ?_⟩
    have e1 := h x List.mem_cons_self
    have e2 := c39 (n + 4) ws (good_bl false)
    rw [for_cons]
    simp only [l61_2, ev.eq_1, ev.eq_2, ev.eq_3, ev.eq_4, ev.eq_5, ev.eq_6, ev.eq_7, ev.eq_8, ev.eq_9, ev.eq_10, ev.eq_11, ev.eq_12, ev.eq_13, ev.eq_14, ev.eq_15, ev.eq_16, ev.eq_17, ev.eq_18, ev.eq_19, ev.eq_20, ev.eq_21, ev.eq_22, ev.eq_23, ev.eq_24, ev.eq_25, ev.eq_26, ev.eq_27, ev.eq_28, ev.eq_29, evs.eq_1, evs.eq_2, evT, exec.eq_1, exec.eq_2, exec.eq_3, exec.eq_4, exec.eq_5, exec.eq_6, exec.eq_7, exec.eq_8, exec.eq_9, exec.eq_10, exec.eq_11, exec.eq_12, exec.eq_13, exec.eq_14, exec.eq_15, exec.eq_16, exec.eq_19, exec.eq_20, exec.eq_21, exec.eq_22, exec.eq_23, execs.eq_1, execs.eq_2, x_whl, x_for, x_comp, x_compIf, bor, vi, mkEnv, eg, es, frzA, frzS, bn, bt, bind_F, setAll, setPar, wipeE, tgs, b_add, b_sub, b_mul, b_fdiv, b_mod, b_shl, b_shr, b_pow, b_tup, b_lst, o_lt, o_le, o_gt, o_ge, o_eqi, o_nei, o_neb, o_isb, u_len1, u_len2, u_len3, u_abs, u_int, u_lst1, u_lst2, u_tup, u_max, s_int, s_bl, s_tup, s_lst, s_non, s_str, a_add, a_sub, i_tup, i_lst, r_bl, r_int, fin, chk_own, chk_some, isN, bnd, isNone, ixW_0, ixW_1, ixW_2, F_0, F_1, ixW_w, wg_1, wg_0, wp_0, List.map, List.length, List.replicate, List.cons_append, List.nil_append, List.append_nil, Nat.reduceSub, Nat.reduceAdd, Nat.sub_self, Nat.sub_zero, if_true, Bool.false_eq_true, if_false, reduceIte, ite_true, ite_false, Bool.and_self, Bool.and_true, Bool.true_and, Bool.not_true, Bool.not_false, Nat.reduceLT, Nat.reduceLeDiff, decide_true, decide_false, Int.reduceLT, Int.reduceLE, Int.reduceAdd, Int.reduceSub, Int.reduceNeg, Bool.or_true, Bool.or_false, Bool.true_or, Bool.false_or, Bool.and_false, Bool.false_and, e1, e2]
    exact e
theorem F_one : D.tup [.int 1, .int 1] = F 1 := rfl
def mth : Rat := Rat.divInt (-1) 3
theorem F_mth : D.tup [.int (-1), .int 3] = F mth := by rw [mth, ← mkF (by decide)]; rfl
theorem Z_mth : Z 2 mth := Z_div (by decide) (by decide) (by decide)
theorem Z_one : Z 1 1 := ⟨by decide, by decide⟩
theorem asc_up {ms : List Int} (h : ms.Pairwise (· < ·)) : ascB ms = true := by
  unfold ascB
  rw [List.all_eq_true]
  intro k hk
  have hk := List.mem_range.mp hk
  rw [decide_eq_true_eq, List.getD_eq_getElem?_getD, List.getD_eq_getElem?_getD, List.getElem?_eq_getElem (by omega), List.getElem?_eq_getElem (by omega)]
  exact List.pairwise_iff_getElem.mp h k (k + 1) (by omega) (by omega) (by omega)
theorem st_ok {f : Fm} (h : OkP f) : stB f.k f.r = true := by
  unfold stB
  rw [Bool.and_eq_true, Bool.and_eq_true, Bool.and_eq_true]
  refine ⟨⟨?_, asc_up h.ok.u, ?_⟩, decide_eq_true h.r⟩
  · rw [List.all_eq_true]
    exact fun x hx => decide_eq_true (h.m x hx).1
  · rw [Bool.not_eq_true', List.any_eq_false]
    exact fun x hx => by rw [decide_eq_true_eq]; exact h.nz x hx
/-- one turn -/
theorem turn61 {s0 s2 s3 s4 s5 s6 s7 s8 : Slot} (ds : List Int) {k : Int} (hk : 0 ≤ k) :
    ∃ (k' : Int) (t3 t4 t5 t6 : Slot), 0 ≤ k' ∧ execs (callO P (n + 9)) l61_3 [s0, .va .wd, s2, s3, s4, s5, s6, s7, s8] (W ds k) = some (.nx, [s0, .va .wd, s2, t3, t4, t5, t6, s7, s8], W ds k') := by
  obtain ⟨k1, q1, e1⟩ := c58 (n + 1) ds hk
  obtain ⟨f, k2, q2, e2, hf⟩ := c57 (n + 6) ds q1
  obtain ⟨mk, k3, q3, e3, hmk, hz⟩ := marks61 (n + 7) (s0 := s0) (s2 := s2) (s3 := .va (fD f)) (s4 := s4) (s5 := s5) (s6 := s6) (s8 := s8) ds (List.range 5) k2 q2
  have F4 := hf.ok
  have L4 := F4.l
  have hk5 : keys mk = [0, 1, 2, 3, 4] := by rw [hmk]; rfl
  have nd : (keys mk).Nodup := by rw [hk5]; decide
  have hmem : ∀ x ∈ f.k, x.1 ∈ keys mk := fun x hx => by
    have := hf.m x hx
    rw [hk5]
    simp
    omega
  generalize hw : W ds k3 = w at e3
  have r5 : (List.range (Int.toNat 5)).map (fun k : Nat => D.int (0 + (k : Int))) = (List.range 5).map (fun k : Nat => D.int (0 + (k : Int))) := rfl
  have a1 := cmp_map (Φ := callO P (n + 9)) (tg := .tp [7, 8]) (elt := x61_1) (env := [s0, .va .wd, s2, .va (fD f), .va (dD mk), s5, s6, .un, .un]) (ws := w) (xs := f.k) (rep := rD) (g := fun x => F (x.2 * val mk x.1)) fun x hx => by
    refine ⟨[s0, .va .wd, s2, .va (fD f), .va (dD mk), s5, s6, .va (.int x.1), .va (F x.2)], rfl, ?_⟩
    have ix := ix_d w (hmem x hx)
    simp only [x61_1, ev.eq_1, ev.eq_2, ev.eq_3, ev.eq_4, ev.eq_5, ev.eq_6, ev.eq_7, ev.eq_8, ev.eq_9, ev.eq_10, ev.eq_11, ev.eq_12, ev.eq_13, ev.eq_14, ev.eq_15, ev.eq_16, ev.eq_17, ev.eq_18, ev.eq_19, ev.eq_20, ev.eq_21, ev.eq_22, ev.eq_23, ev.eq_24, ev.eq_25, ev.eq_26, ev.eq_27, ev.eq_28, ev.eq_29, evs.eq_1, evs.eq_2, evT, exec.eq_1, exec.eq_2, exec.eq_3, exec.eq_4, exec.eq_5, exec.eq_6, exec.eq_7, exec.eq_8, exec.eq_9, exec.eq_10, exec.eq_11, exec.eq_12, exec.eq_13, exec.eq_14, exec.eq_15, exec.eq_16, exec.eq_19, exec.eq_20, exec.eq_21, exec.eq_22, exec.eq_23, execs.eq_1, execs.eq_2, x_whl, x_for, x_comp, x_compIf, bor, vi, mkEnv, eg, es, frzA, frzS, bn, bt, bind_F, setAll, setPar, wipeE, tgs, b_add, b_sub, b_mul, b_fdiv, b_mod, b_shl, b_shr, b_pow, b_tup, b_lst, o_lt, o_le, o_gt, o_ge, o_eqi, o_nei, o_neb, o_isb, u_len1, u_len2, u_len3, u_abs, u_int, u_lst1, u_lst2, u_tup, u_max, s_int, s_bl, s_tup, s_lst, s_non, s_str, a_add, a_sub, i_tup, i_lst, r_bl, r_int, fin, chk_own, chk_some, isN, bnd, isNone, ixW_0, ixW_1, ixW_2, F_0, F_1, ixW_w, wg_1, wg_0, wp_0, List.map, List.length, List.replicate, List.cons_append, List.nil_append, List.append_nil, Nat.reduceSub, Nat.reduceAdd, Nat.sub_self, Nat.sub_zero, if_true, Bool.false_eq_true, if_false, reduceIte, ite_true, ite_false, Bool.and_self, Bool.and_true, Bool.true_and, Bool.not_true, Bool.not_false, Nat.reduceLT, Nat.reduceLeDiff, decide_true, decide_false, Int.reduceLT, Int.reduceLE, Int.reduceAdd, Int.reduceSub, Int.reduceNeg, Bool.or_true, Bool.or_false, Bool.true_or, Bool.false_or, Bool.and_false, Bool.false_and, ix, c43 (n + 7) w ((F4.k x hx).mono (by decide)) ((Z_val (by decide) hz x.1).mono (by decide))]
  have a2 : f.k.map (fun x => F (x.2 * val mk x.1)) = (atL mk f.k).map F := by unfold atL; rw [List.map_map]; rfl
  rw [a2] at a1
  have a3 : [F f.n] ++ (atL mk f.k).map F = (f.n :: atL mk f.k).map F := rfl
  have hza := Z_at (by decide) hz F4.k
  have hz2 : ∀ x ∈ f.n :: atL mk f.k, Z 8 x := fun x hx => by
    rcases List.mem_cons.mp hx with rfl | hx
    · exact F4.n.mono (by decide)
    · exact hza x hx
  have hl2 : (f.n :: atL mk f.k).length * (8 + 1) ≤ 999 := by
    simp only [List.length_cons, atL, List.length_map]
    omega
  have a4 := c41 (n + 7) w hz2 (by decide) hl2
  have a5 : sumF 0 (f.n :: atL mk f.k) = sumF f.n (atL mk f.k) := by rw [sum_cons, Rat.zero_add]
  rw [a5] at a4
  have a4 : callO P (n + 9) 41 [.lst (F f.n :: (atL mk f.k).map F)] w = some (F (sumF f.n (atL mk f.k)), w) := a4
  have zs : Z 100 (sumF f.n (atL mk f.k)) := (Z_sum F4.n hza).mono (by unfold atL; rw [List.length_map]; omega)
  generalize hS : sumF f.n (atL mk f.k) = S at a4 zs
  have a6 := c32 (n + 4) w F4 (by decide) (by decide) hz hmem
  rw [hS] at a6
  have a7 := c44 (n + 8) w f.r
  have a8 := c41_2 (n + 7) w (zs.mono (show 100 ≤ 400 by decide)) (Z_neg (F4.r.mono (show 4 ≤ 400 by decide)))
  rw [← Rat.sub_eq_add_neg] at a8
  have a9 := c41_2 (n + 7) w (zs.mono (show 100 ≤ 400 by decide)) (F4.r.mono (show 4 ≤ 400 by decide))
  have a10 := c39 (n + 8) w (good_FF (S - f.r) (S + f.r))
  have a11 := c18 (n + 4) w (F4.n.mono (show 4 ≤ 1000 by decide)) (F4.r.mono (show 4 ≤ 1000 by decide)) (fun x hx => (F4.k x hx).mono (show 4 ≤ 1000 by decide)) (by omega)
  rw [st_ok hf] at a11
  have a12 := c39 (n + 8) w (good_bl true)
  have o1 : okLen f.k.length = true := ol_le (by omega)
  have o2 : okLen (0 + 1 + (atL mk f.k).length) = true := ol_le (by unfold atL; rw [List.length_map]; omega)
  have o3 : okLen (2 + 1) = true := ol_le (by decide)
  have zn := F4.n.mono (show 4 ≤ 1000 by decide)
  have zr := F4.r.mono (show 4 ≤ 1000 by decide)
  have kz : ∀ x ∈ f.k, Z 1000 x.2 := fun x hx => (F4.k x hx).mono (show 4 ≤ 1000 by decide)
  obtain ⟨t6, a13⟩ := not61 (n + 4) w (s0 := s0) (s1 := .va .wd) (s2 := s2) (s3 := .va (fD f)) (s4 := .va (dD mk)) (s5 := .va (F S)) (s7 := s7) (s8 := s8)
    [.tup [F f.n, .tup (f.k.map rD)], .lst [F f.n, .tup (f.k.map rD), F f.r], .tup [F f.n, .tup [.tup [.int 1, F half], .tup [.int 0, F 1]], F f.r], .tup [F f.n, .tup [.tup [.int 2, F 0]], F f.r], .tup [F f.n, .tup [.tup [.int (-1), F 1]], F f.r], .tup [F f.n, .tup (f.k.map rD), F mth], .non] s6 fun x hx => by
      simp only [List.mem_cons, List.not_mem_nil, or_false] at hx
      rcases hx with rfl | rfl | rfl | rfl | rfl | rfl | rfl
      · exact c18_2 (n + 4) w
      · exact c18_l (n + 4) w
      · have := c18 (n + 4) w (kv := [(1, half), (0, 1)]) zn zr (by simp; exact ⟨Z_half.mono (by decide), Z_one.mono (by decide)⟩) (by simp)
        have e : stB [(1, half), (0, 1)] f.r = false := by
          unfold stB
          rw [show ascB (keys [((1 : Int), half), (0, 1)]) = false from rfl]
          simp
        rw [e] at this
        exact this
      · have := c18 (n + 4) w (kv := [(2, 0)]) zn zr (by simp; exact Z_0 (by decide)) (by simp)
        have e : stB [(2, 0)] f.r = false := by
          unfold stB
          simp
        rw [e] at this
        exact this
      · have := c18 (n + 4) w (kv := [(-1, 1)]) zn zr (by simp; exact Z_one.mono (by decide)) (by simp)
        have e : stB [(-1, 1)] f.r = false := by
          unfold stB
          simp
        rw [e] at this
        exact this
      · have := c18 (n + 4) w (kv := f.k) zn (Z_mth.mono (show 2 ≤ 1000 by decide)) kz (by omega)
        have e : stB f.k mth = false := by
          unfold stB
          have : mth.num = -1 := (F_inj F_mth.symm).1
          rw [this]
          simp
        rw [e] at this
        exact this
      · exact c18_n (n + 4) w
  refine ⟨k3, .va (fD f), .va (dD mk), .va (F S), t6, q3, ?_⟩
  rw [hw]
  have t5 : Int.toNat 5 = 5 := rfl
  have o5 : okLen 5 = true := ol_le (by decide)
  have b105 : decide ((5 : Int) ≤ 100000) = true := by decide
  have b106 : decide ((-100000 : Int) ≤ 5) = true := by decide
  simp only [l61_3, ev.eq_1, ev.eq_2, ev.eq_3, ev.eq_4, ev.eq_5, ev.eq_6, ev.eq_7, ev.eq_8, ev.eq_9, ev.eq_10, ev.eq_11, ev.eq_12, ev.eq_13, ev.eq_14, ev.eq_15, ev.eq_16, ev.eq_17, ev.eq_18, ev.eq_19, ev.eq_20, ev.eq_21, ev.eq_22, ev.eq_23, ev.eq_24, ev.eq_25, ev.eq_26, ev.eq_27, ev.eq_28, ev.eq_29, evs.eq_1, evs.eq_2, evT, exec.eq_1, exec.eq_2, exec.eq_3, exec.eq_4, exec.eq_5, exec.eq_6, exec.eq_7, exec.eq_8, exec.eq_9, exec.eq_10, exec.eq_11, exec.eq_12, exec.eq_13, exec.eq_14, exec.eq_15, exec.eq_16, exec.eq_19, exec.eq_20, exec.eq_21, exec.eq_22, exec.eq_23, execs.eq_1, execs.eq_2, x_whl, x_for, x_comp, x_compIf, bor, vi, mkEnv, eg, es, frzA, frzS, bn, bt, bind_F, setAll, setPar, wipeE, tgs, b_add, b_sub, b_mul, b_fdiv, b_mod, b_shl, b_shr, b_pow, b_tup, b_lst, o_lt, o_le, o_gt, o_ge, o_eqi, o_nei, o_neb, o_isb, u_len1, u_len2, u_len3, u_abs, u_int, u_lst1, u_lst2, u_tup, u_max, s_int, s_bl, s_tup, s_lst, s_non, s_str, a_add, a_sub, i_tup, i_lst, r_bl, r_int, fin, chk_own, chk_some, isN, bnd, isNone, ixW_0, ixW_1, ixW_2, F_0, F_1, ixW_w, wg_1, wg_0, wp_0, List.map, List.length, List.replicate, List.cons_append, List.nil_append, List.append_nil, Nat.reduceSub, Nat.reduceAdd, Nat.sub_self, Nat.sub_zero, if_true, Bool.false_eq_true, if_false, reduceIte, ite_true, ite_false, Bool.and_self, Bool.and_true, Bool.true_and, Bool.not_true, Bool.not_false, Nat.reduceLT, Nat.reduceLeDiff, decide_true, decide_false, Int.reduceLT, Int.reduceLE, Int.reduceAdd, Int.reduceSub, Int.reduceNeg, Bool.or_true, Bool.or_false, Bool.true_or, Bool.false_or, Bool.and_false, Bool.false_and, e1, e2, t5, List.length_map, List.length_range, o5, b105, b106, e3, (c_dict nd).2, o1, a1, o2, a4, a6, a7, a8, a9, a10, a11, a12, sl_02, F_0', F_half, F_one, F_mth, o3, a13]
theorem loop61 {s0 s7 s8 : Slot} (ds : List Int) : ∀ (xs : List Nat) (k : Int) (s2 s3 s4 s5 s6 : Slot), 0 ≤ k →
    ∃ (k' : Int) (t2 t3 t4 t5 t6 : Slot), forX (callO P (n + 9)) (.nm 2) l61_3 (xs.map fun k : Nat => .int (0 + (k : Int))) [s0, .va .wd, s2, s3, s4, s5, s6, s7, s8] (W ds k) = some (.nx, [s0, .va .wd, t2, t3, t4, t5, t6, s7, s8], W ds k')
  | [], k, s2, s3, s4, s5, s6, _ => ⟨k, s2, s3, s4, s5, s6, rfl⟩
  | x :: xs, k, s2, s3, s4, s5, s6, hk => by
    obtain ⟨k1, t3, t4, t5, t6, q1, e1⟩ := turn61 n (s0 := s0) (s2 := .va (.int (0 + (x : Int)))) (s3 := s3) (s4 := s4) (s5 := s5) (s6 := s6) (s7 := s7) (s8 := s8) ds hk
    obtain ⟨k', u2, u3, u4, u5, u6, e2⟩ := loop61 (s0 := s0) (s7 := s7) (s8 := s8) ds xs k1 (.va (.int (0 + (x : Int)))) t3 t4 t5 t6 q1
    refine ⟨k', u2, u3, u4, u5, u6, ?_⟩
    rw [List.map_cons, for_cons]
    simp only [ev.eq_1, ev.eq_2, ev.eq_3, ev.eq_4, ev.eq_5, ev.eq_6, ev.eq_7, ev.eq_8, ev.eq_9, ev.eq_10, ev.eq_11, ev.eq_12, ev.eq_13, ev.eq_14, ev.eq_15, ev.eq_16, ev.eq_17, ev.eq_18, ev.eq_19, ev.eq_20, ev.eq_21, ev.eq_22, ev.eq_23, ev.eq_24, ev.eq_25, ev.eq_26, ev.eq_27, ev.eq_28, ev.eq_29, evs.eq_1, evs.eq_2, evT, exec.eq_1, exec.eq_2, exec.eq_3, exec.eq_4, exec.eq_5, exec.eq_6, exec.eq_7, exec.eq_8, exec.eq_9, exec.eq_10, exec.eq_11, exec.eq_12, exec.eq_13, exec.eq_14, exec.eq_15, exec.eq_16, exec.eq_19, exec.eq_20, exec.eq_21, exec.eq_22, exec.eq_23, execs.eq_1, execs.eq_2, x_whl, x_for, x_comp, x_compIf, bor, vi, mkEnv, eg, es, frzA, frzS, bn, bt, bind_F, setAll, setPar, wipeE, tgs, b_add, b_sub, b_mul, b_fdiv, b_mod, b_shl, b_shr, b_pow, b_tup, b_lst, o_lt, o_le, o_gt, o_ge, o_eqi, o_nei, o_neb, o_isb, u_len1, u_len2, u_len3, u_abs, u_int, u_lst1, u_lst2, u_tup, u_max, s_int, s_bl, s_tup, s_lst, s_non, s_str, a_add, a_sub, i_tup, i_lst, r_bl, r_int, fin, chk_own, chk_some, isN, bnd, isNone, ixW_0, ixW_1, ixW_2, F_0, F_1, ixW_w, wg_1, wg_0, wp_0, List.map, List.length, List.replicate, List.cons_append, List.nil_append, List.append_nil, Nat.reduceSub, Nat.reduceAdd, Nat.sub_self, Nat.sub_zero, if_true, Bool.false_eq_true, if_false, reduceIte, ite_true, ite_false, Bool.and_self, Bool.and_true, Bool.true_and, Bool.not_true, Bool.not_false, Nat.reduceLT, Nat.reduceLeDiff, decide_true, decide_false, Int.reduceLT, Int.reduceLE, Int.reduceAdd, Int.reduceSub, Int.reduceNeg, Bool.or_true, Bool.or_false, Bool.true_or, Bool.false_or, Bool.and_false, Bool.false_and, e1]
    exact e2
theorem law_true (ns : List Int) (h : ns.length ≤ 63) : lawO P 12 d61 ns = some (.bl true) := by
  obtain ⟨ds, e1⟩ := c36 11 none h
  obtain ⟨k', t2, t3, t4, t5, t6, e2⟩ := loop61 3 (s0 := .va (.scr ns)) (s7 := .un) (s8 := .un) ds (List.range 10) 0 .un .un .un .un .un (Int.le_refl 0)
  have r : (List.range (Int.toNat 10)).map (fun k : Nat => D.int (0 + (k : Int))) = (List.range 10).map (fun k : Nat => D.int (0 + (k : Int))) := rfl
  have t10 : Int.toNat 10 = 10 := rfl
  have e : fin (execs (callO P 12) b61 (mkEnv [.scr ns] 9) none) = some (.bl true, W ds k') := by
    have c10 : decide ((1 : Nat) = 0) = false := rfl
    have b10 : decide ((-100000 : Int) ≤ 10) = true := by decide
    have b11 : decide ((10 : Int) ≤ 100000) = true := by decide
    simp only [b61, ev.eq_1, ev.eq_2, ev.eq_3, ev.eq_4, ev.eq_5, ev.eq_6, ev.eq_7, ev.eq_8, ev.eq_9, ev.eq_10, ev.eq_11, ev.eq_12, ev.eq_13, ev.eq_14, ev.eq_15, ev.eq_16, ev.eq_17, ev.eq_18, ev.eq_19, ev.eq_20, ev.eq_21, ev.eq_22, ev.eq_23, ev.eq_24, ev.eq_25, ev.eq_26, ev.eq_27, ev.eq_28, ev.eq_29, evs.eq_1, evs.eq_2, evT, exec.eq_1, exec.eq_2, exec.eq_3, exec.eq_4, exec.eq_5, exec.eq_6, exec.eq_7, exec.eq_8, exec.eq_9, exec.eq_10, exec.eq_11, exec.eq_12, exec.eq_13, exec.eq_14, exec.eq_15, exec.eq_16, exec.eq_19, exec.eq_20, exec.eq_21, exec.eq_22, exec.eq_23, execs.eq_1, execs.eq_2, x_whl, x_for, x_comp, x_compIf, bor, vi, mkEnv, eg, es, frzA, frzS, bn, bt, bind_F, setAll, setPar, wipeE, tgs, b_add, b_sub, b_mul, b_fdiv, b_mod, b_shl, b_shr, b_pow, b_tup, b_lst, o_lt, o_le, o_gt, o_ge, o_eqi, o_nei, o_neb, o_isb, u_len1, u_len2, u_len3, u_abs, u_int, u_lst1, u_lst2, u_tup, u_max, s_int, s_bl, s_tup, s_lst, s_non, s_str, a_add, a_sub, i_tup, i_lst, r_bl, r_int, fin, chk_own, chk_some, isN, bnd, isNone, ixW_0, ixW_1, ixW_2, F_0, F_1, ixW_w, wg_1, wg_0, wp_0, List.map, List.length, List.replicate, List.cons_append, List.nil_append, List.append_nil, Nat.reduceSub, Nat.reduceAdd, Nat.sub_self, Nat.sub_zero, if_true, Bool.false_eq_true, if_false, reduceIte, ite_true, ite_false, Bool.and_self, Bool.and_true, Bool.true_and, Bool.not_true, Bool.not_false, Nat.reduceLT, Nat.reduceLeDiff, decide_true, decide_false, Int.reduceLT, Int.reduceLE, Int.reduceAdd, Int.reduceSub, Int.reduceNeg, Bool.or_true, Bool.or_false, Bool.true_or, Bool.false_or, Bool.and_false, Bool.false_and, e1, t10, c10, b10, b11, e2]
  unfold lawO
  rw [show d61.body = b61 from rfl, show d61.ns = 9 from rfl, e]
end Pv.K36


namespace Pv.K36
open PySem PySem.Spec PyProof.Rows L2
theorem bi0 : ∀ (kV doc pm : Value) (an : Option Addr) (cdv ct : Value) (us : List Value), us.length = ps0.length → bindArgs (PySem.W.fnOf "is_number" "is_number" (defArgs (at_ 1)) (defBody (at_ 1)) (defScope (at_ 1)) .none kV doc pm an cdv ct) ⟨us, []⟩ = pure (ps0.zip us) :=
  fun _ _ _ _ _ _ us hl => match us, hl with | [_], _ => rfl
theorem bi1 : ∀ (kV doc pm : Value) (an : Option Addr) (cdv ct : Value) (us : List Value), us.length = ps1.length → bindArgs (PySem.W.fnOf "is_from" "is_from" (defArgs (at_ 2)) (defBody (at_ 2)) (defScope (at_ 2)) .none kV doc pm an cdv ct) ⟨us, []⟩ = pure (ps1.zip us) :=
  fun _ _ _ _ _ _ us hl => match us, hl with | [_, _], _ => rfl
theorem bi2 : ∀ (kV doc pm : Value) (an : Option Addr) (cdv ct : Value) (us : List Value), us.length = ps2.length → bindArgs (PySem.W.fnOf "is_tuple_of" "is_tuple_of" (defArgs (at_ 3)) (defBody (at_ 3)) (defScope (at_ 3)) .none kV doc pm an cdv ct) ⟨us, []⟩ = pure (ps2.zip us) :=
  fun _ _ _ _ _ _ us hl => match us, hl with | [_, _], _ => rfl
theorem bi3 : ∀ (kV doc pm : Value) (an : Option Addr) (cdv ct : Value) (us : List Value), us.length = ps3.length → bindArgs (PySem.W.fnOf "is_ascending" "is_ascending" (defArgs (at_ 4)) (defBody (at_ 4)) (defScope (at_ 4)) .none kV doc pm an cdv ct) ⟨us, []⟩ = pure (ps3.zip us) :=
  fun _ _ _ _ _ _ us hl => match us, hl with | [_], _ => rfl
theorem bi4 : ∀ (kV doc pm : Value) (an : Option Addr) (cdv ct : Value) (us : List Value), us.length = ps4.length → bindArgs (PySem.W.fnOf "bits_of" "bits_of" (defArgs (at_ 5)) (defBody (at_ 5)) (defScope (at_ 5)) .none kV doc pm an cdv ct) ⟨us, []⟩ = pure (ps4.zip us) :=
  fun _ _ _ _ _ _ us hl => match us, hl with | [_], _ => rfl
theorem bi5 : ∀ (kV doc pm : Value) (an : Option Addr) (cdv ct : Value) (us : List Value), us.length = ps5.length → bindArgs (PySem.W.fnOf "common" "common" (defArgs (at_ 8)) (defBody (at_ 8)) (defScope (at_ 8)) .none kV doc pm an cdv ct) ⟨us, []⟩ = pure (ps5.zip us) :=
  fun _ _ _ _ _ _ us hl => match us, hl with | [_, _], _ => rfl
theorem bi6 : ∀ (kV doc pm : Value) (an : Option Addr) (cdv ct : Value) (us : List Value), us.length = ps6.length → bindArgs (PySem.W.fnOf "fraction" "fraction" (defArgs (at_ 9)) (defBody (at_ 9)) (defScope (at_ 9)) .none kV doc pm an cdv ct) ⟨us, []⟩ = pure (ps6.zip us) :=
  fun _ _ _ _ _ _ us hl => match us, hl with | [_, _], _ => rfl
theorem bi7 : ∀ (kV doc pm : Value) (an : Option Addr) (cdv ct : Value) (us : List Value), us.length = ps7.length → bindArgs (PySem.W.fnOf "is_fraction" "is_fraction" (defArgs (at_ 10)) (defBody (at_ 10)) (defScope (at_ 10)) .none kV doc pm an cdv ct) ⟨us, []⟩ = pure (ps7.zip us) :=
  fun _ _ _ _ _ _ us hl => match us, hl with | [_], _ => rfl
theorem bi8 : ∀ (kV doc pm : Value) (an : Option Addr) (cdv ct : Value) (us : List Value), us.length = ps8.length → bindArgs (PySem.W.fnOf "added" "added" (defArgs (at_ 11)) (defBody (at_ 11)) (defScope (at_ 11)) .none kV doc pm an cdv ct) ⟨us, []⟩ = pure (ps8.zip us) :=
  fun _ _ _ _ _ _ us hl => match us, hl with | [_, _], _ => rfl
theorem bi9 : ∀ (kV doc pm : Value) (an : Option Addr) (cdv ct : Value) (us : List Value), us.length = ps9.length → bindArgs (PySem.W.fnOf "negated" "negated" (defArgs (at_ 12)) (defBody (at_ 12)) (defScope (at_ 12)) .none kV doc pm an cdv ct) ⟨us, []⟩ = pure (ps9.zip us) :=
  fun _ _ _ _ _ _ us hl => match us, hl with | [_], _ => rfl
theorem bi10 : ∀ (kV doc pm : Value) (an : Option Addr) (cdv ct : Value) (us : List Value), us.length = ps10.length → bindArgs (PySem.W.fnOf "taken" "taken" (defArgs (at_ 13)) (defBody (at_ 13)) (defScope (at_ 13)) .none kV doc pm an cdv ct) ⟨us, []⟩ = pure (ps10.zip us) :=
  fun _ _ _ _ _ _ us hl => match us, hl with | [_, _], _ => rfl
theorem bi11 : ∀ (kV doc pm : Value) (an : Option Addr) (cdv ct : Value) (us : List Value), us.length = ps11.length → bindArgs (PySem.W.fnOf "times" "times" (defArgs (at_ 14)) (defBody (at_ 14)) (defScope (at_ 14)) .none kV doc pm an cdv ct) ⟨us, []⟩ = pure (ps11.zip us) :=
  fun _ _ _ _ _ _ us hl => match us, hl with | [_, _], _ => rfl
theorem bi12 : ∀ (kV doc pm : Value) (an : Option Addr) (cdv ct : Value) (us : List Value), us.length = ps12.length → bindArgs (PySem.W.fnOf "size" "size" (defArgs (at_ 15)) (defBody (at_ 15)) (defScope (at_ 15)) .none kV doc pm an cdv ct) ⟨us, []⟩ = pure (ps12.zip us) :=
  fun _ _ _ _ _ _ us hl => match us, hl with | [_], _ => rfl
theorem bi13 : ∀ (kV doc pm : Value) (an : Option Addr) (cdv ct : Value) (us : List Value), us.length = ps13.length → bindArgs (PySem.W.fnOf "is_most" "is_most" (defArgs (at_ 16)) (defBody (at_ 16)) (defScope (at_ 16)) .none kV doc pm an cdv ct) ⟨us, []⟩ = pure (ps13.zip us) :=
  fun _ _ _ _ _ _ us hl => match us, hl with | [_, _], _ => rfl
theorem bi14 : ∀ (kV doc pm : Value) (an : Option Addr) (cdv ct : Value) (us : List Value), us.length = ps14.length → bindArgs (PySem.W.fnOf "two_to" "two_to" (defArgs (at_ 17)) (defBody (at_ 17)) (defScope (at_ 17)) .none kV doc pm an cdv ct) ⟨us, []⟩ = pure (ps14.zip us) :=
  fun _ _ _ _ _ _ us hl => match us, hl with | [_], _ => rfl
theorem bi15 : ∀ (kV doc pm : Value) (an : Option Addr) (cdv ct : Value) (us : List Value), us.length = ps15.length → bindArgs (PySem.W.fnOf "shifted" "shifted" (defArgs (at_ 18)) (defBody (at_ 18)) (defScope (at_ 18)) .none kV doc pm an cdv ct) ⟨us, []⟩ = pure (ps15.zip us) :=
  fun _ _ _ _ _ _ us hl => match us, hl with | [_, _], _ => rfl
theorem bi16 : ∀ (kV doc pm : Value) (an : Option Addr) (cdv ct : Value) (us : List Value), us.length = ps16.length → bindArgs (PySem.W.fnOf "exponent_of" "exponent_of" (defArgs (at_ 19)) (defBody (at_ 19)) (defScope (at_ 19)) .none kV doc pm an cdv ct) ⟨us, []⟩ = pure (ps16.zip us) :=
  fun _ _ _ _ _ _ us hl => match us, hl with | [_], _ => rfl
theorem bi17 : ∀ (kV doc pm : Value) (an : Option Addr) (cdv ct : Value) (us : List Value), us.length = ps17.length → bindArgs (PySem.W.fnOf "sum_of" "sum_of" (defArgs (at_ 20)) (defBody (at_ 20)) (defScope (at_ 20)) .none kV doc pm an cdv ct) ⟨us, []⟩ = pure (ps17.zip us) :=
  fun _ _ _ _ _ _ us hl => match us, hl with | [_], _ => rfl
theorem bi18 : ∀ (kV doc pm : Value) (an : Option Addr) (cdv ct : Value) (us : List Value), us.length = ps18.length → bindArgs (PySem.W.fnOf "is_straight" "is_straight" (defArgs (at_ 22)) (defBody (at_ 22)) (defScope (at_ 22)) .none kV doc pm an cdv ct) ⟨us, []⟩ = pure (ps18.zip us) :=
  fun _ _ _ _ _ _ us hl => match us, hl with | [_], _ => rfl
theorem bi19 : ∀ (kV doc pm : Value) (an : Option Addr) (cdv ct : Value) (us : List Value), us.length = ps19.length → bindArgs (PySem.W.fnOf "straight" "straight" (defArgs (at_ 23)) (defBody (at_ 23)) (defScope (at_ 23)) .none kV doc pm an cdv ct) ⟨us, []⟩ = pure (ps19.zip us) :=
  fun _ _ _ _ _ _ us hl => match us, hl with | [_, _, _], _ => rfl
theorem bi20 : ∀ (kV doc pm : Value) (an : Option Addr) (cdv ct : Value) (us : List Value), us.length = ps20.length → bindArgs (PySem.W.fnOf "plain" "plain" (defArgs (at_ 24)) (defBody (at_ 24)) (defScope (at_ 24)) .none kV doc pm an cdv ct) ⟨us, []⟩ = pure (ps20.zip us) :=
  fun _ _ _ _ _ _ us hl => match us, hl with | [_], _ => rfl
theorem bi21 : ∀ (kV doc pm : Value) (an : Option Addr) (cdv ct : Value) (us : List Value), us.length = ps21.length → bindArgs (PySem.W.fnOf "of_span" "of_span" (defArgs (at_ 25)) (defBody (at_ 25)) (defScope (at_ 25)) .none kV doc pm an cdv ct) ⟨us, []⟩ = pure (ps21.zip us) :=
  fun _ _ _ _ _ _ us hl => match us, hl with | [_, _], _ => rfl
theorem bi22 : ∀ (kV doc pm : Value) (an : Option Addr) (cdv ct : Value) (us : List Value), us.length = ps22.length → bindArgs (PySem.W.fnOf "with_rest" "with_rest" (defArgs (at_ 26)) (defBody (at_ 26)) (defScope (at_ 26)) .none kV doc pm an cdv ct) ⟨us, []⟩ = pure (ps22.zip us) :=
  fun _ _ _ _ _ _ us hl => match us, hl with | [_], _ => rfl
theorem bi23 : ∀ (kV doc pm : Value) (an : Option Addr) (cdv ct : Value) (us : List Value), us.length = ps23.length → bindArgs (PySem.W.fnOf "swing" "swing" (defArgs (at_ 27)) (defBody (at_ 27)) (defScope (at_ 27)) .none kV doc pm an cdv ct) ⟨us, []⟩ = pure (ps23.zip us) :=
  fun _ _ _ _ _ _ us hl => match us, hl with | [_], _ => rfl
theorem bi24 : ∀ (kV doc pm : Value) (an : Option Addr) (cdv ct : Value) (us : List Value), us.length = ps24.length → bindArgs (PySem.W.fnOf "span_of" "span_of" (defArgs (at_ 28)) (defBody (at_ 28)) (defScope (at_ 28)) .none kV doc pm an cdv ct) ⟨us, []⟩ = pure (ps24.zip us) :=
  fun _ _ _ _ _ _ us hl => match us, hl with | [_], _ => rfl
theorem bi25 : ∀ (kV doc pm : Value) (an : Option Addr) (cdv ct : Value) (us : List Value), us.length = ps25.length → bindArgs (PySem.W.fnOf "reach_of" "reach_of" (defArgs (at_ 29)) (defBody (at_ 29)) (defScope (at_ 29)) .none kV doc pm an cdv ct) ⟨us, []⟩ = pure (ps25.zip us) :=
  fun _ _ _ _ _ _ us hl => match us, hl with | [_], _ => rfl
theorem bi26 : ∀ (kV doc pm : Value) (an : Option Addr) (cdv ct : Value) (us : List Value), us.length = ps26.length → bindArgs (PySem.W.fnOf "both" "both" (defArgs (at_ 30)) (defBody (at_ 30)) (defScope (at_ 30)) .none kV doc pm an cdv ct) ⟨us, []⟩ = pure (ps26.zip us) :=
  fun _ _ _ _ _ _ us hl => match us, hl with | [_, _], _ => rfl
theorem bi27 : ∀ (kV doc pm : Value) (an : Option Addr) (cdv ct : Value) (us : List Value), us.length = ps27.length → bindArgs (PySem.W.fnOf "scaled" "scaled" (defArgs (at_ 31)) (defBody (at_ 31)) (defScope (at_ 31)) .none kV doc pm an cdv ct) ⟨us, []⟩ = pure (ps27.zip us) :=
  fun _ _ _ _ _ _ us hl => match us, hl with | [_, _], _ => rfl
theorem bi28 : ∀ (kV doc pm : Value) (an : Option Addr) (cdv ct : Value) (us : List Value), us.length = ps28.length → bindArgs (PySem.W.fnOf "turned" "turned" (defArgs (at_ 32)) (defBody (at_ 32)) (defScope (at_ 32)) .none kV doc pm an cdv ct) ⟨us, []⟩ = pure (ps28.zip us) :=
  fun _ _ _ _ _ _ us hl => match us, hl with | [_], _ => rfl
theorem bi29 : ∀ (kV doc pm : Value) (an : Option Addr) (cdv ct : Value) (us : List Value), us.length = ps29.length → bindArgs (PySem.W.fnOf "loosened" "loosened" (defArgs (at_ 33)) (defBody (at_ 33)) (defScope (at_ 33)) .none kV doc pm an cdv ct) ⟨us, []⟩ = pure (ps29.zip us) :=
  fun _ _ _ _ _ _ us hl => match us, hl with | [_, _], _ => rfl
theorem bi30 : ∀ (kV doc pm : Value) (an : Option Addr) (cdv ct : Value) (us : List Value), us.length = ps30.length → bindArgs (PySem.W.fnOf "marked" "marked" (defArgs (at_ 34)) (defBody (at_ 34)) (defScope (at_ 34)) .none kV doc pm an cdv ct) ⟨us, []⟩ = pure (ps30.zip us) :=
  fun _ _ _ _ _ _ us hl => match us, hl with | [_, _, _], _ => rfl
theorem bi31 : ∀ (kV doc pm : Value) (an : Option Addr) (cdv ct : Value) (us : List Value), us.length = ps31.length → bindArgs (PySem.W.fnOf "product" "product" (defArgs (at_ 35)) (defBody (at_ 35)) (defScope (at_ 35)) .none kV doc pm an cdv ct) ⟨us, []⟩ = pure (ps31.zip us) :=
  fun _ _ _ _ _ _ us hl => match us, hl with | [_, _], _ => rfl
theorem bi32 : ∀ (kV doc pm : Value) (an : Option Addr) (cdv ct : Value) (us : List Value), us.length = ps32.length → bindArgs (PySem.W.fnOf "at_marks" "at_marks" (defArgs (at_ 36)) (defBody (at_ 36)) (defScope (at_ 36)) .none kV doc pm an cdv ct) ⟨us, []⟩ = pure (ps32.zip us) :=
  fun _ _ _ _ _ _ us hl => match us, hl with | [_, _], _ => rfl
theorem bi33 : ∀ (kV doc pm : Value) (an : Option Addr) (cdv ct : Value) (us : List Value), us.length = ps33.length → bindArgs (PySem.W.fnOf "is_looser" "is_looser" (defArgs (at_ 37)) (defBody (at_ 37)) (defScope (at_ 37)) .none kV doc pm an cdv ct) ⟨us, []⟩ = pure (ps33.zip us) :=
  fun _ _ _ _ _ _ us hl => match us, hl with | [_, _], _ => rfl
theorem bi34 : ∀ (kV doc pm : Value) (an : Option Addr) (cdv ct : Value) (us : List Value), us.length = ps34.length → bindArgs (PySem.W.fnOf "coarse" "coarse" (defArgs (at_ 39)) (defBody (at_ 39)) (defScope (at_ 39)) .none kV doc pm an cdv ct) ⟨us, []⟩ = pure (ps34.zip us) :=
  fun _ _ _ _ _ _ us hl => match us, hl with | [_, _, _], _ => rfl
theorem bi35 : ∀ (kV doc pm : Value) (an : Option Addr) (cdv ct : Value) (us : List Value), us.length = ps35.length → bindArgs (PySem.W.fnOf "coarse_straight" "coarse_straight" (defArgs (at_ 41)) (defBody (at_ 41)) (defScope (at_ 41)) .none kV doc pm an cdv ct) ⟨us, []⟩ = pure (ps35.zip us) :=
  fun _ _ _ _ _ _ us hl => match us, hl with | [_, _], _ => rfl
theorem bi36 : ∀ (kV doc pm : Value) (an : Option Addr) (cdv ct : Value) (us : List Value), us.length = ps36.length → bindArgs (PySem.W.fnOf "_law_draws" "_law_draws" (defArgs (at_ 43)) (defBody (at_ 43)) (defScope (at_ 43)) .none kV doc pm an cdv ct) ⟨us, []⟩ = pure (ps36.zip us) :=
  fun _ _ _ _ _ _ us hl => match us, hl with | [_, _], _ => rfl
theorem bi37 : ∀ (kV doc pm : Value) (an : Option Addr) (cdv ct : Value) (us : List Value), us.length = ps37.length → bindArgs (PySem.W.fnOf "_law_next" "_law_next" (defArgs (at_ 44)) (defBody (at_ 44)) (defScope (at_ 44)) .none kV doc pm an cdv ct) ⟨us, []⟩ = pure (ps37.zip us) :=
  fun _ _ _ _ _ _ us hl => match us, hl with | [_, _], _ => rfl
theorem bi38 : ∀ (kV doc pm : Value) (an : Option Addr) (cdv ct : Value) (us : List Value), us.length = ps38.length → bindArgs (PySem.W.fnOf "_law_pick" "_law_pick" (defArgs (at_ 45)) (defBody (at_ 45)) (defScope (at_ 45)) .none kV doc pm an cdv ct) ⟨us, []⟩ = pure (ps38.zip us) :=
  fun _ _ _ _ _ _ us hl => match us, hl with | [_, _], _ => rfl
theorem bi39 : ∀ (kV doc pm : Value) (an : Option Addr) (cdv ct : Value) (us : List Value), us.length = ps39.length → bindArgs (PySem.W.fnOf "_law_same" "_law_same" (defArgs (at_ 46)) (defBody (at_ 46)) (defScope (at_ 46)) .none kV doc pm an cdv ct) ⟨us, []⟩ = pure (ps39.zip us) :=
  fun _ _ _ _ _ _ us hl => match us, hl with | [_, _], _ => rfl
theorem bi40 : ∀ (kV doc pm : Value) (an : Option Addr) (cdv ct : Value) (us : List Value), us.length = ps40.length → bindArgs (PySem.W.fnOf "_law_least" "_law_least" (defArgs (at_ 47)) (defBody (at_ 47)) (defScope (at_ 47)) .none kV doc pm an cdv ct) ⟨us, []⟩ = pure (ps40.zip us) :=
  fun _ _ _ _ _ _ us hl => match us, hl with | [_, _], _ => rfl
theorem bi41 : ∀ (kV doc pm : Value) (an : Option Addr) (cdv ct : Value) (us : List Value), us.length = ps41.length → bindArgs (PySem.W.fnOf "_law_sum" "_law_sum" (defArgs (at_ 48)) (defBody (at_ 48)) (defScope (at_ 48)) .none kV doc pm an cdv ct) ⟨us, []⟩ = pure (ps41.zip us) :=
  fun _ _ _ _ _ _ us hl => match us, hl with | [_], _ => rfl
theorem bi42 : ∀ (kV doc pm : Value) (an : Option Addr) (cdv ct : Value) (us : List Value), us.length = ps42.length → bindArgs (PySem.W.fnOf "_law_less" "_law_less" (defArgs (at_ 49)) (defBody (at_ 49)) (defScope (at_ 49)) .none kV doc pm an cdv ct) ⟨us, []⟩ = pure (ps42.zip us) :=
  fun _ _ _ _ _ _ us hl => match us, hl with | [_, _], _ => rfl
theorem bi43 : ∀ (kV doc pm : Value) (an : Option Addr) (cdv ct : Value) (us : List Value), us.length = ps43.length → bindArgs (PySem.W.fnOf "_law_mul" "_law_mul" (defArgs (at_ 50)) (defBody (at_ 50)) (defScope (at_ 50)) .none kV doc pm an cdv ct) ⟨us, []⟩ = pure (ps43.zip us) :=
  fun _ _ _ _ _ _ us hl => match us, hl with | [_, _], _ => rfl
theorem bi44 : ∀ (kV doc pm : Value) (an : Option Addr) (cdv ct : Value) (us : List Value), us.length = ps44.length → bindArgs (PySem.W.fnOf "_law_off" "_law_off" (defArgs (at_ 51)) (defBody (at_ 51)) (defScope (at_ 51)) .none kV doc pm an cdv ct) ⟨us, []⟩ = pure (ps44.zip us) :=
  fun _ _ _ _ _ _ us hl => match us, hl with | [_], _ => rfl
theorem bi45 : ∀ (kV doc pm : Value) (an : Option Addr) (cdv ct : Value) (us : List Value), us.length = ps45.length → bindArgs (PySem.W.fnOf "_law_size" "_law_size" (defArgs (at_ 52)) (defBody (at_ 52)) (defScope (at_ 52)) .none kV doc pm an cdv ct) ⟨us, []⟩ = pure (ps45.zip us) :=
  fun _ _ _ _ _ _ us hl => match us, hl with | [_], _ => rfl
theorem bi46 : ∀ (kV doc pm : Value) (an : Option Addr) (cdv ct : Value) (us : List Value), us.length = ps46.length → bindArgs (PySem.W.fnOf "_law_two" "_law_two" (defArgs (at_ 53)) (defBody (at_ 53)) (defScope (at_ 53)) .none kV doc pm an cdv ct) ⟨us, []⟩ = pure (ps46.zip us) :=
  fun _ _ _ _ _ _ us hl => match us, hl with | [_], _ => rfl
theorem bi47 : ∀ (kV doc pm : Value) (an : Option Addr) (cdv ct : Value) (us : List Value), us.length = ps47.length → bindArgs (PySem.W.fnOf "_law_coarse" "_law_coarse" (defArgs (at_ 54)) (defBody (at_ 54)) (defScope (at_ 54)) .none kV doc pm an cdv ct) ⟨us, []⟩ = pure (ps47.zip us) :=
  fun _ _ _ _ _ _ us hl => match us, hl with | [_, _, _], _ => rfl
theorem bi48 : ∀ (kV doc pm : Value) (an : Option Addr) (cdv ct : Value) (us : List Value), us.length = ps48.length → bindArgs (PySem.W.fnOf "_law_straight" "_law_straight" (defArgs (at_ 55)) (defBody (at_ 55)) (defScope (at_ 55)) .none kV doc pm an cdv ct) ⟨us, []⟩ = pure (ps48.zip us) :=
  fun _ _ _ _ _ _ us hl => match us, hl with | [_, _, _], _ => rfl
theorem bi49 : ∀ (kV doc pm : Value) (an : Option Addr) (cdv ct : Value) (us : List Value), us.length = ps49.length → bindArgs (PySem.W.fnOf "_law_swing" "_law_swing" (defArgs (at_ 56)) (defBody (at_ 56)) (defScope (at_ 56)) .none kV doc pm an cdv ct) ⟨us, []⟩ = pure (ps49.zip us) :=
  fun _ _ _ _ _ _ us hl => match us, hl with | [_], _ => rfl
theorem bi50 : ∀ (kV doc pm : Value) (an : Option Addr) (cdv ct : Value) (us : List Value), us.length = ps50.length → bindArgs (PySem.W.fnOf "_law_far" "_law_far" (defArgs (at_ 57)) (defBody (at_ 57)) (defScope (at_ 57)) .none kV doc pm an cdv ct) ⟨us, []⟩ = pure (ps50.zip us) :=
  fun _ _ _ _ _ _ us hl => match us, hl with | [_], _ => rfl
theorem bi51 : ∀ (kV doc pm : Value) (an : Option Addr) (cdv ct : Value) (us : List Value), us.length = ps51.length → bindArgs (PySem.W.fnOf "_law_spread" "_law_spread" (defArgs (at_ 58)) (defBody (at_ 58)) (defScope (at_ 58)) .none kV doc pm an cdv ct) ⟨us, []⟩ = pure (ps51.zip us) :=
  fun _ _ _ _ _ _ us hl => match us, hl with | [_], _ => rfl
theorem bi52 : ∀ (kV doc pm : Value) (an : Option Addr) (cdv ct : Value) (us : List Value), us.length = ps52.length → bindArgs (PySem.W.fnOf "_law_joint" "_law_joint" (defArgs (at_ 59)) (defBody (at_ 59)) (defScope (at_ 59)) .none kV doc pm an cdv ct) ⟨us, []⟩ = pure (ps52.zip us) :=
  fun _ _ _ _ _ _ us hl => match us, hl with | [_, _], _ => rfl
theorem bi53 : ∀ (kV doc pm : Value) (an : Option Addr) (cdv ct : Value) (us : List Value), us.length = ps53.length → bindArgs (PySem.W.fnOf "_law_scaled" "_law_scaled" (defArgs (at_ 60)) (defBody (at_ 60)) (defScope (at_ 60)) .none kV doc pm an cdv ct) ⟨us, []⟩ = pure (ps53.zip us) :=
  fun _ _ _ _ _ _ us hl => match us, hl with | [_, _], _ => rfl
theorem bi54 : ∀ (kV doc pm : Value) (an : Option Addr) (cdv ct : Value) (us : List Value), us.length = ps54.length → bindArgs (PySem.W.fnOf "_law_looser" "_law_looser" (defArgs (at_ 61)) (defBody (at_ 61)) (defScope (at_ 61)) .none kV doc pm an cdv ct) ⟨us, []⟩ = pure (ps54.zip us) :=
  fun _ _ _ _ _ _ us hl => match us, hl with | [_, _], _ => rfl
theorem bi55 : ∀ (kV doc pm : Value) (an : Option Addr) (cdv ct : Value) (us : List Value), us.length = ps55.length → bindArgs (PySem.W.fnOf "_law_product" "_law_product" (defArgs (at_ 62)) (defBody (at_ 62)) (defScope (at_ 62)) .none kV doc pm an cdv ct) ⟨us, []⟩ = pure (ps55.zip us) :=
  fun _ _ _ _ _ _ us hl => match us, hl with | [_, _], _ => rfl
theorem bi56 : ∀ (kV doc pm : Value) (an : Option Addr) (cdv ct : Value) (us : List Value), us.length = ps56.length → bindArgs (PySem.W.fnOf "_law_middled" "_law_middled" (defArgs (at_ 63)) (defBody (at_ 63)) (defScope (at_ 63)) .none kV doc pm an cdv ct) ⟨us, []⟩ = pure (ps56.zip us) :=
  fun _ _ _ _ _ _ us hl => match us, hl with | [_], _ => rfl
theorem bi57 : ∀ (kV doc pm : Value) (an : Option Addr) (cdv ct : Value) (us : List Value), us.length = ps57.length → bindArgs (PySem.W.fnOf "_law_plain_form" "_law_plain_form" (defArgs (at_ 64)) (defBody (at_ 64)) (defScope (at_ 64)) .none kV doc pm an cdv ct) ⟨us, []⟩ = pure (ps57.zip us) :=
  fun _ _ _ _ _ _ us hl => match us, hl with | [_], _ => rfl
theorem bi58 : ∀ (kV doc pm : Value) (an : Option Addr) (cdv ct : Value) (us : List Value), us.length = ps58.length → bindArgs (PySem.W.fnOf "_law_forms_right" "_law_forms_right" (defArgs (at_ 65)) (defBody (at_ 65)) (defScope (at_ 65)) .none kV doc pm an cdv ct) ⟨us, []⟩ = pure (ps58.zip us) :=
  fun _ _ _ _ _ _ us hl => match us, hl with | [_], _ => rfl
theorem bi59 : ∀ (kV doc pm : Value) (an : Option Addr) (cdv ct : Value) (us : List Value), us.length = ps59.length → bindArgs (PySem.W.fnOf "_law_loose" "_law_loose" (defArgs (at_ 66)) (defBody (at_ 66)) (defScope (at_ 66)) .none kV doc pm an cdv ct) ⟨us, []⟩ = pure (ps59.zip us) :=
  fun _ _ _ _ _ _ us hl => match us, hl with | [_, _], _ => rfl
theorem bi60 : ∀ (kV doc pm : Value) (an : Option Addr) (cdv ct : Value) (us : List Value), us.length = ps60.length → bindArgs (PySem.W.fnOf "_law_coarse_form" "_law_coarse_form" (defArgs (at_ 67)) (defBody (at_ 67)) (defScope (at_ 67)) .none kV doc pm an cdv ct) ⟨us, []⟩ = pure (ps60.zip us) :=
  fun _ _ _ _ _ _ us hl => match us, hl with | [_, _], _ => rfl
theorem bi61 : ∀ (kV doc pm : Value) (an : Option Addr) (cdv ct : Value) (us : List Value), us.length = ps61.length → bindArgs (PySem.W.fnOf "law" "law" (defArgs (at_ 68)) (defBody (at_ 68)) (defScope (at_ 68)) .none kV doc pm an cdv ct) ⟨us, []⟩ = pure (ps61.zip us) :=
  fun _ _ _ _ _ _ us hl => match us, hl with | [_], _ => rfl
theorem t_inj : ∀ n, n < 128 → ∀ m, m < 128 → T n = T m → n = m := by decide +kernel
theorem hT : TOk T := ⟨fun n m hn hm => t_inj n hn m hm, by decide +kernel⟩
set_option maxHeartbeats 0 in
theorem all_mk {l : PySem.W.OpenLaw} {w : World} {K : PySem.W.Frag} {h : Heap} {mg : Str → Option Value} {fa : Addr} (X : K.In h) (G : h.Ns mainGlobals mg) (hfa : mg "law" = some (.ref fa))
    (f0 : Fct K "is_number" (at_ 1)) (f1 : Fct K "is_from" (at_ 2)) (f2 : Fct K "is_tuple_of" (at_ 3)) (f3 : Fct K "is_ascending" (at_ 4)) (f4 : Fct K "bits_of" (at_ 5)) (f5 : Fct K "common" (at_ 8)) (f6 : Fct K "fraction" (at_ 9)) (f7 : Fct K "is_fraction" (at_ 10)) (f8 : Fct K "added" (at_ 11)) (f9 : Fct K "negated" (at_ 12)) (f10 : Fct K "taken" (at_ 13)) (f11 : Fct K "times" (at_ 14)) (f12 : Fct K "size" (at_ 15)) (f13 : Fct K "is_most" (at_ 16)) (f14 : Fct K "two_to" (at_ 17)) (f15 : Fct K "shifted" (at_ 18)) (f16 : Fct K "exponent_of" (at_ 19)) (f17 : Fct K "sum_of" (at_ 20)) (f18 : Fct K "is_straight" (at_ 22)) (f19 : Fct K "straight" (at_ 23)) (f20 : Fct K "plain" (at_ 24)) (f21 : Fct K "of_span" (at_ 25)) (f22 : Fct K "with_rest" (at_ 26)) (f23 : Fct K "swing" (at_ 27)) (f24 : Fct K "span_of" (at_ 28)) (f25 : Fct K "reach_of" (at_ 29)) (f26 : Fct K "both" (at_ 30)) (f27 : Fct K "scaled" (at_ 31)) (f28 : Fct K "turned" (at_ 32)) (f29 : Fct K "loosened" (at_ 33)) (f30 : Fct K "marked" (at_ 34)) (f31 : Fct K "product" (at_ 35)) (f32 : Fct K "at_marks" (at_ 36)) (f33 : Fct K "is_looser" (at_ 37)) (f34 : Fct K "coarse" (at_ 39)) (f35 : Fct K "coarse_straight" (at_ 41)) (f36 : Fct K "_law_draws" (at_ 43)) (f37 : Fct K "_law_next" (at_ 44)) (f38 : Fct K "_law_pick" (at_ 45)) (f39 : Fct K "_law_same" (at_ 46)) (f40 : Fct K "_law_least" (at_ 47)) (f41 : Fct K "_law_sum" (at_ 48)) (f42 : Fct K "_law_less" (at_ 49)) (f43 : Fct K "_law_mul" (at_ 50)) (f44 : Fct K "_law_off" (at_ 51)) (f45 : Fct K "_law_size" (at_ 52)) (f46 : Fct K "_law_two" (at_ 53)) (f47 : Fct K "_law_coarse" (at_ 54)) (f48 : Fct K "_law_straight" (at_ 55)) (f49 : Fct K "_law_swing" (at_ 56)) (f50 : Fct K "_law_far" (at_ 57)) (f51 : Fct K "_law_spread" (at_ 58)) (f52 : Fct K "_law_joint" (at_ 59)) (f53 : Fct K "_law_scaled" (at_ 60)) (f54 : Fct K "_law_looser" (at_ 61)) (f55 : Fct K "_law_product" (at_ 62)) (f56 : Fct K "_law_middled" (at_ 63)) (f57 : Fct K "_law_plain_form" (at_ 64)) (f58 : Fct K "_law_forms_right" (at_ 65)) (f59 : Fct K "_law_loose" (at_ 66)) (f60 : Fct K "_law_coarse_form" (at_ 67)) (f61 : Fct K "law" (at_ 68))
    (hb : ∀ y ∈ bNames, PySem.W.nsIn K mainGlobals y = some none) (hc : ∀ k y d, co k = some (y, d) → ∃ v u, PySem.W.nsIn K mainGlobals y = some (some u) ∧ RelV v u ∧ ∀ wa H, Rep T K wa H d v) :
    ∃ fd : FuncData, (∀ (s : Shared) (v : Value), BindsTo s fd ⟨[v], []⟩ [("script", v)]) ∧ ∀ base : Heap, K.In base → base.Ns mainGlobals mg → FnOk l.prog w K mg base CX0 13 fa fd ["script"] (spL K P 12 d61) := by
  obtain ⟨g, fd, e0, b0, F⟩ := f61
  have e := hfa.symm.trans (PySem.W.mg_of X G e0)
  cases e
  refine ⟨fd, b0 "script" fun _ _ _ _ _ _ _ => rfl, fun base _ _ => law_ok (T := T) (fn := fn) (co := co) hT (fun y hy => PySem.W.mg_none_of X G (hb y hy)) (fun k y d e => let ⟨v, u, q, r⟩ := hc k y d e; ⟨v, u, PySem.W.mg_of X G q, r⟩) ?_ (p := "script") (d := d61) (N := N61) (st := at_ 68) ⟨F, F.binds bi61, scOk_ok sc61, rfl, by decide, rfl, ok61⟩ 12⟩
  intro f y e
  match f, e with
  | 0, e => cases e; obtain ⟨g, fd, e1, _, F1⟩ := f0; exact ⟨d0, N0, ps0, at_ 1, g, fd, rfl, PySem.W.mg_of X G e1, ⟨F1, F1.binds bi0, scOk_ok sc0, rfl, by decide, rfl, ok0⟩⟩
  | 1, e => cases e; obtain ⟨g, fd, e1, _, F1⟩ := f1; exact ⟨d1, N1, ps1, at_ 2, g, fd, rfl, PySem.W.mg_of X G e1, ⟨F1, F1.binds bi1, scOk_ok sc1, rfl, by decide, rfl, ok1⟩⟩
  | 2, e => cases e; obtain ⟨g, fd, e1, _, F1⟩ := f2; exact ⟨d2, N2, ps2, at_ 3, g, fd, rfl, PySem.W.mg_of X G e1, ⟨F1, F1.binds bi2, scOk_ok sc2, rfl, by decide, rfl, ok2⟩⟩
  | 3, e => cases e; obtain ⟨g, fd, e1, _, F1⟩ := f3; exact ⟨d3, N3, ps3, at_ 4, g, fd, rfl, PySem.W.mg_of X G e1, ⟨F1, F1.binds bi3, scOk_ok sc3, rfl, by decide, rfl, ok3⟩⟩
  | 4, e => cases e; obtain ⟨g, fd, e1, _, F1⟩ := f4; exact ⟨d4, N4, ps4, at_ 5, g, fd, rfl, PySem.W.mg_of X G e1, ⟨F1, F1.binds bi4, scOk_ok sc4, rfl, by decide, rfl, ok4⟩⟩
  | 5, e => cases e; obtain ⟨g, fd, e1, _, F1⟩ := f5; exact ⟨d5, N5, ps5, at_ 8, g, fd, rfl, PySem.W.mg_of X G e1, ⟨F1, F1.binds bi5, scOk_ok sc5, rfl, by decide, rfl, ok5⟩⟩
  | 6, e => cases e; obtain ⟨g, fd, e1, _, F1⟩ := f6; exact ⟨d6, N6, ps6, at_ 9, g, fd, rfl, PySem.W.mg_of X G e1, ⟨F1, F1.binds bi6, scOk_ok sc6, rfl, by decide, rfl, ok6⟩⟩
  | 7, e => cases e; obtain ⟨g, fd, e1, _, F1⟩ := f7; exact ⟨d7, N7, ps7, at_ 10, g, fd, rfl, PySem.W.mg_of X G e1, ⟨F1, F1.binds bi7, scOk_ok sc7, rfl, by decide, rfl, ok7⟩⟩
  | 8, e => cases e; obtain ⟨g, fd, e1, _, F1⟩ := f8; exact ⟨d8, N8, ps8, at_ 11, g, fd, rfl, PySem.W.mg_of X G e1, ⟨F1, F1.binds bi8, scOk_ok sc8, rfl, by decide, rfl, ok8⟩⟩
  | 9, e => cases e; obtain ⟨g, fd, e1, _, F1⟩ := f9; exact ⟨d9, N9, ps9, at_ 12, g, fd, rfl, PySem.W.mg_of X G e1, ⟨F1, F1.binds bi9, scOk_ok sc9, rfl, by decide, rfl, ok9⟩⟩
  | 10, e => cases e; obtain ⟨g, fd, e1, _, F1⟩ := f10; exact ⟨d10, N10, ps10, at_ 13, g, fd, rfl, PySem.W.mg_of X G e1, ⟨F1, F1.binds bi10, scOk_ok sc10, rfl, by decide, rfl, ok10⟩⟩
  | 11, e => cases e; obtain ⟨g, fd, e1, _, F1⟩ := f11; exact ⟨d11, N11, ps11, at_ 14, g, fd, rfl, PySem.W.mg_of X G e1, ⟨F1, F1.binds bi11, scOk_ok sc11, rfl, by decide, rfl, ok11⟩⟩
  | 12, e => cases e; obtain ⟨g, fd, e1, _, F1⟩ := f12; exact ⟨d12, N12, ps12, at_ 15, g, fd, rfl, PySem.W.mg_of X G e1, ⟨F1, F1.binds bi12, scOk_ok sc12, rfl, by decide, rfl, ok12⟩⟩
  | 13, e => cases e; obtain ⟨g, fd, e1, _, F1⟩ := f13; exact ⟨d13, N13, ps13, at_ 16, g, fd, rfl, PySem.W.mg_of X G e1, ⟨F1, F1.binds bi13, scOk_ok sc13, rfl, by decide, rfl, ok13⟩⟩
  | 14, e => cases e; obtain ⟨g, fd, e1, _, F1⟩ := f14; exact ⟨d14, N14, ps14, at_ 17, g, fd, rfl, PySem.W.mg_of X G e1, ⟨F1, F1.binds bi14, scOk_ok sc14, rfl, by decide, rfl, ok14⟩⟩
  | 15, e => cases e; obtain ⟨g, fd, e1, _, F1⟩ := f15; exact ⟨d15, N15, ps15, at_ 18, g, fd, rfl, PySem.W.mg_of X G e1, ⟨F1, F1.binds bi15, scOk_ok sc15, rfl, by decide, rfl, ok15⟩⟩
  | 16, e => cases e; obtain ⟨g, fd, e1, _, F1⟩ := f16; exact ⟨d16, N16, ps16, at_ 19, g, fd, rfl, PySem.W.mg_of X G e1, ⟨F1, F1.binds bi16, scOk_ok sc16, rfl, by decide, rfl, ok16⟩⟩
  | 17, e => cases e; obtain ⟨g, fd, e1, _, F1⟩ := f17; exact ⟨d17, N17, ps17, at_ 20, g, fd, rfl, PySem.W.mg_of X G e1, ⟨F1, F1.binds bi17, scOk_ok sc17, rfl, by decide, rfl, ok17⟩⟩
  | 18, e => cases e; obtain ⟨g, fd, e1, _, F1⟩ := f18; exact ⟨d18, N18, ps18, at_ 22, g, fd, rfl, PySem.W.mg_of X G e1, ⟨F1, F1.binds bi18, scOk_ok sc18, rfl, by decide, rfl, ok18⟩⟩
  | 19, e => cases e; obtain ⟨g, fd, e1, _, F1⟩ := f19; exact ⟨d19, N19, ps19, at_ 23, g, fd, rfl, PySem.W.mg_of X G e1, ⟨F1, F1.binds bi19, scOk_ok sc19, rfl, by decide, rfl, ok19⟩⟩
  | 20, e => cases e; obtain ⟨g, fd, e1, _, F1⟩ := f20; exact ⟨d20, N20, ps20, at_ 24, g, fd, rfl, PySem.W.mg_of X G e1, ⟨F1, F1.binds bi20, scOk_ok sc20, rfl, by decide, rfl, ok20⟩⟩
  | 21, e => cases e; obtain ⟨g, fd, e1, _, F1⟩ := f21; exact ⟨d21, N21, ps21, at_ 25, g, fd, rfl, PySem.W.mg_of X G e1, ⟨F1, F1.binds bi21, scOk_ok sc21, rfl, by decide, rfl, ok21⟩⟩
  | 22, e => cases e; obtain ⟨g, fd, e1, _, F1⟩ := f22; exact ⟨d22, N22, ps22, at_ 26, g, fd, rfl, PySem.W.mg_of X G e1, ⟨F1, F1.binds bi22, scOk_ok sc22, rfl, by decide, rfl, ok22⟩⟩
  | 23, e => cases e; obtain ⟨g, fd, e1, _, F1⟩ := f23; exact ⟨d23, N23, ps23, at_ 27, g, fd, rfl, PySem.W.mg_of X G e1, ⟨F1, F1.binds bi23, scOk_ok sc23, rfl, by decide, rfl, ok23⟩⟩
  | 24, e => cases e; obtain ⟨g, fd, e1, _, F1⟩ := f24; exact ⟨d24, N24, ps24, at_ 28, g, fd, rfl, PySem.W.mg_of X G e1, ⟨F1, F1.binds bi24, scOk_ok sc24, rfl, by decide, rfl, ok24⟩⟩
  | 25, e => cases e; obtain ⟨g, fd, e1, _, F1⟩ := f25; exact ⟨d25, N25, ps25, at_ 29, g, fd, rfl, PySem.W.mg_of X G e1, ⟨F1, F1.binds bi25, scOk_ok sc25, rfl, by decide, rfl, ok25⟩⟩
  | 26, e => cases e; obtain ⟨g, fd, e1, _, F1⟩ := f26; exact ⟨d26, N26, ps26, at_ 30, g, fd, rfl, PySem.W.mg_of X G e1, ⟨F1, F1.binds bi26, scOk_ok sc26, rfl, by decide, rfl, ok26⟩⟩
  | 27, e => cases e; obtain ⟨g, fd, e1, _, F1⟩ := f27; exact ⟨d27, N27, ps27, at_ 31, g, fd, rfl, PySem.W.mg_of X G e1, ⟨F1, F1.binds bi27, scOk_ok sc27, rfl, by decide, rfl, ok27⟩⟩
  | 28, e => cases e; obtain ⟨g, fd, e1, _, F1⟩ := f28; exact ⟨d28, N28, ps28, at_ 32, g, fd, rfl, PySem.W.mg_of X G e1, ⟨F1, F1.binds bi28, scOk_ok sc28, rfl, by decide, rfl, ok28⟩⟩
  | 29, e => cases e; obtain ⟨g, fd, e1, _, F1⟩ := f29; exact ⟨d29, N29, ps29, at_ 33, g, fd, rfl, PySem.W.mg_of X G e1, ⟨F1, F1.binds bi29, scOk_ok sc29, rfl, by decide, rfl, ok29⟩⟩
  | 30, e => cases e; obtain ⟨g, fd, e1, _, F1⟩ := f30; exact ⟨d30, N30, ps30, at_ 34, g, fd, rfl, PySem.W.mg_of X G e1, ⟨F1, F1.binds bi30, scOk_ok sc30, rfl, by decide, rfl, ok30⟩⟩
  | 31, e => cases e; obtain ⟨g, fd, e1, _, F1⟩ := f31; exact ⟨d31, N31, ps31, at_ 35, g, fd, rfl, PySem.W.mg_of X G e1, ⟨F1, F1.binds bi31, scOk_ok sc31, rfl, by decide, rfl, ok31⟩⟩
  | 32, e => cases e; obtain ⟨g, fd, e1, _, F1⟩ := f32; exact ⟨d32, N32, ps32, at_ 36, g, fd, rfl, PySem.W.mg_of X G e1, ⟨F1, F1.binds bi32, scOk_ok sc32, rfl, by decide, rfl, ok32⟩⟩
  | 33, e => cases e; obtain ⟨g, fd, e1, _, F1⟩ := f33; exact ⟨d33, N33, ps33, at_ 37, g, fd, rfl, PySem.W.mg_of X G e1, ⟨F1, F1.binds bi33, scOk_ok sc33, rfl, by decide, rfl, ok33⟩⟩
  | 34, e => cases e; obtain ⟨g, fd, e1, _, F1⟩ := f34; exact ⟨d34, N34, ps34, at_ 39, g, fd, rfl, PySem.W.mg_of X G e1, ⟨F1, F1.binds bi34, scOk_ok sc34, rfl, by decide, rfl, ok34⟩⟩
  | 35, e => cases e; obtain ⟨g, fd, e1, _, F1⟩ := f35; exact ⟨d35, N35, ps35, at_ 41, g, fd, rfl, PySem.W.mg_of X G e1, ⟨F1, F1.binds bi35, scOk_ok sc35, rfl, by decide, rfl, ok35⟩⟩
  | 36, e => cases e; obtain ⟨g, fd, e1, _, F1⟩ := f36; exact ⟨d36, N36, ps36, at_ 43, g, fd, rfl, PySem.W.mg_of X G e1, ⟨F1, F1.binds bi36, scOk_ok sc36, rfl, by decide, rfl, ok36⟩⟩
  | 37, e => cases e; obtain ⟨g, fd, e1, _, F1⟩ := f37; exact ⟨d37, N37, ps37, at_ 44, g, fd, rfl, PySem.W.mg_of X G e1, ⟨F1, F1.binds bi37, scOk_ok sc37, rfl, by decide, rfl, ok37⟩⟩
  | 38, e => cases e; obtain ⟨g, fd, e1, _, F1⟩ := f38; exact ⟨d38, N38, ps38, at_ 45, g, fd, rfl, PySem.W.mg_of X G e1, ⟨F1, F1.binds bi38, scOk_ok sc38, rfl, by decide, rfl, ok38⟩⟩
  | 39, e => cases e; obtain ⟨g, fd, e1, _, F1⟩ := f39; exact ⟨d39, N39, ps39, at_ 46, g, fd, rfl, PySem.W.mg_of X G e1, ⟨F1, F1.binds bi39, scOk_ok sc39, rfl, by decide, rfl, ok39⟩⟩
  | 40, e => cases e; obtain ⟨g, fd, e1, _, F1⟩ := f40; exact ⟨d40, N40, ps40, at_ 47, g, fd, rfl, PySem.W.mg_of X G e1, ⟨F1, F1.binds bi40, scOk_ok sc40, rfl, by decide, rfl, ok40⟩⟩
  | 41, e => cases e; obtain ⟨g, fd, e1, _, F1⟩ := f41; exact ⟨d41, N41, ps41, at_ 48, g, fd, rfl, PySem.W.mg_of X G e1, ⟨F1, F1.binds bi41, scOk_ok sc41, rfl, by decide, rfl, ok41⟩⟩
  | 42, e => cases e; obtain ⟨g, fd, e1, _, F1⟩ := f42; exact ⟨d42, N42, ps42, at_ 49, g, fd, rfl, PySem.W.mg_of X G e1, ⟨F1, F1.binds bi42, scOk_ok sc42, rfl, by decide, rfl, ok42⟩⟩
  | 43, e => cases e; obtain ⟨g, fd, e1, _, F1⟩ := f43; exact ⟨d43, N43, ps43, at_ 50, g, fd, rfl, PySem.W.mg_of X G e1, ⟨F1, F1.binds bi43, scOk_ok sc43, rfl, by decide, rfl, ok43⟩⟩
  | 44, e => cases e; obtain ⟨g, fd, e1, _, F1⟩ := f44; exact ⟨d44, N44, ps44, at_ 51, g, fd, rfl, PySem.W.mg_of X G e1, ⟨F1, F1.binds bi44, scOk_ok sc44, rfl, by decide, rfl, ok44⟩⟩
  | 45, e => cases e; obtain ⟨g, fd, e1, _, F1⟩ := f45; exact ⟨d45, N45, ps45, at_ 52, g, fd, rfl, PySem.W.mg_of X G e1, ⟨F1, F1.binds bi45, scOk_ok sc45, rfl, by decide, rfl, ok45⟩⟩
  | 46, e => cases e; obtain ⟨g, fd, e1, _, F1⟩ := f46; exact ⟨d46, N46, ps46, at_ 53, g, fd, rfl, PySem.W.mg_of X G e1, ⟨F1, F1.binds bi46, scOk_ok sc46, rfl, by decide, rfl, ok46⟩⟩
  | 47, e => cases e; obtain ⟨g, fd, e1, _, F1⟩ := f47; exact ⟨d47, N47, ps47, at_ 54, g, fd, rfl, PySem.W.mg_of X G e1, ⟨F1, F1.binds bi47, scOk_ok sc47, rfl, by decide, rfl, ok47⟩⟩
  | 48, e => cases e; obtain ⟨g, fd, e1, _, F1⟩ := f48; exact ⟨d48, N48, ps48, at_ 55, g, fd, rfl, PySem.W.mg_of X G e1, ⟨F1, F1.binds bi48, scOk_ok sc48, rfl, by decide, rfl, ok48⟩⟩
  | 49, e => cases e; obtain ⟨g, fd, e1, _, F1⟩ := f49; exact ⟨d49, N49, ps49, at_ 56, g, fd, rfl, PySem.W.mg_of X G e1, ⟨F1, F1.binds bi49, scOk_ok sc49, rfl, by decide, rfl, ok49⟩⟩
  | 50, e => cases e; obtain ⟨g, fd, e1, _, F1⟩ := f50; exact ⟨d50, N50, ps50, at_ 57, g, fd, rfl, PySem.W.mg_of X G e1, ⟨F1, F1.binds bi50, scOk_ok sc50, rfl, by decide, rfl, ok50⟩⟩
  | 51, e => cases e; obtain ⟨g, fd, e1, _, F1⟩ := f51; exact ⟨d51, N51, ps51, at_ 58, g, fd, rfl, PySem.W.mg_of X G e1, ⟨F1, F1.binds bi51, scOk_ok sc51, rfl, by decide, rfl, ok51⟩⟩
  | 52, e => cases e; obtain ⟨g, fd, e1, _, F1⟩ := f52; exact ⟨d52, N52, ps52, at_ 59, g, fd, rfl, PySem.W.mg_of X G e1, ⟨F1, F1.binds bi52, scOk_ok sc52, rfl, by decide, rfl, ok52⟩⟩
  | 53, e => cases e; obtain ⟨g, fd, e1, _, F1⟩ := f53; exact ⟨d53, N53, ps53, at_ 60, g, fd, rfl, PySem.W.mg_of X G e1, ⟨F1, F1.binds bi53, scOk_ok sc53, rfl, by decide, rfl, ok53⟩⟩
  | 54, e => cases e; obtain ⟨g, fd, e1, _, F1⟩ := f54; exact ⟨d54, N54, ps54, at_ 61, g, fd, rfl, PySem.W.mg_of X G e1, ⟨F1, F1.binds bi54, scOk_ok sc54, rfl, by decide, rfl, ok54⟩⟩
  | 55, e => cases e; obtain ⟨g, fd, e1, _, F1⟩ := f55; exact ⟨d55, N55, ps55, at_ 62, g, fd, rfl, PySem.W.mg_of X G e1, ⟨F1, F1.binds bi55, scOk_ok sc55, rfl, by decide, rfl, ok55⟩⟩
  | 56, e => cases e; obtain ⟨g, fd, e1, _, F1⟩ := f56; exact ⟨d56, N56, ps56, at_ 63, g, fd, rfl, PySem.W.mg_of X G e1, ⟨F1, F1.binds bi56, scOk_ok sc56, rfl, by decide, rfl, ok56⟩⟩
  | 57, e => cases e; obtain ⟨g, fd, e1, _, F1⟩ := f57; exact ⟨d57, N57, ps57, at_ 64, g, fd, rfl, PySem.W.mg_of X G e1, ⟨F1, F1.binds bi57, scOk_ok sc57, rfl, by decide, rfl, ok57⟩⟩
  | 58, e => cases e; obtain ⟨g, fd, e1, _, F1⟩ := f58; exact ⟨d58, N58, ps58, at_ 65, g, fd, rfl, PySem.W.mg_of X G e1, ⟨F1, F1.binds bi58, scOk_ok sc58, rfl, by decide, rfl, ok58⟩⟩
  | 59, e => cases e; obtain ⟨g, fd, e1, _, F1⟩ := f59; exact ⟨d59, N59, ps59, at_ 66, g, fd, rfl, PySem.W.mg_of X G e1, ⟨F1, F1.binds bi59, scOk_ok sc59, rfl, by decide, rfl, ok59⟩⟩
  | 60, e => cases e; obtain ⟨g, fd, e1, _, F1⟩ := f60; exact ⟨d60, N60, ps60, at_ 67, g, fd, rfl, PySem.W.mg_of X G e1, ⟨F1, F1.binds bi60, scOk_ok sc60, rfl, by decide, rfl, ok60⟩⟩
end Pv.K36
open PySem PySem.W PyProof.Rows
set_option maxHeartbeats 0 in
theorem PySem.Challenge.cw_roundedwithin_k36_whole_straight_forms_b_holds : PySem.Challenge.rw_roundedwithin_k36_whole_straight_forms_b.Holds := by
  w_on; o_law; k_head; (case hw => w_witness2)
  k_fill
  refine L2.walk_ofK (l := PySem.Challenge.rw_roundedwithin_k36_whole_straight_forms_b) (n := 63) (k := 13) (x := "script") (CX := L2.CX0) (sp := fun K => Pv.spL K Pv.K36.P 12 Pv.K36.d61) rfl (by decide) rfl ⟨rfl, by decide, by decide⟩ (fun w h Y => PySem.W.kIn_of Y) ?F (fun _ _ a ns hl _ hS => ⟨a, ns, rfl, hS, Pv.K36.law_true ns hl, fun _ => rfl⟩) (fun _ _ _ _ h => h)
  case F =>
    intro w mg fa h KX G hmg
    refine' Pv.K36.all_mk KX G hmg ?f0 ?f1 ?f2 ?f3 ?f4 ?f5 ?f6 ?f7 ?f8 ?f9 ?f10 ?f11 ?f12 ?f13 ?f14 ?f15 ?f16 ?f17 ?f18 ?f19 ?f20 ?f21 ?f22 ?f23 ?f24 ?f25 ?f26 ?f27 ?f28 ?f29 ?f30 ?f31 ?f32 ?f33 ?f34 ?f35 ?f36 ?f37 ?f38 ?f39 ?f40 ?f41 ?f42 ?f43 ?f44 ?f45 ?f46 ?f47 ?f48 ?f49 ?f50 ?f51 ?f52 ?f53 ?f54 ?f55 ?f56 ?f57 ?f58 ?f59 ?f60 ?f61 ?hblt ?hcon
    (case f0 => refine' Pv.fct_mk ?a ?l ?c ?k; (case a => k_is); (case l => k_is); (case c => k_is); (case k => k_is))
    (case f1 => refine' Pv.fct_mk ?a ?l ?c ?k; (case a => k_is); (case l => k_is); (case c => k_is); (case k => k_is))
    (case f2 => refine' Pv.fct_mk ?a ?l ?c ?k; (case a => k_is); (case l => k_is); (case c => k_is); (case k => k_is))
    (case f3 => refine' Pv.fct_mk ?a ?l ?c ?k; (case a => k_is); (case l => k_is); (case c => k_is); (case k => k_is))
    (case f4 => refine' Pv.fct_mk ?a ?l ?c ?k; (case a => k_is); (case l => k_is); (case c => k_is); (case k => k_is))
    (case f5 => refine' Pv.fct_mk ?a ?l ?c ?k; (case a => k_is); (case l => k_is); (case c => k_is); (case k => k_is))
    (case f6 => refine' Pv.fct_mk ?a ?l ?c ?k; (case a => k_is); (case l => k_is); (case c => k_is); (case k => k_is))
    (case f7 => refine' Pv.fct_mk ?a ?l ?c ?k; (case a => k_is); (case l => k_is); (case c => k_is); (case k => k_is))
    (case f8 => refine' Pv.fct_mk ?a ?l ?c ?k; (case a => k_is); (case l => k_is); (case c => k_is); (case k => k_is))
    (case f9 => refine' Pv.fct_mk ?a ?l ?c ?k; (case a => k_is); (case l => k_is); (case c => k_is); (case k => k_is))
    (case f10 => refine' Pv.fct_mk ?a ?l ?c ?k; (case a => k_is); (case l => k_is); (case c => k_is); (case k => k_is))
    (case f11 => refine' Pv.fct_mk ?a ?l ?c ?k; (case a => k_is); (case l => k_is); (case c => k_is); (case k => k_is))
    (case f12 => refine' Pv.fct_mk ?a ?l ?c ?k; (case a => k_is); (case l => k_is); (case c => k_is); (case k => k_is))
    (case f13 => refine' Pv.fct_mk ?a ?l ?c ?k; (case a => k_is); (case l => k_is); (case c => k_is); (case k => k_is))
    (case f14 => refine' Pv.fct_mk ?a ?l ?c ?k; (case a => k_is); (case l => k_is); (case c => k_is); (case k => k_is))
    (case f15 => refine' Pv.fct_mk ?a ?l ?c ?k; (case a => k_is); (case l => k_is); (case c => k_is); (case k => k_is))
    (case f16 => refine' Pv.fct_mk ?a ?l ?c ?k; (case a => k_is); (case l => k_is); (case c => k_is); (case k => k_is))
    (case f17 => refine' Pv.fct_mk ?a ?l ?c ?k; (case a => k_is); (case l => k_is); (case c => k_is); (case k => k_is))
    (case f18 => refine' Pv.fct_mk ?a ?l ?c ?k; (case a => k_is); (case l => k_is); (case c => k_is); (case k => k_is))
    (case f19 => refine' Pv.fct_mk ?a ?l ?c ?k; (case a => k_is); (case l => k_is); (case c => k_is); (case k => k_is))
    (case f20 => refine' Pv.fct_mk ?a ?l ?c ?k; (case a => k_is); (case l => k_is); (case c => k_is); (case k => k_is))
    (case f21 => refine' Pv.fct_mk ?a ?l ?c ?k; (case a => k_is); (case l => k_is); (case c => k_is); (case k => k_is))
    (case f22 => refine' Pv.fct_mk ?a ?l ?c ?k; (case a => k_is); (case l => k_is); (case c => k_is); (case k => k_is))
    (case f23 => refine' Pv.fct_mk ?a ?l ?c ?k; (case a => k_is); (case l => k_is); (case c => k_is); (case k => k_is))
    (case f24 => refine' Pv.fct_mk ?a ?l ?c ?k; (case a => k_is); (case l => k_is); (case c => k_is); (case k => k_is))
    (case f25 => refine' Pv.fct_mk ?a ?l ?c ?k; (case a => k_is); (case l => k_is); (case c => k_is); (case k => k_is))
    (case f26 => refine' Pv.fct_mk ?a ?l ?c ?k; (case a => k_is); (case l => k_is); (case c => k_is); (case k => k_is))
    (case f27 => refine' Pv.fct_mk ?a ?l ?c ?k; (case a => k_is); (case l => k_is); (case c => k_is); (case k => k_is))
    (case f28 => refine' Pv.fct_mk ?a ?l ?c ?k; (case a => k_is); (case l => k_is); (case c => k_is); (case k => k_is))
    (case f29 => refine' Pv.fct_mk ?a ?l ?c ?k; (case a => k_is); (case l => k_is); (case c => k_is); (case k => k_is))
    (case f30 => refine' Pv.fct_mk ?a ?l ?c ?k; (case a => k_is); (case l => k_is); (case c => k_is); (case k => k_is))
    (case f31 => refine' Pv.fct_mk ?a ?l ?c ?k; (case a => k_is); (case l => k_is); (case c => k_is); (case k => k_is))
    (case f32 => refine' Pv.fct_mk ?a ?l ?c ?k; (case a => k_is); (case l => k_is); (case c => k_is); (case k => k_is))
    (case f33 => refine' Pv.fct_mk ?a ?l ?c ?k; (case a => k_is); (case l => k_is); (case c => k_is); (case k => k_is))
    (case f34 => refine' Pv.fct_mk ?a ?l ?c ?k; (case a => k_is); (case l => k_is); (case c => k_is); (case k => k_is))
    (case f35 => refine' Pv.fct_mk ?a ?l ?c ?k; (case a => k_is); (case l => k_is); (case c => k_is); (case k => k_is))
    (case f36 => refine' Pv.fct_mk ?a ?l ?c ?k; (case a => k_is); (case l => k_is); (case c => k_is); (case k => k_is))
    (case f37 => refine' Pv.fct_mk ?a ?l ?c ?k; (case a => k_is); (case l => k_is); (case c => k_is); (case k => k_is))
    (case f38 => refine' Pv.fct_mk ?a ?l ?c ?k; (case a => k_is); (case l => k_is); (case c => k_is); (case k => k_is))
    (case f39 => refine' Pv.fct_mk ?a ?l ?c ?k; (case a => k_is); (case l => k_is); (case c => k_is); (case k => k_is))
    (case f40 => refine' Pv.fct_mk ?a ?l ?c ?k; (case a => k_is); (case l => k_is); (case c => k_is); (case k => k_is))
    (case f41 => refine' Pv.fct_mk ?a ?l ?c ?k; (case a => k_is); (case l => k_is); (case c => k_is); (case k => k_is))
    (case f42 => refine' Pv.fct_mk ?a ?l ?c ?k; (case a => k_is); (case l => k_is); (case c => k_is); (case k => k_is))
    (case f43 => refine' Pv.fct_mk ?a ?l ?c ?k; (case a => k_is); (case l => k_is); (case c => k_is); (case k => k_is))
    (case f44 => refine' Pv.fct_mk ?a ?l ?c ?k; (case a => k_is); (case l => k_is); (case c => k_is); (case k => k_is))
    (case f45 => refine' Pv.fct_mk ?a ?l ?c ?k; (case a => k_is); (case l => k_is); (case c => k_is); (case k => k_is))
    (case f46 => refine' Pv.fct_mk ?a ?l ?c ?k; (case a => k_is); (case l => k_is); (case c => k_is); (case k => k_is))
    (case f47 => refine' Pv.fct_mk ?a ?l ?c ?k; (case a => k_is); (case l => k_is); (case c => k_is); (case k => k_is))
    (case f48 => refine' Pv.fct_mk ?a ?l ?c ?k; (case a => k_is); (case l => k_is); (case c => k_is); (case k => k_is))
    (case f49 => refine' Pv.fct_mk ?a ?l ?c ?k; (case a => k_is); (case l => k_is); (case c => k_is); (case k => k_is))
    (case f50 => refine' Pv.fct_mk ?a ?l ?c ?k; (case a => k_is); (case l => k_is); (case c => k_is); (case k => k_is))
    (case f51 => refine' Pv.fct_mk ?a ?l ?c ?k; (case a => k_is); (case l => k_is); (case c => k_is); (case k => k_is))
    (case f52 => refine' Pv.fct_mk ?a ?l ?c ?k; (case a => k_is); (case l => k_is); (case c => k_is); (case k => k_is))
    (case f53 => refine' Pv.fct_mk ?a ?l ?c ?k; (case a => k_is); (case l => k_is); (case c => k_is); (case k => k_is))
    (case f54 => refine' Pv.fct_mk ?a ?l ?c ?k; (case a => k_is); (case l => k_is); (case c => k_is); (case k => k_is))
    (case f55 => refine' Pv.fct_mk ?a ?l ?c ?k; (case a => k_is); (case l => k_is); (case c => k_is); (case k => k_is))
    (case f56 => refine' Pv.fct_mk ?a ?l ?c ?k; (case a => k_is); (case l => k_is); (case c => k_is); (case k => k_is))
    (case f57 => refine' Pv.fct_mk ?a ?l ?c ?k; (case a => k_is); (case l => k_is); (case c => k_is); (case k => k_is))
    (case f58 => refine' Pv.fct_mk ?a ?l ?c ?k; (case a => k_is); (case l => k_is); (case c => k_is); (case k => k_is))
    (case f59 => refine' Pv.fct_mk ?a ?l ?c ?k; (case a => k_is); (case l => k_is); (case c => k_is); (case k => k_is))
    (case f60 => refine' Pv.fct_mk ?a ?l ?c ?k; (case a => k_is); (case l => k_is); (case c => k_is); (case k => k_is))
    (case f61 => refine' Pv.fct_mk ?a ?l ?c ?k; (case a => k_is); (case l => k_is); (case c => k_is); (case k => k_is))
    case hblt => exact Pv.blt_mk (by k_is) (by k_is) (by k_is) (by k_is) (by k_is) (by k_is) (by k_is) (by k_is) (by k_is) (by k_is) (by k_is) (by k_is) (by k_is) (by k_is) (by k_is) (by k_is)

    case hcon =>
      intro k y d e
      match k, e with
      | 0, e =>
        cases e
        refine' ⟨_, _, ?a, Pv.con2_r ?l⟩
        (case a => k_is)
        (case l => k_is)
