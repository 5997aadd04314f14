import PyProof.Rows.All
import Wide.All
import OpenK.AllK
import Wide.FinOn
import KE.DataMinMax
import KE.SortData
import KE.DataFind
import KE.DataIsa
import KE.DataEq
import KE.DataCmp
import PyProof.ReprRoads
import HandS.ForMost
import HandS.Flow
import HandS.More
import HandS.ForExc
import HandS.Walk
import HandS.Wide
import HandS.TupLe
import HandS.TupAny
import HandS.TupMul
import HandS.Defaults
import HandS.HeadHook2
import HandS.HeadHook4
import HandS.EndTab
import HandS.ExcValue
import HandS.SetTxt0
import HandS.Deep
import HandS.Style
import HandS.TupSets
import HandS.Set
import HandS.SetFor
import HandS.Strs
import HandS.ExcIs
import HandS.Ends
import HandS.Codes
import HandS.Conv
import KE.GoesMore
import KE.GoesEnum
import HandS.Zip
import KE.KDictWalk
import HandS.HotCalls
import KE.KExcIs
import HandS.ExcField
import HandS.Star
import HandS.FStr
import HandS.SlotsOwn
import HandS.ExcInit
import HandS.WordsExc
import HandS.EndBits
import HandS.Head0
import HandS.Head1
import HandS.Head2
import HandS.HeadEnd
import HandS.HeadHook1
import KE.KStateDown
import PySem.Challenge.RW_waypins_k05_a_board_by_hand_and_by_names
set_option Elab.async false
set_option linter.all false
set_option maxRecDepth 100000
set_option maxHeartbeats 0
namespace M
open PySem
abbrev P := PyData
inductive D where
  | p (d : P)
  | ref (n : Nat)
  | ro (ds : List P)
  | kt (ds : List P)
  /-- a set of texts: its size -/
  | st (n : Nat)
inductive Cell where
  | lst (xs : List P)
  /-- a table: what is now; its past lies in the cell ahead of it -/
  | tab (now : P)
abbrev MH := List Cell
inductive R (A : Type) where
  | ok (a : A) (m : MH)
  | exc (c : Nat) (fs : List P) (m : MH)
  | bad
def R.bind {A B : Type} (r : R A) (k : A → MH → R B) : R B := match r with
  | .ok a m => k a m
  | .exc c fs m => .exc c fs m
  | .bad => .bad
def R.nox {A : Type} (r : R A) : R A := match r with
  | .ok a m => .ok a m
  | _ => .bad
@[simp] theorem nox_ok {A : Type} (a : A) (m : MH) : (R.ok a m).nox = R.ok a m := rfl
@[simp] theorem bind_ok {A B : Type} (a : A) (m : MH) (k : A → MH → R B) : (R.ok a m).bind k = k a m := rfl
@[simp] theorem bind_exc {A B : Type} (c : Nat) (fs : List P) (m : MH) (k : A → MH → R B) : (R.exc c fs m).bind k = .exc c fs m := rfl
@[simp] theorem bind_bad {A B : Type} (k : A → MH → R B) : (R.bad : R A).bind k = .bad := rfl
def pures : List D → Option (List P)
  | [] => some []
  | .p d :: r => (match pures r with | some ds => some (d :: ds) | none => none)
  | .ref _ :: _ => none
  | .ro _ :: _ => none
  | .kt _ :: _ => none
  | .st _ :: _ => none
def mkL (k : Bool) (ds : List P) (m : MH) : R (List D) := match k with
  | true => .ok [.ref m.length] (m ++ [.lst ds])
  | false => .ok [.p (.list ds)] m
def seqD (m : MH) : D → Option (List P)
  | .p (.list ds) => some ds
  | .p (.tuple ds) => some ds
  | .ro ds => some ds
  | .kt ds => some ds
  | .ref n => (match m[n]? with | some (.lst ds) => some ds | _ => none)
  | _ => none
inductive Op where
  | add | sub | mul | fdiv | mod | pow | neg
  | eq | ne | lt | le | gt | ge | isC | isnC | inn | nin
  | ix | slL (k : Bool) | slU (k : Bool) | rev (k : Bool)
  | len | all | tuple | list (k : Bool) | listRange (k : Bool) | int | abs | max1 | max2 | min1 | min2 | min3 | sum | sorted (k : Bool) | sortedSet (k : Bool) | lenSet | repr | str | setT | tupRg | lstRg (k : Bool) | turnD
  | isI | isB | isS | isT | isL
  | addL (k : Bool) | mulL (k : Bool) | mulT
  | append | extend | extendL | index | count | insert | remove | popAt
  | join | split | sgnI
  deriving DecidableEq
def b2P (b : Bool) : P := .bool b
def ok1 (d : P) (m : MH) : R (List D) := .ok [.p d] m
def small (i : Int) : Bool := decide (-(2 ^ 64) < i) && decide (i < 2 ^ 64)
def mulOk (i j : Int) : Bool := small i || small j || decide (i.natAbs.log2 + j.natAbs.log2 < 1000000)
def addP (k : Bool) (a b : P) (m : MH) : R (List D) := match a, b with
  | .int i, .int j => ok1 (.int (i + j)) m
  | .str x, .str y => if x.length + y.length ≤ 100000 then ok1 (.str (x ++ y)) m else .bad
  | .tuple xs, .tuple ys => if xs.length + ys.length ≤ 100000 then ok1 (.tuple (xs ++ ys)) m else .bad
  | _, _ => .bad
def seqIx (n : Nat) (i : Int) : Option Nat := if 0 ≤ i then (if i < n then some i.toNat else none) else if -(n : Int) ≤ i then some (i + n).toNat else none
def cutIx (n d : Nat) : Option Int → Nat
  | none => d
  | some i => if i < 0 then (i + n).toNat else min i.toNat n
def cut (xs : List P) (lo hi : Option Int) : List P := (xs.drop (cutIx xs.length 0 lo)).take (cutIx xs.length xs.length hi - cutIx xs.length 0 lo)
def cutT (z : Str) (lo hi : Option Int) : Str := ⟨((z.cps.toList.drop (cutIx z.length 0 lo)).take (cutIx z.length z.length hi - cutIx z.length 0 lo)).toArray⟩
def slice (k : Bool) (o : D) (lo hi : Option Int) (m : MH) : R (List D) := match o with
  | .p (.tuple xs) => ok1 (.tuple (cut xs lo hi)) m
  | .p (.list xs) => mkL k (cut xs lo hi) m
  | .ro xs => mkL k (cut xs lo hi) m
  | .ref n => (match m[n]? with | some (.lst xs) => mkL k (cut xs lo hi) m | _ => .bad)
  | .p (.str z) => if z.length ≤ 100000 then ok1 (.str (cutT z lo hi)) m else .bad
  | _ => .bad
def leP (a b : P) : Bool := !PySem.W.dataLt b a
def insD (x : P) : List P → List P
  | [] => [x]
  | y :: r => if leP x y then x :: y :: r else y :: insD x r
def sortD : List P → List P
  | [] => []
  | x :: r => insD x (sortD r)
def isTup1 : P → Bool
  | .tuple (_ :: _) => true
  | _ => false
def noTup : P → Bool
  | .tuple _ => false
  | .none => false
  | _ => true
def dedup : List P → List P
  | [] => []
  | x :: r => if r.any (fun y => PyData.eqv y x) then dedup r else x :: dedup r
def allAlike (xs : List P) : Bool := xs.all fun x => xs.all fun y => PySem.W.alike x y
def notNone : P → Bool
  | .none => false
  | _ => true
mutual
def dle : P → Nat → Bool
  | .list _, 0 => false
  | .tuple _, 0 => false
  | .dict _, _ => false
  | .list xs, n + 1 => dles xs n
  | .tuple xs, n + 1 => dles xs n
  | _, _ => true
def dles : List P → Nat → Bool
  | [], _ => true
  | x :: r, n => dle x n && dles r n
end
def intsOf : List P → Option (List Int)
  | [] => some []
  | .int i :: r => (match intsOf r with | some l => some (i :: l) | none => none)
  | _ :: _ => none
def boolsOf : List P → Option (List Bool)
  | [] => some []
  | .bool b :: r => (match boolsOf r with | some l => some (b :: l) | none => none)
  | _ :: _ => none
def idxD (x : P) : List P → Nat → Option Nat
  | [], _ => none
  | y :: r, i => if PyData.eqv y x then some i else idxD x r (i + 1)
def isConstP : P → P → Option Bool
  | d, .none => some (!notNone d)
  | .bool c, .bool b => some (decide (c = b))
  | _, _ => none
def cmpOk (a b : P) : Bool := PySem.W.alike a b && notNone a && dle a 40 && dle b 40
def d_add (xs : List D) (m : MH) : R (List D) := match xs with
  | [.p a, .p b] => addP false a b m
  | _ => .bad
def d_sub (xs : List D) (m : MH) : R (List D) := match xs with
  | [.p (.int i), .p (.int j)] => ok1 (.int (i - j)) m
  | _ => .bad
def d_mul (xs : List D) (m : MH) : R (List D) := match xs with
  | [.p (.int i), .p (.int j)] => if mulOk i j then ok1 (.int (i * j)) m else .bad
  | [.p (.str x), .p (.int j)] => if decide (x.length ≤ 16) && decide (0 ≤ j) && decide (j ≤ 1000) then ok1 (.str (Txt.mul x j)) m else .bad
  | _ => .bad
def d_fdiv (xs : List D) (m : MH) : R (List D) := match xs with
  | [.p (.int i), .p (.int j)] => if decide (0 < j) && decide (j < 2 ^ 200) then ok1 (.int (i / j)) m else .bad
  | _ => .bad
def d_mod (xs : List D) (m : MH) : R (List D) := match xs with
  | [.p (.int i), .p (.int j)] => if decide (0 < j) then ok1 (.int (i % j)) m else .bad
  | _ => .bad
def d_pow (xs : List D) (m : MH) : R (List D) := match xs with
  | [.p (.int i), .p (.int j)] => if decide (0 ≤ j) && decide (j ≤ 1000) && decide (i.natAbs < 2 ^ 64) then ok1 (.int (i ^ j.toNat)) m else .bad
  | _ => .bad
def d_neg (xs : List D) (m : MH) : R (List D) := match xs with
  | [.p (.int i)] => ok1 (.int (-i)) m
  | _ => .bad
def valD (m : MH) : D → Option P
  | .p d => some d
  | .ro ds => some (.list ds)
  | .kt ds => some (.tuple ds)
  | .st _ => none
  | .ref n => (match m[n]? with | some (.lst ds) => some (.list ds) | _ => none)
def eqE (a b : P) (m : MH) : R (List D) := match a, b with
  | .tuple ds, .tuple [] => ok1 (.bool ds.isEmpty) m
  | _, _ => .bad
def d_eq (xs : List D) (m : MH) : R (List D) := match xs with
  | [x, y] => (match valD m x, valD m y with
    | some a, some b => if dle a 40 && dle b 40 then ok1 (.bool (PyData.eqv a b)) m else eqE a b m
    | _, _ => .bad)
  | _ => .bad
def d_ne (xs : List D) (m : MH) : R (List D) := match xs with
  | [x, y] => (match valD m x, valD m y with
    | some a, some b => if dle a 40 && dle b 40 then ok1 (.bool (!PyData.eqv a b)) m else .bad
    | _, _ => .bad)
  | _ => .bad
def d_lt (xs : List D) (m : MH) : R (List D) := match xs with
  | [.p a, .p b] => if cmpOk a b then ok1 (.bool (PySem.W.dataLt a b)) m else .bad
  | _ => .bad
def d_gt (xs : List D) (m : MH) : R (List D) := match xs with
  | [.p a, .p b] => if cmpOk a b then ok1 (.bool (PySem.W.dataLt b a)) m else .bad
  | _ => .bad
def d_le (xs : List D) (m : MH) : R (List D) := match xs with
  | [.p a, .p b] => if cmpOk a b then ok1 (.bool (!PySem.W.dataLt b a)) m else .bad
  | _ => .bad
def d_ge (xs : List D) (m : MH) : R (List D) := match xs with
  | [.p a, .p b] => if cmpOk a b then ok1 (.bool (!PySem.W.dataLt a b)) m else .bad
  | _ => .bad
def d_ixS (o : D) (i : Int) (m : MH) : R (List D) := match o with
  | .p (.str z) => (match seqIx z.cps.toList.length i with
    | some j => (match z.cps.toList[j]? with | some c => if z.length ≤ 100000 then ok1 (.str ⟨#[c]⟩) m else .bad | none => .bad)
    | none => .bad)
  | _ => .bad
def d_ix (xs : List D) (m : MH) : R (List D) := match xs with
  | [o, .p (.int i)] => (match seqD m o with
    | some ds => (match seqIx ds.length i with
      | some j => (match ds[j]? with | some d => ok1 d m | none => .bad)
      | none => .bad)
    | none => d_ixS o i m)
  | _ => .bad
def d_len (xs : List D) (m : MH) : R (List D) := match xs with
  | [o] => (match o with
    | .p (.str x) => if x.length ≤ 100000 then ok1 (.int x.length) m else .bad
    | .st n => if n ≤ 100000 then ok1 (.int n) m else .bad
    | _ => (match seqD m o with | some ds => ok1 (.int ds.length) m | none => .bad))
  | _ => .bad
def d_slL (k : Bool) (xs : List D) (m : MH) : R (List D) := match xs with
  | [o, .p (.int i)] => slice k o (some i) none m
  | _ => .bad
def d_slU (k : Bool) (xs : List D) (m : MH) : R (List D) := match xs with
  | [o, .p (.int j)] => slice k o none (some j) m
  | _ => .bad
def d_isC (xs : List D) (m : MH) : R (List D) := match xs with
  | [.p a, .p b] => (match isConstP a b with | some c => ok1 (.bool c) m | none => .bad)
  | _ => .bad
def d_isnC (xs : List D) (m : MH) : R (List D) := match xs with
  | [.p a, .p b] => (match isConstP a b with | some c => ok1 (.bool (!c)) m | none => .bad)
  | _ => .bad
def sgnOf (x : Str) : Option Nat := match x.cps.toList with
  | [c] => some c
  | _ => none
def d_innS (a : P) (o : D) (m : MH) : R (List D) := match a, o with
  | .str x, .p (.str z) => (match sgnOf x with | some c => ok1 (.bool (decide (c ∈ z.cps.toList))) m | none => .bad)
  | _, _ => .bad
def d_inn (xs : List D) (m : MH) : R (List D) := match xs with
  | [.p a, o] => (match seqD m o with | some ds => if dle a 40 && dles ds 40 then ok1 (.bool (ds.any fun y => PyData.eqv y a)) m else .bad | none => d_innS a o m)
  | _ => .bad
def d_nin (xs : List D) (m : MH) : R (List D) := match xs with
  | [.p a, o] => (match seqD m o with | some ds => if dle a 40 && dles ds 40 then ok1 (.bool (!ds.any fun y => PyData.eqv y a)) m else .bad | none => .bad)
  | _ => .bad
def d_all (xs : List D) (m : MH) : R (List D) := match xs with
  | [.p (.list ds)] => (match boolsOf ds with | some bs => ok1 (.bool (bs.all id)) m | none => .bad)
  | _ => .bad
def seqT (m : MH) : D → Option (List P)
  | .kt _ => none
  | o => seqD m o
def d_tuple (xs : List D) (m : MH) : R (List D) := match xs with
  | [o] => (match seqT m o with | some ds => ok1 (.tuple ds) m | none => .bad)
  | _ => .bad
def d_list (k : Bool) (xs : List D) (m : MH) : R (List D) := match xs with
  | [o] => (match seqD m o with | some ds => mkL k ds m | none => .bad)
  | _ => .bad
def d_int (xs : List D) (m : MH) : R (List D) := match xs with
  | [.p (.bool b)] => ok1 (.int (if b then 1 else 0)) m
  | [.p (.int i)] => ok1 (.int i) m
  | [.p (.str a)] => (match PySem.intText? a with | some n => if a.length ≤ 600 then ok1 (.int n) m else .bad | none => .bad)
  | _ => .bad
def d_abs (xs : List D) (m : MH) : R (List D) := match xs with
  | [.p (.int i)] => ok1 (.int (if i < 0 then -i else i)) m
  | _ => .bad
def d_max2 (xs : List D) (m : MH) : R (List D) := match xs with
  | [.p (.int i), .p (.int j)] => ok1 (.int (if j > i then j else i)) m
  | _ => .bad
def d_min2 (xs : List D) (m : MH) : R (List D) := match xs with
  | [.p (.int i), .p (.int j)] => ok1 (.int (if j < i then j else i)) m
  | _ => .bad
def d_min1 (xs : List D) (m : MH) : R (List D) := match xs with
  | [o] => (match seqD m o with
    | some (x :: r) => if allAlike (x :: r) && (x :: r).all notNone && dles (x :: r) 40 then ok1 (PySem.W.minD x r) m else .bad
    | _ => .bad)
  | _ => .bad
def d_max1 (xs : List D) (m : MH) : R (List D) := match xs with
  | [o] => (match seqD m o with
    | some (x :: r) => if allAlike (x :: r) && (x :: r).all notNone && dles (x :: r) 40 then ok1 (PySem.W.maxD x r) m else .bad
    | _ => .bad)
  | _ => .bad
def d_sum (xs : List D) (m : MH) : R (List D) := match xs with
  | [.p (.list ds)] => (match intsOf ds with | some ns => ok1 (.int ns.sum) m | none => .bad)
  | _ => .bad
def d_isI (xs : List D) (m : MH) : R (List D) := match xs with
  | [.p a] => ok1 (.bool a.isInt) m
  | _ => .bad
def d_isB (xs : List D) (m : MH) : R (List D) := match xs with
  | [.p a] => ok1 (.bool a.isBool) m
  | _ => .bad
def d_isS (xs : List D) (m : MH) : R (List D) := match xs with
  | [.p a] => ok1 (.bool a.isStr) m
  | _ => .bad
def d_isT (xs : List D) (m : MH) : R (List D) := match xs with
  | [.p a] => ok1 (.bool a.isTuple) m
  | _ => .bad
def d_isL (xs : List D) (m : MH) : R (List D) := match xs with
  | [.p a] => ok1 (.bool a.isList) m
  | _ => .bad
def d_append (xs : List D) (m : MH) : R (List D) := match xs with
  | [.ref n, .p d] => (match m[n]? with | some (.lst ds) => if ds.length ≤ 100000 then .ok [.p .none] (m.set n (.lst (ds ++ [d]))) else .bad | _ => .bad)
  | _ => .bad
def d_extend (xs : List D) (m : MH) : R (List D) := match xs with
  | [.ref n, .p (.list es)] => (match m[n]? with | some (.lst ds) => if ds.length + es.length ≤ 100000 then .ok [.p .none] (m.set n (.lst (ds ++ es))) else .bad | _ => .bad)
  | _ => .bad
def lsP (m : MH) : D → Option (List P)
  | .p (.list ds) => some ds
  | .ref n => (match m[n]? with | some (.lst ds) => some ds | _ => none)
  | _ => none
def d_index (xs : List D) (m : MH) : R (List D) := match xs with
  | [o, .p d] => (match lsP m o with
    | some ds => (match idxD d ds 0 with
      | some j => if PySem.SeqAt.shaped d && PySem.SeqAt.shaped (.list ds) then ok1 (.int j) m else .bad
      | none => .bad)
    | none => .bad)
  | _ => .bad
def d_count (xs : List D) (m : MH) : R (List D) := match xs with
  | [o, .p d] => (match lsP m o with
    | some ds => if dle d 40 && dles ds 40 then ok1 (.int (ds.countP fun y => PyData.eqv y d)) m else .bad
    | none => .bad)
  | _ => .bad
def revT (o : D) (m : MH) : R (List D) := match o with
  | .p (.tuple ds) => ok1 (.tuple ds.reverse) m
  | _ => .bad
def d_rev (k : Bool) (xs : List D) (m : MH) : R (List D) := match xs with
  | [o] => (match lsP m o with
    | some ds => mkL k ds.reverse m
    | none => revT o m)
  | _ => .bad
def d_insert (xs : List D) (m : MH) : R (List D) := match xs with
  | [.ref n, .p (.int i), .p d] => (match m[n]? with
    | some (.lst ds) => if decide (ds.length < 100000) && decide (0 ≤ i) && decide (i < 2 ^ 62) then .ok [.p .none] (m.set n (.lst (ds.take i.toNat ++ [d] ++ ds.drop i.toNat))) else .bad
    | _ => .bad)
  | _ => .bad
def d_sorted (k : Bool) (xs : List D) (m : MH) : R (List D) := match xs with
  | [o] => (match lsP m o with
    | some ds => if allAlike ds && (ds.all isTup1 || ds.all noTup) && dles ds 40 && decide (ds.length ≤ 100000) then mkL k (sortD ds) m else .bad
    | none => .bad)
  | _ => .bad
def lstD (m : MH) : D → Option (List P)
  | .p (.list ds) => some ds
  | .ref n => (match m[n]? with | some (.lst ds) => some ds | _ => none)
  | _ => none
def d_addL (k : Bool) (xs : List D) (m : MH) : R (List D) := match xs with
  | [a, b] => (match lstD m a, lstD m b with
    | some ds, some es => if ds.length + es.length ≤ 100000 then mkL k (ds ++ es) m else .bad
    | _, _ => d_add [a, b] m)
  | _ => .bad
def d_mulT (xs : List D) (m : MH) : R (List D) := match xs with
  | [.p (.tuple ds), .p (.int i)] => if decide (2 ≤ i) && decide (i ≤ 1000) && decide (ds.length ≤ 100) && !ds.isEmpty then ok1 (.tuple (List.replicate i.toNat ds).flatten) m else .bad
  | _ => .bad
def d_mulL (k : Bool) (xs : List D) (m : MH) : R (List D) := match xs with
  | [a, .p (.int i)] => (match lstD m a with
    | some ds => if decide (0 ≤ i) && decide (i ≤ 1000) && decide (ds.length ≤ 100) then mkL k (List.replicate i.toNat ds).flatten m else .bad
    | none => (match a with
      | .p (.tuple ds) => d_mulT [.p (.tuple ds), .p (.int i)] m
      | d => d_mul [d, .p (.int i)] m))
  | _ => .bad
def d_remove (xs : List D) (m : MH) : R (List D) := match xs with
  | [.ref n, .p d] => (match m[n]? with
    | some (.lst ds) => (match idxD d ds 0 with
      | some j => if dle d 40 && dles ds 40 then .ok [.p .none] (m.set n (.lst (ds.eraseIdx j))) else .bad
      | none => .bad)
    | _ => .bad)
  | _ => .bad
def shows (p : P) : Bool := p.showable && !p.hasDict && dle p 40 && decide (p.shown.length ≤ 100000)
def ikb : List (P × P) → Bool
  | [] => true
  | (.int _, .int _) :: r => ikb r
  | _ :: _ => false
mutual
/-- of depth n at most; empty dicts, dicts of numbers among it -/
def dlt : P → Nat → Bool
  | .list _, 0 => false
  | .tuple _, 0 => false
  | .list xs, n + 1 => dlts xs n
  | .dict kvs, _ => ikb kvs
  | .tuple xs, n + 1 => dlts xs n
  | _, _ => true
def dlts : List P → Nat → Bool
  | [], _ => true
  | x :: r, n => dlt x n && dlts r n
end
def shows2 (p : P) : Bool := p.showable && dlt p 40 && decide (p.shown.length ≤ 100000)
def reprT (p : P) (m : MH) : R (List D) := if shows2 p then ok1 (.str p.shown) m else .bad
def d_repr (xs : List D) (m : MH) : R (List D) := match xs with
  | [.p (.dict [])] => ok1 (.str "{}") m
  | [o] => (match valD m o with
    | some p => if shows p then ok1 (.str p.shown) m else reprT p m
    | none => .bad)
  | _ => .bad
def insU (x : Int) : List Int → List Int
  | [] => [x]
  | y :: r => if x < y then x :: y :: r else if x = y then y :: r else y :: insU x r
def sortU : List Int → List Int
  | [] => []
  | x :: r => insU x (sortU r)
def d_sortedSet (k : Bool) (xs : List D) (m : MH) : R (List D) := match xs with
  | [o] => (match lsP m o with
    | some ds => (match intsOf ds with
      | some ns => if decide (ns.length ≤ 1000) && decide ((sortU ns).length < 64) then mkL k ((sortU ns).map .int) m else .bad
      | none => .bad)
    | none => .bad)
  | _ => .bad
def d_lenSet (xs : List D) (m : MH) : R (List D) := match xs with
  | [o] => (match lsP m o with
    | some ds => (match intsOf ds with
      | some ns => if decide (ns.length ≤ 1000) then ok1 (.int (sortU ns).length) m else .bad
      | none => .bad)
    | none => .bad)
  | _ => .bad
def d_str (xs : List D) (m : MH) : R (List D) := match xs with
  | [.p (.int i)] => if decide (i.natAbs.log2 < 1920) then ok1 (.str (Str.ofString (toString i))) m else .bad
  | _ => .bad
def addS (l : List Str) (x : Str) : List Str := if x ∈ l then l else x :: l
def strsOf : List P → Option (List Str)
  | [] => some []
  | .str i :: r => (match strsOf r with | some l => some (i :: l) | none => none)
  | _ :: _ => none
def d_join (xs : List D) (m : MH) : R (List D) := match xs with
  | [.p (.str a), o] => (match seqD m o with
    | some ds => (match strsOf ds with
      | some ys => if (ys.map (·.length)).sum + ys.length * a.length ≤ 100000 then ok1 (.str (Txt.join a ys)) m else .bad
      | none => .bad)
    | none => .bad)
  | _ => .bad
def SgnKV : List (Str × Str) := [("left", "<"), ("right", ">")]
def d_sgnI (xs : List D) (m : MH) : R (List D) := match xs with
  | [.p (.str z)] => (match SgnKV.lookup z with | some y => ok1 (.str y) m | none => .bad)
  | _ => .bad
def d_split (xs : List D) (m : MH) : R (List D) := match xs with
  | [.p (.str a), .p (.str b)] => if !(b.length == 0) && decide (a.length ≤ 10000) then mkL false ((Txt.split a b).map .str) m else .bad
  | _ => .bad
def d_tupRg (xs : List D) (m : MH) : R (List D) := match xs with
  | [.p (.int n)] => if decide (0 ≤ n) && decide (n ≤ 100000) then ok1 (.tuple ((List.range n.toNat).map fun i : Nat => PyData.int i)) m else .bad
  | _ => .bad
def d_lstRg (k : Bool) (xs : List D) (m : MH) : R (List D) := match xs with
  | [.p (.int n)] => if decide (0 ≤ n) && decide (n ≤ 100000) then mkL k ((List.range n.toNat).map fun i : Nat => PyData.int i) m else .bad
  | _ => .bad
def d_setT (xs : List D) (m : MH) : R (List D) := match xs with
  | [o] => (match lsP m o with
    | some ds => (match strsOf ds with
      | some zs => if decide (zs.length ≤ 1000) then .ok [.st (zs.foldl addS []).length] m else .bad
      | none => .bad)
    | none => .bad)
  | _ => .bad
def d_turnD (xs : List D) (m : MH) : R (List D) := match xs with
  | [.p (.int i)] => if i = 1 then ok1 (.str "left") m else if i = -1 then ok1 (.str "right") m else if i = 0 then ok1 (.str "none") m else .bad
  | _ => .bad
def fmtD (d : D) : Option Str := match d with
  | .p (.str x) => if x.length ≤ 10000 then some x else none
  | .p (.int i) => if decide (i.natAbs.log2 < 1920) && decide ((Str.ofString (toString i)).length ≤ 10000) then some (Str.ofString (toString i)) else none
  | _ => none
def catD (acc : Str) : List D → Option Str
  | [] => some acc
  | .p (.str x) :: r => catD (acc ++ x) r
  | _ => none
def opD (o : Op) (xs : List D) (m : MH) : R (List D) := match o with
  | .turnD => d_turnD xs m
  | .setT => d_setT xs m
  | .tupRg => d_tupRg xs m
  | .lstRg k => d_lstRg k xs m
  | .add => d_add xs m
  | .sub => d_sub xs m
  | .mul => d_mul xs m
  | .fdiv => d_fdiv xs m
  | .mod => d_mod xs m
  | .pow => d_pow xs m
  | .neg => d_neg xs m
  | .eq => d_eq xs m
  | .ne => d_ne xs m
  | .lt => d_lt xs m
  | .gt => d_gt xs m
  | .le => d_le xs m
  | .ge => d_ge xs m
  | .ix => d_ix xs m
  | .len => d_len xs m
  | .slL k => d_slL k xs m
  | .slU k => d_slU k xs m
  | .isC => d_isC xs m
  | .isnC => d_isnC xs m
  | .inn => d_inn xs m
  | .nin => d_nin xs m
  | .all => d_all xs m
  | .tuple => d_tuple xs m
  | .list k => d_list k xs m
  | .int => d_int xs m
  | .abs => d_abs xs m
  | .max2 => d_max2 xs m
  | .min2 => d_min2 xs m
  | .min1 => d_min1 xs m
  | .max1 => d_max1 xs m
  | .sum => d_sum xs m
  | .isI => d_isI xs m
  | .isB => d_isB xs m
  | .isS => d_isS xs m
  | .isT => d_isT xs m
  | .isL => d_isL xs m
  | .append => d_append xs m
  | .extend => d_extend xs m
  | .index => d_index xs m
  | .count => d_count xs m
  | .sorted k => d_sorted k xs m
  | .insert => d_insert xs m
  | .rev k => d_rev k xs m
  | .addL k => d_addL k xs m
  | .mulL k => d_mulL k xs m
  | .mulT => d_mulT xs m
  | .remove => d_remove xs m
  | .repr => d_repr xs m
  | .sortedSet k => d_sortedSet k xs m
  | .lenSet => d_lenSet xs m
  | .str => d_str xs m
  | .join => d_join xs m
  | .split => d_split xs m
  | .sgnI => d_sgnI xs m
  | _ => .bad
inductive MT where
  | v (i : Nat)
  | nil
  | cons (a r : MT)
  | tup (a : MT)
inductive Itk where
  | val | range1 | range2 | enum | zip | chars | signs
inductive ME where
  | var (i : Nat) | cst (d : P) | gl (x : Str) (d : P)
  | nilA | consA (a r : ME)
  | tup (a : ME) | lst (k : Bool) (a : ME)
  | op (o : Op) (a : ME)
  | meth (o : Op) (a r : ME)
  | sl3 (k : Bool) (a b c : ME)
  | chn (o1 o2 : Op) (a b c : ME)
  | bop (isAnd : Bool) (a r : ME) | bone (a : ME) | nt (a : ME)
  | ife (c a b : ME)
  | call (k : Bool) (f : Nat) (a : ME)
  | callk (k : Bool) (f : Nat) (perm : List Nat) (a : ME)
  | lc (k : Bool) (elt : ME) (own : List Nat) (tg : MT) (ik : Itk) (it : ME) (hasIf : Bool) (tst : ME)
  | lc2 (k : Bool) (elt : ME) (own : List Nat) (tg : MT) (ik : Itk) (it : ME) (own1 : List Nat) (tg1 : MT) (ik1 : Itk) (it1 : ME)
  | said (a : ME)
  /-- tables -/
  | fldN (a : ME) | fldP (a : ME) | newT (f : Nat) (a : ME) | mcall (k : Bool) (f : Nat) (o a : ME) | mcallk (k : Bool) (f : Nat) (perm : List Nat) (o a : ME) | lenT (f : Nat) (o : ME) | reprT (f : Nat) (o : ME) | eqT (f : Nat) (o u : ME) | pop (a : ME) | isTb (o : ME)
  /-- a text that is put together -/
  | fjn (a r : ME) | fstr (r : ME)
  /-- a list, or where it is empty what follows -/
  | orv (a r : ME)
abbrev Ev := List (Option D)
abbrev CF := Bool → Nat → List D → MH → R D
mutual
def bindT : MT → P → Ev → Option Ev
  | .v i, d, env => some (env.set i (some (.p d)))
  | .tup a, .tuple ds, env => bindTs a ds env
  | .tup _, _, _ => none
  | .nil, _, _ => none
  | .cons _ _, _, _ => none
def bindTs : MT → List P → Ev → Option Ev
  | .nil, [], env => some env
  | .cons a r, d :: ds, env => (match bindT a d env with | some e => bindTs r ds e | none => none)
  | _, _, _ => none
end
def wipeE (env : Ev) : List Nat → Ev
  | [] => env
  | v :: vs => (wipeE env vs).set v none
def rangeP (lo : Int) : Nat → List P
  | 0 => []
  | n + 1 => .int lo :: rangeP (lo + 1) n
def enumP : Nat → List P → List P
  | _, [] => []
  | i, d :: r => .tuple [.int i, d] :: enumP (i + 1) r
def zipP : List P → List P → List P
  | a :: r, b :: s => .tuple [a, b] :: zipP r s
  | _, _ => []
def big62 (i : Int) : Bool := decide (-(2 ^ 62) ≤ i) && decide (i < 2 ^ 62)
mutual
def beqP : P → P → Bool
  | .none, .none => true
  | .bool b, .bool c => b == c
  | .int b, .int c => decide (b = c)
  | .str b, .str c => decide (b = c)
  | .list xs, .list ys => beqPs xs ys
  | .tuple xs, .tuple ys => beqPs xs ys
  | _, _ => false
def beqPs : List P → List P → Bool
  | [], [] => true
  | x :: xs, y :: ys => beqP x y && beqPs xs ys
  | _, _ => false
end
mutual
theorem beqP_eq : ∀ (x y : P), beqP x y = true → x = y
  | .none, y, h => by cases y <;> simp [beqP] at h; rfl
  | .bool b, y, h => by cases y <;> simp [beqP] at h; rw [h]
  | .int b, y, h => by cases y <;> simp [beqP] at h; rw [h]
  | .str b, y, h => by cases y <;> simp [beqP] at h; rw [h]
  | .list xs, y, h => by
    cases y <;> simp only [beqP, Bool.false_eq_true] at h
    rw [beqPs_eq _ _ h]
  | .tuple xs, y, h => by
    cases y <;> simp only [beqP, Bool.false_eq_true] at h
    rw [beqPs_eq _ _ h]
  | .dict xs, y, h => by cases y <;> simp [beqP] at h
theorem beqPs_eq : ∀ (x y : List P), beqPs x y = true → x = y
  | [], y, h => by cases y <;> simp [beqPs] at h; rfl
  | x :: xs, y, h => by
    cases y with
    | nil => simp [beqPs] at h
    | cons z zs =>
      simp only [beqPs, Bool.and_eq_true] at h
      rw [beqP_eq _ _ h.1, beqPs_eq _ _ h.2]
end
def cellIs (n : Nat) (ds : List P) (m : MH) : Bool := match m[n]? with
  | some (.lst xs) => beqPs xs ds
  | _ => false
def always : MH → Bool := fun _ => true
abbrev Wk := Option (List P × (MH → Bool))
def i_val (xs : List D) (m : MH) : Wk := match xs with
  | [.p (.list ds)] => some (ds, always)
  | [.p (.tuple ds)] => some (ds, always)
  | [.ref n] => (match m[n]? with | some (.lst ds) => some (ds, cellIs n ds) | _ => none)
  | _ => none
def i_chars (xs : List D) : Wk := match xs with
  | [.p (.str z)] => some (z.cps.toList.map fun c => PyData.str ⟨#[c]⟩, always)
  | _ => none
def i_signs (xs : List D) : Wk := match xs with
  | [] => some (SgnKV.map fun p => PyData.tuple [.str p.1, .str p.2], always)
  | _ => none
def i_range1 (xs : List D) : Wk := match xs with
  | [.p (.int n)] => if big62 n then some (rangeP 0 n.toNat, always) else none
  | _ => none
def i_range2 (xs : List D) : Wk := match xs with
  | [.p (.int a), .p (.int b)] => if big62 a && big62 b then some (rangeP a (b - a).toNat, always) else none
  | _ => none
def i_enum (xs : List D) (m : MH) : Wk := match xs with
  | [.p (.list ds)] => some (enumP 0 ds, always)
  | [.p (.tuple ds)] => some (enumP 0 ds, always)
  | [.ref n] => (match m[n]? with | some (.lst ds) => some (enumP 0 ds, cellIs n ds) | _ => none)
  | _ => none
def i_zip (xs : List D) (m : MH) : Wk := match xs with
  | [.p (.list a), .p (.list b)] => some (zipP a b, always)
  | [.p (.tuple a), .p (.tuple b)] => some (zipP a b, always)
  | [.ref n, .p (.list b)] => (match m[n]? with | some (.lst ds) => some (zipP ds b, cellIs n ds) | _ => none)
  | _ => none
def iterD (ik : Itk) (xs : List D) (m : MH) : Wk := match ik with
  | .val => i_val xs m
  | .range1 => i_range1 xs
  | .range2 => i_range2 xs
  | .enum => i_enum xs m
  | .zip => i_zip xs m
  | .chars => i_chars xs
  | .signs => i_signs xs
def lcGo (ck : MH → Bool) (f : P → MH → R (Option P)) : List P → MH → R (List P)
  | [], m => if ck m then .ok [] m else .bad
  | d :: r, m => if ck m then (f d m).bind fun o m1 => (lcGo ck f r m1).bind fun acc m2 => .ok (match o with | some x => x :: acc | none => acc) m2 else .bad
def lcCat (ck : MH → Bool) (f : P → MH → R (List P)) : List P → MH → R (List P)
  | [], m => if ck m then .ok [] m else .bad
  | d :: r, m => if ck m then (f d m).bind fun o m1 => (lcCat ck f r m1).bind fun acc m2 => .ok (o ++ acc) m2 else .bad
def oneP (y : List D) (m : MH) : R (Option P) := match y with
  | [.p e] => .ok (some e) m
  | _ => .bad
def truth (xs : List D) : Option Bool := match xs with
  | [.p (.bool b)] => some b
  | _ => none
def isLst (d : D) (m : MH) : Bool := match d with
  | .p (.list _) => true
  | .ref n => (match m[n]? with | some (.lst _) => true | _ => false)
  | _ => false
def isTxt (d : D) : Bool := match d with
  | .p (.str _) => true
  | _ => false
def recvOk (o : Op) (d : D) (m : MH) : Bool := match o with
  | .append => isLst d m
  | .extend => isLst d m
  | .index => isLst d m
  | .count => isLst d m
  | .insert => isLst d m
  | .remove => isLst d m
  | .popAt => isLst d m
  | .join => isTxt d
  | .split => isTxt d
  | _ => false
def permD : List Nat → List D → Option (List D)
  | [], _ => some []
  | i :: r, xs => (match xs[i]?, permD r xs with
    | some d, some l => some (d :: l)
    | _, _ => none)
def fewW (i j : Int) : Str := (Str.ofString "! " ++ Str.ofString "few") ++ (((Str.ofString " " ++ Str.ofString (toString i)) ++ Str.ofString " ") ++ Str.ofString (toString j))
def wordX (c : Nat) (fs : List P) : Option Str := match fs with
  | [] => (match c with
    | 1 => some "! board" | 2 => some "! pins" | 3 => some "! pin" | 4 => some "! look" | 5 => some "! number" | 6 => some "! stand"
    | 7 => some "! row" | 8 => some "! laid" | 9 => some "! deed" | 10 => some "! text" | 11 => some "! line" | _ => none)
  | [.int i, .int j] => if decide (c = 12) && decide (i.natAbs.log2 < 1920) && decide (j.natAbs.log2 < 1920) && decide ((fewW i j).length ≤ 100000) then some (fewW i j) else none
  | _ => none
def saidR (r : R (List D)) : R (List D) := match r with
  | .ok xs m => d_repr xs m
  | .exc c fs m => (match wordX c fs with
    | some w => ok1 (.str w) m
    | none => .bad)
  | .bad => .bad
def isTab (d : D) (m : MH) : Bool := match d with
  | .ref n => (match m[n]? with | some (.tab _) => true | _ => false)
  | _ => false
def glD : P → D
  | .tuple ds => .kt ds
  | d => .p d
def ev (cf : CF) : ME → Ev → MH → R (List D)
  | .var i, env, m => (match env[i]? with | some (some d) => .ok [d] m | _ => .bad)
  | .cst d, _, m => .ok [.p d] m
  | .gl _ d, _, m => .ok [glD d] m
  | .nilA, _, m => .ok [] m
  | .consA a r, env, m => (ev cf a env m).bind fun x m1 => (match x with
    | [d] => (ev cf r env m1).bind fun y m2 => .ok (d :: y) m2
    | _ => .bad)
  | .tup a, env, m => (ev cf a env m).bind fun xs m1 => (match pures xs with | some ds => ok1 (.tuple ds) m1 | none => .bad)
  | .lst k a, env, m => (ev cf a env m).bind fun xs m1 => (match pures xs with | some ds => mkL k ds m1 | none => .bad)
  | .op o a, env, m => (ev cf a env m).bind fun xs m1 => opD o xs m1
  | .meth o a r, env, m => (ev cf a env m).bind fun x m1 => (match x with
    | [d] => if recvOk o d m1 then (ev cf r env m1).bind fun ys m2 => opD o (d :: ys) m2 else .bad
    | _ => .bad)
  | .sl3 k a b c, env, m => (ev cf a env m).bind fun x m1 => (match x with
    | [d] => (ev cf b env m1).bind fun y m2 => (match y with
      | [.p (.int i)] => (ev cf c env m2).bind fun z m3 => (match z with
        | [.p (.int j)] => slice k d (some i) (some j) m3
        | _ => .bad)
      | _ => .bad)
    | _ => .bad)
  | .chn o1 o2 a b c, env, m => (ev cf a env m).bind fun x m1 => (match x with
    | [x1] => (ev cf b env m1).bind fun y m2 => (match y with
      | [y1] => (opD o1 [x1, y1] m2).bind fun z m3 => (match truth z with
        | some true => (ev cf c env m3).bind fun w m4 => (match w with
          | [w1] => opD o2 [y1, w1] m4
          | _ => .bad)
        | some false => ok1 (.bool false) m3
        | none => .bad)
      | _ => .bad)
    | _ => .bad)
  | .bop isAnd a r, env, m => (ev cf a env m).bind fun x m1 => (match truth x with
    | some c => if c == isAnd then ev cf r env m1 else ok1 (.bool c) m1
    | none => .bad)
  | .bone a, env, m => ev cf a env m
  | .nt a, env, m => (ev cf a env m).bind fun x m1 => (match truth x with | some c => ok1 (.bool (!c)) m1 | none => .bad)
  | .ife c a b, env, m => (ev cf c env m).bind fun x m1 => (match truth x with
    | some true => ev cf a env m1
    | some false => ev cf b env m1
    | none => .bad)
  | .call k f a, env, m => (ev cf a env m).bind fun xs m1 => (cf k f xs m1).bind fun d m2 => .ok [d] m2
  | .callk k f perm a, env, m => (ev cf a env m).bind fun xs m1 => (match permD perm xs with
    | some ds => (cf k f ds m1).bind fun d m2 => .ok [d] m2
    | none => .bad)
  | .lc k elt own tg ik it hasIf tst, env, m => (ev cf it env m).bind fun xs m1 => (match iterD ik xs m1 with
    | none => .bad
    | some (items, ck) => (lcGo ck (fun d m2 => (match bindT tg d (wipeE env own) with
        | none => .bad
        | some env2 => (match hasIf with
          | false => (ev cf elt env2 m2).bind oneP
          | true => (ev cf tst env2 m2).bind fun t m3 => (match truth t with
            | some true => (ev cf elt env2 m3).bind oneP
            | some false => .ok none m3
            | none => .bad)))) items m1).nox.bind fun ds m5 => if ds.length ≤ 100000 then mkL k ds m5 else .bad)
  | .lc2 k elt own tg ik it own1 tg1 ik1 it1, env, m => (ev cf it env m).bind fun xs m1 => (match iterD ik xs m1 with
    | none => .bad
    | some (items, ck) => (lcCat ck (fun d m2 => (match bindT tg d (wipeE env own) with
        | none => .bad
        | some env2 => (ev cf it1 env2 m2).bind fun ys m3 => (match iterD ik1 ys m3 with
          | none => .bad
          | some (items1, ck1) => lcGo ck1 (fun d1 m4 => (match bindT tg1 d1 (wipeE env2 own1) with
            | none => .bad
            | some env3 => (ev cf elt env3 m4).bind oneP)) items1 m3))) items m1).nox.bind fun ds m5 => if ds.length ≤ 100000 then mkL k ds m5 else .bad)
  | .said a, env, m => saidR (ev cf a env m)
  | .fldN a, env, m => (ev cf a env m).bind fun x m1 => (match x with
    | [.ref n] => (match m1[n]? with | some (.tab d) => ok1 d m1 | _ => .bad)
    | _ => .bad)
  | .fldP a, env, m => (ev cf a env m).bind fun x m1 => (match x with
    | [.ref (n + 1)] => (match m1[n + 1]? with | some (.tab _) => .ok [.ref n] m1 | _ => .bad)
    | _ => .bad)
  | .newT f a, env, m => (ev cf a env m).bind fun xs m1 => (match xs with
    | [.p d] => (cf false f [.p d] m1).bind fun _ m2 => .ok [.ref (m2.length + 1)] (m2 ++ [.lst [], .tab (.tuple [d, .none])])
    | _ => .bad)
  | .mcall k f o a, env, m => (ev cf o env m).bind fun x m1 => (match x with
    | [d] => if isTab d m1 then (ev cf a env m1).bind fun ys m2 => (cf k f (d :: ys) m2).bind fun r m3 => .ok [r] m3 else .bad
    | _ => .bad)
  | .mcallk k f perm o a, env, m => (ev cf o env m).bind fun x m1 => (match x with
    | [d] => if isTab d m1 then (ev cf a env m1).bind fun ys m2 => (match permD perm ys with
      | some ds => (cf k f (d :: ds) m2).bind fun r m3 => .ok [r] m3
      | none => .bad) else .bad
    | _ => .bad)
  | .lenT f o, env, m => (ev cf o env m).bind fun x m1 => (match x with
    | [d] => if isTab d m1 then (cf false f [d] m1).bind fun r m2 => (match r with | .p (.int i) => if decide (0 ≤ i) && decide (i ≤ 100000) then ok1 (.int i) m2 else .bad | _ => .bad) else .bad
    | _ => .bad)
  | .reprT f o, env, m => (ev cf o env m).bind fun x m1 => (match x with
    | [d] => if isTab d m1 then (cf false f [d] m1).bind fun r m2 => (match r with | .p (.str z) => if z.length ≤ 100000 then ok1 (.str z) m2 else .bad | _ => .bad) else .bad
    | _ => .bad)
  | .eqT f o u, env, m => (ev cf o env m).bind fun x m1 => (match x with
    | [d] => (ev cf u env m1).bind fun y m2 => (match y with
      | [e] => if isTab d m2 && isTab e m2 then (cf false f [d, e] m2).bind fun r m3 => (match r with | .p (.bool b) => ok1 (.bool b) m3 | _ => .bad) else .bad
      | _ => .bad)
    | _ => .bad)
  | .pop a, env, m => (ev cf a env m).bind fun x m1 => (match x with
    | [.ref n] => (match m1[n]? with
      | some (.lst ds) => (match ds[ds.length - 1]? with | some d => .ok [.p d] (m1.set n (.lst ds.dropLast)) | none => .bad)
      | _ => .bad)
    | _ => .bad)
  | .isTb o, env, m => (ev cf o env m).bind fun x m1 => (match x with
    | [d] => if isTab d m1 then ok1 (.bool true) m1 else .bad
    | _ => .bad)
  | .fjn a r, env, m => (ev cf a env m).bind fun x m1 => (match x with
    | [d] => (match fmtD d with
      | some s => (ev cf r env m1).bind fun y m2 => .ok (.p (.str s) :: y) m2
      | none => .bad)
    | _ => .bad)
  | .fstr r, env, m => (ev cf r env m).bind fun xs m1 => (match catD Str.empty xs with | some s => ok1 (.str s) m1 | none => .bad)
  | .orv a r, env, m => (ev cf a env m).bind fun x m1 => (match x with
    | [.p (.list ds)] => if ds.isEmpty then ev cf r env m1 else .ok [.p (.list ds)] m1
    | _ => .bad)
end M
namespace M
open PySem PySem.Spec PyProof.Rows L2
def CntO (a : Addr) (n : Nat) : HO := .ext fun h => ∃ D : PySem.Froz.SD, h.get? a = some (PySem.Froz.sObj "set" D) ∧ D.1.size = n ∧ D.2.2.fits D.1.size = true
def Nt (H : Hp) (a : Addr) (o : HO) : Prop := H a = some o ∧ ∀ ps, o ≠ .tbl ps
def At (ex : List Addr) (H : Hp) (a : Addr) (o : HO) : Prop := Nt H a o ∧ a ∉ ex
theorem Nt.upd {H : Hp} {a p : Addr} {o u : HO} (h : Nt H a o) (n : a ≠ p) : Nt (L2.upd H p u) a o := ⟨by rw [upd_ne n]; exact h.1, h.2⟩
theorem Nt.ne {H : Hp} {a : Addr} {o : HO} (h : Nt H a o) : H a ≠ none := by rw [h.1]; exact fun z => nomatch z
theorem Nt.fr0 {H : Hp} {a : Addr} {o : HO} (h : Nt H a o) (z : Fr0 H a) : False := by
  obtain ⟨ps, e⟩ := z o h.1
  exact h.2 ps e
theorem nt_lst {H : Hp} {a : Addr} {xs : List V} (e : H a = some (.lst xs)) : Nt H a (.lst xs) := ⟨e, fun _ z => nomatch z⟩
def lamNames : List Str := ["_law_pins_right", "_law_boards_right", "_law_looks_right", "_law_stand_words", "_law_pin_words", "law", "_law_words", "_law_seen", "_law_do", "_law_undone_right", "_law_right"]
def lamIn (K : PySem.W.Frag) (n : Str) : Bool := PySem.W.codeHdIn K (He.cT K (n, none)).1 (He.cT K (n, none)).2
def tabsOf (K : PySem.W.Frag) : List (Addr × Str) := (lamNames.filter fun n => lamIn K n).map fun n => ((He.cT K (n, none)).2, n ++ ".<locals>." ++ "<lambda>")
def KL (K : PySem.W.Frag) (a : Addr) (xs : List V) : Prop :=
  ∃ (o : Obj) (its : Array Value) (n : Nat), K.lookup a = some o ∧ o.cls = .type "list" ∧ o.dict = none ∧ o.data = .seq its n ∧ its.size ≤ sizeLine ∧ Vals xs its.toList
def KT (K : PySem.W.Frag) (a : Addr) (xs : List V) : Prop :=
  ∃ (o : Obj) (its : Array Value) (n : Nat), K.lookup a = some o ∧ o.cls = .type "tuple" ∧ o.data = .seq its n ∧ its.size ≤ sizeLine ∧ Vals xs its.toList
def LOk (_K : PySem.W.Frag) (ex : List Addr) (H : Hp) (a : Addr) (xs : List V) : Prop := At ex H a (.lst xs)
def ROk (K : PySem.W.Frag) (ex : List Addr) (H : Hp) (a : Addr) (xs : List V) : Prop := (∃ o, At ex H a (.frz o (.lst xs))) ∨ KL K a xs
def TOk (_K : PySem.W.Frag) (ex : List Addr) (H : Hp) (a : Addr) (xs : List V) : Prop := At ex H a (.tup xs)
section
variable {K : PySem.W.Frag} {ex ex' : List Addr} {H H' : Hp} {a : Addr} {xs : List V}
theorem LOk.sq (h : LOk K ex H a xs) : SqL K H a xs := .inl (.inl h.1.1)
theorem ROk.sq (h : ROk K ex H a xs) : SqL K H a xs := by
  rcases h with ⟨o, h⟩ | h
  · exact .inl (.inr ⟨o, h.1.1⟩)
  · exact .inr h
theorem TOk.sq (h : TOk K ex H a xs) : SqT K H a xs := .inl (.inl h.1.1)
theorem KT.sq (h : KT K a xs) : SqT K H a xs := .inr h
theorem LOk.mono (k : ∀ a o, At ex H a o → At ex' H' a o) (h : LOk K ex H a xs) : LOk K ex' H' a xs := k _ _ h
theorem ROk.mono (k : ∀ a o, At ex H a o → At ex' H' a o) (h : ROk K ex H a xs) : ROk K ex' H' a xs := by
  rcases h with ⟨o, h⟩ | h
  · exact .inl ⟨o, k _ _ h⟩
  · exact .inr h
theorem TOk.mono (k : ∀ a o, At ex H a o → At ex' H' a o) (h : TOk K ex H a xs) : TOk K ex' H' a xs := k _ _ h
end
def iks : List (PyData × PyData) → Option (List (Key × V))
  | [] => some []
  | (.int i, .int j) :: r => (match iks r with | some l => some ((.inl i, .int j) :: l) | none => none)
  | _ :: _ => none
mutual
def RP (K : PySem.W.Frag) (ex : List Addr) (H : Hp) : PyData → V → Prop
  | .none, v => v = .non
  | .bool b, v => v = .bl b
  | .int i, v => v = .int i
  | .str x, v => v = .str x
  | .list ds, v => ∃ a xs, v = .ref a ∧ LOk K ex H a xs ∧ RPs K ex H ds xs
  | .tuple ds, v => ∃ a xs, v = .ref a ∧ TOk K ex H a xs ∧ RPs K ex H ds xs
  | .dict kvs, v => ∃ ls, iks kvs = some ls ∧ ∃ a, v = .ref a ∧ At ex H a (.dK ls)
def RPs (K : PySem.W.Frag) (ex : List Addr) (H : Hp) : List PyData → List V → Prop
  | [], vs => vs = []
  | d :: ds, vs => ∃ v r, vs = v :: r ∧ RP K ex H d v ∧ RPs K ex H ds r
end
section
variable {K : PySem.W.Frag} {ex ex' : List Addr} {H H' : Hp}
def NoIns (o : HO) : Prop := ∀ C dx fs, o ≠ .ins C dx fs
mutual
theorem RP.mono2 (k : ∀ a o, NoIns o → At ex H a o → At ex' H' a o) : ∀ (d : PyData) (v : V), RP K ex H d v → RP K ex' H' d v
  | .none, v, h => by simp only [RP] at h ⊢; exact h
  | .bool b, v, h => by simp only [RP] at h ⊢; exact h
  | .int i, v, h => by simp only [RP] at h ⊢; exact h
  | .str x, v, h => by simp only [RP] at h ⊢; exact h
  | .list ds, v, h => by
    simp only [RP] at h ⊢
    obtain ⟨a, xs, e, l, r⟩ := h
    exact ⟨a, xs, e, k _ _ (fun _ _ _ z => nomatch z) l, RPs.mono2 k ds xs r⟩
  | .tuple ds, v, h => by
    simp only [RP] at h ⊢
    obtain ⟨a, xs, e, l, r⟩ := h
    exact ⟨a, xs, e, k _ _ (fun _ _ _ z => nomatch z) l, RPs.mono2 k ds xs r⟩
  | .dict _, v, h => by
    simp only [RP] at h ⊢
    obtain ⟨ls, e, a, e2, l⟩ := h
    exact ⟨ls, e, a, e2, k _ _ (fun _ _ _ z => nomatch z) l⟩
theorem RPs.mono2 (k : ∀ a o, NoIns o → At ex H a o → At ex' H' a o) : ∀ (ds : List PyData) (vs : List V), RPs K ex H ds vs → RPs K ex' H' ds vs
  | [], vs, h => by simp only [RPs] at h ⊢; exact h
  | d :: ds, vs, h => by
    simp only [RPs] at h ⊢
    obtain ⟨v, r, e, h1, h2⟩ := h
    exact ⟨v, r, e, RP.mono2 k d v h1, RPs.mono2 k ds r h2⟩
end
theorem RP.mono (k : ∀ a o, At ex H a o → At ex' H' a o) (d : PyData) (v : V) (h : RP K ex H d v) : RP K ex' H' d v := RP.mono2 (fun a o _ => k a o) d v h
theorem RPs.mono (k : ∀ a o, At ex H a o → At ex' H' a o) (ds : List PyData) (vs : List V) (h : RPs K ex H ds vs) : RPs K ex' H' ds vs := RPs.mono2 (fun a o _ => k a o) ds vs h
def SmB (h : Heap) : Prop := ∃ o es n, h.get? sysModules = some o ∧ o.data = .dict es n
mutual
/-- a value lies as data in the heap (an empty dict too) -/
inductive Dq (K : PySem.W.Frag) (H : Hp) : V → PyData → Prop
  | non : Dq K H .non .none
  | bl (b : Bool) : Dq K H (.bl b) (.bool b)
  | int (i : Int) : Dq K H (.int i) (.int i)
  | str (x : Str) : Dq K H (.str x) (.str x)
  | lst {a : Addr} {xs : List V} {ds : List PyData} : SqL K H a xs → DqAll K H xs ds → Dq K H (.ref a) (.list ds)
  | tup {a : Addr} {xs : List V} {ds : List PyData} : SqT K H a xs → DqAll K H xs ds → Dq K H (.ref a) (.tuple ds)
  | dic {a : Addr} {kvs : List (PyData × PyData)} {ls : List (Key × V)} : iks kvs = some ls → Rd H a (.dK ls) → Dq K H (.ref a) (.dict kvs)
inductive DqAll (K : PySem.W.Frag) (H : Hp) : List V → List PyData → Prop
  | nil : DqAll K H [] []
  | cons {v : V} {vs : List V} {d : PyData} {ds : List PyData} : Dq K H v d → DqAll K H vs ds → DqAll K H (v :: vs) (d :: ds)
end
mutual
theorem RP.dp : ∀ (d : PyData) (v : V), RP K ex H d v → Dq K H v d
  | .none, v, h => by simp only [RP] at h; subst h; exact .non
  | .bool b, v, h => by simp only [RP] at h; subst h; exact .bl b
  | .int i, v, h => by simp only [RP] at h; subst h; exact .int i
  | .str x, v, h => by simp only [RP] at h; subst h; exact .str x
  | .list ds, v, h => by
    simp only [RP] at h
    obtain ⟨a, xs, rfl, l, r⟩ := h
    exact .lst l.sq (RPs.dp ds xs r)
  | .tuple ds, v, h => by
    simp only [RP] at h
    obtain ⟨a, xs, rfl, l, r⟩ := h
    exact .tup l.sq (RPs.dp ds xs r)
  | .dict _, v, h => by
    simp only [RP] at h
    obtain ⟨ls, e, a, rfl, l⟩ := h
    exact .dic e (.inl l.1.1)
theorem RPs.dp : ∀ (ds : List PyData) (vs : List V), RPs K ex H ds vs → DqAll K H vs ds
  | [], vs, h => by simp only [RPs] at h; subst h; exact .nil
  | d :: ds, vs, h => by
    simp only [RPs] at h
    obtain ⟨v, r, rfl, h1, h2⟩ := h
    exact .cons (RP.dp d v h1) (RPs.dp ds r h2)
end
section
variable {X : Cx} {pins : List (Addr × Obj)} {sg : L2.St} {H : Hp} {s : Shared}
theorem iks_reads {P : Program} {w : World} {h : Heap} : ∀ {kvs : List (PyData × PyData)} {ls : List (Key × V)} {vs : List (Key × Value)} {es : List DictEntry}, iks kvs = some ls → KV ls vs → Pairs (mixKind P w) es vs → ReadsAll h (es.map fun x => x.key) (kvs.map fun x => x.1) [] ∧ ReadsAll h (es.map fun x => x.val) (kvs.map fun x => x.2) []
  | [], ls, vs, es, e, k, p => by
    simp only [iks, Option.some.injEq] at e
    subst e
    cases k
    cases p
    exact ⟨.nil, .nil⟩
  | (.int i, .int j) :: r, ls, vs, es, e, k, p => by
    simp only [iks] at e
    split at e
    · rename_i l e2
      simp only [Option.some.injEq] at e
      subst e
      cases k with
      | cons k1 k2 =>
        cases p with
        | cons p1 p2 p3 =>
          obtain ⟨r1, r2⟩ := iks_reads (h := h) e2 k2 p3
          obtain ⟨q1, q2⟩ := k1
          rw [← q1] at p1
          obtain ⟨t2, ev⟩ := q2
          rcases keyIs_shape (show keyIs (.inl i) _ = true from p1) with ⟨i2, t1, e1, ek⟩ | ⟨x, t1, e1, ek⟩
          · cases e1
            refine ⟨?_, ?_⟩
            · rw [List.map_cons, List.map_cons, ek]
              exact .cons (.int i t1) r1
            · rw [List.map_cons, List.map_cons, p2, ev]
              exact .cons (.int j t2) r2
          · cases e1
    · cases e
theorem dic_reads (I : L2.Inv X pins sg H s) {a : Addr} {kvs : List (PyData × PyData)} {ls : List (Key × V)} (e0 : iks kvs = some ls) (q : Rd H a (.dK ls)) : Reads s.heap (.ref a) (.dict kvs) [a] ∧ (a == sysModules) = false := by
  obtain ⟨_, nd, vs, e, D⟩ := dk_rd I.hok q
  obtain ⟨o, es, ep, e1, e2, e3, _, e4, _⟩ := D
  obtain ⟨er, er2⟩ := iks_reads e0 e e4
  exact ⟨.dict e1 e2.1 e3 er er2, nd⟩
end
section
variable {X : Cx} {pins : List (Addr × Obj)} {sg : L2.St} {H : Hp} {s : Shared}
mutual
theorem Dq.reads (I : L2.Inv X pins sg H s) : ∀ (d : PyData) (v : V) (u : Value), Dq X.K H v d → RelV v u → ∃ as, Reads s.heap u d as
  | .none, v, u, h, r => by cases h; cases r; exact ⟨_, .none⟩
  | .bool b, v, u, h, r => by cases h; cases r; exact ⟨_, .bool _⟩
  | .int b, v, u, h, r => by cases h; obtain ⟨t, rfl⟩ := r; exact ⟨_, .int _ _⟩
  | .str b, v, u, h, r => by cases h; obtain ⟨t, rfl⟩ := r; exact ⟨_, .str _ _⟩
  | .list ds, v, u, h, r => by
    cases h with
    | lst q z =>
      cases r
      obtain ⟨its, rv, pl, _⟩ := I.list q
      obtain ⟨as, rd⟩ := Dq.readsAll I ds _ its z rv
      obtain ⟨o, n, e1, e2, e3, e4⟩ := pl
      exact ⟨_, .list e1 e2 e4 (by simpa using rd)⟩
  | .tuple ds, v, u, h, r => by
    cases h with
    | tup q z =>
      cases r
      obtain ⟨its, rv, pl, _⟩ := I.tuple q
      obtain ⟨as, rd⟩ := Dq.readsAll I ds _ its z rv
      obtain ⟨o, e1, e2, n, e3⟩ := pl
      exact ⟨_, .tuple e1 e2 e3 (by simpa using rd)⟩
  | .dict kvs, v, u, h, r => by
    cases h with
    | dic e q =>
      cases r
      exact ⟨_, (dic_reads I e q).1⟩
theorem Dq.readsAll (I : L2.Inv X pins sg H s) : ∀ (ds : List PyData) (vs : List V) (us : List Value), DqAll X.K H vs ds → Vals vs us → ∃ as, ReadsAll s.heap us ds as
  | [], vs, us, h, r => by
    cases h
    cases r
    exact ⟨_, .nil⟩
  | d :: ds, vs, us, h, r => by
    cases h with
    | cons h1 h2 =>
      cases r with
      | cons r1 r2 =>
        obtain ⟨as, q1⟩ := Dq.reads I d _ _ h1 r1
        obtain ⟨bs, q2⟩ := Dq.readsAll I ds _ _ h2 r2
        exact ⟨_, .cons q1 q2⟩
end
end
section
variable {X : Cx} {pins : List (Addr × Obj)} {sg : L2.St} {H : Hp} {s : Shared}
theorem sq_sm (I : L2.Inv X pins sg H s) (sm : SmB X.base) {a : Addr} {xs : List V} (q : SqL X.K H a xs) : a ≠ sysModules := fun e => by
  subst e
  obtain ⟨o, es, n, h1, h2⟩ := sm
  obtain ⟨b1, b2⟩ := I.bs _ _ h1
  rcases q with (q | ⟨u, q⟩) | ⟨o2, its, n2, k1, k2, k3, k4, _⟩
  · rw [b2] at q; cases q
  · rw [b2] at q; cases q
  · have k := I.mod.kin _ _ k1
    rw [h1] at k
    cases k
    rw [h2] at k4
    cases k4
mutual
theorem Dq.reads2 (I : L2.Inv X pins sg H s) (sm : SmB X.base) : ∀ (d : PyData) (n : Nat) (v : V) (u : Value), dlt d n = true → Dq X.K H v d → RelV v u → ∃ as, Reads s.heap u d as ∧ sysModules ∉ as
  | .none, _, v, u, _, h, r => by cases h; cases r; exact ⟨_, .none, by simp⟩
  | .bool b, _, v, u, _, h, r => by cases h; cases r; exact ⟨_, .bool _, by simp⟩
  | .int b, _, v, u, _, h, r => by cases h; obtain ⟨t, rfl⟩ := r; exact ⟨_, .int _ _, by simp⟩
  | .str b, _, v, u, _, h, r => by cases h; obtain ⟨t, rfl⟩ := r; exact ⟨_, .str _ _, by simp⟩
  | .list ds, 0, v, u, c, h, r => by simp [dlt] at c
  | .list ds, n + 1, v, u, c, h, r => by
    cases h with
    | lst q z =>
      cases r
      simp only [dlt] at c
      have ne := sq_sm I sm q
      obtain ⟨its, rv, pl, _⟩ := I.list q
      obtain ⟨as, rd, no⟩ := Dq.readsAll2 I sm ds n _ its c z rv
      obtain ⟨o, n, e1, e2, e3, e4⟩ := pl
      exact ⟨_, .list e1 e2 e4 (by simpa using rd), fun z => (List.mem_cons.mp z).elim (fun e => ne e.symm) no⟩
  | .tuple ds, 0, v, u, c, h, r => by simp [dlt] at c
  | .tuple ds, n + 1, v, u, c, h, r => by
    cases h with
    | tup q z =>
      cases r
      simp only [dlt] at c
      obtain ⟨its, rv, pl, _⟩ := I.tuple q
      obtain ⟨as, rd, no⟩ := Dq.readsAll2 I sm ds n _ its c z rv
      obtain ⟨o, e1, e2, n, e3⟩ := pl
      exact ⟨_, .tuple e1 e2 e3 (by simpa using rd), no⟩
  | .dict kvs, _, v, u, _, h, r => by
    cases h with
    | dic e q =>
      cases r
      obtain ⟨h1, h2⟩ := dic_reads I e q
      refine ⟨_, h1, fun z => ?_⟩
      have z := List.mem_singleton.mp z
      rw [← z] at h2
      simp at h2
theorem Dq.readsAll2 (I : L2.Inv X pins sg H s) (sm : SmB X.base) : ∀ (ds : List PyData) (n : Nat) (vs : List V) (us : List Value), dlts ds n = true → DqAll X.K H vs ds → Vals vs us → ∃ as, ReadsAll s.heap us ds as ∧ sysModules ∉ as
  | [], _, vs, us, _, h, r => by
    cases h
    cases r
    exact ⟨_, .nil, by simp⟩
  | d :: ds, n, vs, us, c, h, r => by
    simp only [dlts, Bool.and_eq_true] at c
    cases h with
    | cons h1 h2 =>
      cases r with
      | cons r1 r2 =>
        obtain ⟨as, q1, n1⟩ := Dq.reads2 I sm d n _ _ c.1 h1 r1
        obtain ⟨bs, q2, n2⟩ := Dq.readsAll2 I sm ds n _ _ c.2 h2 r2
        exact ⟨_, .cons q1 q2, fun z => (List.mem_append.mp z).elim n1 n2⟩
end
end
theorem RPs.len : ∀ {ds : List PyData} {vs : List V}, RPs K ex H ds vs → vs.length = ds.length
  | [], vs, h => by simp only [RPs] at h; subst h; rfl
  | d :: ds, vs, h => by
    simp only [RPs] at h
    obtain ⟨v, r, rfl, h1, h2⟩ := h
    simp only [List.length_cons]
    rw [RPs.len h2]
theorem RPs.get : ∀ {ds : List PyData} {vs : List V} {i : Nat} {d : PyData}, RPs K ex H ds vs → ds[i]? = some d → ∃ v, vs[i]? = some v ∧ RP K ex H d v
  | [], vs, i, d, h, e => by simp at e
  | d0 :: ds, vs, i, d, h, e => by
    simp only [RPs] at h
    obtain ⟨v, r, rfl, h1, h2⟩ := h
    cases i with
    | zero =>
      simp only [List.getElem?_cons_zero, Option.some.injEq] at e
      subst e
      exact ⟨v, rfl, h1⟩
    | succ i => exact RPs.get (i := i) h2 (by simpa using e)
theorem RPs.geti : ∀ {ds : List PyData} {vs : List V} {i : Nat} {v : V}, RPs K ex H ds vs → vs[i]? = some v → ∃ d, ds[i]? = some d ∧ RP K ex H d v := fun {ds vs i v} h e => by
  have hl := RPs.len h
  have hi : i < ds.length := by rw [← hl]; exact (List.getElem?_eq_some_iff.mp e).1
  obtain ⟨v', e', r⟩ := RPs.get h (List.getElem?_eq_getElem hi)
  rw [e] at e'
  cases e'
  exact ⟨_, List.getElem?_eq_getElem hi, r⟩
theorem RPs.append : ∀ {ds es : List PyData} {vs ws : List V}, RPs K ex H ds vs → RPs K ex H es ws → RPs K ex H (ds ++ es) (vs ++ ws)
  | [], es, vs, ws, h, q => by simp only [RPs] at h; subst h; exact q
  | d :: ds, es, vs, ws, h, q => by
    simp only [RPs] at h
    obtain ⟨v, r, rfl, h1, h2⟩ := h
    simp only [List.cons_append, RPs]
    exact ⟨v, r ++ ws, rfl, h1, RPs.append h2 q⟩
theorem RPs.take : ∀ {ds : List PyData} {vs : List V} (n : Nat), RPs K ex H ds vs → RPs K ex H (ds.take n) (vs.take n)
  | [], vs, n, h => by simp only [RPs] at h; subst h; simp [RPs]
  | d :: ds, vs, 0, h => by simp [RPs]
  | d :: ds, vs, n + 1, h => by
    simp only [RPs] at h
    obtain ⟨v, r, rfl, h1, h2⟩ := h
    simp only [List.take_succ_cons, RPs]
    exact ⟨v, r.take n, rfl, h1, RPs.take n h2⟩
theorem RPs.drop : ∀ {ds : List PyData} {vs : List V} (n : Nat), RPs K ex H ds vs → RPs K ex H (ds.drop n) (vs.drop n)
  | [], vs, n, h => by simp only [RPs] at h; subst h; simp [RPs]
  | d :: ds, vs, 0, h => by simpa using h
  | d :: ds, vs, n + 1, h => by
    simp only [RPs] at h
    obtain ⟨v, r, rfl, h1, h2⟩ := h
    simp only [List.drop_succ_cons]
    exact RPs.drop n h2
theorem RPs.one {d : PyData} {v : V} (h : RP K ex H d v) : RPs K ex H [d] [v] := by
  simp only [RPs]
  exact ⟨v, [], rfl, h, rfl⟩
end
def tabC (K : PySem.W.Frag) : Addr := He.ga K "Table"
def tabF (v : V) (l : Addr) : List (Str × V) := [("now", v), ("past", .ref l)]
def COk (K : PySem.W.Frag) (ex : List Addr) (H : Hp) (a : Addr) (pl : Option Addr) : Cell → Prop
  | .lst ds => ∃ xs, H a = some (.lst xs) ∧ RPs K ex H ds xs
  | .tab now => ∃ dx v l, pl = some l ∧ H a = some (.ins (tabC K) dx (tabF v l)) ∧ RP K ex H now v
def prv (rho : List Addr) : Nat → Option Addr
  | 0 => none
  | i + 1 => rho[i]?
structure Rel (K : PySem.W.Frag) (rho gh : List Addr) (m : MH) (H : Hp) : Prop where
  len : rho.length = m.length
  nd : rho.Nodup
  gho : ∀ a ∈ gh, (∃ xs, H a = some (.lst xs)) ∧ a ∉ rho
  cell : ∀ (i : Nat) (a : Addr) (c : Cell), rho[i]? = some a → m[i]? = some c → COk K (rho ++ gh) H a (prv rho i) c
  tabs : LamX.Tabs (tabsOf K) H
structure Ext (rho : List Addr) (H : Hp) (rho' : List Addr) (H' : Hp) : Prop where
  pre : rho <+: rho'
  new : ∀ a ∈ rho', a ∈ rho ∨ Fr0 H a
  fr : ∀ a o, Nt H a o → a ∉ rho → Nt H' a o
section
variable {K : PySem.W.Frag} {rho gh rho1 rho2 : List Addr} {m : MH} {H H1 H2 : Hp}
theorem COk.isS {ex : List Addr} {a : Addr} {pl : Option Addr} {c : Cell} (h : COk K ex H a pl c) : H a ≠ none := by
  cases c with
  | lst ds => obtain ⟨xs, e, _⟩ := h; rw [e]; exact fun z => nomatch z
  | tab d => obtain ⟨dx, v, l, _, e, _⟩ := h; rw [e]; exact fun z => nomatch z
theorem Rel.isS (r : Rel K rho gh m H) {a : Addr} (h : a ∈ rho) : H a ≠ none := by
  obtain ⟨i, hi, e⟩ := List.mem_iff_getElem.mp h
  have hm : i < m.length := by rw [← r.len]; exact hi
  exact (r.cell i a m[i] (by rw [List.getElem?_eq_getElem hi, e]) (List.getElem?_eq_getElem hm)).isS
theorem Ext.refl : Ext rho H rho H := ⟨List.prefix_refl _, fun _ h => .inl h, fun _ _ e _ => e⟩
theorem Ext.trans (x : Ext rho H rho1 H1) (y : Ext rho1 H1 rho2 H2) : Ext rho H rho2 H2 := by
  refine ⟨x.pre.trans y.pre, fun a h => ?_, fun a o e n => ?_⟩
  · rcases y.new a h with h | h
    · exact x.new a h
    · by_cases n : a ∈ rho
      · exact .inl n
      · refine .inr fun o q => ?_
        by_cases z : ∃ ps, o = .tbl ps
        · exact z
        · exact h o (x.fr a o ⟨q, fun ps e => z ⟨ps, e⟩⟩ n).1
  · refine y.fr a o (x.fr a o e n) fun h => ?_
    rcases x.new a h with h | h
    · exact n h
    · exact e.fr0 h
theorem Ext.at (x : Ext rho H rho1 H1) : ∀ a o, At (rho ++ gh) H a o → At (rho1 ++ gh) H1 a o := fun a o ⟨e, n⟩ => by
  have n1 : a ∉ rho := fun h => n (List.mem_append_left _ h)
  have n2 : a ∉ gh := fun h => n (List.mem_append_right _ h)
  refine ⟨x.fr a o e n1, fun h => ?_⟩
  rcases List.mem_append.mp h with h | h
  · rcases x.new a h with h | h
    · exact n1 h
    · exact e.fr0 h
  · exact n2 h
theorem Ext.rp (x : Ext rho H rho1 H1) {d : PyData} {v : V} (h : RP K (rho ++ gh) H d v) : RP K (rho1 ++ gh) H1 d v := RP.mono (x.at (gh := gh)) d v h
theorem Ext.rps (x : Ext rho H rho1 H1) {d : List PyData} {v : List V} (h : RPs K (rho ++ gh) H d v) : RPs K (rho1 ++ gh) H1 d v := RPs.mono (x.at (gh := gh)) d v h
def RD (K : PySem.W.Frag) (rho gh : List Addr) (H : Hp) : D → V → Prop
  | .p d, v => RP K (rho ++ gh) H d v
  | .ref n, v => ∃ a, v = .ref a ∧ rho[n]? = some a
  | .ro ds, v => ∃ a xs, v = .ref a ∧ ROk K (rho ++ gh) H a xs ∧ RPs K (rho ++ gh) H ds xs
  | .kt ds, v => ∃ a xs, v = .ref a ∧ KT K a xs ∧ RPs K (rho ++ gh) H ds xs
  | .st n, v => ∃ a, v = .ref a ∧ At (rho ++ gh) H a (CntO a n)
def RDs (K : PySem.W.Frag) (rho gh : List Addr) (H : Hp) : List D → List V → Prop
  | [], vs => vs = []
  | d :: ds, vs => ∃ v r, vs = v :: r ∧ RD K rho gh H d v ∧ RDs K rho gh H ds r
theorem pre_get {i : Nat} {a : Addr} (p : rho <+: rho1) (e : rho[i]? = some a) : rho1[i]? = some a := by
  obtain ⟨t, rfl⟩ := p
  rw [List.getElem?_append_left (List.getElem?_eq_some_iff.mp e).1]
  exact e
theorem Ext.rd (x : Ext rho H rho1 H1) {d : D} {v : V} (h : RD K rho gh H d v) : RD K rho1 gh H1 d v := by
  cases d with
  | p d => exact x.rp h
  | ref n =>
    obtain ⟨a, e, q⟩ := h
    exact ⟨a, e, pre_get x.pre q⟩
  | ro ds =>
    obtain ⟨a, xs, e, q, z⟩ := h
    exact ⟨a, xs, e, q.mono (x.at (gh := gh)), x.rps z⟩
  | kt ds =>
    obtain ⟨a, xs, e, q, z⟩ := h
    exact ⟨a, xs, e, q, x.rps z⟩
  | st n =>
    obtain ⟨a, e, q⟩ := h
    exact ⟨a, e, x.at (gh := gh) _ _ q⟩
theorem Ext.rds (x : Ext rho H rho1 H1) : ∀ {ds : List D} {vs : List V}, RDs K rho gh H ds vs → RDs K rho1 gh H1 ds vs
  | [], vs, h => h
  | d :: ds, vs, h => by
    obtain ⟨v, r, e, h1, h2⟩ := h
    exact ⟨v, r, e, x.rd h1, x.rds h2⟩
theorem RDs.append : ∀ {ds es : List D} {vs ws : List V}, RDs K rho gh H ds vs → RDs K rho gh H es ws → RDs K rho gh H (ds ++ es) (vs ++ ws)
  | [], es, vs, ws, h, q => by
    have h : vs = [] := h
    subst h
    exact q
  | d :: ds, es, vs, ws, h, q => by
    obtain ⟨v, r, rfl, h1, h2⟩ := h
    exact ⟨v, r ++ ws, rfl, h1, RDs.append h2 q⟩
theorem RDs.len : ∀ {ds : List D} {vs : List V}, RDs K rho gh H ds vs → vs.length = ds.length
  | [], vs, h => by
    have h : vs = [] := h
    subst h
    rfl
  | d :: ds, vs, h => by
    obtain ⟨v, r, rfl, h1, h2⟩ := h
    simp only [List.length_cons]
    rw [RDs.len h2]
theorem RDs.one {d : D} {v : V} (h : RD K rho gh H d v) : RDs K rho gh H [d] [v] := ⟨v, [], rfl, h, rfl⟩
theorem RDs.one_of {d : D} {vs : List V} (h : RDs K rho gh H [d] vs) : ∃ v, vs = [v] ∧ RD K rho gh H d v := by
  obtain ⟨v, r, rfl, h1, h2⟩ := h
  have h2 : r = [] := h2
  subst h2
  exact ⟨v, rfl, h1⟩
theorem RDs.two_of {d e : D} {vs : List V} (h : RDs K rho gh H [d, e] vs) : ∃ v w, vs = [v, w] ∧ RD K rho gh H d v ∧ RD K rho gh H e w := by
  obtain ⟨v, r, rfl, h1, h2⟩ := h
  obtain ⟨w, rfl, h3⟩ := RDs.one_of h2
  exact ⟨v, w, rfl, h1, h3⟩
theorem pures_ok : ∀ {ds : List D} {ps : List P} {vs : List V}, pures ds = some ps → RDs K rho gh H ds vs → RPs K (rho ++ gh) H ps vs
  | [], ps, vs, e, h => by
    simp only [pures, Option.some.injEq] at e
    subst e
    exact h
  | .p d :: r, ps, vs, e, h => by
    simp only [pures] at e
    cases q : pures r with
    | none => rw [q] at e; cases e
    | some qs =>
      rw [q] at e
      simp only [Option.some.injEq] at e
      subst e
      obtain ⟨v, t, rfl, h1, h2⟩ := h
      simp only [RPs]
      exact ⟨v, t, rfl, h1, pures_ok q h2⟩
  | .ref n :: r, ps, vs, e, h => by simp only [pures] at e; cases e
  | .ro n :: r, ps, vs, e, h => by simp only [pures] at e; cases e
  | .kt n :: r, ps, vs, e, h => by simp only [pures] at e; cases e
  | .st n :: r, ps, vs, e, h => by simp only [pures] at e; cases e
theorem Ext.upd {p : Addr} {o : HO} (n : H p = none) : Ext rho H rho (upd H p o) :=
  ⟨List.prefix_refl _, fun _ h => .inl h, fun a u e _ => e.upd (ne_of_none e.1 n)⟩
theorem COk.mono {ex ex' : List Addr} {a : Addr} {pl : Option Addr} {c : Cell} (k : ∀ a o, At ex H a o → At ex' H1 a o) (e : ∀ o, Nt H a o → Nt H1 a o) (h : COk K ex H a pl c) : COk K ex' H1 a pl c := by
  cases c with
  | lst ds => obtain ⟨xs, q, r⟩ := h; exact ⟨xs, (e _ (nt_lst q)).1, RPs.mono k ds xs r⟩
  | tab d => obtain ⟨dx, v, l, h1, h2, h3⟩ := h; exact ⟨dx, v, l, h1, (e _ ⟨h2, fun _ z => nomatch z⟩).1, RP.mono k d v h3⟩
theorem prv_pre {rho rho' : List Addr} (p : rho <+: rho') {i : Nat} (h : i < rho.length) : prv rho' i = prv rho i := by
  obtain ⟨t, rfl⟩ := p
  cases i with
  | zero => rfl
  | succ i => exact List.getElem?_append_left (by omega)
theorem tabs_set {T : List (Addr × Str)} {p : Addr} {o u : HO} (t : LamX.Tabs T H) (e : H p = some u) (n1 : ∀ ps, u ≠ .tbl ps) (n2 : ∀ c q, u ≠ LamX.CodeO c q) : LamX.Tabs T (L2.upd H p o) := fun b hb => by
  obtain ⟨ps, h1, h2, h3⟩ := t b hb
  have nb : ∀ (c : Addr) (v : HO), H c = some v → (c = p → v ≠ u) → L2.upd H p o c = some v := fun c v ec nv => by
    rw [upd_ne (fun z => nv z (by rw [z, e] at ec; exact (Option.some.inj ec).symm))]
    exact ec
  refine ⟨ps, nb _ _ h1 fun _ z => n1 ps z.symm, h2, fun pos cv hc => ?_⟩
  obtain ⟨c, e1, e2⟩ := h3 pos cv hc
  exact ⟨c, e1, nb _ _ e2 fun _ z => n2 _ _ z.symm⟩
theorem _root_.LamX.Tabs.upd {T : List (Addr × Str)} {p : Addr} {o : HO} (t : LamX.Tabs T H) (n : H p = none) : LamX.Tabs T (L2.upd H p o) := t.ext fun b u e => by rw [upd_ne (ne_of_none e n)]; exact e
theorem ins_code {C dx : Addr} {fs : List (Str × V)} (c : Addr) (q : Str) : HO.ins C dx fs ≠ LamX.CodeO c q := fun z => by unfold LamX.CodeO at z; cases z
theorem lst_code {xs : List V} (c : Addr) (q : Str) : HO.lst xs ≠ LamX.CodeO c q := fun z => by unfold LamX.CodeO at z; cases z
theorem Rel.upd {p : Addr} {o : HO} (r : Rel K rho gh m H) (n : H p = none) : Rel K rho gh m (upd H p o) := by
  refine ⟨r.len, r.nd, fun a h => ⟨?_, (r.gho a h).2⟩, fun i a c e1 e2 => (r.cell i a c e1 e2).mono (Ext.upd n).at fun u e => e.upd (ne_of_none e.1 n), r.tabs.upd n⟩
  obtain ⟨u, z⟩ := (r.gho a h).1
  exact ⟨u, by rw [upd_ne (ne_of_none z n)]; exact z⟩
theorem Rel.out (r : Rel K rho gh m H) {p : Addr} (n : H p = none) : p ∉ rho ++ gh := fun h => by
  rcases List.mem_append.mp h with h | h
  · exact r.isS h n
  · obtain ⟨u, z⟩ := (r.gho p h).1
    rw [n] at z
    cases z
theorem Rel.push {p : Addr} {ds : List P} {xs : List V} (r : Rel K rho gh m H) (n : H p = none) (h : RPs K (rho ++ gh) H ds xs) :
    Rel K (rho ++ [p]) gh (m ++ [.lst ds]) (L2.upd H p (.lst xs)) ∧ Ext rho H (rho ++ [p]) (L2.upd H p (.lst xs)) := by
  have x : Ext rho H (rho ++ [p]) (L2.upd H p (.lst xs)) := ⟨⟨[p], rfl⟩, fun a h => (List.mem_append.mp h).elim .inl fun z => .inr (by
    have e : a = p := by simpa using z
    rw [e]; exact fr0_none n), fun a u e _ => e.upd (ne_of_none e.1 n)⟩
  refine ⟨⟨by simp [r.len], ?_, fun a h => ⟨?_, fun z => ?_⟩, fun i a c e1 e2 => ?_, r.tabs.upd n⟩, x⟩
  · rw [List.nodup_append]
    refine ⟨r.nd, by simp, fun a ha b hb => ?_⟩
    have e : b = p := by simpa using hb
    rw [e]
    rintro rfl
    exact r.isS ha n
  · obtain ⟨u, z⟩ := (r.gho a h).1
    exact ⟨u, by rw [upd_ne (ne_of_none z n)]; exact z⟩
  · rcases List.mem_append.mp z with z | z
    · exact (r.gho a h).2 z
    · have e : a = p := by simpa using z
      rw [e] at h
      obtain ⟨u, z⟩ := (r.gho p h).1
      rw [n] at z
      cases z
  · by_cases hi : i < rho.length
    · rw [List.getElem?_append_left hi] at e1
      rw [List.getElem?_append_left (by rw [← r.len]; exact hi)] at e2
      rw [prv_pre x.pre hi]
      exact (r.cell i a c e1 e2).mono x.at fun u e => e.upd (ne_of_none e.1 n)
    · have e3 : i < (rho ++ [p]).length := (List.getElem?_eq_some_iff.mp e1).1
      simp at e3
      have e4 : i = rho.length := by omega
      subst e4
      rw [List.getElem?_append_right (Nat.le_refl _)] at e1
      rw [List.getElem?_append_right (by rw [r.len]; exact Nat.le_refl _)] at e2
      simp [r.len] at e1 e2
      subst e1 e2
      exact ⟨xs, upd_same, x.rps h⟩
theorem Rel.set {n : Nat} {p : Addr} {ds : List P} {xs : List V} (r : Rel K rho gh m H) (e : rho[n]? = some p) (h : RPs K (rho ++ gh) H ds xs) :
    Rel K rho gh (m.set n (.lst ds)) (L2.upd H p (.lst xs)) ∧ Ext rho H rho (L2.upd H p (.lst xs)) := by
  have hp : p ∈ rho := List.mem_of_getElem? e
  have x : Ext rho H rho (L2.upd H p (.lst xs)) := ⟨List.prefix_refl _, fun _ h => .inl h, fun a u q z => q.upd fun w => z (by rw [w]; exact hp)⟩
  have tb : LamX.Tabs (tabsOf K) (L2.upd H p (.lst xs)) := by
    have hm : n < m.length := by rw [← r.len]; exact (List.getElem?_eq_some_iff.mp e).1
    have z := r.cell n p m[n] e (List.getElem?_eq_getElem hm)
    cases q : m[n] with
    | lst ds0 =>
      rw [q] at z
      obtain ⟨ys, ey, _⟩ := z
      exact tabs_set r.tabs ey (fun _ z => nomatch z) fun c q => lst_code c q
    | tab d =>
      rw [q] at z
      obtain ⟨dx, v, l, _, ey, _⟩ := z
      exact tabs_set r.tabs ey (fun _ z => nomatch z) fun c q => ins_code c q
  refine ⟨⟨by simp [r.len], r.nd, fun a h => ⟨?_, (r.gho a h).2⟩, fun i a c e1 e2 => ?_, tb⟩, x⟩
  · obtain ⟨u, z⟩ := (r.gho a h).1
    exact ⟨u, by rw [upd_ne fun w => (r.gho a h).2 (by rw [w]; exact hp)]; exact z⟩
  · have hn : n < m.length := by rw [← r.len]; exact (List.getElem?_eq_some_iff.mp e).1
    by_cases hi : i = n
    · subst hi
      rw [e] at e1
      cases e1
      rw [List.getElem?_set_self hn] at e2
      cases e2
      exact ⟨xs, upd_same, x.rps h⟩
    · rw [List.getElem?_set_ne (Ne.symm hi)] at e2
      refine (r.cell i a c e1 e2).mono x.at fun u q => ?_
      have ne : a ≠ p := by
        rintro rfl
        obtain ⟨h1, z1⟩ := List.getElem?_eq_some_iff.mp e
        obtain ⟨h2, z2⟩ := List.getElem?_eq_some_iff.mp e1
        exact hi ((List.getElem_inj r.nd).mp (z2.trans z1.symm))
      exact q.upd ne
theorem Rel.setT {n : Nat} {p dx l : Addr} {d0 now : P} {v0 v : V} (r : Rel K rho gh m H) (e : rho[n]? = some p) (em : m[n]? = some (.tab d0)) (eh : H p = some (.ins (tabC K) dx (tabF v0 l))) (h : RP K (rho ++ gh) H now v) :
    Rel K rho gh (m.set n (.tab now)) (L2.upd H p (.ins (tabC K) dx (tabF v l))) ∧ Ext rho H rho (L2.upd H p (.ins (tabC K) dx (tabF v l))) := by
  have hp : p ∈ rho := List.mem_of_getElem? e
  have x : Ext rho H rho (L2.upd H p (.ins (tabC K) dx (tabF v l))) := ⟨List.prefix_refl _, fun _ h => .inl h, fun a u q z => q.upd fun w => z (by rw [w]; exact hp)⟩
  have tb : LamX.Tabs (tabsOf K) (L2.upd H p (.ins (tabC K) dx (tabF v l))) := tabs_set r.tabs eh (fun _ z => nomatch z) fun c q => ins_code c q
  obtain ⟨dx1, v1, l1, pl, eh1, _⟩ := r.cell n p _ e em
  have el : l1 = l := by
    rw [eh] at eh1
    simp only [Option.some.injEq, HO.ins.injEq, tabF, List.cons.injEq, Prod.mk.injEq, V.ref.injEq] at eh1
    exact eh1.2.2.2.1.2.symm
  subst el
  refine ⟨⟨by simp [r.len], r.nd, fun a h => ⟨?_, (r.gho a h).2⟩, fun i a c e1 e2 => ?_, tb⟩, x⟩
  · obtain ⟨u, z⟩ := (r.gho a h).1
    exact ⟨u, by rw [upd_ne fun w => (r.gho a h).2 (by rw [w]; exact hp)]; exact z⟩
  · have hn : n < m.length := by rw [← r.len]; exact (List.getElem?_eq_some_iff.mp e).1
    by_cases hi : i = n
    · subst hi
      rw [e] at e1
      cases e1
      rw [List.getElem?_set_self hn] at e2
      cases e2
      exact ⟨dx, v, l1, pl, upd_same, x.rp h⟩
    · rw [List.getElem?_set_ne (Ne.symm hi)] at e2
      refine (r.cell i a c e1 e2).mono x.at fun u q => ?_
      have ne : a ≠ p := by
        rintro rfl
        obtain ⟨h1, z1⟩ := List.getElem?_eq_some_iff.mp e
        obtain ⟨h2, z2⟩ := List.getElem?_eq_some_iff.mp e1
        exact hi ((List.getElem_inj r.nd).mp (z2.trans z1.symm))
      exact q.upd ne
theorem Rel.pushT {l x dx : Addr} {now : P} {v : V} (r : Rel K rho gh m H) (hl : H l = none) (hx : ∃ C dx fs, H x = some (.ins C dx fs)) (nx : x ∉ rho ++ gh) (lx : l ≠ x) (keep : ∀ a o, Nt H a o → a ≠ x → Nt H1 a o) (tb : LamX.Tabs (tabsOf K) H1)
    (h1 : H1 l = some (.lst [])) (h2 : H1 x = some (.ins (tabC K) dx (tabF v l))) (hv : RP K (rho ++ [l, x] ++ gh) H1 now v) : Rel K (rho ++ [l, x]) gh (m ++ [.lst [], .tab now]) H1 := by
  obtain ⟨C0, dx0, fs0, hx0⟩ := hx
  have nl : l ∉ rho ++ gh := r.out hl
  have k2 : ∀ a o, NoIns o → At (rho ++ gh) H a o → At (rho ++ [l, x] ++ gh) H1 a o := fun a o no ⟨q1, q2⟩ => by
    have n1 : a ≠ l := fun e => by have := q1.1; rw [e, hl] at this; cases this
    have n2 : a ≠ x := fun e => by have := q1.1; rw [e, hx0] at this; cases this; exact no _ _ _ rfl
    refine ⟨keep a o q1 n2, fun z => ?_⟩
    simp only [List.mem_append, List.mem_cons, List.not_mem_nil, or_false] at z q2
    rcases z with (z | z | z) | z
    · exact q2 (.inl z)
    · exact n1 z
    · exact n2 z
    · exact q2 (.inr z)
  refine ⟨by simp [r.len], ?_, fun a h => ⟨?_, fun z => ?_⟩, fun i a c e1 e2 => ?_, tb⟩
  · rw [List.nodup_append]
    refine ⟨r.nd, by simp [lx], fun a ha b hb => ?_⟩
    simp only [List.mem_cons, List.not_mem_nil, or_false] at hb
    rintro rfl
    rcases hb with hb | hb
    · exact nl (by rw [← hb]; exact List.mem_append_left _ ha)
    · exact nx (by rw [← hb]; exact List.mem_append_left _ ha)
  · obtain ⟨u, z⟩ := (r.gho a h).1
    exact ⟨u, (keep a _ (nt_lst z) fun e => nx (by rw [← e]; exact List.mem_append_right _ h)).1⟩
  · simp only [List.mem_append, List.mem_cons, List.not_mem_nil, or_false] at z
    rcases z with z | z | z
    · exact (r.gho a h).2 z
    · exact nl (by rw [← z]; exact List.mem_append_right _ h)
    · exact nx (by rw [← z]; exact List.mem_append_right _ h)
  · have p : rho <+: rho ++ [l, x] := ⟨_, rfl⟩
    by_cases hi : i < rho.length
    · rw [List.getElem?_append_left hi] at e1
      rw [List.getElem?_append_left (by rw [← r.len]; exact hi)] at e2
      rw [prv_pre p hi]
      have na : a ≠ x := fun e => nx (by rw [← e]; exact List.mem_append_left _ (List.mem_of_getElem? e1))
      have z := r.cell i a c e1 e2
      cases c with
      | lst ds => obtain ⟨xs, q, rr⟩ := z; exact ⟨xs, (keep _ _ (nt_lst q) na).1, RPs.mono2 k2 ds xs rr⟩
      | tab d => obtain ⟨dx1, v1, l1, g1, g2, g3⟩ := z; exact ⟨dx1, v1, l1, g1, (keep _ _ ⟨g2, fun _ z => nomatch z⟩ na).1, RP.mono2 k2 d v1 g3⟩
    · have hlt : i < (rho ++ [l, x]).length := (List.getElem?_eq_some_iff.mp e1).1
      simp at hlt
      rw [List.getElem?_append_right (by omega)] at e1
      rw [List.getElem?_append_right (by rw [← r.len]; omega)] at e2
      rw [← r.len] at e2
      rcases (show i = rho.length ∨ i = rho.length + 1 by omega) with c0 | c0
      · subst c0
        simp at e1 e2
        subst e1 e2
        exact ⟨[], h1, by simp only [RPs]⟩
      · subst c0
        simp at e1 e2
        subst e1 e2
        refine ⟨dx, v, l, ?_, h2, hv⟩
        show (rho ++ [l, x])[rho.length]? = some l
        simp
theorem Ext.ofN (e : LamX.ExtN H H1) : Ext rho H rho H1 := ⟨List.prefix_refl _, fun _ h => .inl h, fun a o q _ => ⟨e a o q.1 q.2, q.2⟩⟩
theorem Rel.extN (r : Rel K rho gh m H) (e : LamX.ExtN H H1) (t : LamX.Tabs (tabsOf K) H1) : Rel K rho gh m H1 :=
  ⟨r.len, r.nd, fun a h => ⟨let ⟨u, z⟩ := (r.gho a h).1; ⟨u, e a _ z fun _ q => nomatch q⟩, (r.gho a h).2⟩, fun i a c e1 e2 => (r.cell i a c e1 e2).mono (Ext.ofN e).at fun u q => ⟨e a u q.1 q.2, q.2⟩, t⟩
end
structure EOk (K : PySem.W.Frag) (rho gh : List Addr) (H : Hp) (env : Ev) (sg : L2.St) : Prop where
  len : env.length = sg.length
  get : ∀ (i : Nat) (d : D), env[i]? = some (some d) → ∃ v, sg[i]? = some (some v) ∧ RD K rho gh H d v
section
variable {K : PySem.W.Frag} {rho gh rho1 : List Addr} {H H1 : Hp} {env : Ev} {sg : L2.St}
theorem EOk.ext (e : EOk K rho gh H env sg) (x : Ext rho H rho1 H1) : EOk K rho1 gh H1 env sg :=
  ⟨e.len, fun i d q => let ⟨v, h1, h2⟩ := e.get i d q; ⟨v, h1, x.rd h2⟩⟩
theorem EOk.set (e : EOk K rho gh H env sg) {i : Nat} {d : D} {v : V} (h : RD K rho gh H d v) : EOk K rho gh H (env.set i (some d)) (sg.set i (some v)) := by
  refine ⟨by simp [e.len], fun j d' q => ?_⟩
  by_cases hj : i = j
  · subst hj
    have hi : i < env.length := by
      have z := (List.getElem?_eq_some_iff.mp q).1
      simpa using z
    rw [List.getElem?_set_self hi] at q
    cases q
    exact ⟨v, by rw [List.getElem?_set_self (by rw [← e.len]; exact hi)], h⟩
  · rw [List.getElem?_set_ne hj] at q
    rw [List.getElem?_set_ne hj]
    exact e.get j d' q
theorem EOk.wipe (e : EOk K rho gh H env sg) : ∀ own : List Nat, EOk K rho gh H (wipeE env own) (L2.wipe sg own)
  | [] => e
  | v :: vs => by
    have q := e.wipe vs
    refine ⟨by simp [wipeE, L2.wipe, q.len], fun j d' z => ?_⟩
    simp only [wipeE] at z
    simp only [L2.wipe]
    by_cases hj : v = j
    · subst hj
      by_cases hv : v < (wipeE env vs).length
      · rw [List.getElem?_set_self hv] at z
        cases z
      · rw [List.getElem?_eq_none (by simpa using hv)] at z
        cases z
    · rw [List.getElem?_set_ne hj] at z
      rw [List.getElem?_set_ne hj]
      exact q.get j d' z
end
def excN : Nat → Str := fun c => (["PinError", "NoBoard", "NoPins", "NoPin", "NoLook", "NoNumber", "NoStand", "NoRow", "NotLaid", "NoDeed", "NoText", "NoLine", "TooFew"] : List String).getD c "" |> Str.ofString
def fewF (i j : Int) : List (Str × V) := [("least", .int j), ("many", .int i)]
def ExcOk (K : PySem.W.Frag) (c : Nat) (fs : List P) (u : Value) (dx : Option Addr) (ex : List Addr) (H : Hp) : Prop :=
  u = .ref (He.ga K (excN c)) ∧ ((fs = [] ∧ dx = none) ∨ (c = 12 ∧ ∃ i j d, fs = [.int i, .int j] ∧ dx = some d ∧ At ex H d (.xd (fewF i j))))
theorem ExcOk.mono {K : PySem.W.Frag} {c : Nat} {fs : List P} {u : Value} {dx : Option Addr} {ex ex' : List Addr} {H H' : Hp} (h : ExcOk K c fs u dx ex H) (k : ∀ a o, At ex H a o → At ex' H' a o) : ExcOk K c fs u dx ex' H' := by
  obtain ⟨e, h⟩ := h
  refine ⟨e, ?_⟩
  rcases h with h | ⟨h1, i, j, d, h2, h3, h4⟩
  · exact .inl h
  · exact .inr ⟨h1, i, j, d, h2, h3, k _ _ h4⟩
def WP (K : PySem.W.Frag) (gh : List Addr) (E : XK) (r : R (List D)) (rho : List Addr) (H : Hp) (Q : List V → Hp → Prop) : Prop := match r with
  | .ok ds m => ∀ rho' H' vs, Ext rho H rho' H' → Rel K rho' gh m H' → RDs K rho' gh H' ds vs → Q vs H'
  | .exc c fs m => ∀ rho' H' u dx, Ext rho H rho' H' → Rel K rho' gh m H' → ExcOk K c fs u dx (rho' ++ gh) H' → E u dx H'
  | .bad => False
theorem WP.ext {K : PySem.W.Frag} {gh rho rho1 : List Addr} {H H1 : Hp} {E : XK} {r : R (List D)} {Q : List V → Hp → Prop} (x : Ext rho H rho1 H1) (h : WP K gh E r rho H Q) : WP K gh E r rho1 H1 Q := by
  cases r with
  | ok ds m => exact fun rho' H' vs y => h rho' H' vs (x.trans y)
  | exc c fs m => exact fun rho' H' u dx y => h rho' H' u dx (x.trans y)
  | bad => exact h
theorem WP.imp {K : PySem.W.Frag} {gh rho : List Addr} {H : Hp} {E : XK} {r : R (List D)} {Q Q' : List V → Hp → Prop} (k : ∀ vs H, Q vs H → Q' vs H) (h : WP K gh E r rho H Q) : WP K gh E r rho H Q' := by
  cases r with
  | ok ds m => exact fun rho' H' vs x y z => k _ _ (h rho' H' vs x y z)
  | exc c fs m => exact h
  | bad => exact h
theorem WP.bind {K : PySem.W.Frag} {gh rho : List Addr} {H : Hp} {E : XK} {r : R (List D)} {k : List D → MH → R (List D)} {Q Q' : List V → Hp → Prop} (h : WP K gh E (r.bind k) rho H Q)
    (q : ∀ ds m rho' H' vs, r = .ok ds m → Ext rho H rho' H' → Rel K rho' gh m H' → RDs K rho' gh H' ds vs → WP K gh E (k ds m) rho' H' Q → Q' vs H') : WP K gh E r rho H Q' := by
  cases r with
  | ok ds m => exact fun rho' H' vs x y z => q ds m rho' H' vs rfl x y z (WP.ext x h)
  | exc c fs m => exact h
  | bad => exact h
theorem bind_assoc {A B C : Type} (r : R A) (f : A → MH → R B) (g : B → MH → R C) : (r.bind f).bind g = r.bind fun a m => (f a m).bind g := by
  cases r <;> rfl
def one (Q : VK) : List V → Hp → Prop := fun vs H => ∃ v, vs = [v] ∧ Q v H
structure StOk (K : PySem.W.Frag) (rho gh : List Addr) (env : Ev) (m : MH) (sg : L2.St) (H : Hp) : Prop where
  rel : Rel K rho gh m H
  env : EOk K rho gh H env sg
theorem StOk.ext {K : PySem.W.Frag} {rho gh rho1 : List Addr} {env : Ev} {m m1 : MH} {sg : L2.St} {H H1 : Hp} (s : StOk K rho gh env m sg H) (x : Ext rho H rho1 H1) (r : Rel K rho1 gh m1 H1) : StOk K rho1 gh env m1 sg H1 := ⟨r, s.env.ext x⟩
def tE (K : PySem.W.Frag) (E : XK) (cf : CF) (me : ME) : TE := fun sg H Q => ∃ rho gh env m, StOk K rho gh env m sg H ∧ WP K gh E (ev cf me env m) rho H (one Q)
def tA (K : PySem.W.Frag) (E : XK) (cf : CF) (me : ME) : TA := fun sg H Q => ∃ rho gh env m, StOk K rho gh env m sg H ∧ WP K gh E (ev cf me env m) rho H Q
def tT (K : PySem.W.Frag) (E : XK) (cf : CF) (me : ME) : TT := fun sg H Q => ∃ rho gh env m, StOk K rho gh env m sg H ∧ WP K gh E (ev cf me env m) rho H (one fun v H' => ∃ b, v = .bl b ∧ Q b H')
theorem PE.imp {X : Cx} {e : Expr} {t t' : TE} (h : PE X e t) (k : ∀ sg H Q, t' sg H Q → t sg H Q) : PE X e t' := ⟨fun pins s sg H Q I q => h.run pins s sg H Q I (k sg H Q q)⟩
theorem PA.imp {X : Cx} {e : List Expr} {t t' : TA} (h : PA X e t) (k : ∀ sg H Q, t' sg H Q → t sg H Q) : PA X e t' := ⟨fun pos pins s sg H Q I q => h.run pos pins s sg H Q I (k sg H Q q)⟩
theorem PT.imp {X : Cx} {e : Expr} {t t' : TT} (h : PT X e t) (k : ∀ sg H Q, t' sg H Q → t sg H Q) : PT X e t' := ⟨fun pins s sg H Q I q => h.run pins s sg H Q I (k sg H Q q)⟩
theorem PW.imp {X : Cx} {e : Expr} {t t' : TT} (h : PW X e t) (k : ∀ sg H Q, t' sg H Q → t sg H Q) : PW X e t' := ⟨fun wh pins s sg H Q I q => h.run wh pins s sg H Q I (k sg H Q q)⟩
end M
namespace M
open PySem PySem.Spec PyProof.Rows L2
theorem line_sz {n : Nat} (h : n ≤ 100000) : n ≤ sizeLine := Nat.le_trans h (by rw [sizeLine_eq]; decide)
theorem line_lt {n : Nat} (h : n ≤ 100000) : n < sizeLine := Nat.lt_of_le_of_lt h (by rw [sizeLine_eq]; decide)
mutual
theorem dle_plain : ∀ (d : PyData) (n : Nat), dle d n = true → d.plain = true
  | .none, _, _ => rfl
  | .bool _, _, _ => rfl
  | .int _, _, _ => rfl
  | .str _, _, _ => rfl
  | .list xs, 0, h => by simp [dle] at h
  | .list xs, n + 1, h => by simp only [dle] at h; simp only [PyData.plain]; exact dles_plain xs n h
  | .tuple xs, 0, h => by simp [dle] at h
  | .tuple xs, n + 1, h => by simp only [dle] at h; simp only [PyData.plain]; exact dles_plain xs n h
  | .dict _, n, h => by simp [dle] at h
theorem dles_plain : ∀ (ds : List PyData) (n : Nat), dles ds n = true → PyData.plainAll ds = true
  | [], _, _ => rfl
  | x :: r, n, h => by
    simp only [dles, Bool.and_eq_true] at h
    simp only [PyData.plainAll, Bool.and_eq_true]
    exact ⟨dle_plain x n h.1, dles_plain r n h.2⟩
end
mutual
theorem dle_depth : ∀ (d : PyData) (n : Nat), dle d n = true → d.depth ≤ n
  | .none, _, _ => by simp [PyData.depth]
  | .bool _, _, _ => by simp [PyData.depth]
  | .int _, _, _ => by simp [PyData.depth]
  | .str _, _, _ => by simp [PyData.depth]
  | .list xs, 0, h => by simp [dle] at h
  | .list xs, n + 1, h => by simp only [dle] at h; have := dles_depth xs n h; simp only [PyData.depth]; omega
  | .tuple xs, 0, h => by simp [dle] at h
  | .tuple xs, n + 1, h => by simp only [dle] at h; have := dles_depth xs n h; simp only [PyData.depth]; omega
  | .dict _, n, h => by simp [dle] at h
theorem dles_depth : ∀ (ds : List PyData) (n : Nat), dles ds n = true → PyData.depthAll ds ≤ n
  | [], _, _ => by simp [PyData.depthAll]
  | x :: r, n, h => by
    simp only [dles, Bool.and_eq_true] at h
    have h1 := dle_depth x n h.1
    have h2 := dles_depth r n h.2
    simp only [PyData.depthAll]
    omega
end
def rOn (K : PySem.W.Frag) (E : XK) (o : Op) : List V → Hp → VK → Prop := fun vs H Q => ∃ rho gh m ds, Rel K rho gh m H ∧ RDs K rho gh H ds vs ∧ WP K gh E (opD o ds m) rho H (one Q)
section
variable {X : Cx} {E : XK} {K : PySem.W.Frag} {rho gh : List Addr} {m : MH} {H : Hp} {Q : VK}
theorem wp1 {d : P} {v : V} (r : Rel K rho gh m H) (h : WP K gh E (ok1 d m) rho H (one Q)) (q : RP K (rho ++ gh) H d v) : Q v H := by
  obtain ⟨v', e, z⟩ := h rho H [v] Ext.refl r (RDs.one (d := .p d) q)
  cases e
  exact z
theorem wpT {ds : List P} {xs : List V} {p : Addr} (r : Rel K rho gh m H) (h : WP K gh E (ok1 (.tuple ds) m) rho H (one Q)) (q : RPs K (rho ++ gh) H ds xs) (n : H p = none) : Q (.ref p) (upd H p (.tup xs)) := by
  have x : Ext rho H rho (upd H p (.tup xs)) := Ext.upd n
  obtain ⟨v', e, z⟩ := h rho (upd H p (.tup xs)) [.ref p] x (r.upd n) (RDs.one (d := .p (.tuple ds)) (by
    show RP K (rho ++ gh) _ _ _
    simp only [RP]
    exact ⟨p, xs, rfl, ⟨⟨upd_same, fun _ z => nomatch z⟩, r.out n⟩, x.rps q⟩))
  cases e
  exact z
theorem wpL {k : Bool} {ds : List P} {xs : List V} {p : Addr} (r : Rel K rho gh m H) (h : WP K gh E (mkL k ds m) rho H (one Q)) (q : RPs K (rho ++ gh) H ds xs) (n : H p = none) : Q (.ref p) (upd H p (.lst xs)) := by
  cases k with
  | false =>
    have x : Ext rho H rho (upd H p (.lst xs)) := Ext.upd n
    obtain ⟨v', e, z⟩ := h rho (upd H p (.lst xs)) [.ref p] x (r.upd n) (RDs.one (d := .p (.list ds)) (by
      show RP K (rho ++ gh) _ _ _
      simp only [RP]
      exact ⟨p, xs, rfl, ⟨⟨upd_same, fun _ z => nomatch z⟩, r.out n⟩, x.rps q⟩))
    cases e
    exact z
  | true =>
    obtain ⟨r1, x⟩ := r.push n q
    obtain ⟨v', e, z⟩ := h (rho ++ [p]) (upd H p (.lst xs)) [.ref p] x r1 (RDs.one (d := .ref m.length) ⟨p, rfl, by rw [← r.len]; simp⟩)
    cases e
    exact z
theorem wpS {c : Nat} {p : Addr} (r : Rel K rho gh m H) (h : WP K gh E (.ok [.st c] m) rho H (one Q)) (n : H p = none) : Q (.ref p) (upd H p (CntO p c)) := by
  have x : Ext rho H rho (upd H p (CntO p c)) := Ext.upd n
  obtain ⟨v', e, z⟩ := h rho (upd H p (CntO p c)) [.ref p] x (r.upd n) (RDs.one (d := .st c) ⟨p, rfl, ⟨upd_same, fun _ z => nomatch z⟩, r.out n⟩)
  cases e
  exact z
theorem seq_of {d : D} {v : V} {ds : List P} (r : Rel K rho gh m H) (h : RD K rho gh H d v) (e : seqD m d = some ds) : ∃ a xs, v = .ref a ∧ (SqL K H a xs ∨ SqT K H a xs) ∧ RPs K (rho ++ gh) H ds xs := by
  cases d with
  | p d =>
    cases d with
    | list l =>
      simp only [seqD, Option.some.injEq] at e
      subst e
      have h : RP K (rho ++ gh) H (.list l) v := h
      simp only [RP] at h
      obtain ⟨a, xs, e, q, z⟩ := h
      exact ⟨a, xs, e, .inl q.sq, z⟩
    | tuple l =>
      simp only [seqD, Option.some.injEq] at e
      subst e
      have h : RP K (rho ++ gh) H (.tuple l) v := h
      simp only [RP] at h
      obtain ⟨a, xs, e, q, z⟩ := h
      exact ⟨a, xs, e, .inr q.sq, z⟩
    | none => simp [seqD] at e
    | bool b => simp [seqD] at e
    | int b => simp [seqD] at e
    | str b => simp [seqD] at e
    | dict b => simp [seqD] at e
  | ref n =>
    obtain ⟨a, e1, e2⟩ := h
    simp only [seqD] at e
    split at e
    · rename_i l q
      simp only [Option.some.injEq] at e
      subst e
      obtain ⟨xs, e3, z⟩ := r.cell n a _ e2 q
      exact ⟨a, xs, e1, .inl (SqL.of e3), z⟩
    · cases e
  | ro l =>
    simp only [seqD, Option.some.injEq] at e
    subst e
    obtain ⟨a, xs, e, q, z⟩ := h
    exact ⟨a, xs, e, .inl q.sq, z⟩
  | kt l =>
    simp only [seqD, Option.some.injEq] at e
    subst e
    obtain ⟨a, xs, e, q, z⟩ := h
    exact ⟨a, xs, e, .inr q.sq, z⟩
  | st n => simp [seqD] at e
theorem RP.reads (I : Inv X pins sg H s) {ex : List Addr} {d : PyData} {v : V} {u : Value} (h : RP X.K ex H d v) (r : RelV v u) : ∃ as, Reads s.heap u d as := Dq.reads I d v u (RP.dp d v h) r
end
section
variable {X : Cx} {E : XK}
theorem two_rd {K : PySem.W.Frag} {rho gh : List Addr} {H : Hp} {d e : D} {x y : V} (h : RDs K rho gh H [d, e] [x, y]) : RD K rho gh H d x ∧ RD K rho gh H e y := by
  obtain ⟨a, b, e, h1, h2⟩ := RDs.two_of h
  simp only [List.cons.injEq, and_true] at e
  obtain ⟨rfl, rfl⟩ := e
  exact ⟨h1, h2⟩
theorem one_rd {K : PySem.W.Frag} {rho gh : List Addr} {H : Hp} {d : D} {x : V} (h : RDs K rho gh H [d] [x]) : RD K rho gh H d x := by
  obtain ⟨a, e, h1⟩ := RDs.one_of h
  simp only [List.cons.injEq, and_true] at e
  subst e
  exact h1
theorem rd_int {K : PySem.W.Frag} {rho gh : List Addr} {H : Hp} {i : Int} {x : V} (h : RD K rho gh H (.p (.int i)) x) : x = .int i := h
theorem rd_bl {K : PySem.W.Frag} {rho gh : List Addr} {H : Hp} {i : Bool} {x : V} (h : RD K rho gh H (.p (.bool i)) x) : x = .bl i := h
theorem rd_str {K : PySem.W.Frag} {rho gh : List Addr} {H : Hp} {i : Str} {x : V} (h : RD K rho gh H (.p (.str i)) x) : x = .str i := h
theorem rO_add : OpR X (binaryOp .Add) (fun x y H Q => rOn X.K E .add [x, y] H Q) := by
  intro pins s sg H x y v u Q I rx ry h
  obtain ⟨rho, gh, m, ds, R, h, w⟩ := h
  simp only [opD, d_add] at w
  split at w
  · rename_i a b
    obtain ⟨h1, h2⟩ := two_rd h
    unfold addP at w
    split at w
    · rename_i i j
      cases rd_int h1
      cases rd_int h2
      exact op_add pins s sg H _ _ v u Q I rx ry ⟨i, j, rfl, rfl, wp1 R w rfl⟩
    · rename_i i j
      cases rd_str h1
      cases rd_str h2
      split at w
      · rename_i hl
        exact op_add_str pins s sg H _ _ v u Q I rx ry ⟨i, j, rfl, rfl, line_sz hl, wp1 R w rfl⟩
      · exact w.elim
    · rename_i i j
      have h10 := h1
      have h20 := h2
      have h1 : RP X.K (rho ++ gh) H (.tuple i) x := h1
      have h2 : RP X.K (rho ++ gh) H (.tuple j) y := h2
      simp only [RP] at h1 h2
      obtain ⟨a, xs, rfl, q1, z1⟩ := h1
      obtain ⟨b, ys, rfl, q2, z2⟩ := h2
      split at w
      · rename_i hl
        have l1 := RPs.len z1
        have l2 := RPs.len z2
        refine op_catA pins s sg H _ _ v u Q I rx ry ⟨a, b, xs, ys, rfl, rfl, q1.sq, q2.sq, line_sz (by omega), fun e => ?_, fun e1 e2 => ?_, fun e1 e2 p n => ?_⟩
        · subst e
          have e : i = [] := List.length_eq_zero_iff.mp l1.symm
          subst e
          exact wp1 R w h20
        · subst e2
          have e : j = [] := List.length_eq_zero_iff.mp l2.symm
          subst e
          rw [List.append_nil] at w
          exact wp1 R w h10
        · exact wpT R w (z1.append z2) n
      · exact w.elim
    · exact w.elim
  · exact w.elim
theorem rO_int {f : Value → Value → Sem Value} {o : Op} {C : Int → Int → Prop} {g : Int → Int → V} (ho : OpR X f (rI C g))
    (k : ∀ ds m, opD o ds m = .bad ∨ ∃ i j d, ds = [.p (.int i), .p (.int j)] ∧ C i j ∧ opD o ds m = ok1 d m ∧ ∀ ex H, RP X.K ex H d (g i j)) : OpR X f (fun x y H Q => rOn X.K E o [x, y] H Q) := by
  intro pins s sg H x y v u Q I rx ry h
  obtain ⟨rho, gh, m, ds, R, h, w⟩ := h
  rcases k ds m with e | ⟨i, j, d, rfl, c, e, q⟩
  · rw [e] at w
    exact w.elim
  · rw [e] at w
    obtain ⟨h1, h2⟩ := two_rd h
    cases rd_int h1
    cases rd_int h2
    exact ho pins s sg H _ _ v u Q I rx ry ⟨i, j, rfl, rfl, c, wp1 R w (q _ _)⟩
theorem rI_of0 {f : Value → Value → Sem Value} {g : Int → Int → V} (ho : OpR X f (rI0 g)) : OpR X f (rI (fun _ _ => True) g) := by
  intro pins s sg H x y v u Q I rx ry h
  obtain ⟨i, j, e1, e2, _, q⟩ := h
  exact ho pins s sg H x y v u Q I rx ry ⟨i, j, e1, e2, q⟩
theorem rO_sub : OpR X (binaryOp .Sub) (fun x y H Q => rOn X.K E .sub [x, y] H Q) := rO_int (rI_of0 op_sub) fun ds m => by
  simp only [opD, d_sub]
  split
  · rename_i i j
    exact .inr ⟨i, j, _, rfl, trivial, rfl, fun _ _ => rfl⟩
  · exact .inl rfl
theorem op_mulA : OpR X (binaryOp .Mult) (rI (fun i j => mulOk i j = true) fun i j => .int (i * j)) := by
  intro pins s sg H x y v u Q I rx ry h
  obtain ⟨i, j, e1, e2, c, q⟩ := h
  unfold mulOk small at c
  simp only [Bool.or_eq_true, Bool.and_eq_true, decide_eq_true_eq] at c
  rcases c with (c | c) | c
  · exact op_mul pins s sg H x y v u Q I rx ry ⟨i, j, e1, e2, .inl c, q⟩
  · exact op_mul pins s sg H x y v u Q I rx ry ⟨i, j, e1, e2, .inr c, q⟩
  · exact op_mulW pins s sg H x y v u Q I rx ry ⟨i, j, e1, e2, c, q⟩
theorem rO_mul : OpR X (binaryOp .Mult) (fun x y H Q => rOn X.K E .mul [x, y] H Q) := by
  intro pins s sg H x y v u Q I rx ry h
  obtain ⟨rho, gh, m, ds, R, h, w⟩ := h
  simp only [opD, d_mul] at w
  split at w
  · rename_i i j
    split at w
    · rename_i c
      obtain ⟨h1, h2⟩ := two_rd h
      cases rd_int h1
      cases rd_int h2
      exact op_mulA pins s sg H _ _ v u Q I rx ry ⟨i, j, rfl, rfl, c, wp1 R w rfl⟩
    · exact w.elim
  · rename_i a i
    split at w
    · rename_i c
      simp only [Bool.and_eq_true, decide_eq_true_eq] at c
      obtain ⟨⟨c1, c2⟩, c3⟩ := c
      obtain ⟨h1, h2⟩ := two_rd h
      cases rd_str h1
      cases rd_int h2
      obtain ⟨t, rfl⟩ := rx
      obtain ⟨t2, rfl⟩ := ry
      exact SB.mul (mulOk_of 16 1000 c1 (by omega) (by omega) (by decide) (by decide)) fun t' k => ⟨.str _, H, I.tok k, ⟨t', rfl⟩, wp1 R w rfl⟩
    · exact w.elim
  · exact w.elim
theorem op_fdivA : OpR X (binaryOp .FloorDiv) (rI (fun _ j => 0 < j ∧ j < 2 ^ 200) fun i j => .int (i / j)) := by
  intro pins s sg H x y v u Q I rx ry h
  obtain ⟨i, j, e1, e2, ⟨c1, c2⟩, q⟩ := h
  refine op_fdivW pins s sg H x y v u Q I rx ry ⟨i, j, e1, e2, ⟨c1, ?_⟩, q⟩
  have hn : j.natAbs ≠ 0 := by omega
  have h2 : j.natAbs < 2 ^ 200 := by omega
  have := (Nat.log2_lt hn).mpr h2
  omega
theorem rO_fdiv : OpR X (binaryOp .FloorDiv) (fun x y H Q => rOn X.K E .fdiv [x, y] H Q) := rO_int op_fdivA fun ds m => by
  simp only [opD, d_fdiv]
  split
  · rename_i i j
    split
    · rename_i c
      simp only [Bool.and_eq_true, decide_eq_true_eq] at c
      exact .inr ⟨i, j, _, rfl, c, rfl, fun _ _ => rfl⟩
    · exact .inl rfl
  · exact .inl rfl
theorem rO_mod : OpR X (binaryOp .Mod) (fun x y H Q => rOn X.K E .mod [x, y] H Q) := rO_int op_mod fun ds m => by
  simp only [opD, d_mod]
  split
  · rename_i i j
    split
    · rename_i c
      simp only [decide_eq_true_eq] at c
      exact .inr ⟨i, j, _, rfl, c, rfl, fun _ _ => rfl⟩
    · exact .inl rfl
  · exact .inl rfl
theorem rO_pow : OpR X (binaryOp .Pow) (fun x y H Q => rOn X.K E .pow [x, y] H Q) := rO_int op_pow fun ds m => by
  simp only [opD, d_pow]
  split
  · rename_i i j
    split
    · rename_i c
      simp only [Bool.and_eq_true, decide_eq_true_eq] at c
      exact .inr ⟨i, j, _, rfl, ⟨c.1.1, by omega, c.2⟩, rfl, fun _ _ => rfl⟩
    · exact .inl rfl
  · exact .inl rfl
theorem rU_neg : UnR X (unaryOp .USub) (fun x H Q => rOn X.K E .neg [x] H Q) := by
  intro pins s sg H x v Q I rx h
  obtain ⟨rho, gh, m, ds, R, h, w⟩ := h
  simp only [opD, d_neg] at w
  split at w
  · rename_i i
    cases rd_int (one_rd h)
    exact un_neg pins s sg H _ v Q I rx ⟨i, rfl, wp1 R w rfl⟩
  · exact w.elim
theorem val_dp {K : PySem.W.Frag} {rho gh : List Addr} {m : MH} {H : Hp} {d : D} {v : V} {p : P} (R : Rel K rho gh m H) (h : RD K rho gh H d v) (e : valD m d = some p) : Dq K H v p := by
  cases d with
  | p d =>
    simp only [valD, Option.some.injEq] at e
    subst e
    exact RP.dp _ _ h
  | ro ds =>
    simp only [valD, Option.some.injEq] at e
    subst e
    obtain ⟨a, xs, rfl, q, z⟩ := h
    exact .lst q.sq (RPs.dp _ _ z)
  | kt ds =>
    simp only [valD, Option.some.injEq] at e
    subst e
    obtain ⟨a, xs, rfl, q, z⟩ := h
    exact .tup q.sq (RPs.dp _ _ z)
  | st n => simp [valD] at e
  | ref n =>
    obtain ⟨a, rfl, e1⟩ := h
    simp only [valD] at e
    split at e
    · rename_i l q
      simp only [Option.some.injEq] at e
      subst e
      obtain ⟨xs, e2, z⟩ := R.cell n a _ e1 q
      exact .lst (SqL.of e2) (RPs.dp _ _ z)
    · cases e
theorem DqAll.length {K : PySem.W.Frag} {H : Hp} : ∀ {vs : List V} {ds : List P}, DqAll K H vs ds → vs.length = ds.length
  | _, _, .nil => rfl
  | _, _, .cons _ h => by simp only [List.length_cons, DqAll.length h]
theorem rO_eq (hu : X.A.units + 64 < cLine) : OpR X (compareOp .Eq) (fun x y H Q => rOn X.K E .eq [x, y] H Q) := by
  intro pins s sg H x y v u Q I rx ry h
  obtain ⟨rho, gh, m, ds, R, h, w⟩ := h
  simp only [opD, d_eq] at w
  split at w
  · rename_i x1 y1
    obtain ⟨h1, h2⟩ := two_rd h
    split at w
    · rename_i a b e1 e2
      split at w
      · rename_i c
        simp only [Bool.and_eq_true] at c
        obtain ⟨as, r1⟩ := Dq.reads I _ _ _ (val_dp R h1 e1) rx
        obtain ⟨bs, r2⟩ := Dq.reads I _ _ _ (val_dp R h2 e2) ry
        have := dle_depth a 40 c.1
        exact SeqAt.eq_plain r1 r2 (dle_plain a 40 c.1) (dle_plain b 40 c.2) (by omega) ⟨.bl _, H, I, rfl, wp1 R w rfl⟩
      · unfold eqE at w
        split at w
        · rename_i ds _
          have h1 := val_dp R h1 e1
          have h2 := val_dp R h2 e2
          cases h1 with
          | tup q1 z1 =>
            cases h2 with
            | tup q2 z2 =>
              cases z2
              cases rx
              cases ry
              obtain ⟨its, v1, p1, _⟩ := I.tuple q1
              obtain ⟨its2, v2, p2, _⟩ := I.tuple q2
              cases v2
              have ln : its.length = ds.length := by
                have := v1.length
                have := DqAll.length z1
                omega
              refine SeqAt.eq_tupleAt (e := fun _ => true) p1 p2 (by omega) (fun j h1 h2 => absurd h2 (by simp)) ⟨.bl _, H, I, rfl, wp1 R w ?_⟩
              show _ = _
              cases ds with
              | nil =>
                have : its = [] := List.length_eq_zero_iff.mp ln
                subst this
                rfl
              | cons d r =>
                cases its with
                | nil => simp at ln
                | cons a t => simp
        · exact w.elim
    · exact w.elim
  · exact w.elim
theorem rO_ne (hu : X.A.units + 64 < cLine) : OpR X (compareOp .NotEq) (fun x y H Q => rOn X.K E .ne [x, y] H Q) := by
  intro pins s sg H x y v u Q I rx ry h
  obtain ⟨rho, gh, m, ds, R, h, w⟩ := h
  simp only [opD, d_ne] at w
  split at w
  · rename_i x1 y1
    obtain ⟨h1, h2⟩ := two_rd h
    split at w
    · rename_i a b e1 e2
      split at w
      · rename_i c
        simp only [Bool.and_eq_true] at c
        obtain ⟨as, r1⟩ := Dq.reads I _ _ _ (val_dp R h1 e1) rx
        obtain ⟨bs, r2⟩ := Dq.reads I _ _ _ (val_dp R h2 e2) ry
        have := dle_depth a 40 c.1
        exact SeqAt.ne_plain r1 r2 (dle_plain a 40 c.1) (dle_plain b 40 c.2) (by omega) ⟨.bl _, H, I, rfl, wp1 R w rfl⟩
      · exact w.elim
    · exact w.elim
  · exact w.elim
theorem cmpOk_of {a b : P} (c : cmpOk a b = true) : PySem.W.alike a b = true ∧ a ≠ .none ∧ a.depth ≤ 40 := by
  unfold cmpOk at c
  simp only [Bool.and_eq_true] at c
  obtain ⟨⟨⟨c1, c2⟩, c3⟩, c4⟩ := c
  refine ⟨c1, ?_, dle_depth a 40 c3⟩
  rintro rfl
  cases c2
theorem rO_cmp (hu : X.A.units + 64 < cLine) {op : CmpOp} {o : Op} {g : P → P → Bool}
    (k : ∀ {s : Shared} {a b : Value} {da db : PyData} {as bs : List Addr} {Q : Value → Shared → Prop}, Reads s.heap a da as → Reads s.heap b db bs → PySem.W.alike da db = true → da ≠ .none → X.A.units + min da.depth db.depth < cLine → Q (.bool (g da db)) s → wpAny (model X.prog X.w) X.A (compareOp op a b) Q X.xe s)
    (kd : ∀ ds m, opD o ds m = .bad ∨ ∃ a b, ds = [.p a, .p b] ∧ cmpOk a b = true ∧ opD o ds m = ok1 (.bool (g a b)) m) : OpR X (compareOp op) (fun x y H Q => rOn X.K E o [x, y] H Q) := by
  intro pins s sg H x y v u Q I rx ry h
  obtain ⟨rho, gh, m, ds, R, h, w⟩ := h
  rcases kd ds m with e | ⟨a, b, rfl, c, e⟩
  · rw [e] at w
    exact w.elim
  · rw [e] at w
    obtain ⟨h1, h2⟩ := two_rd h
    obtain ⟨as, r1⟩ := RP.reads I h1 rx
    obtain ⟨bs, r2⟩ := RP.reads I h2 ry
    obtain ⟨c1, c2, c3⟩ := cmpOk_of c
    exact k r1 r2 c1 c2 (by omega) ⟨.bl _, H, I, rfl, wp1 R w rfl⟩
theorem rO_lt (hu : X.A.units + 64 < cLine) : OpR X (compareOp .Lt) (fun x y H Q => rOn X.K E .lt [x, y] H Q) := rO_cmp hu (fun r1 r2 c1 c2 c3 q => PySem.W.lt_data r1 r2 c1 c2 c3 q) fun ds m => by
  simp only [opD, d_lt]
  split
  · rename_i a b
    split
    · rename_i c; exact .inr ⟨a, b, rfl, c, rfl⟩
    · exact .inl rfl
  · exact .inl rfl
theorem rO_gt (hu : X.A.units + 64 < cLine) : OpR X (compareOp .Gt) (fun x y H Q => rOn X.K E .gt [x, y] H Q) := rO_cmp hu (g := fun a b => PySem.W.dataLt b a) (fun r1 r2 c1 c2 c3 q => PySem.W.gt_data r1 r2 c1 c2 c3 q) fun ds m => by
  simp only [opD, d_gt]
  split
  · rename_i a b
    split
    · rename_i c; exact .inr ⟨a, b, rfl, c, rfl⟩
    · exact .inl rfl
  · exact .inl rfl
theorem rO_le (hu : X.A.units + 64 < cLine) : OpR X (compareOp .LtE) (fun x y H Q => rOn X.K E .le [x, y] H Q) := rO_cmp hu (g := fun a b => !PySem.W.dataLt b a) (fun r1 r2 c1 c2 c3 q => PySem.W.le_data r1 r2 c1 c2 c3 q) fun ds m => by
  simp only [opD, d_le]
  split
  · rename_i a b
    split
    · rename_i c; exact .inr ⟨a, b, rfl, c, rfl⟩
    · exact .inl rfl
  · exact .inl rfl
theorem rO_ge (hu : X.A.units + 64 < cLine) : OpR X (compareOp .GtE) (fun x y H Q => rOn X.K E .ge [x, y] H Q) := rO_cmp hu (g := fun a b => !PySem.W.dataLt a b) (fun r1 r2 c1 c2 c3 q => PySem.W.ge_data r1 r2 c1 c2 c3 q) fun ds m => by
  simp only [opD, d_ge]
  split
  · rename_i a b
    split
    · rename_i c; exact .inr ⟨a, b, rfl, c, rfl⟩
    · exact .inl rfl
  · exact .inl rfl
theorem rO_in (hu : X.A.units + 64 < cLine) : OpR X (compareOp .In) (fun x y H Q => rOn X.K E .inn [x, y] H Q) := by
  intro pins s sg H x y v u Q I rx ry h
  obtain ⟨rho, gh, m, ds, R, h, w⟩ := h
  simp only [opD, d_inn] at w
  split at w
  · rename_i a o
    obtain ⟨h1, h2⟩ := two_rd h
    split at w
    · rename_i ls e
      split at w
      · rename_i c
        simp only [Bool.and_eq_true] at c
        obtain ⟨as, r1⟩ := RP.reads I h1 rx
        have c1 := dle_depth a 40 c.1
        have c2 := dles_depth ls 40 c.2
        obtain ⟨p, xs, rfl, q, z⟩ := seq_of R h2 e
        rcases q with q | q
        · obtain ⟨bs, r2⟩ := Dq.reads I (.list ls) _ u (.lst q (RPs.dp _ _ z)) ry
          exact SeqAt.in_list_data r2 r1 (dles_plain ls 40 c.2) (dle_plain a 40 c.1) (by omega) ⟨.bl _, H, I, rfl, wp1 R w rfl⟩
        · obtain ⟨bs, r2⟩ := Dq.reads I (.tuple ls) _ u (.tup q (RPs.dp _ _ z)) ry
          exact SeqAt.in_tuple_data r2 r1 (dles_plain ls 40 c.2) (dle_plain a 40 c.1) (by omega) ⟨.bl _, H, I, rfl, wp1 R w rfl⟩
      · exact w.elim
    · unfold d_innS at w
      split at w
      · rename_i x2 z _
        split at w
        · rename_i c e
          cases rd_str h1
          cases rd_str h2
          have ea : x2 = ⟨#[c]⟩ := by
            unfold sgnOf at e
            split at e
            · rename_i c' e'
              simp only [Option.some.injEq] at e
              subst e
              exact Str.ext' (Array.toList_inj.mp e')
            · cases e
          exact op_in_sign pins s sg H _ _ v u Q I rx ry ⟨c, z, by rw [ea], rfl, wp1 R w rfl⟩
        · exact w.elim
      · exact w.elim
  · exact w.elim
theorem rO_nin (hu : X.A.units + 64 < cLine) : OpR X (compareOp .NotIn) (fun x y H Q => rOn X.K E .nin [x, y] H Q) := by
  intro pins s sg H x y v u Q I rx ry h
  obtain ⟨rho, gh, m, ds, R, h, w⟩ := h
  simp only [opD, d_nin] at w
  split at w
  · rename_i a o
    obtain ⟨h1, h2⟩ := two_rd h
    split at w
    · rename_i ls e
      split at w
      · rename_i c
        simp only [Bool.and_eq_true] at c
        obtain ⟨as, r1⟩ := RP.reads I h1 rx
        have c1 := dle_depth a 40 c.1
        have c2 := dles_depth ls 40 c.2
        obtain ⟨p, xs, rfl, q, z⟩ := seq_of R h2 e
        rcases q with q | q
        · obtain ⟨bs, r2⟩ := Dq.reads I (.list ls) _ u (.lst q (RPs.dp _ _ z)) ry
          exact SeqAt.notIn_list_data r2 r1 (dles_plain ls 40 c.2) (dle_plain a 40 c.1) (by omega) ⟨.bl _, H, I, rfl, wp1 R w rfl⟩
        · obtain ⟨bs, r2⟩ := Dq.reads I (.tuple ls) _ u (.tup q (RPs.dp _ _ z)) ry
          exact SeqAt.notIn_tuple_data r2 r1 (dles_plain ls 40 c.2) (dle_plain a 40 c.1) (by omega) ⟨.bl _, H, I, rfl, wp1 R w rfl⟩
      · exact w.elim
    · exact w.elim
  · exact w.elim
theorem atI_of {xs : List V} {i : Int} {j : Nat} {v : V} (e : seqIx xs.length i = some j) (h : xs[j]? = some v) : atI xs i = some v := by
  unfold seqIx at e
  unfold atI ixN
  rw [e]
  exact h
theorem rX_ix : IxR X (fun x y H Q => rOn X.K E .ix [x, y] H Q) := by
  intro value sl pins s sg H x y v u Q I rx ry h hsb
  obtain ⟨rho, gh, m, ds, R, h, w⟩ := h
  simp only [opD, d_ix] at w
  split at w
  · rename_i o i
    obtain ⟨h1, h2⟩ := two_rd h
    cases rd_int h2
    split at w
    · rename_i ls e
      obtain ⟨p, xs, rfl, q, z⟩ := seq_of R h1 e
      split at w
      · rename_i j ej
        split at w
        · rename_i d ed
          obtain ⟨x0, e0, r0⟩ := RPs.get z ed
          rw [← RPs.len z] at ej
          refine (ix_list.or ix_tup) value sl pins s sg H _ _ v u Q I rx ry ?_ hsb
          rcases q with q | q
          · exact .inl ⟨p, xs, i, x0, rfl, rfl, q, atI_of ej e0, wp1 R w r0⟩
          · exact .inr ⟨p, xs, i, x0, rfl, rfl, q, atI_of ej e0, wp1 R w r0⟩
        · exact w.elim
      · exact w.elim
    · unfold d_ixS at w
      split at w
      · rename_i z _
        cases rd_str h1
        split at w
        · rename_i j ej
          split at w
          · rename_i c ec
            split at w
            · rename_i hz
              have at_ : atI z.cps.toList i = some c := by
                unfold seqIx at ej
                unfold atI ixN
                rw [ej]
                exact ec
              exact ix_str value sl pins s sg H _ _ v u Q I rx ry ⟨z, i, c, rfl, rfl, line_sz hz, at_, wp1 R w rfl⟩ hsb
            · exact w.elim
          · exact w.elim
        · exact w.elim
      · exact w.elim
  · exact w.elim
theorem cut_at {K : PySem.W.Frag} {ex : List Addr} {H : Hp} {ds : List P} {xs : List V} (z : RPs K ex H ds xs) (lo hi : Option Int) : RPs K ex H (cut ds lo hi) (cutV xs lo hi) := by
  have e : ∀ (n d : Nat) (o : Option Int), cutIx n d o = HT.sIx n d o := fun n d o => by
    cases o with
    | none => rfl
    | some i => first | rfl | (unfold cutIx HT.sIx; rfl) | (simp only [cutIx, HT.sIx])
  unfold cut cutV
  rw [e, e, RPs.len z]
  exact (z.drop _).take _
theorem rS_sl {lo hi : Option Int} {k : Bool} {x : V} {H : Hp} {Q : VK} {rho gh : List Addr} {m : MH} {o : D} (R : Rel X.K rho gh m H) (h : RD X.K rho gh H o x) (w : WP X.K gh E (slice k o lo hi m) rho H (one Q)) : rSlL X.K x lo hi H Q ∨ rSlA X.K x lo hi H Q ∨ rSlS x lo hi H Q := by
  unfold slice at w
  split at w
  · rename_i ls
    have h0 := h
    have h : RP X.K (rho ++ gh) H (.tuple ls) x := h
    simp only [RP] at h
    obtain ⟨a, xs, rfl, q, z⟩ := h
    have zc := cut_at z lo hi
    refine .inr (.inl ⟨a, xs, rfl, q.sq, fun e => ?_, fun _ p n => wpT R w zc n⟩)
    have e2 : cutV xs lo hi = xs := by
      unfold cutV
      rw [e.1, e.2]
      simp
    rw [e2] at zc
    refine wp1 R w ?_
    simp only [RP]
    exact ⟨a, xs, rfl, q, zc⟩
  · rename_i ls
    have h : RP X.K (rho ++ gh) H (.list ls) x := h
    simp only [RP] at h
    obtain ⟨a, xs, rfl, q, z⟩ := h
    exact .inl ⟨a, xs, rfl, q.sq, fun p n => wpL R w (cut_at z lo hi) n⟩
  · rename_i ls
    obtain ⟨a, xs, rfl, q, z⟩ := h
    exact .inl ⟨a, xs, rfl, q.sq, fun p n => wpL R w (cut_at z lo hi) n⟩
  · rename_i n
    obtain ⟨a, e1, e2⟩ := h
    split at w
    · rename_i ls q
      obtain ⟨xs, e3, z⟩ := R.cell n a _ e2 q
      exact .inl ⟨a, xs, e1, SqL.of e3, fun p n => wpL R w (cut_at z lo hi) n⟩
    · exact w.elim
  · rename_i z
    have h : RP X.K (rho ++ gh) H (.str z) x := h
    simp only [RP] at h
    subst h
    split at w
    · rename_i c
      have e : ∀ (n d : Nat) (o : Option Int), cutIx n d o = HT.sIx n d o := fun n d o => by
        cases o with
        | none => rfl
        | some i => first | rfl | (unfold cutIx HT.sIx; rfl) | (simp only [cutIx, HT.sIx])
      have e2 : cutT z lo hi = cutS z lo hi := by
        unfold cutT cutS
        rw [e, e]
      rw [e2] at w
      exact .inr (.inr ⟨z, rfl, line_sz c, wp1 R w (by simp only [RP])⟩)
    · exact w.elim
  · exact w.elim
end
end M
namespace M
open PySem PySem.Spec PyProof.Rows L2
section
variable {X : Cx} {E : XK} {K : PySem.W.Frag} {rho gh : List Addr} {H : Hp}
theorem one_v {d : D} {vs : List V} (h : RDs K rho gh H [d] vs) : ∃ v, vs = [v] ∧ RD K rho gh H d v := RDs.one_of h
def rLenC : List V → Hp → VK → Prop := fun vs H Q => ∃ (a : Addr) (n : Nat), vs = [V.ref a] ∧ H a = some (CntO a n) ∧ n ≤ 100000 ∧ Q (.int n) H
theorem cr_lenC : CallR X (.builtin "len") rLenC := by
  intro pins s sg H vs us Q I r h
  obtain ⟨a, n, rfl, ha, hn, q⟩ := h
  obtain ⟨u, rfl, ru⟩ := r.one
  cases ru
  obtain ⟨⟨D, e, d1, d2⟩, _, _⟩ := I.hok a _ ha
  exact call_len_set e ⟨rfl, rfl, rfl⟩ rfl d2 (by omega) ⟨.int n, H, I.tok _, ⟨_, by rw [d1]⟩, q⟩
theorem rC_len : CallR X (.builtin "len") (rOn X.K E .len) := by
  intro pins s sg H vs us Q I r h
  obtain ⟨rho, gh, m, ds, R, h, w⟩ := h
  simp only [opD, d_len] at w
  split at w
  · rename_i o
    obtain ⟨v, rfl, hv⟩ := one_v h
    split at w
    · rename_i x
      split at w
      · rename_i c
        cases rd_str hv
        exact call_len_str pins s sg H _ us Q I r ⟨x, rfl, line_sz c, wp1 R w rfl⟩
      · exact w.elim
    · rename_i n
      split at w
      · rename_i c
        obtain ⟨a, rfl, q⟩ := hv
        exact cr_lenC pins s sg H _ us Q I r ⟨a, n, rfl, q.1.1, c, wp1 R w rfl⟩
      · exact w.elim
    · split at w
      · rename_i ls e
        obtain ⟨p, xs, rfl, q, z⟩ := seq_of R hv e
        exact call_len_seq pins s sg H _ us Q I r ⟨p, xs, rfl, q, by rw [RPs.len z]; exact wp1 R w rfl⟩
      · exact w.elim
  · exact w.elim
theorem bools_of : ∀ {ds : List P} {bs : List Bool} {xs : List V} {ex : List Addr}, boolsOf ds = some bs → RPs K ex H ds xs → xs = bs.map V.bl
  | [], bs, xs, ex, e, h => by
    simp only [boolsOf, Option.some.injEq] at e
    subst e
    simpa [RPs] using h
  | d :: ds, bs, xs, ex, e, h => by
    simp only [RPs] at h
    obtain ⟨v, r, rfl, h1, h2⟩ := h
    cases d with
    | bool b =>
      simp only [boolsOf] at e
      split at e
      · rename_i l q
        simp only [Option.some.injEq] at e
        subst e
        simp only [RP] at h1
        subst h1
        rw [bools_of q h2]
        rfl
      · cases e
    | _ => simp [boolsOf] at e
theorem ints_of : ∀ {ds : List P} {bs : List Int} {xs : List V} {ex : List Addr}, intsOf ds = some bs → RPs K ex H ds xs → xs = bs.map V.int
  | [], bs, xs, ex, e, h => by
    simp only [intsOf, Option.some.injEq] at e
    subst e
    simpa [RPs] using h
  | d :: ds, bs, xs, ex, e, h => by
    simp only [RPs] at h
    obtain ⟨v, r, rfl, h1, h2⟩ := h
    cases d with
    | int b =>
      simp only [intsOf] at e
      split at e
      · rename_i l q
        simp only [Option.some.injEq] at e
        subst e
        simp only [RP] at h1
        subst h1
        rw [ints_of q h2]
        rfl
      · cases e
    | _ => simp [intsOf] at e
theorem rC_all (hc : X.calm = true) : CallR X (.builtin "all") (rOn X.K E .all) := by
  intro pins s sg H vs us Q I r h
  obtain ⟨rho, gh, m, ds, R, h, w⟩ := h
  simp only [opD, d_all] at w
  split at w
  · rename_i ls
    obtain ⟨v, rfl, hv⟩ := one_v h
    split at w
    · rename_i bs e2
      have hw : RP X.K (rho ++ gh) H (.list ls) v := hv
      simp only [RP] at hw
      obtain ⟨a, xs, rfl, q, z⟩ := hw
      have ex := bools_of e2 z
      subst ex
      exact cr_all hc pins s sg H _ us Q I r ⟨a, bs, rfl, q.sq, wp1 R w rfl⟩
    · exact w.elim
  · exact w.elim
theorem rC_tuple : CallR X (.type "tuple") (rOn X.K E .tuple) := by
  intro pins s sg H vs us Q I r h
  obtain ⟨rho, gh, m, ds, R, h, w⟩ := h
  simp only [opD, d_tuple] at w
  split at w
  · rename_i o
    obtain ⟨v, rfl, hv⟩ := one_v h
    split at w
    · rename_i ls e
      cases o with
      | p d =>
        cases d with
        | list l =>
          simp only [seqT, seqD, Option.some.injEq] at e
          subst e
          have hw : RP X.K (rho ++ gh) H (.list l) v := hv
          simp only [RP] at hw
          obtain ⟨a, xs, rfl, q, z⟩ := hw
          exact call_tuple_of pins s sg H _ us Q I r ⟨a, xs, rfl, .inl ⟨q.sq, fun p n => wpT R w z n⟩⟩
        | tuple l =>
          simp only [seqT, seqD, Option.some.injEq] at e
          subst e
          have h0 := hv
          have hw : RP X.K (rho ++ gh) H (.tuple l) v := hv
          simp only [RP] at hw
          obtain ⟨a, xs, rfl, q, z⟩ := hw
          exact call_tuple_of pins s sg H _ us Q I r ⟨a, xs, rfl, .inr ⟨q.sq, wp1 R w h0⟩⟩
        | none => simp [seqT, seqD] at e
        | bool b => simp [seqT, seqD] at e
        | int b => simp [seqT, seqD] at e
        | str b => simp [seqT, seqD] at e
        | dict b => simp [seqT, seqD] at e
      | ref n =>
        obtain ⟨a, rfl, e2⟩ := hv
        simp only [seqT, seqD] at e
        split at e
        · rename_i l q
          simp only [Option.some.injEq] at e
          subst e
          obtain ⟨xs, e3, z⟩ := R.cell n a _ e2 q
          exact call_tuple_of pins s sg H _ us Q I r ⟨a, xs, rfl, .inl ⟨SqL.of e3, fun p n => wpT R w z n⟩⟩
        · cases e
      | kt l => simp [seqT] at e
      | st n => simp [seqT, seqD] at e
      | ro l =>
        simp only [seqT, seqD, Option.some.injEq] at e
        subst e
        obtain ⟨a, xs, rfl, q, z⟩ := hv
        exact call_tuple_of pins s sg H _ us Q I r ⟨a, xs, rfl, .inl ⟨q.sq, fun p n => wpT R w z n⟩⟩
    · exact w.elim
  · exact w.elim
theorem rC_list {k : Bool} : CallR X (.type "list") (rOn X.K E (.list k)) := by
  intro pins s sg H vs us Q I r h
  obtain ⟨rho, gh, m, ds, R, h, w⟩ := h
  simp only [opD, d_list] at w
  split at w
  · rename_i o
    obtain ⟨v, rfl, hv⟩ := one_v h
    split at w
    · rename_i ls e
      obtain ⟨p, xs, rfl, q, z⟩ := seq_of R hv e
      exact call_list_of pins s sg H _ us Q I r ⟨p, xs, rfl, q, fun p n => wpL R w z n⟩
    · exact w.elim
  · exact w.elim
theorem rC_int : CallR X (.type "int") (rOn X.K E .int) := by
  intro pins s sg H vs us Q I r h
  obtain ⟨rho, gh, m, ds, R, h, w⟩ := h
  simp only [opD, d_int] at w
  split at w
  · rename_i b
    obtain ⟨v, rfl, hv⟩ := one_v h
    cases rd_bl hv
    exact call_int1 pins s sg H _ us Q I r (.inr ⟨b, rfl, wp1 R w rfl⟩)
  · rename_i i
    obtain ⟨v, rfl, hv⟩ := one_v h
    cases rd_int hv
    exact call_int1 pins s sg H _ us Q I r (.inl ⟨i, rfl, wp1 R w rfl⟩)
  · rename_i a
    obtain ⟨v, rfl, hv⟩ := one_v h
    cases rd_str hv
    split at w
    · rename_i n e
      split at w
      · rename_i c
        exact call_int_str pins s sg H _ us Q I r ⟨a, n, rfl, e, by omega, wp1 R w rfl⟩
      · exact w.elim
    · exact w.elim
  · exact w.elim
theorem strs_rp {K : PySem.W.Frag} {ex : List Addr} {H : Hp} : ∀ {ds : List P} {ys : List Str} {xs : List V}, strsOf ds = some ys → RPs K ex H ds xs → xs = ys.map V.str
  | [], ys, xs, e, h => by
    simp only [strsOf, Option.some.injEq] at e
    subst e
    have := RPs.len h
    exact List.length_eq_zero_iff.mp this
  | d :: ds, ys, xs, e, h => by
    cases d <;> simp only [strsOf, reduceCtorEq] at e
    rename_i i
    split at e
    · rename_i l el
      simp only [Option.some.injEq] at e
      subst e
      obtain ⟨x, r, rfl, hx, hr⟩ := h
      rw [List.map_cons, strs_rp el hr]
      exact congrArg (· :: _) hx
    · cases e
theorem rps_strs {K : PySem.W.Frag} {ex : List Addr} {H : Hp} : ∀ ys : List Str, RPs K ex H (ys.map .str) (ys.map V.str)
  | [] => rfl
  | y :: ys => ⟨_, _, rfl, rfl, rps_strs ys⟩
theorem rM_join : MtR X "str.join" (fun x xs H Q => rOn X.K E .join (x :: xs) H Q) := by
  intro pins s sg H x xs v us Q I rx rs h
  obtain ⟨rho, gh, m, ds, R, h, w⟩ := h
  simp only [opD, d_join] at w
  split at w
  · rename_i a o
    obtain ⟨x0, xs0, e0, h1, h2⟩ := h
    obtain ⟨rfl, rfl⟩ := List.cons.inj e0
    obtain ⟨v2, rfl, h3⟩ := RDs.one_of h2
    cases rd_str h1
    split at w
    · rename_i ls e
      split at w
      · rename_i ys ey
        split at w
        · rename_i c
          obtain ⟨p, zs, rfl, q, z⟩ := seq_of R h3 e
          rw [strs_rp ey z] at q
          exact mt_join pins s sg H _ _ v us Q I rx rs ⟨a, p, ys, rfl, rfl, q, by omega, wp1 R w rfl⟩
        · exact w.elim
      · exact w.elim
    · exact w.elim
  · exact w.elim
theorem rM_split : MtR X "str.split" (fun x xs H Q => rOn X.K E .split (x :: xs) H Q) := by
  intro pins s sg H x xs v us Q I rx rs h
  obtain ⟨rho, gh, m, ds, R, h, w⟩ := h
  simp only [opD, d_split] at w
  split at w
  · rename_i a b
    obtain ⟨x0, xs0, e0, h1, h2⟩ := h
    obtain ⟨rfl, rfl⟩ := List.cons.inj e0
    obtain ⟨v2, rfl, h3⟩ := RDs.one_of h2
    cases rd_str h1
    cases rd_str h3
    split at w
    · rename_i c
      simp only [Bool.and_eq_true, Bool.not_eq_true', decide_eq_true_eq] at c
      exact mt_split pins s sg H _ _ v us Q I rx rs ⟨a, b, rfl, rfl, c.1, line_sz (by omega), fun p n => wpL R w (rps_strs _) n⟩
    · exact w.elim
  · exact w.elim
theorem rC_str : CallR X (.type "str") (rOn X.K E .str) := by
  intro pins s sg H vs us Q I r h
  obtain ⟨rho, gh, m, ds, R, h, w⟩ := h
  simp only [opD, d_str] at w
  split at w
  · rename_i i
    obtain ⟨v, rfl, hv⟩ := one_v h
    cases rd_int hv
    split at w
    · rename_i c
      exact call_str_int pins s sg H _ us Q I r ⟨i, rfl, of_decide_eq_true c, wp1 R w (by simp only [RP])⟩
    · exact w.elim
  · exact w.elim
theorem rC_abs : CallR X (.builtin "abs") (rOn X.K E .abs) := by
  intro pins s sg H vs us Q I r h
  obtain ⟨rho, gh, m, ds, R, h, w⟩ := h
  simp only [opD, d_abs] at w
  split at w
  · rename_i i
    obtain ⟨v, rfl, hv⟩ := one_v h
    cases rd_int hv
    exact call_abs pins s sg H _ us Q I r ⟨i, rfl, wp1 R w rfl⟩
  · exact w.elim
theorem rC_max2 (hc : X.calm = true) : CallR X (.builtin "max") (rOn X.K E .max2) := by
  intro pins s sg H vs us Q I r h
  obtain ⟨rho, gh, m, ds, R, h, w⟩ := h
  simp only [opD, d_max2] at w
  split at w
  · rename_i i j
    obtain ⟨v, u, rfl, h1, h2⟩ := RDs.two_of h
    cases rd_int h1
    cases rd_int h2
    exact call_max2 hc pins s sg H _ us Q I r ⟨i, j, rfl, wp1 R w rfl⟩
  · exact w.elim
theorem rC_min2 (hc : X.calm = true) : CallR X (.builtin "min") (rOn X.K E .min2) := by
  intro pins s sg H vs us Q I r h
  obtain ⟨rho, gh, m, ds, R, h, w⟩ := h
  simp only [opD, d_min2] at w
  split at w
  · rename_i i j
    obtain ⟨v, u, rfl, h1, h2⟩ := RDs.two_of h
    cases rd_int h1
    cases rd_int h2
    exact call_min2 hc pins s sg H _ us Q I r ⟨i, j, rfl, wp1 R w rfl⟩
  · exact w.elim
theorem alike_of {xs : List P} (h : allAlike xs = true) (n : xs.all notNone = true) : PySem.W.AlikeAll xs := by
  unfold allAlike at h
  simp only [List.all_eq_true] at h n
  refine ⟨fun x hx y hy => h x hx y hy, fun x hx => ?_⟩
  rintro rfl
  cases n _ hx
theorem plain_get : ∀ {ds : List P} {i : Nat} {d : P}, PyData.plainAll ds = true → ds[i]? = some d → d.plain = true
  | [], i, d, h, e => by simp at e
  | x :: r, i, d, h, e => by
    simp only [PyData.plainAll, Bool.and_eq_true] at h
    cases i with
    | zero => simp at e; rw [← e]; exact h.1
    | succ i => exact plain_get (ds := r) h.2 (by simpa using e)
theorem pick_of {pins : List (Addr × Obj)} {sg : L2.St} {s : Shared} {its : List Value} {xs : List V} {ds : List P} {ex : List Addr} (I : L2.Inv X pins sg H s) (rv : Vals xs its) (z : RPs X.K ex H ds xs) (pa : PyData.plainAll ds = true) {Q : VK} {d : P} (q : ∀ v, RP X.K ex H d v → Q v H)
    (i : Nat) (v : Value) (h' : Heap) (tk : Nat) (bs : List Addr) (hi : its.toArray[i]? = some v) (hr : Reads h' v d bs) (hk : ∀ b o, s.heap.get? b = some o → h'.get? b = some o) : EP X pins sg Q v { s with heap := h', toks := tk } := by
  have hi : its[i]? = some v := by simpa using hi
  have hx : i < xs.length := by rw [rv.length]; exact (List.getElem?_eq_some_iff.mp hi).1
  obtain ⟨u, e1, r1⟩ := rv.get (List.getElem?_eq_getElem hx)
  rw [hi] at e1
  cases e1
  obtain ⟨d', e2, r2⟩ := RPs.geti z (List.getElem?_eq_getElem hx)
  obtain ⟨as, rd⟩ := RP.reads I r2 r1
  have e3 := SeqAt.plain_unique d' d v as bs (plain_get pa e2) (PySem.W.reads_keeps hk rd) hr
  subst e3
  exact ⟨_, H, I.kept hk, r1, q _ r2⟩
theorem rC_min1 (hc : X.calm = true) (hu : X.A.units + 64 < cLine) : CallR X (.builtin "min") (rOn X.K E .min1) := by
  intro pins s sg H vs us Q I r h
  obtain ⟨rho, gh, m, ds, R, h, w⟩ := h
  simp only [opD, d_min1] at w
  split at w
  · rename_i o
    obtain ⟨v, rfl, hv⟩ := one_v h
    split at w
    · rename_i y t e
      split at w
      · rename_i c
        simp only [Bool.and_eq_true] at c
        obtain ⟨⟨c1, c2⟩, c3⟩ := c
        have dp := dles_depth _ 40 c3
        obtain ⟨p, xs, rfl, q, z⟩ := seq_of R hv e
        rw [Vals.ref1 r]
        rcases q with q | q
        · obtain ⟨its, rv, pl, _⟩ := I.list q
          obtain ⟨as, rd⟩ := Dq.readsAll I _ _ _ (RPs.dp _ _ z) rv
          exact PySem.W.min_list_data (I.ok.hd hc) pl.isList (by simpa using rd) (alike_of c1 c2) (by omega) (pick_of I rv z (dles_plain _ 40 c3) fun v h => wp1 R w h)
        · obtain ⟨its, rv, pl, _⟩ := I.tuple q
          obtain ⟨as, rd⟩ := Dq.readsAll I _ _ _ (RPs.dp _ _ z) rv
          exact PySem.W.min_tuple_data (I.ok.hd hc) pl (by simpa using rd) (alike_of c1 c2) (by omega) (pick_of I rv z (dles_plain _ 40 c3) fun v h => wp1 R w h)
      · exact w.elim
    · exact w.elim
  · exact w.elim
theorem rC_max1 (hc : X.calm = true) (hu : X.A.units + 64 < cLine) : CallR X (.builtin "max") (rOn X.K E .max1) := by
  intro pins s sg H vs us Q I r h
  obtain ⟨rho, gh, m, ds, R, h, w⟩ := h
  simp only [opD, d_max1] at w
  split at w
  · rename_i o
    obtain ⟨v, rfl, hv⟩ := one_v h
    split at w
    · rename_i y t e
      split at w
      · rename_i c
        simp only [Bool.and_eq_true] at c
        obtain ⟨⟨c1, c2⟩, c3⟩ := c
        have dp := dles_depth _ 40 c3
        obtain ⟨p, xs, rfl, q, z⟩ := seq_of R hv e
        rw [Vals.ref1 r]
        rcases q with q | q
        · obtain ⟨its, rv, pl, _⟩ := I.list q
          obtain ⟨as, rd⟩ := Dq.readsAll I _ _ _ (RPs.dp _ _ z) rv
          exact PySem.W.max_list_data (I.ok.hd hc) pl.isList (by simpa using rd) (alike_of c1 c2) (by omega) (pick_of I rv z (dles_plain _ 40 c3) fun v h => wp1 R w h)
        · obtain ⟨its, rv, pl, _⟩ := I.tuple q
          obtain ⟨as, rd⟩ := Dq.readsAll I _ _ _ (RPs.dp _ _ z) rv
          exact PySem.W.max_tuple_data (I.ok.hd hc) pl (by simpa using rd) (alike_of c1 c2) (by omega) (pick_of I rv z (dles_plain _ 40 c3) fun v h => wp1 R w h)
      · exact w.elim
    · exact w.elim
  · exact w.elim
theorem rC_sum (hc : X.calm = true) : CallR X (.builtin "sum") (rOn X.K E .sum) := by
  intro pins s sg H vs us Q I r h
  obtain ⟨rho, gh, m, ds, R, h, w⟩ := h
  simp only [opD, d_sum] at w
  split at w
  · rename_i ls
    obtain ⟨v, rfl, hv⟩ := one_v h
    split at w
    · rename_i bs e2
      have hw : RP X.K (rho ++ gh) H (.list ls) v := hv
      simp only [RP] at hw
      obtain ⟨a, xs, rfl, q, z⟩ := hw
      have ex := ints_of e2 z
      subst ex
      exact cr_sum hc pins s sg H _ us Q I r ⟨a, bs, rfl, q.sq, wp1 R w rfl⟩
    · exact w.elim
  · exact w.elim
def rIsa (K : PySem.W.Frag) (E : XK) (o : Op) (T : String) : List V → Hp → VK → Prop := fun vs H Q => ∃ x, vs = [x, .ty T] ∧ rOn K E o [x] H Q
theorem rC_isa {T : String} {o : Op} {g : P → Bool}
    (k : ∀ {v : Value} {d : PyData} {as : List Addr} {s : Shared} {Q : Value → Shared → Prop}, Reads s.heap v d as → (∀ tk, s.toks ≤ tk → Q (.bool (g d)) { s with toks := tk }) → wpAny (model X.prog X.w) X.A (call (.builtin "isinstance") [v, .type T]) Q X.xe s)
    (kd : ∀ ds m, opD o ds m = .bad ∨ ∃ a, ds = [.p a] ∧ opD o ds m = ok1 (.bool (g a)) m) : CallR X (.builtin "isinstance") (rIsa X.K E o T) := by
  intro pins s sg H vs us Q I r h
  obtain ⟨x, rfl, rho, gh, m, ds, R, h, w⟩ := h
  obtain ⟨u1, u2, rfl, r1, r2⟩ := Vals.two r
  cases r2
  rcases kd ds m with e | ⟨a, rfl, e⟩
  · rw [e] at w
    exact w.elim
  · rw [e] at w
    have hv := one_rd h
    obtain ⟨as, rd⟩ := RP.reads I hv r1
    exact k rd fun tk _ => ⟨.bl _, H, I.tok _, rfl, wp1 R w rfl⟩
theorem rM_append : MtR X "list.append" (fun x vs H Q => rOn X.K E .append (x :: vs) H Q) := by
  intro pins s sg H x vs v us Q I rx rv h
  obtain ⟨rho, gh, m, ds, R, h, w⟩ := h
  simp only [opD, d_append] at w
  split at w
  · rename_i n d
    obtain ⟨x', y, e, h1, h2⟩ := RDs.two_of h
    simp only [List.cons.injEq] at e
    obtain ⟨rfl, rfl⟩ := e
    obtain ⟨a, rfl, e2⟩ := h1
    split at w
    · rename_i l q
      split at w
      · rename_i c
        obtain ⟨xs, e3, z⟩ := R.cell n a _ e2 q
        refine mt_append pins s sg H _ _ v us Q I rx rv ⟨a, xs, y, rfl, rfl, e3, by rw [RPs.len z]; exact line_lt c, ?_⟩
        have hy : RP X.K (rho ++ gh) H d y := h2
        obtain ⟨R1, x1⟩ := R.set e2 (z.append (RPs.one hy))
        obtain ⟨v', e, f⟩ := w rho _ [.non] x1 R1 (RDs.one (d := .p .none) (by show RP _ _ _ _ _; simp only [RP]))
        cases e
        exact f
      · exact w.elim
    · exact w.elim
  · exact w.elim
theorem rM_extend : MtR X "list.extend" (fun x vs H Q => rOn X.K E .extend (x :: vs) H Q) := by
  intro pins s sg H x vs v us Q I rx rv h
  obtain ⟨rho, gh, m, ds, R, h, w⟩ := h
  simp only [opD, d_extend] at w
  split at w
  · rename_i n es
    obtain ⟨x', y, e, h1, h2⟩ := RDs.two_of h
    simp only [List.cons.injEq] at e
    obtain ⟨rfl, rfl⟩ := e
    obtain ⟨a, rfl, e2⟩ := h1
    split at w
    · rename_i l q
      split at w
      · rename_i c
        obtain ⟨xs, e3, z⟩ := R.cell n a _ e2 q
        have hy : RP X.K (rho ++ gh) H (.list es) y := h2
        simp only [RP] at hy
        obtain ⟨b, ys, rfl, q2, z2⟩ := hy
        refine mt_extend pins s sg H _ _ v us Q I rx rv ⟨a, b, xs, ys, rfl, rfl, e3, q2.1.1, by rw [RPs.len z, RPs.len z2]; exact line_sz c, ?_⟩
        obtain ⟨R1, x1⟩ := R.set e2 (z.append z2)
        obtain ⟨v', e, f⟩ := w rho _ [.non] x1 R1 (RDs.one (d := .p .none) (by show RP _ _ _ _ _; simp only [RP]))
        cases e
        exact f
      · exact w.elim
    · exact w.elim
  · exact w.elim
theorem idx_at {x : P} : ∀ {ds : List P} {i j : Nat}, idxD x ds i = some j → ∃ k, j = i + k ∧ PySem.SeqAt.dataPlace ds x = some k
  | [], i, j, e => by simp [idxD] at e
  | y :: r, i, j, e => by
    simp only [idxD] at e
    split at e
    · rename_i c
      simp only [Option.some.injEq] at e
      subst e
      exact ⟨0, rfl, by simp [PySem.SeqAt.dataPlace, List.findIdx?_cons, c]⟩
    · rename_i c
      obtain ⟨k, rfl, q⟩ := idx_at e
      refine ⟨k + 1, by omega, ?_⟩
      have c : PyData.eqv y x = false := by simpa using c
      unfold PySem.SeqAt.dataPlace at q ⊢
      rw [List.findIdx?_cons, c]
      simp [q]
end
end M
namespace M
open PySem PySem.Spec PyProof.Rows L2
section
variable {X : Cx} {E : XK}
theorem lst_of {K : PySem.W.Frag} {rho gh : List Addr} {m : MH} {H : Hp} {d : D} {v : V} {ds : List P} (r : Rel K rho gh m H) (h : RD K rho gh H d v) (e : lstD m d = some ds) : ∃ a xs, v = .ref a ∧ H a = some (.lst xs) ∧ RPs K (rho ++ gh) H ds xs := by
  cases d with
  | p d =>
    cases d with
    | list l =>
      simp only [lstD, Option.some.injEq] at e
      subst e
      have h : RP K (rho ++ gh) H (.list l) v := h
      simp only [RP] at h
      obtain ⟨a, xs, e, q, z⟩ := h
      exact ⟨a, xs, e, q.1.1, z⟩
    | _ => simp [lstD] at e
  | ref n =>
    obtain ⟨a, e1, e2⟩ := h
    simp only [lstD] at e
    split at e
    · rename_i l q
      simp only [Option.some.injEq] at e
      subst e
      obtain ⟨xs, e3, z⟩ := r.cell n a _ e2 q
      exact ⟨a, xs, e1, e3, z⟩
    · cases e
  | ro l => simp [lstD] at e
  | kt l => simp [lstD] at e
  | st n => simp [lstD] at e
theorem rO_addL {k : Bool} : OpR X (binaryOp .Add) (fun x y H Q => rOn X.K E (.addL k) [x, y] H Q) := by
  intro pins s sg H x y v u Q I rx ry h
  obtain ⟨rho, gh, m, ds, R, h, w⟩ := h
  simp only [opD, d_addL] at w
  split at w
  · rename_i a b
    split at w
    · rename_i l1 l2 e1 e2
      obtain ⟨h1, h2⟩ := two_rd h
      split at w
      · rename_i c
        obtain ⟨p, xs, rfl, q1, z1⟩ := lst_of R h1 e1
        obtain ⟨p2, ys, rfl, q2, z2⟩ := lst_of R h2 e2
        exact op_cat pins s sg H _ _ v u Q I rx ry ⟨p, p2, xs, ys, rfl, rfl, q1, q2, by rw [RPs.len z1, RPs.len z2]; exact line_sz c, fun p n => wpL R w (z1.append z2) n⟩
      · exact w.elim
    · exact rO_add pins s sg H x y v u Q I rx ry ⟨rho, gh, m, [a, b], R, h, w⟩
  · exact w.elim
theorem RPs.rep {K : PySem.W.Frag} {ex : List Addr} {H : Hp} {ds : List P} {xs : List V} (h : RPs K ex H ds xs) : ∀ n : Nat, RPs K ex H (List.replicate n ds).flatten (List.replicate n xs).flatten
  | 0 => by simp [RPs]
  | n + 1 => by
    simp only [List.replicate_succ, List.flatten_cons]
    exact h.append (RPs.rep h n)
theorem rO_mulT : OpR X (binaryOp .Mult) (fun x y H Q => rOn X.K E .mulT [x, y] H Q) := by
  intro pins s sg H x y v u Q I rx ry h
  obtain ⟨rho, gh, m, ds, R, h, w⟩ := h
  simp only [opD, d_mulT] at w
  split at w
  · rename_i l1 i
    obtain ⟨h1, h2⟩ := two_rd h
    split at w
    · rename_i c
      simp only [Bool.and_eq_true, decide_eq_true_eq] at c
      obtain ⟨⟨⟨c1, c2⟩, c3⟩, c4⟩ := c
      have h1 : RP X.K (rho ++ gh) H (.tuple l1) x := h1
      simp only [RP] at h1
      obtain ⟨a, xs, rfl, q1, z1⟩ := h1
      cases rd_int h2
      have hl := RPs.len z1
      have ne : xs ≠ [] := fun e => by
        rw [e, List.length_nil] at hl
        have z := List.length_eq_zero_iff.mp hl.symm
        rw [z] at c4
        cases c4
      have w2 : ∀ p, H p = none → Q (.ref p) (L2.upd H p (.tup (List.replicate i.toNat xs).flatten)) := fun p n => wpT R w (z1.rep _) n
      exact op_repT pins s sg H _ _ v u Q I rx ry ⟨a, i, xs, rfl, rfl, q1.sq, ne, c1, c2, by omega, w2⟩
    · exact w.elim
  · exact w.elim
theorem rO_mulL {k : Bool} : OpR X (binaryOp .Mult) (fun x y H Q => rOn X.K E (.mulL k) [x, y] H Q) := by
  intro pins s sg H x y v u Q I rx ry h
  obtain ⟨rho, gh, m, ds, R, h, w⟩ := h
  simp only [opD, d_mulL] at w
  split at w
  · rename_i a i
    split at w
    · rename_i l1 e1
      obtain ⟨h1, h2⟩ := two_rd h
      split at w
      · rename_i c
        simp only [Bool.and_eq_true, decide_eq_true_eq] at c
        obtain ⟨⟨c1, c2⟩, c3⟩ := c
        obtain ⟨p, xs, rfl, q1, z1⟩ := lst_of R h1 e1
        cases rd_int h2
        have hz : xs.length * i.toNat ≤ 100 * 1000 := Nat.mul_le_mul (by rw [RPs.len z1]; exact c3) (by omega)
        exact op_rep pins s sg H _ _ v u Q I rx ry ⟨p, i, xs, rfl, rfl, q1, by omega, by omega, line_sz (by omega), fun p n => wpL R w (z1.rep _) n⟩
      · exact w.elim
    · split at w
      · exact rO_mulT pins s sg H x y v u Q I rx ry ⟨rho, gh, m, _, R, h, w⟩
      · exact rO_mul pins s sg H x y v u Q I rx ry ⟨rho, gh, m, _, R, h, w⟩
  · exact w.elim
theorem rp_none {K : PySem.W.Frag} {ex : List Addr} {H : Hp} {a : P} {x : V} (h : RP K ex H a x) : decide (x = .non) = !notNone a := by
  cases a <;> simp only [RP] at h
  · subst h; rfl
  · subst h; rfl
  · subst h; rfl
  · subst h; rfl
  · obtain ⟨a, xs, rfl, _⟩ := h; rfl
  · obtain ⟨a, xs, rfl, _⟩ := h; rfl
  · obtain ⟨_, _, a, rfl, _⟩ := h; rfl
theorem rO_is : OpR X (compareOp .Is) (fun x y H Q => rOn X.K E .isC [x, y] H Q) := by
  intro pins s sg H x y v u Q I rx ry h
  obtain ⟨rho, gh, m, ds, R, h, w⟩ := h
  simp only [opD, d_isC] at w
  split at w
  · rename_i a b
    obtain ⟨h1, h2⟩ := two_rd h
    unfold isConstP at w
    split at w
    · rename_i e
      split at e
      · simp only [Option.some.injEq] at e
        subst e
        have h2 : y = .non := h2
        subst h2
        refine op_isN pins s sg H _ _ v u Q I rx ry ⟨rfl, wp1 R w ?_⟩
        rw [rp_none (a := a) h1]
        rfl
      · simp only [Option.some.injEq] at e
        subst e
        cases rd_bl h1
        cases rd_bl h2
        exact op_is_bl pins s sg H _ _ v u Q I rx ry ⟨_, _, rfl, rfl, wp1 R w rfl⟩
      · cases e
    · exact w.elim
  · exact w.elim
theorem rO_isn : OpR X (compareOp .IsNot) (fun x y H Q => rOn X.K E .isnC [x, y] H Q) := by
  intro pins s sg H x y v u Q I rx ry h
  obtain ⟨rho, gh, m, ds, R, h, w⟩ := h
  simp only [opD, d_isnC] at w
  split at w
  · rename_i a b
    obtain ⟨h1, h2⟩ := two_rd h
    unfold isConstP at w
    split at w
    · rename_i e
      split at e
      · simp only [Option.some.injEq] at e
        subst e
        have h2 : y = .non := h2
        subst h2
        refine op_notN pins s sg H _ _ v u Q I rx ry ⟨rfl, wp1 R w ?_⟩
        rw [rp_none (a := a) h1]
        rfl
      · simp only [Option.some.injEq] at e
        subst e
        cases rd_bl h1
        cases rd_bl h2
        exact op_isnot_bl pins s sg H _ _ v u Q I rx ry ⟨_, _, rfl, rfl, wp1 R w rfl⟩
      · cases e
    · exact w.elim
  · exact w.elim
theorem RPs.erase {K : PySem.W.Frag} {ex : List Addr} {H : Hp} : ∀ {ds : List P} {xs : List V} (j : Nat), RPs K ex H ds xs → RPs K ex H (ds.eraseIdx j) (xs.eraseIdx j)
  | [], xs, j, h => by simp only [RPs] at h; subst h; simp [RPs]
  | d :: ds, xs, j, h => by
    simp only [RPs] at h
    obtain ⟨v, r, rfl, h1, h2⟩ := h
    cases j with
    | zero => simpa using h2
    | succ j =>
      simp only [List.eraseIdx_cons_succ, RPs]
      exact ⟨v, _, rfl, h1, RPs.erase j h2⟩
theorem rM_remove (hu : X.A.units + 100 < cLine) : MtR X "list.remove" (fun x vs H Q => rOn X.K E .remove (x :: vs) H Q) := by
  intro pins s sg H x vs v us Q I rx rv h
  obtain ⟨rho, gh, m, ds, R, h, w⟩ := h
  simp only [opD, d_remove] at w
  split at w
  · rename_i n d
    obtain ⟨x', y, e, h1, h2⟩ := RDs.two_of h
    simp only [List.cons.injEq] at e
    obtain ⟨rfl, rfl⟩ := e
    obtain ⟨a, rfl, e2⟩ := h1
    split at w
    · rename_i l q
      split at w
      · rename_i j ej
        split at w
        · rename_i c
          simp only [Bool.and_eq_true] at c
          obtain ⟨xs, e3, z⟩ := R.cell n a _ e2 q
          cases rx
          obtain ⟨u, rfl, ru⟩ := rv.one
          obtain ⟨hz, its, nn, r, hl, e4⟩ := I.lstM e3
          obtain ⟨bs, r2⟩ := RP.reads I (ex := rho ++ gh) h2 ru
          obtain ⟨as, rd⟩ := Dq.readsAll I _ _ _ (RPs.dp _ _ z) r
          obtain ⟨k, rfl, hp⟩ := idx_at ej
          rw [Nat.zero_add] at w
          have dp := dles_depth _ 40 c.2
          refine PySem.SeqAt.remove_list_data (vs := its.toArray) (l := a) ⟨_, e4, rfl, nn, rfl⟩ (by simpa using rd) r2 (dles_plain _ 40 c.2) (dle_plain _ 40 c.1) (by omega) hp (by rw [List.size_toArray]; omega) ?_
          obtain ⟨R1, x1⟩ := R.set e2 (z.erase k)
          obtain ⟨v', e, f⟩ := w rho _ [.non] x1 R1 (RDs.one (d := .p .none) (by show RP _ _ _ _ _; simp only [RP]))
          cases e
          refine ⟨.non, _, I.lset (its' := its.eraseIdx k) (t' := s.toks) e3 e4 ?_ (r.eraseIdx k) ?_, rfl, f⟩
          · show its.toArray.eraseIdxIfInBounds k = (its.eraseIdx k).toArray
            rw [List.eraseIdxIfInBounds_toArray]
          · have := List.length_eraseIdx_le (l := xs) (i := k)
            omega
        · exact w.elim
      · exact w.elim
    · exact w.elim
  · exact w.elim
end
end M
namespace M
open PySem PySem.Spec PyProof.Rows L2 PySem.W
section
variable {X : Cx} {E : XK}
theorem lsP_of {K : PySem.W.Frag} {rho gh : List Addr} {m : MH} {H : Hp} {d : D} {v : V} {ds : List P} (r : Rel K rho gh m H) (h : RD K rho gh H d v) (e : lsP m d = some ds) : ∃ a xs, v = .ref a ∧ SqL K H a xs ∧ RPs K (rho ++ gh) H ds xs := by
  cases d with
  | p d =>
    cases d with
    | list l =>
      simp only [lsP, Option.some.injEq] at e
      subst e
      have h : RP K (rho ++ gh) H (.list l) v := h
      simp only [RP] at h
      obtain ⟨a, xs, e, q, z⟩ := h
      exact ⟨a, xs, e, q.sq, z⟩
    | _ => simp [lsP] at e
  | ref n =>
    obtain ⟨a, e1, e2⟩ := h
    simp only [lsP] at e
    split at e
    · rename_i l q
      simp only [Option.some.injEq] at e
      subst e
      obtain ⟨xs, e3, z⟩ := r.cell n a _ e2 q
      exact ⟨a, xs, e1, SqL.of e3, z⟩
    · cases e
  | ro l => simp [lsP] at e
  | kt l => simp [lsP] at e
  | st n => simp [lsP] at e
theorem RPs.rev {K : PySem.W.Frag} {ex : List Addr} {H : Hp} : ∀ {ds : List P} {xs : List V}, RPs K ex H ds xs → RPs K ex H ds.reverse xs.reverse
  | [], xs, h => by simp only [RPs] at h; subst h; simp [RPs]
  | d :: ds, xs, h => by
    simp only [RPs] at h
    obtain ⟨v, r, rfl, h1, h2⟩ := h
    rw [List.reverse_cons, List.reverse_cons]
    exact (RPs.rev h2).append (RPs.one h1)
mutual
theorem Dq.dp {K : PySem.W.Frag} {H : Hp} : ∀ (d : P) (v : V), d.canLay0 = true → Dq K H v d → Dp K H v d
  | .none, v, _, h => by cases h; exact .non
  | .bool b, v, _, h => by cases h; exact .bl b
  | .int b, v, _, h => by cases h; exact .int b
  | .str b, v, _, h => by cases h; exact .str b
  | .list ds, v, c, h => by
    simp only [PyData.canLay0] at c
    cases h with
    | lst q z => exact .lst q (Dq.dps ds _ c z)
  | .tuple ds, v, c, h => by
    simp only [PyData.canLay0] at c
    cases h with
    | tup q z => exact .tup q (Dq.dps ds _ c z)
  | .dict _, v, c, h => by simp [PyData.canLay0] at c
theorem Dq.dps {K : PySem.W.Frag} {H : Hp} : ∀ (ds : List P) (vs : List V), PyData.canLayAll0 ds = true → DqAll K H vs ds → DpAll K H vs ds
  | [], vs, _, h => by cases h; exact .nil
  | d :: ds, vs, c, h => by
    simp only [PyData.canLayAll0, Bool.and_eq_true] at c
    cases h with
    | cons h1 h2 => exact .cons (Dq.dp d _ c.1 h1) (Dq.dps ds _ c.2 h2)
end
theorem lay_of {d : P} (h : PySem.SeqAt.shaped d = true) : d.canLay0 = true := by
  unfold PySem.SeqAt.shaped at h
  simp only [Bool.and_eq_true] at h
  exact h.1
theorem rM_index (hu : X.A.units + 100 < cLine) : MtR X "list.index" (fun x vs H Q => rOn X.K E .index (x :: vs) H Q) := by
  intro pins s sg H x vs v us Q I rx rv h
  obtain ⟨rho, gh, m, ds, R, h, w⟩ := h
  simp only [opD, d_index] at w
  split at w
  · rename_i o d
    obtain ⟨x', y, e, h1, h2⟩ := RDs.two_of h
    simp only [List.cons.injEq] at e
    obtain ⟨rfl, rfl⟩ := e
    split at w
    · rename_i l q
      split at w
      · rename_i j ej
        split at w
        · rename_i c
          simp only [Bool.and_eq_true] at c
          obtain ⟨a, xs, rfl, e3, z⟩ := lsP_of R h1 q
          obtain ⟨k, rfl, hp⟩ := idx_at ej
          rw [Nat.zero_add] at w
          obtain ⟨hk, hk1, hk2⟩ := List.findIdx?_eq_some_iff_getElem.mp hp
          have hy : RP X.K (rho ++ gh) H d y := h2
          refine mt_indexD (by omega) pins s sg H _ _ v us Q I rx rv ⟨a, y, d, l, k, l[k], rfl, rfl, .lst e3 (Dq.dps _ _ (by simpa only [PyData.canLay0] using lay_of c.2) (RPs.dp _ _ z)), Dq.dp _ _ (lay_of c.1) (RP.dp _ _ hy), c.2, c.1, List.getElem?_eq_getElem hk, hk1, fun m z' hm hz => ?_, wp1 R w rfl⟩
          obtain ⟨h5, h6⟩ := List.getElem?_eq_some_iff.mp hz
          have z2 := hk2 m hm
          rw [h6] at z2
          simpa using z2
        · exact w.elim
      · exact w.elim
    · exact w.elim
  · exact w.elim
theorem rM_count (hu : X.A.units + 100 < cLine) : MtR X "list.count" (fun x vs H Q => rOn X.K E .count (x :: vs) H Q) := by
  intro pins s sg H x vs v us Q I rx rv h
  obtain ⟨rho, gh, m, ds, R, h, w⟩ := h
  simp only [opD, d_count] at w
  split at w
  · rename_i o d
    obtain ⟨x', y, e, h1, h2⟩ := RDs.two_of h
    simp only [List.cons.injEq] at e
    obtain ⟨rfl, rfl⟩ := e
    split at w
    · rename_i l q
      split at w
      · rename_i c
        simp only [Bool.and_eq_true] at c
        obtain ⟨a, xs, rfl, e3, z⟩ := lsP_of R h1 q
        cases rx
        obtain ⟨u, rfl, ru⟩ := rv.one
        obtain ⟨its, r, hl, _⟩ := I.list e3
        obtain ⟨bs, r2⟩ := RP.reads I (ex := rho ++ gh) h2 ru
        obtain ⟨as, rd⟩ := Dq.readsAll I _ _ _ (RPs.dp _ _ z) r
        have dp := dles_depth _ 40 c.2
        exact PySem.SeqAt.count_list_data (vs := its.toArray) hl.isList (by simpa using rd) r2 (dles_plain _ 40 c.2) (dle_plain _ 40 c.1) (by omega) ⟨.int _, H, I.tok _, ⟨_, rfl⟩, wp1 R w rfl⟩
      · exact w.elim
    · exact w.elim
  · exact w.elim
theorem rM_insert : MtR X "list.insert" (fun x vs H Q => rOn X.K E .insert (x :: vs) H Q) := by
  intro pins s sg H x vs v us Q I rx rv h
  obtain ⟨rho, gh, m, ds, R, h, w⟩ := h
  simp only [opD, d_insert] at w
  split at w
  · rename_i n i d
    obtain ⟨x', t, e, h1, h2⟩ := h
    simp only [List.cons.injEq] at e
    obtain ⟨rfl, rfl⟩ := e
    obtain ⟨y1, y2, rfl, h3, h4⟩ := RDs.two_of h2
    obtain ⟨a, rfl, e2⟩ := h1
    cases rd_int h3
    split at w
    · rename_i l q
      split at w
      · rename_i c
        simp only [Bool.and_eq_true, decide_eq_true_eq] at c
        obtain ⟨⟨c1, c2⟩, c3⟩ := c
        obtain ⟨xs, e3, z⟩ := R.cell n a _ e2 q
        have hy : RP X.K (rho ++ gh) H d y2 := h4
        refine mt_insert pins s sg H _ _ v us Q I rx rv ⟨a, xs, i, y2, rfl, rfl, e3, by rw [RPs.len z]; exact line_lt (Nat.le_of_lt c1), c2, by omega, ?_⟩
        obtain ⟨R1, x1⟩ := R.set e2 (((z.take i.toNat).append (RPs.one hy)).append (z.drop i.toNat))
        obtain ⟨v', e, f⟩ := w rho _ [.non] x1 R1 (RDs.one (d := .p .none) (by show RP _ _ _ _ _; simp only [RP]))
        cases e
        exact f
      · exact w.elim
    · exact w.elim
  · exact w.elim
theorem le_data (a b : P) : PySem.W.dataLe false (fun d : P => d) a b = leP a b := rfl
theorem insD_at {le : P → P → Bool} (hle : ∀ a b, le a b = leP a b) (x : P) : ∀ (l1 l2 : List P), (∀ b ∈ l1, (!le x b) = true) → (∀ c r, l2 = c :: r → le x c = true) → insD x (l1 ++ l2) = l1 ++ x :: l2
  | [], l2, _, h2 => by
    cases l2 with
    | nil => rfl
    | cons c r =>
      have z := h2 c r rfl
      rw [hle] at z
      show (if leP x c then x :: c :: r else c :: insD x r) = _
      rw [if_pos z]
      rfl
  | b :: l1, l2, h1, h2 => by
    have z := h1 b List.mem_cons_self
    rw [hle] at z
    have z2 : leP x b = false := by simpa using z
    show (if leP x b then x :: b :: (l1 ++ l2) else b :: insD x (l1 ++ l2)) = _
    rw [if_neg (by rw [z2]; exact Bool.false_ne_true), insD_at hle x l1 l2 (fun c hc => h1 c (List.mem_cons_of_mem _ hc)) h2]
    rfl
theorem sortD_eq {le : P → P → Bool} (hle : ∀ a b, le a b = leP a b) (tr : ∀ a b c, le a b = true → le b c = true → le a c = true) (to : ∀ a b, (le a b || le b a) = true) : ∀ l : List P, sortD l = l.mergeSort le
  | [] => by simp [sortD]
  | x :: r => by
    obtain ⟨l1, l2, e1, e2, h1⟩ := List.mergeSort_cons tr to x r
    have pw := List.pairwise_mergeSort tr to (x :: r)
    rw [e1] at pw ⊢
    show insD x (sortD r) = _
    rw [sortD_eq hle tr to r, e2]
    refine insD_at hle x l1 l2 h1 fun c t e => ?_
    subst e
    have z := (List.pairwise_append.mp pw).2.1
    exact (List.pairwise_cons.mp z).1 c List.mem_cons_self
def RdsAs (K : PySem.W.Frag) (ex : List Addr) (H : Hp) (v : Value) (d : P) : Prop := ∃ x, RelV x v ∧ RP K ex H d x
theorem each_of {K : PySem.W.Frag} {ex : List Addr} {H : Hp} : ∀ {ds : List P} {xs : List V} {vs : List Value}, RPs K ex H ds xs → Vals xs vs → PySem.W.EachIs (RdsAs K ex H) vs ds
  | [], xs, vs, h, r => by
    simp only [RPs] at h
    subst h
    cases r
    exact .nil
  | d :: ds, xs, vs, h, r => by
    simp only [RPs] at h
    obtain ⟨x, t, rfl, h1, h2⟩ := h
    cases r with
    | cons r1 r2 => exact .cons ⟨x, r1, h1⟩ (each_of h2 r2)
theorem of_each {K : PySem.W.Frag} {ex : List Addr} {H : Hp} : ∀ {ds : List P} {vs : List Value}, PySem.W.EachIs (RdsAs K ex H) vs ds → ∃ xs, RPs K ex H ds xs ∧ Vals xs vs
  | _, _, .nil => ⟨[], by simp [RPs], .nil⟩
  | _, _, .cons ⟨x, r1, h1⟩ t => by
    obtain ⟨xs, h2, r2⟩ := of_each t
    exact ⟨x :: xs, by simp only [RPs]; exact ⟨x, xs, rfl, h1, h2⟩, .cons r1 r2⟩
theorem each_imp {A B : Type} {R Q : A → B → Prop} (k : ∀ a b, R a b → Q a b) : ∀ {as : List A} {bs : List B}, PySem.W.EachIs R as bs → PySem.W.EachIs Q as bs
  | _, _, .nil => .nil
  | _, _, .cons h t => .cons (k _ _ h) (each_imp k t)
theorem depth_mem {n : Nat} : ∀ {ds : List P}, dles ds n = true → ∀ d ∈ ds, d.depth ≤ n
  | [], _, d, h => nomatch h
  | x :: r, c, d, h => by
    simp only [dles, Bool.and_eq_true] at c
    rcases List.mem_cons.mp h with rfl | h
    · exact dle_depth _ n c.1
    · exact depth_mem c.2 d h
theorem rC_sorted {k : Bool} (hu : X.A.units + 100 < cLine) : CallR X (.builtin "sorted") (rOn X.K E (.sorted k)) := by
  intro pins s sg H vs us Q I r h
  obtain ⟨rho, gh, m, ds, R, h, w⟩ := h
  simp only [opD, d_sorted] at w
  split at w
  · rename_i o
    obtain ⟨v, rfl, hv⟩ := one_v h
    split at w
    · rename_i l q
      split at w
      · rename_i c
        simp only [Bool.and_eq_true, Bool.or_eq_true, decide_eq_true_eq] at c
        obtain ⟨⟨⟨c1, c2⟩, c3⟩, c4⟩ := c
        obtain ⟨a, xs, rfl, e3, z⟩ := lsP_of R hv q
        obtain ⟨its, rv, hl, hz⟩ := I.list e3
        rw [Vals.ref1 r]
        have hm : l.map (fun d => d) = l := List.map_id' l
        have sz : l.length ≤ sizeLine := line_sz c4
        refine PySem.W.sorted_data (vs := its) (bs := l) (enc := fun d => d) (R := RdsAs X.K (rho ++ gh) H) hl.isList (each_of z rv) (each_imp (fun u d ⟨x, r1, h1⟩ => RP.reads I h1 r1) (each_of z rv)) ?_ ?_ sz (fun b hb => by
          have := depth_mem c3 b hb
          omega) fun out ho he => ?_
        · rw [hm]
          unfold allAlike at c1
          simp only [List.all_eq_true] at c1
          exact fun d hd d' hd' => c1 d hd d' hd'
        · rw [hm]
          rcases c2 with c2 | c2
          · refine .inl fun d hd => ?_
            have t := List.all_eq_true.mp c2 d hd
            unfold isTup1 at t
            split at t
            · exact ⟨_, _, rfl⟩
            · cases t
          · refine .inr fun d hd => ?_
            have t := List.all_eq_true.mp c2 d hd
            refine ⟨?_, fun ys => ?_⟩ <;> rintro rfl <;> cases t
        · have to := PySem.W.sortLe_total (PyProof.Rows.listOrd PyProof.Rows.itemOrd) false (fun d : P => PySem.W.keyToks d)
          have es := sortD_eq (le := PySem.W.dataLe false (fun d : P => d)) le_data to.trans (fun a b => by
            rcases to.total a b with t | t
            · exact Bool.or_eq_true_iff.mpr (.inl t)
            · exact Bool.or_eq_true_iff.mpr (.inr t)) l
          rw [← es] at he
          obtain ⟨ys, hy, ry⟩ := of_each he
          obtain ⟨ep, hp⟩ := PyProof.Rows.sortedAll_at s.heap its (List.toArray out)
          have hlen : ys.length ≤ sizeLine := by rw [ry.length, ho]; exact sz
          exact ⟨.ref _, L2.upd H (s.heap.objs.size + 1) (.lst ys), I.laid (t' := s.toks) (fun _ _ => PyProof.Rows.sortedAll_old) (Nat.le_succ _) ⟨hlen, out, ep, ry, hp⟩, rfl, wpL R w hy (I.hok.fresh (Nat.le_succ _))⟩
      · exact w.elim
    · exact w.elim
  · exact w.elim
end
section
open HT
variable {prog : Program} {w : World} {A : Around} {E : Value → Shared → Prop} {s : Shared}
theorem sliceApplied_rev {sl : Addr} {vl vu vs : Value} {n : Nat} {Q : Int × Int × Nat → Shared → Prop} (hs : s.heap.IsSliceOf sl vl vu vs) (pl : IsPart vl none) (pu : IsPart vu none) (ps : IsPart vs (some (-1)))
    (h : Q (((n : Int) - 1), -1, n) s) : wpAny (model prog w) A (Builtin.Slice.sliceApplied (.ref sl) (pure (n : Int))) Q E s := by
  obtain ⟨os, hos, hcs, hds⟩ := id hs
  unfold Builtin.Slice.sliceApplied Builtin.Slice.sliceFields
  refine wpAny_bind (wpAny_bind (wpAny_field hos hds (x := vl) rfl (wpAny_bind (wpAny_field hos hds (x := vu) rfl (wpAny_bind (wpAny_field hos hds (x := vs) rfl (wpAny_pure ?_)))))))
  refine wpAny_bind (slicePart_ ps ?_)
  show wpAny _ _ (if ((-1 : Int) == 0) = true then _ else _) _ _ s
  rw [if_neg (by decide)]
  refine wpAny_bind (slicePart_ pl (wpAny_bind (slicePart_ pu (wpAny_bind (wpAny_pure ?_)))))
  show wpAny _ _ (match Builtin.Slice.sliceAdjust none none (-1) (n : Int) with | (lo, hi) => pure (lo, (-1 : Int), Builtin.Slice.slicePlaces lo hi (-1))) _ _ s
  have e : Builtin.Slice.sliceAdjust none none (-1) (n : Int) = ((n : Int) - 1, -1) := rfl
  rw [e]
  show wpAny _ _ (pure ((n : Int) - 1, (-1 : Int), Builtin.Slice.slicePlaces ((n : Int) - 1) (-1) (-1))) _ _ s
  have e2 : Builtin.Slice.slicePlaces ((n : Int) - 1) (-1) (-1) = n := by
    unfold Builtin.Slice.slicePlaces
    have h1 : ¬ ((-1 : Int) > 0) := by omega
    simp only [h1, if_false, Int.neg_neg, Int.ediv_one]
    split <;> omega
  rw [e2]
  exact wpAny_pure h
theorem fm_all {A B : Type} {f : A → Option B} {g : A → B} : ∀ (l : List A), (∀ x ∈ l, f x = some (g x)) → l.filterMap f = l.map g
  | [], _ => rfl
  | x :: r, h => by
    rw [List.filterMap_cons_some (h x List.mem_cons_self), fm_all r fun y hy => h y (List.mem_cons_of_mem _ hy)]
    rfl
theorem pick_rev (xs : Array Value) : ((List.range xs.size).filterMap fun (m : Nat) => xs[(((xs.size : Int) - 1) + (m : Int) * (-1)).toNat]?).toArray = xs.toList.reverse.toArray := by
  congr 1
  rw [fm_all (g := fun m => (xs.toList[xs.size - 1 - m]?).getD .none) (List.range xs.size) fun m hm => by
    have hm := List.mem_range.mp hm
    have e : (((xs.size : Int) - 1) + (m : Int) * (-1)).toNat = xs.size - 1 - m := by omega
    have l : xs.size - 1 - m < xs.size := by omega
    rw [e]
    simp [l]]
  apply List.ext_getElem?
  intro i
  rw [List.getElem?_map]
  by_cases c : i < xs.size
  · rw [List.getElem?_range c, List.getElem?_reverse (by simpa using c)]
    have l : xs.size - 1 - i < xs.size := by omega
    simp [l]
  · rw [List.getElem?_eq_none (by simpa using c), List.getElem?_eq_none (by simpa using c)]
    rfl
theorem getItem_tuple_rev {t sl : Addr} {items : Array Value} {vl vu vs : Value} {Q : Value → Shared → Prop} (ht : IsTup s.heap t items) (hs : s.heap.IsSliceOf sl vl vu vs) (pl : IsPart vl none) (pu : IsPart vu none) (ps : IsPart vs (some (-1)))
    (h : Q (.ref s.heap.objs.size) { s with heap := s.heap.push { cls := .type "tuple", data := .seq items.toList.reverse.toArray } })
    (hsz : items.size ≤ sizeLine) : wpAny (model prog w) A (getItem (.ref t) (.ref sl)) Q E s := by
  have htake : sizeOk (.seq items.toList.reverse.toArray) := by
    show items.toList.reverse.toArray.size ≤ sizeLine
    rw [List.size_toArray, List.length_reverse, Array.length_toList]
    omega
  obtain ⟨os, hos, hcs, hds⟩ := id hs
  have hTs : s.TypeIs (.ref sl) "slice" := ⟨os, hos, hcs⟩
  unfold getItem
  try with_reducible refine wpAny_holding ?_
  first | refine wpAny_bind (wpAny_pure ?_) | skip
  refine wpAny_bind (wpAny_sequenceKey ht.typeIs (by decide) ?_)
  refine wpAny_bind (wpAny_callSpecial?_slot (name := Str.ofString "__getitem__") ht.typeIs PyProof.Rows.slot_tuple_getitem
    (wpAny_call_entry PyProof.Rows.slot_tuple_getitem ht.typeIs entry_tuple_getitem ?_ (args_tuple_getitem _ _)))
  show wpAny _ _ (Builtin.Tuple.tupleItemsOf (.ref t) >>= _) _ _ s
  refine wpAny_bind (tupleItemsOf_ ht ?_)
  refine wpAny_bind (wpAny_typeOf hTs ?_)
  rw [if_pos (by decide)]
  refine wpAny_bind (sliceApplied_rev hs pl pu ps ?_)
  have hno : ¬ ((((items.size : Int) - 1) == 0 && (-1 : Int) == 1 && items.size == items.size) = true) := by
    intro q
    rw [Bool.and_eq_true, Bool.and_eq_true] at q
    exact absurd q.1.2 (by decide)
  show wpAny _ _ (if (((items.size : Int) - 1) == 0 && (-1 : Int) == 1 && items.size == items.size) = true then _ else _) _ _ s
  rw [if_neg hno, pick_rev]
  first
    | exact wpAny_bind (m := Builtin.Tuple.tupleExact _) (wpAny_newObj_type (wpAny_pure ⟨_, rfl, wpAny_pure h⟩) htake)
    | exact wpAny_bind (m := Builtin.Tuple.tupleExact _) (wpAny_newObj_type (wpAny_bind (wpAny_pure (wpAny_pure ⟨_, rfl, wpAny_pure h⟩))) htake)
    | exact wpAny_bind (wpAny_bind (m := Builtin.Tuple.tupleExact _) (wpAny_newObj_type (wpAny_pure (wpAny_pure ⟨_, rfl, wpAny_pure h⟩)) htake))
    | exact wpAny_bind (wpAny_bind (m := Builtin.Tuple.tupleExact _) (wpAny_newObj_type (wpAny_pure ⟨_, rfl, wpAny_pure h⟩) htake))
end
section
variable {X : Cx}
def tRevA (K : PySem.W.Frag) (te : TE) : TE := fun σ H Q => te σ H fun x H1 => (∃ a xs, x = .ref a ∧ SqL K H1 a xs ∧ ∀ p, H1 p = none → Q (.ref p) (upd H1 p (.lst xs.reverse))) ∨ (∃ a xs, x = .ref a ∧ SqT K H1 a xs ∧ ∀ p, H1 p = none → Q (.ref p) (upd H1 p (.tup xs.reverse)))
theorem pe_revA {e : Expr} {te : TE} {k : Nat} {p1 p2 p3 pos : Pos} (he : PE X e te) : PE X (.Subscript e (.Slice none none (some (.UnaryOp .USub (.Constant (.int 1) k p1) p2)) p3) pos) (tRevA X.K te) := by
  refine ⟨fun pins s σ H Q I h => ?_⟩
  refine Subscript_ (thn (he.run pins s σ H _ I h) fun v s1 ⟨x, H1, I1, r1, q1⟩ => ?_)
  have hst : PO X (some (.UnaryOp .USub (.Constant (.int 1) k p1) p2)) (tPart (tUn (rU fun i => .int (-i)) (tC (.int 1)))) := po_some (pe_un un_neg pe_int)
  refine wpAny_Slice (thn (po_none.run pins s1 σ H1 (fun o H2 => o = none ∧ H2 = H1) I1 ⟨rfl, rfl⟩) fun vl s2 ⟨l, H2, I2, pl, el, e2⟩ => ?_)
  subst el e2
  refine thn (po_none.run pins s2 σ H2 (fun o H3 => o = none ∧ H3 = H2) I2 ⟨rfl, rfl⟩) fun vu s3 ⟨u, H3, I3, pu, eu, e3⟩ => ?_
  subst eu e3
  refine thn (hst.run pins s3 σ H3 (fun o H4 => o = some (-1) ∧ H4 = H3) I3 ⟨1, rfl, -1, rfl, rfl, rfl⟩) fun vs s4 ⟨o, H4, I4, ps, eo, e4⟩ => ?_
  subst eo e4
  have I5 : Inv X pins σ H4 { s4 with heap := s4.heap.push { cls := .type "slice", data := .fields #[vl, vu, vs] } } := I4.kept (t' := s4.toks) fun b ob q => Heap.get?_push_of_some _ q
  rcases q1 with ⟨a, xs, ex, hx, q⟩ | ⟨a, xs, ex, hx, q⟩
  · subst ex
    cases r1
    obtain ⟨its, r, ht, hz⟩ := I5.list hx
    have hlen := r.length
    show wpAny (model X.prog X.w) X.A (subscriptTail e (.Slice none none (some (.UnaryOp .USub (.Constant (.int 1) k p1) p2)) p3) (.ref a) (.ref s4.heap.objs.size)) (EP X pins σ Q) X.xe { s4 with heap := s4.heap.push { cls := .type "slice", data := .fields #[vl, vu, vs] } }
    refine tail_any (ops := [.ref a, .ref s4.heap.objs.size]) ht.isList.typeIs (PySem.slot_list_getitem.lookup) ?_ (by with_unfolding_all rfl)
    refine wpAny_getItem_list_slice ht.isList (Heap.IsSliceOf.new _ vl vu vs) pl pu ps (by decide) ?_ (by rw [List.size_toArray]; omega)
    rw [PySem.W.krv_pick]
    refine ⟨.ref _, _, I5.laid (t' := s4.toks) (o := .lst xs.reverse) (fun b ob q => Heap.get?_push_of_some _ q) (Nat.le_refl _) ?_, rfl, q _ (I5.hok.fresh (Nat.le_refl _))⟩
    exact ⟨by rw [List.length_reverse]; exact hz, _, 0, r.reverse, Heap.get?_push_size _ rfl⟩
  · subst ex
    cases r1
    obtain ⟨its, r, ht, hz⟩ := I5.tuple hx
    have hlen := r.length
    show wpAny (model X.prog X.w) X.A (subscriptTail e (.Slice none none (some (.UnaryOp .USub (.Constant (.int 1) k p1) p2)) p3) (.ref a) (.ref s4.heap.objs.size)) (EP X pins σ Q) X.xe { s4 with heap := s4.heap.push { cls := .type "slice", data := .fields #[vl, vu, vs] } }
    refine tail_any (ops := [.ref a, .ref s4.heap.objs.size]) ht.typeIs (PyProof.Rows.slot_tuple_getitem.lookup) ?_ (by with_unfolding_all rfl)
    refine getItem_tuple_rev ht (Heap.IsSliceOf.new _ vl vu vs) pl pu ps ?_ (by rw [List.size_toArray]; omega)
    refine ⟨.ref _, _, I5.laid (t' := s4.toks) (o := .tup xs.reverse) (fun b ob q => Heap.get?_push_of_some _ q) (Nat.le_refl _) ?_, rfl, q _ (I5.hok.fresh (Nat.le_refl _))⟩
    exact ⟨by rw [List.length_reverse]; exact hz, _, r.reverse, IsTup.new _ _⟩
end
end M
namespace M
open PySem PySem.Spec PyProof.Rows L2
theorem ik_depth : ∀ kvs : List (P × P), ikb kvs = true → PyData.depthKv kvs = 0
  | [], _ => by simp [PyData.depthKv]
  | (.int i, .int j) :: r, h => by
    simp only [ikb] at h
    simp [PyData.depthKv, PyData.depth, ik_depth r h]
mutual
theorem dlt_depth : ∀ (d : P) (n : Nat), dlt d n = true → d.depth ≤ n + 1
  | .none, _, _ => by simp [PyData.depth]
  | .bool _, _, _ => by simp [PyData.depth]
  | .int _, _, _ => by simp [PyData.depth]
  | .str _, _, _ => by simp [PyData.depth]
  | .list xs, 0, h => by simp [dlt] at h
  | .list xs, n + 1, h => by simp only [dlt] at h; have := dlts_depth xs n h; simp only [PyData.depth]; omega
  | .tuple xs, 0, h => by simp [dlt] at h
  | .tuple xs, n + 1, h => by simp only [dlt] at h; have := dlts_depth xs n h; simp only [PyData.depth]; omega
  | .dict kvs, n, h => by
    simp only [dlt] at h
    have := ik_depth kvs h
    simp only [PyData.depth, this]
    omega
theorem dlts_depth : ∀ (ds : List P) (n : Nat), dlts ds n = true → PyData.depthAll ds ≤ n + 1
  | [], _, _ => by simp [PyData.depthAll]
  | x :: r, n, h => by
    simp only [dlts, Bool.and_eq_true] at h
    have h1 := dlt_depth x n h.1
    have h2 := dlts_depth r n h.2
    simp only [PyData.depthAll]
    omega
end
theorem rC_repr {X : Cx} {E : XK} (sm : SmB X.base) (gd : X.A.guards = some []) (hu : X.A.units + 100 < cLine) : CallR X (.builtin "repr") (rOn X.K E .repr) := by
  intro pins s sg H vs us Q I r h
  obtain ⟨rho, gh, m, ds, R, h, w⟩ := h
  simp only [opD, d_repr] at w
  split at w
  · obtain ⟨v, rfl, hv⟩ := one_v h
    have hv : RP X.K (rho ++ gh) H (.dict []) v := hv
    simp only [RP] at hv
    obtain ⟨ls, e0, a, rfl, q⟩ := hv
    obtain ⟨rr, nd⟩ := dic_reads I e0 (.inl q.1.1)
    rw [Vals.ref1 r]
    have q : Q (.str "{}") H := wp1 R w rfl
    have es : (PyData.dict []).shown = "{}" := by decide +kernel
    refine repr_of_reads' (h₀ := s.heap) rr rfl (fun _ => by
      intro z
      have z : sysModules = a := by simpa using z
      rw [← z] at nd
      simp at nd) gd (by show X.A.units + (1 + 1) < cLine; omega) (fun _ _ z => z) (fun h' t tk k => ?_) (by rw [es]; decide +kernel)
    rw [es]
    exact ⟨.str "{}", H, I.kept k, ⟨t, rfl⟩, q⟩
  · rename_i o
    obtain ⟨v, rfl, hv⟩ := one_v h
    split at w
    · rename_i p e
      split at w
      · rename_i c
        unfold shows at c
        simp only [Bool.and_eq_true, Bool.not_eq_true', decide_eq_true_eq] at c
        obtain ⟨⟨⟨c2, c3⟩, c4⟩, c5⟩ := c
        have q : Q (.str p.shown) H := wp1 R w rfl
        have dp := dle_depth p 40 c4
        obtain ⟨u, rfl, ru⟩ := r.one
        obtain ⟨as, rr⟩ := Dq.reads I _ _ _ (val_dp R hv e) ru
        have hd : p.hasDict = true → sysModules ∉ as := fun z => by rw [c3] at z; cases z
        have sz := line_sz c5
        cases p with
        | none => cases rr; exact PySem.P.repr_of_none ⟨.str _, H, I.tok _, ⟨_, rfl⟩, q⟩
        | bool b => cases rr; exact PySem.P.repr_of_bool ⟨.str _, H, I.tok _, ⟨_, rfl⟩, q⟩
        | int i => cases rr; exact PySem.P.repr_of_int (by simpa [PyData.showable] using c2) ⟨.str _, H, I.tok _, ⟨_, rfl⟩, q⟩
        | str x => cases rr; exact PySem.P.repr_of_str ⟨.str _, H, I.tok _, ⟨_, rfl⟩, q⟩ sz
        | dict kvs => cases c3
        | list xs =>
          have hv : ∃ a, u = .ref a := by cases rr; exact ⟨_, rfl⟩
          obtain ⟨a, rfl⟩ := hv
          exact repr_of_reads' (h₀ := s.heap) rr c2 hd gd (by omega) (fun _ _ z => z) (fun h' t tk k => ⟨.str (PyData.list xs).shown, H, I.kept k, ⟨t, rfl⟩, q⟩) sz
        | tuple xs =>
          have hv : ∃ a, u = .ref a := by cases rr; exact ⟨_, rfl⟩
          obtain ⟨a, rfl⟩ := hv
          exact repr_of_reads' (h₀ := s.heap) rr c2 hd gd (by omega) (fun _ _ z => z) (fun h' t tk k => ⟨.str (PyData.tuple xs).shown, H, I.kept k, ⟨t, rfl⟩, q⟩) sz
      · unfold reprT at w
        split at w
        · rename_i c
          unfold shows2 at c
          simp only [Bool.and_eq_true, decide_eq_true_eq] at c
          obtain ⟨⟨c2, c4⟩, c5⟩ := c
          have q : Q (.str p.shown) H := wp1 R w rfl
          have dp := dlt_depth p 40 c4
          obtain ⟨u, rfl, ru⟩ := r.one
          obtain ⟨as, rr, nd⟩ := Dq.reads2 I sm _ _ _ _ c4 (val_dp R hv e) ru
          have hd : p.hasDict = true → sysModules ∉ as := fun _ => nd
          have sz := line_sz c5
          cases p with
          | none => cases rr; exact PySem.P.repr_of_none ⟨.str _, H, I.tok _, ⟨_, rfl⟩, q⟩
          | bool b => cases rr; exact PySem.P.repr_of_bool ⟨.str _, H, I.tok _, ⟨_, rfl⟩, q⟩
          | int i => cases rr; exact PySem.P.repr_of_int (by simpa [PyData.showable] using c2) ⟨.str _, H, I.tok _, ⟨_, rfl⟩, q⟩
          | str x => cases rr; exact PySem.P.repr_of_str ⟨.str _, H, I.tok _, ⟨_, rfl⟩, q⟩ sz
          | dict kvs =>
            have hv : ∃ a, u = .ref a := by cases rr; exact ⟨_, rfl⟩
            obtain ⟨a, rfl⟩ := hv
            exact repr_of_reads' (h₀ := s.heap) rr c2 hd gd (by omega) (fun _ _ z => z) (fun h' t tk k => ⟨.str (PyData.dict kvs).shown, H, I.kept k, ⟨t, rfl⟩, q⟩) sz
          | list xs =>
            have hv : ∃ a, u = .ref a := by cases rr; exact ⟨_, rfl⟩
            obtain ⟨a, rfl⟩ := hv
            exact repr_of_reads' (h₀ := s.heap) rr c2 hd gd (by omega) (fun _ _ z => z) (fun h' t tk k => ⟨.str (PyData.list xs).shown, H, I.kept k, ⟨t, rfl⟩, q⟩) sz
          | tuple xs =>
            have hv : ∃ a, u = .ref a := by cases rr; exact ⟨_, rfl⟩
            obtain ⟨a, rfl⟩ := hv
            exact repr_of_reads' (h₀ := s.heap) rr c2 hd gd (by omega) (fun _ _ z => z) (fun h' t tk k => ⟨.str (PyData.tuple xs).shown, H, I.kept k, ⟨t, rfl⟩, q⟩) sz
        · exact w.elim
    · exact w.elim
  · exact w.elim
end M
namespace M
open PySem PySem.Spec PyProof.Rows L2
abbrev newSt (w : World) : Obj := { cls := .type "set", dict := none, data := .set #[] 0 (.fresh 0 0 (!w.params.followText "set-order")) }
section
variable {P : Program} {w : World} {A : Around} {E : Value → Shared → Prop} {s : Shared}
theorem fill_end {h0 h1 : Heap} {S l b : Addr} {o : Obj} {p q : Obj} (hm : ∀ (b : Addr) (o : Obj), b ∉ [S, (h0.push p).objs.size] → ((h0.push p).push q).get? b = some o → h1.get? b = some o) (eS : S = h0.objs.size) (e : h0.get? b = some o) : h1.get? b = some o := by
  subst eS
  have lt := Heap.lt_size e
  refine hm b o ?_ (Heap.get?_push_of_some _ (Heap.get?_push_of_some _ e))
  intro hb
  rcases List.mem_cons.mp hb with z | hb
  · exact Nat.ne_of_lt lt z
  · rcases List.mem_cons.mp hb with z | hb
    · rw [Heap.size_push] at z
      exact Nat.ne_of_lt (Nat.lt_succ_of_lt lt) z
    · exact nomatch hb
theorem made_of_ints {l : Addr} {its : Array Value} {zs : List Int} {K : Value → Shared → Prop} (calm : A.handled = none) (isl : s.heap.IsList l its) (zi : IntsAre its.toList zs) (few : zs.length + 1 < scanBound)
    (go : ∀ (g : Heap) (t d : Nat), SetR w g s.heap.objs.size (fun j => decide (j ∈ zs)) d → d ≤ zs.length → (∀ b o, s.heap.get? b = some o → g.get? b = some o) → K (.ref s.heap.objs.size) { s with heap := g, toks := t }) :
    wpAny (model P w) A (call (.type "set") [.ref l]) K E s := by
  have len : its.size = zs.length := by
    have z := IntsAre.length zi
    simpa using z
  obtain ⟨c, tl, mro⟩ := PySem.F.called_set.mro
  have made := PySem.F.called_set.made; have sub := PySem.F.called_set.sub
  refine wpAny_call (codeAny_of_tree ?_)
  show wpAny _ _ (callAny (.type "set") _) _ _ s
  refine wpAny_pure ⟨Code.quiet_builtin _ (by decide +kernel), codeAny_builtin PySem.F.entry_type_call ?_⟩
  rw [Around.under_plain (weight_type_call_type "set" [.ref l] []) rfl]
  have f1 := PySem.F.called_set.notType; have f2 := PySem.F.called_set.canCreate; have f3 := PySem.F.typeCall_set_1 (.ref l)
  repeat (any_goals (first | assumption | wp_step))
  refine codeAny_mono (code_set_led1 (.ref l) (E := E) (Q₁ := fun x s1 => x = .ref s.heap.objs.size ∧ s1 = { s with heap := s.heap.push (newSt w) }) ⟨rfl, rfl⟩) fun r s1 hr => ?_
  rcases r with e | fl
  · exact hr
  · cases fl <;> try exact hr.elim
    rename_i x
    obtain ⟨rfl, rfl⟩ := hr
    have at0 : (s.heap.push (newSt w)).get? s.heap.objs.size = some (newSt w) := Heap.get?_push_size _ rfl
    have ty0 : Shared.TypeIs { s with heap := s.heap.push (newSt w) } (.ref s.heap.objs.size) "set" := ⟨_, at0, rfl⟩
    have i1 := PySem.F.called_set.init.lookup; have i2 := PySem.F.called_set.init.bind (.ref s.heap.objs.size)
    repeat (any_goals (first | assumption | wp_step))
    refine codeAny_mono (codeAny_call_builtin (R := wants (fun r s2 => r = .none ∧ ∃ g t d, s2 = { s with heap := g, toks := t } ∧ SetR w g s.heap.objs.size (fun j => decide (j ∈ zs)) d ∧ d ≤ zs.length ∧ ∀ b o, s.heap.get? b = some o → g.get? b = some o) E) PySem.F.called_set.init.plain PySem.F.entry_set_init (check_set_init_1 ty0 ?_)) fun r2 s2 h2 => ?_
    · obtain ⟨⟨oc, od, oz, os⟩, ho, hc, nl, hd⟩ := isl
      simp only at hc hd
      subst hc hd
      have ho' : (s.heap.push (newSt w)).get? l = some { cls := .type "list", dict := od, data := .seq its nl, slots := os } := Heap.get?_push_of_some _ ho
      have q1 := PySem.F.sub_list_set; have q2 := PySem.F.sub_list_frozenset
      have q3 : (Value.type "list" == Value.type "dict") = false := by decide
      have isl' : (s.heap.push (newSt w)).IsList l its := ⟨_, ho', rfl, nl, rfl⟩
      unfold Builtin.«set.__init__» noKeywords Builtin.Frozenset.updateFrom
      generalize hPI : pyIter = PI
      wp_walk
      subst hPI
      refine wpAny_pyIter_list isl' (wpAny_bind (wpAny_runValue ?_))
      have lt : l < s.heap.objs.size := Heap.lt_size ho
      have calm3 : A.in1.in1.in1.handled = none := by simp [calm]
      have sz : (s.heap.push (newSt w)).objs.size = s.heap.objs.size + 1 := Heap.size_push ..
      have ne : l ≠ (s.heap.push (newSt w)).objs.size := by rw [sz]; exact Nat.ne_of_lt (Nat.lt_succ_of_lt lt)
      have out : s.heap.objs.size ∉ [(s.heap.push (newSt w)).objs.size, l] := by
        intro hb
        rw [sz] at hb
        rcases List.mem_cons.mp hb with z | hb
        · exact Nat.ne_of_lt (Nat.lt_succ_self _) z
        · exact Nat.ne_of_gt lt (List.mem_singleton.mp hb)
      have vals : ∀ (i : Nat) (v : Value), its[i]? = some v → ∃ k t, zs[i]? = some k ∧ v = .int k t := fun i v hv => by
        obtain ⟨t, e⟩ := PyProof.Rows.IntsAre.int_at zi i v (by simpa using hv)
        have hi : i < zs.length := by rw [← len]; exact (Array.getElem?_eq_some_iff.mp hv).1
        exact ⟨zs[i], t, by simp [hi], by rw [e]; simp [List.getD_eq_getElem?_getD, hi]⟩
      refine set_update_ints ((Walks.list calm3 _ l ne its).toS) s.heap.objs.size out zs len few vals (its.size - 0) 0 _ (by omega) (Nat.zero_le _) ⟨⟨_, Heap.get?_push_size _ rfl, rfl, rfl⟩, isl'.push _⟩ ⟨0, Nat.le_refl 0, setR_new_at (Heap.get?_push_of_some _ at0)⟩ ?_
      intro s3 d hm hd hS
      rcases s3 with ⟨g, g2, d2, t, o2⟩
      have e1 : g2 = s.gens := hm.gens
      have e2 : d2 = s.drawn := hm.drawn
      have e3 : o2 = s.os := hm.os
      subst e1 e2 e3
      show wpAny _ _ _ _ _ _
      refine wpAny_pure ?_
      show wpAny _ _ (ret Value.none) _ _ _
      exact wpAny_pure ⟨rfl, g, t, d, rfl, hS, by omega, fun b o e => fill_end (l := l) (fun b o => hm.heap b o) rfl e⟩
    · rcases r2 with e | fl2
      · exact h2
      · cases fl2 <;> try exact h2.elim
        obtain ⟨rfl, g, t, d, rfl, hS, hd, hk⟩ := h2
        repeat (any_goals (first | assumption | wp_step))
        exact go _ _ _ hS hd hk
end
end M
namespace M
open PySem PySem.Spec PyProof.Rows L2
theorem mem_insU {x k : Int} : ∀ {l : List Int}, k ∈ insU x l ↔ k = x ∨ k ∈ l
  | [] => by simp [insU]
  | y :: r => by
    unfold insU
    split
    · simp
    · split
      · rename_i e
        subst e
        simp
      · simp only [List.mem_cons, mem_insU (l := r)]
        constructor
        · rintro (h | h | h) <;> simp [h]
        · rintro (h | h | h) <;> simp [h]
theorem pw_insU {x : Int} : ∀ {l : List Int}, l.Pairwise (· < ·) → (insU x l).Pairwise (· < ·)
  | [], _ => by simp [insU]
  | y :: r, h => by
    rw [List.pairwise_cons] at h
    unfold insU
    split
    · rename_i c
      rw [List.pairwise_cons]
      refine ⟨fun z hz => ?_, List.pairwise_cons.mpr h⟩
      rcases List.mem_cons.mp hz with rfl | hz
      · exact c
      · have := h.1 z hz; omega
    · split
      · exact List.pairwise_cons.mpr h
      · rw [List.pairwise_cons]
        refine ⟨fun z hz => ?_, pw_insU h.2⟩
        rcases mem_insU.mp hz with rfl | hz
        · omega
        · exact h.1 z hz
theorem mem_sortU {k : Int} : ∀ {l : List Int}, k ∈ sortU l ↔ k ∈ l
  | [] => by simp [sortU]
  | x :: r => by
    unfold sortU
    rw [mem_insU, mem_sortU (l := r), List.mem_cons]
theorem pw_sortU : ∀ (l : List Int), (sortU l).Pairwise (· < ·)
  | [] => .nil
  | x :: r => by
    unfold sortU
    exact pw_insU (pw_sortU r)
theorem lt_uniq : ∀ {l1 l2 : List Int}, l1.Pairwise (· < ·) → l2.Pairwise (· < ·) → (∀ k, k ∈ l1 ↔ k ∈ l2) → l1 = l2
  | [], [], _, _, _ => rfl
  | [], c :: cs, _, _, h => by have := (h c).mpr (by simp); simp at this
  | a :: as, [], _, _, h => by have := (h a).mp (by simp); simp at this
  | a :: as, c :: cs, h1, h2, h => by
    rw [List.pairwise_cons] at h1 h2
    have e : a = c := by
      rcases List.mem_cons.mp ((h a).mp (by simp)) with z | z
      · exact z
      · rcases List.mem_cons.mp ((h c).mpr (by simp)) with w | w
        · exact w.symm
        · have := h1.1 c w; have := h2.1 a z; omega
    subst e
    have : as = cs := lt_uniq h1.2 h2.2 fun k => by
      constructor
      · intro hk
        rcases List.mem_cons.mp ((h k).mp (List.mem_cons_of_mem _ hk)) with z | z
        · subst z; have := h1.1 _ hk; omega
        · exact z
      · intro hk
        rcases List.mem_cons.mp ((h k).mpr (List.mem_cons_of_mem _ hk)) with z | z
        · subst z; have := h2.1 _ hk; omega
        · exact z
    rw [this]
theorem setR_count {w : World} {h : Heap} {a : Addr} {zs : List Int} {d : Nat} (R : SetR w h a (fun j => decide (j ∈ zs)) d) : d = (sortU zs).length := by
  obtain ⟨o, es, ep, t, h1, h2, h3, h4, nd, hm, h5, h6, hn, h7⟩ := R
  have p : (es.toList.map keyOf).Perm (sortU zs) := (List.perm_ext_iff_of_nodup nd ((pw_sortU zs).imp fun h => by omega)).mpr fun k => by
    rw [mem_sortU, ← hm k]
    simp
  have := p.length_eq
  rw [List.length_map, Array.length_toList] at this
  omega
theorem ints_are : ∀ {zs : List Int} {us : List Value}, Vals (zs.map V.int) us → IntsAre us zs
  | [], _, .nil => .nil
  | z :: zs, _, .cons r t => by
    obtain ⟨k, rfl⟩ := r
    exact .cons z k (ints_are t)
section
variable {X : Cx}
def tSetL (K : PySem.W.Frag) (ta : TE) (Q : List Int → Hp → Prop) : L2.St → Hp → Prop := fun sg H => ta sg H fun x H1 => ∃ l zs, x = V.ref l ∧ SqL K H1 l (zs.map V.int) ∧ zs.length ≤ 1000 ∧ Q zs H1
def tSortSet (K : PySem.W.Frag) (ta : TE) : TE := fun sg H Q => tSetL K ta (fun zs H1 => (sortU zs).length < 64 ∧ ∀ p, H1 p = none → Q (.ref p) (upd H1 p (.lst ((sortU zs).map V.int)))) sg H
def tLenSetI (K : PySem.W.Frag) (ta : TE) : TE := fun sg H Q => tSetL K ta (fun zs H1 => Q (.int (sortU zs).length) H1) sg H
theorem pe_lenSetI {a : Expr} {ta : TE} {p p2 q pos : Pos} (calm : X.calm = true) (g1 : Gl X "len") (m1 : X.mg "len" = none) (g2 : Gl X "set") (m2 : X.mg "set" = none) (ha : PE X a ta) (na : starEach [a] X.env = (false, eval a X.env) :: starEach [] X.env) :
    PE X (.Call (.Name "len" p) [.Call (.Name "set" p2) [a] [] q] [] pos) (tLenSetI X.K ta) := by
  refine ⟨fun pins s sg H Q I h => Call_ (ld_blt I g1 m1 PySem.boot_len (PyProof.Rows.callWith_builtin1 (PyProof.Rows.args_cons (Call_ (ld_blt I g2 m2 PyProof.Rows.boot_set (PyProof.Rows.callWith_type1 (PyProof.Rows.args_cons (thn (ha.run pins s sg H _ I h) fun v s1 ⟨x, H1, I1, r1, q1⟩ => PyProof.Rows.args_nil ?_) na) na rfl))) rfl) rfl rfl))⟩
  obtain ⟨l, zs, rfl, hq, few, q1⟩ := q1
  cases r1
  obtain ⟨its, r, pl, hz⟩ := I1.list hq
  refine made_of_ints (zs := zs) (I1.ok.hd calm) pl.isList (by simpa using ints_are r) (by unfold scanBound; omega) fun g t d R hd hk => PyProof.Rows.args_nil ?_
  have I2 : L2.Inv X pins sg H1 { s1 with heap := g, toks := t } := I1.kept hk
  have hc := setR_count R
  obtain ⟨o, es, ep, tb, ho, hex, hdat, _, _, _, _, hf, hn, _⟩ := R
  exact call_len_set ho hex hdat hf (by omega) ⟨.int (sortU zs).length, H1, I2.tok _, ⟨_, by rw [hn, hc]⟩, q1⟩
theorem pe_sortSet {a : Expr} {ta : TE} {p p2 q pos : Pos} (calm : X.calm = true) (g1 : Gl X "sorted") (m1 : X.mg "sorted" = none) (g2 : Gl X "set") (m2 : X.mg "set" = none) (ha : PE X a ta) (na : starEach [a] X.env = (false, eval a X.env) :: starEach [] X.env) :
    PE X (.Call (.Name "sorted" p) [.Call (.Name "set" p2) [a] [] q] [] pos) (tSortSet X.K ta) := by
  refine ⟨fun pins s sg H Q I h => Call_ (ld_blt I g1 m1 PyProof.Rows.boot_sorted (PyProof.Rows.callWith_builtin1 (PyProof.Rows.args_cons (Call_ (ld_blt I g2 m2 PyProof.Rows.boot_set (PyProof.Rows.callWith_type1 (PyProof.Rows.args_cons (thn (ha.run pins s sg H _ I h) fun v s1 ⟨x, H1, I1, r1, q1⟩ => PyProof.Rows.args_nil ?_) na) na rfl))) rfl) rfl rfl))⟩
  obtain ⟨l, zs, rfl, hq, few, h64, q1⟩ := q1
  cases r1
  obtain ⟨its, r, pl, hz⟩ := I1.list hq
  refine made_of_ints (zs := zs) (I1.ok.hd calm) pl.isList (by simpa using ints_are r) (by unfold scanBound; omega) fun g t d R hd hk => PyProof.Rows.args_nil ?_
  have I2 : L2.Inv X pins sg H1 { s1 with heap := g, toks := t } := I1.kept hk
  have hc := setR_count R
  refine sorted_set R (I2.ok.hd calm) (by omega) fun s3 b out c ns kp gn os2 fresh hg hi hs hm hl => ?_
  have en : ns = sortU zs := lt_uniq hs (pw_sortU zs) fun k => by rw [hm k, mem_sortU]; simp
  subst en
  have nb : H1 b = none := I2.hok.fresh fresh
  have e3 : s3 = { { s1 with heap := g, toks := t } with heap := s3.heap, gens := s3.gens, drawn := s3.drawn, toks := s3.toks } := by
    rcases s3 with ⟨x1, x2, x3, x4, x5⟩
    cases os2
    rfl
  have J : L2.Inv X pins sg (upd H1 b (.lst ((sortU zs).map V.int))) { { s1 with heap := g, toks := t } with heap := s3.heap, gens := s3.gens, drawn := s3.drawn, toks := s3.toks } :=
    I2.call (ch := []) (Un.laid kp fresh nb) (I2.hok.laid kp fresh ⟨by rw [List.length_map, sizeLine_eq]; omega, out.toList, c, vals_of_ints hi, hg⟩) (by rw [gn]; exact I2.bare) fun _ z => nomatch z
  rw [e3]
  exact ⟨.ref b, _, J, rfl, q1 b nb⟩
end
end M
namespace M
open PySem PySem.Spec PyProof.Rows L2 PySem.Froz
theorem addS_len (l : List Str) (x : Str) : (addS l x).length ≤ l.length + 1 := by
  unfold addS
  split <;> simp
theorem fold_len : ∀ (xs l : List Str), (xs.foldl addS l).length ≤ l.length + xs.length
  | [], l => by simp
  | x :: r, l => by
    have h1 := fold_len r (addS l x)
    have h2 := addS_len l x
    simp only [List.foldl_cons, List.length_cons]
    omega
section
variable {P : Program} {w : World} {A : Around} {E : Value → Shared → Prop} {s : Shared}
theorem add_same {a : Addr} {T : String} {D : SD} {l : List Str} {k : Str} {u : Tok} {Q : Bool → Shared → Prop} (ho : s.heap.get? a = some (sObj T D)) (F : TxOk P w D l) (hk : k ∈ l) (hb : l.length + 1 < scanBound)
    (h : Q false s) : wpAny (model P w) A (setAddHashed a (.str k u) (hashStr w k)) Q E s := by
  obtain ⟨es, ep, t⟩ := D
  have hd : (sObj T (es, ep, t)).data = .set es ep t := rfl
  have hf : t.fits es.size = true := F.fit
  have hel : ElemsOf (strKind P w) es.toList := F.el
  have hsz : es.size = l.length := F.sz
  have hb0 : es.size < scanBound := by omega
  have hkey : (strKind P w).is k (.str k u) = true := is_str k u
  obtain ⟨j, hj⟩ : ∃ j, List.findIdx? (fun e => (strKind P w).is k e.2) es.toList = some j := by
    cases hr : List.findIdx? (fun e => (strKind P w).is k e.2) es.toList with
    | some j => exact ⟨j, rfl⟩
    | none =>
      obtain ⟨e, he, q⟩ := (F.mem k).mp hk
      have c := List.findIdx?_eq_none_iff.mp hr e he
      rw [q] at c
      cases c
  unfold setAddHashed setAddHashedIn
  refine wpAny_holding (wpAny_bind (wpAny_setState_of ho hd hf ?_))
  dsimp only
  rw [byScan_of rfl hb0 hel]
  simp only [↓reduceIte]
  unfold setAddByScan
  refine wpAny_bind ?_
  refine wpAny_bind (wpAny_rule ?_)
  refine wpAny_bind (wpAny_setScan_of (knd := strKind P w) (k := k) hkey ho hd hf hel ?_)
  rw [hj]
  dsimp only
  exact wpAny_pure (wpAny_pure h)
def SetX (P : Program) (w : World) (h : Heap) (a : Addr) (l : List Str) : Prop := ∃ D, h.get? a = some (sObj "set" D) ∧ TxOk P w D l
theorem SetX.at {h h' : Heap} {a : Addr} {l : List Str} (R : SetX P w h a l) (k : ∀ o, h.get? a = some o → h'.get? a = some o) : SetX P w h' a l := by
  obtain ⟨D, e, F⟩ := R
  exact ⟨D, k _ e, F⟩
theorem add_any {a : Addr} {l : List Str} {k : Str} {u : Tok} {Q : Bool → Shared → Prop} (R : SetX P w s.heap a l) (hb : l.length + 1 < scanBound)
    (h : ∀ h' b, Heap.SameBut a s.heap h' → SetX P w h' a (addS l k) → Q b { s with heap := h' }) : wpAny (model P w) A (setAddHashed a (.str k u) (hashStr w k)) Q E s := by
  obtain ⟨D, ho, F⟩ := R
  by_cases c : k ∈ l
  · refine add_same ho F c hb ?_
    have e : addS l k = l := by unfold addS; rw [if_pos c]
    exact h s.heap false (Heap.SameBut.refl a s.heap) ⟨D, ho, by rw [e]; exact F⟩
  · refine add_x ho F c hb ?_
    have e : addS l k = k :: l := by unfold addS; rw [if_neg c]
    refine h _ true (Heap.SameBut.update s.heap a _) ⟨_, get_upd _ ho rfl, ?_⟩
    rw [e]
    exact add_ok u F
theorem set_update_strs {I : Addr} {fp wr : List Addr} {G : Array GenState → Array GenState → Prop} {n : Nat} {Pv : Nat → Value → Prop} {St : Nat → Shared → Prop} {R : Result → Shared → Prop}
    (W : WalksS P w A.in1 I fp wr G n Pv St) (S : Addr) (hSf : S ∉ fp) (xs : List Str) (hn : n = xs.length) (hb : xs.length + 1 < scanBound) (hval : ∀ i v, Pv i v → ∃ k t, xs[i]? = some k ∧ v = .str k t) :
    ∀ (k i : Nat) (s : Shared), n - i = k → i ≤ n → St i s → SetX P w s.heap S ((xs.take i).foldl addS []) →
      (∀ s', Moved (S :: wr) G s s' → SetX P w s'.heap S (xs.foldl addS []) → R (.ok (.ret .none)) s') →
      codeAny (model P w) A (.builtin "set.update.loop" ⟨[.ref S, .ref I], []⟩) R s := by
  have hSw : S ∉ wr := fun h => hSf (W.sub _ h)
  have hsub : ∀ b ∈ wr, b ∈ S :: wr := fun b hb => List.mem_cons_of_mem _ hb
  intro k
  induction k with
  | zero =>
    intro i s hk' hi hst hS hR
    have hin : i = n := by omega
    subst hin
    refine codeAny_builtin F.entry_set_update_loop ?_
    rw [Around.under_plainId F.plain_set_update_loop _]
    show wpAny _ A.in1 (pyNext (.ref I) >>= _) _ _ s
    refine wpAny_bind (W.done s _ _ hst fun s' hm => ?_)
    show wpAny _ A.in1 (ret Value.none) _ _ s'
    have e : xs.take i = xs := List.take_of_length_le (by omega)
    rw [e] at hS
    exact wpAny_pure (hR s' (hm.mono hsub) (hS.at fun o e => hm.heap S o hSw e))
  | succ k ih =>
    intro i s hk' hi hst hS hR
    have hlt : i < n := by omega
    refine codeAny_builtin F.entry_set_update_loop ?_
    rw [Around.under_plainId F.plain_set_update_loop _]
    show wpAny _ A.in1 (pyNext (.ref I) >>= _) _ _ s
    refine wpAny_bind (W.item i s _ _ hlt hst fun v s' hP hst' hm => ?_)
    obtain ⟨z, t, hz, rfl⟩ := hval i v hP
    have hS' : SetX P w s'.heap S ((xs.take i).foldl addS []) := hS.at fun o e => hm.heap S o hSw e
    have hl := fold_len (xs.take i) []
    rw [List.length_take] at hl
    simp only [List.length_nil] at hl
    show wpAny _ A.in1 (holding [Value.str z t] (setAdd S (.str z t)) >>= _) _ _ s'
    refine wpAny_bind (wpAny_holding ?_)
    unfold setAdd
    refine wpAny_holding ?_
    refine wpAny_bind ((strKind P w).pyHash (k := z) (is_str z t) ?_)
    refine add_any (s := { s' with toks := s'.toks + 1 }) hS' (by omega) fun h' b0 hsb hS2 => ?_
    have hS3 : SetX P w h' S ((xs.take (i + 1)).foldl addS []) := by
      rw [List.take_add_one, hz, List.foldl_append]
      exact hS2
    refine wpAny_pure ⟨plainId_quiet F.plain_set_update_loop _, ih (i + 1) _ (by omega) hlt (W.frame _ s' _ _ hst' (Nat.le_succ _) fun b hb o e => ?_) hS3 fun s'' hm'' hS'' => ?_⟩
    · rw [hsb.2 b (fun h : b = S => hSf (by rw [← h]; exact hb))]; exact e
    · refine hR s'' (Moved.trans W.gtrans ((hm.mono hsub).then_heap (Nat.le_succ _) fun b o hb e => ?_) hm'') hS''
      rw [hsb.2 b (fun h : b = S => hb (by rw [h]; exact List.mem_cons_self))]; exact e
theorem strs_i : ∀ {us : List Value} {xs : List Str}, StrsAre us xs → ∀ (i : Nat) (v : Value), us[i]? = some v → ∃ k t, xs[i]? = some k ∧ v = .str k t
  | _, _, .nil, i, v, h => by simp at h
  | _, _, .cons y t r, 0, v, h => ⟨y, t, rfl, by simpa using h.symm⟩
  | _, _, .cons y t r, i + 1, v, h => by
    obtain ⟨k, t2, e1, e2⟩ := strs_i r i v (by simpa using h)
    exact ⟨k, t2, by simpa using e1, e2⟩
theorem setX_new {h : Heap} {a : Addr} (e : h.get? a = some (newSt w)) : SetX P w h a [] :=
  ⟨(#[], 0, .fresh 0 0 (!w.params.followText "set-order")), e, TxOk.nil (by cases w.params.followText "set-order" <;> rfl)⟩
theorem made_of_strs {l : Addr} {its : Array Value} {zs : List Str} {K : Value → Shared → Prop} (calm : A.handled = none) (isl : s.heap.IsList l its) (zi : StrsAre its.toList zs) (few : zs.length + 1 < scanBound)
    (go : ∀ (g : Heap) (t : Nat), SetX P w g s.heap.objs.size (zs.foldl addS []) → (∀ b o, s.heap.get? b = some o → g.get? b = some o) → K (.ref s.heap.objs.size) { s with heap := g, toks := t }) :
    wpAny (model P w) A (call (.type "set") [.ref l]) K E s := by
  have len : its.size = zs.length := by
    have z := StrsAre.len_eq zi
    simpa using z
  obtain ⟨c, tl, mro⟩ := PySem.F.called_set.mro
  have made := PySem.F.called_set.made; have sub := PySem.F.called_set.sub
  refine wpAny_call (codeAny_of_tree ?_)
  show wpAny _ _ (callAny (.type "set") _) _ _ s
  refine wpAny_pure ⟨Code.quiet_builtin _ (by decide +kernel), codeAny_builtin PySem.F.entry_type_call ?_⟩
  rw [Around.under_plain (weight_type_call_type "set" [.ref l] []) rfl]
  have f1 := PySem.F.called_set.notType; have f2 := PySem.F.called_set.canCreate; have f3 := PySem.F.typeCall_set_1 (.ref l)
  repeat (any_goals (first | assumption | wp_step))
  refine codeAny_mono (code_set_led1 (.ref l) (E := E) (Q₁ := fun x s1 => x = .ref s.heap.objs.size ∧ s1 = { s with heap := s.heap.push (newSt w) }) ⟨rfl, rfl⟩) fun r s1 hr => ?_
  rcases r with e | fl
  · exact hr
  · cases fl <;> try exact hr.elim
    rename_i x
    obtain ⟨rfl, rfl⟩ := hr
    have at0 : (s.heap.push (newSt w)).get? s.heap.objs.size = some (newSt w) := Heap.get?_push_size _ rfl
    have ty0 : Shared.TypeIs { s with heap := s.heap.push (newSt w) } (.ref s.heap.objs.size) "set" := ⟨_, at0, rfl⟩
    have i1 := PySem.F.called_set.init.lookup; have i2 := PySem.F.called_set.init.bind (.ref s.heap.objs.size)
    repeat (any_goals (first | assumption | wp_step))
    refine codeAny_mono (codeAny_call_builtin (R := wants (fun r s2 => r = .none ∧ ∃ g t, s2 = { s with heap := g, toks := t } ∧ SetX P w g s.heap.objs.size (zs.foldl addS []) ∧ ∀ b o, s.heap.get? b = some o → g.get? b = some o) E) PySem.F.called_set.init.plain PySem.F.entry_set_init (check_set_init_1 ty0 ?_)) fun r2 s2 h2 => ?_
    · obtain ⟨⟨oc, od, oz, os⟩, ho, hc, nl, hd⟩ := isl
      simp only at hc hd
      subst hc hd
      have ho' : (s.heap.push (newSt w)).get? l = some { cls := .type "list", dict := od, data := .seq its nl, slots := os } := Heap.get?_push_of_some _ ho
      have q1 := PySem.F.sub_list_set; have q2 := PySem.F.sub_list_frozenset
      have q3 : (Value.type "list" == Value.type "dict") = false := by decide
      have isl' : (s.heap.push (newSt w)).IsList l its := ⟨_, ho', rfl, nl, rfl⟩
      unfold Builtin.«set.__init__» noKeywords Builtin.Frozenset.updateFrom
      generalize hPI : pyIter = PI
      wp_walk
      subst hPI
      refine wpAny_pyIter_list isl' (wpAny_bind (wpAny_runValue ?_))
      have lt : l < s.heap.objs.size := Heap.lt_size ho
      have calm3 : A.in1.in1.in1.handled = none := by simp [calm]
      have sz : (s.heap.push (newSt w)).objs.size = s.heap.objs.size + 1 := Heap.size_push ..
      have ne : l ≠ (s.heap.push (newSt w)).objs.size := by rw [sz]; exact Nat.ne_of_lt (Nat.lt_succ_of_lt lt)
      have out : s.heap.objs.size ∉ [(s.heap.push (newSt w)).objs.size, l] := by
        intro hb
        rw [sz] at hb
        rcases List.mem_cons.mp hb with z | hb
        · exact Nat.ne_of_lt (Nat.lt_succ_self _) z
        · exact Nat.ne_of_gt lt (List.mem_singleton.mp hb)
      have vals : ∀ (i : Nat) (v : Value), its[i]? = some v → ∃ k t, zs[i]? = some k ∧ v = .str k t := fun i v hv => by
        exact strs_i zi i v (by simpa using hv)
      refine set_update_strs ((Walks.list calm3 _ l ne its).toS) s.heap.objs.size out zs len few vals (its.size - 0) 0 _ (by omega) (Nat.zero_le _) ⟨⟨_, Heap.get?_push_size _ rfl, rfl, rfl⟩, isl'.push _⟩ (setX_new (Heap.get?_push_of_some _ at0)) ?_
      intro s3 hm hS
      rcases s3 with ⟨g, g2, d2, t, o2⟩
      have e1 : g2 = s.gens := hm.gens
      have e2 : d2 = s.drawn := hm.drawn
      have e3 : o2 = s.os := hm.os
      subst e1 e2 e3
      show wpAny _ _ _ _ _ _
      refine wpAny_pure ?_
      show wpAny _ _ (ret Value.none) _ _ _
      exact wpAny_pure ⟨rfl, g, t, rfl, hS, fun b o e => fill_end (l := l) (fun b o => hm.heap b o) rfl e⟩
    · rcases r2 with e | fl2
      · exact h2
      · cases fl2 <;> try exact h2.elim
        obtain ⟨rfl, g, t, rfl, hS, hk⟩ := h2
        repeat (any_goals (first | assumption | wp_step))
        exact go _ _ hS hk
end
theorem cnt_new {P : Program} {w : World} {H : Hp} {h : Heap} {a : Addr} {l : List Str} (R : SetX P w h a l) : ObjOk P w H h a (CntO a l.length) := by
  obtain ⟨D, e, F⟩ := R
  exact ⟨⟨D, e, F.sz, F.fit⟩, ⟨_, e⟩, fun h1 h2 ⟨D, e, q⟩ k => ⟨D, k _ e, q⟩⟩
theorem strs_are : ∀ {zs : List Str} {us : List Value}, Vals (zs.map V.str) us → StrsAre us zs
  | [], _, .nil => .nil
  | z :: zs, _, .cons r t => by
    obtain ⟨k, rfl⟩ := r
    exact .cons z k (strs_are t)
section
variable {X : Cx}
def rSetS (K : PySem.W.Frag) : List V → Hp → VK → Prop := fun vs H Q => ∃ (l : Addr) (zs : List Str), vs = [V.ref l] ∧ SqL K H l (zs.map V.str) ∧ zs.length ≤ 1000 ∧ ∀ p, H p = none → Q (.ref p) (upd H p (CntO p (zs.foldl addS []).length))
theorem cr_setS (calm : X.calm = true) : CallR X (.type "set") (rSetS X.K) := by
  intro pins s sg H vs us Q I r h
  obtain ⟨l, zs, rfl, hq, few, q⟩ := h
  obtain ⟨u, rfl, ru⟩ := r.one
  cases ru
  obtain ⟨its, rv, pl, hz⟩ := I.list hq
  refine made_of_strs (zs := zs) (I.ok.hd calm) pl.isList (by simpa using strs_are rv) (by unfold scanBound; omega) fun g t R hk => ?_
  exact ⟨.ref _, _, I.laid (t' := t) (o := CntO s.heap.objs.size (zs.foldl addS []).length) hk (Nat.le_refl _) (cnt_new R), rfl, q _ (I.hok.fresh (Nat.le_refl _))⟩
theorem strs_of : ∀ {ds : List P} {bs : List Str} {xs : List V} {K : PySem.W.Frag} {ex : List Addr} {H : Hp}, strsOf ds = some bs → RPs K ex H ds xs → xs = bs.map V.str
  | [], bs, xs, _, _, _, h, r => by
    simp only [strsOf, Option.some.injEq] at h
    subst h
    simpa [RPs] using r
  | d :: ds, bs, xs, _, _, _, h, r => by
    cases d <;> simp only [strsOf] at h <;> try cases h
    split at h
    · rename_i l e
      simp only [Option.some.injEq] at h
      subst h
      simp only [RPs] at r
      obtain ⟨v, t, rfl, rv, rt⟩ := r
      simp only [RP] at rv
      subst rv
      rw [strs_of e rt]
      rfl
    · cases h
theorem rC_setT {E : XK} (calm : X.calm = true) : CallR X (.type "set") (rOn X.K E .setT) := by
  intro pins s sg H vs us Q I r h
  obtain ⟨rho, gh, m, ds, R, h, w⟩ := h
  simp only [opD, d_setT] at w
  split at w
  · rename_i o
    obtain ⟨v, rfl, hv⟩ := one_v h
    split at w
    · rename_i ls e
      split at w
      · rename_i zs e2
        split at w
        · rename_i c
          obtain ⟨p, xs, rfl, q, z⟩ := lsP_of R hv e
          have ex := strs_of e2 z
          subst ex
          exact cr_setS calm pins s sg H _ us Q I r ⟨p, zs, rfl, q, of_decide_eq_true c, fun p n => wpS R w n⟩
        · exact w.elim
      · exact w.elim
    · exact w.elim
  · exact w.elim
end
end M
namespace M
open PySem PySem.Spec PyProof.Rows L2
structure FnG (P : Program) (w : World) (K : PySem.W.Frag) (mg : Str → Option Value) (base : Heap) (C : CXT) (k : Nat) (f : Addr) (fd : FuncData) (ps : List Str) (sp : Sp) : Prop where
  len : ∀ vs H Q E, sp vs H Q E → vs.length = ps.length
  run : ∀ {A : Around} {outer : List Env} {s : Shared} {H : Hp} {args : Args} {us : List Value} {vs : List V} {Q : VK} {E : XK}, Room k A → A.guards = some [] → Env0 P w K mg base A outer s H →
    BindsTo s fd args (ps.zip us) → Vals vs us → sp vs H Q E → codeAny (model P w) A (.call (.ref f) args) (CR C outer P w H s Q E) s
section
variable {P : Program} {w : World} {K : PySem.W.Frag} {mg : Str → Option Value} {base : Heap} {C : CXT}
theorem FnG.of (F : FnOk P w K mg base C k f fd ps sp) : FnG P w K mg base C k f fd ps sp := ⟨F.len, fun r _ e b v h => F.run _ _ _ _ _ _ _ _ _ r e b v h⟩
theorem fng_of {k : Nat} {x qual : Str} {params : Arguments} {body : List Stmt} {scope : Scope} {dvs : List V} {kws : List (Str × V)} {f : Addr} {fd : FuncData} {N ps : List Str} {sp : Sp} (F : FunD K x qual params body scope dvs kws f fd) (S : FnScope N ps scope)
    (len : ∀ vs H Q E, sp vs H Q E → vs.length = ps.length)
    (hb : ∀ (cd : Value) (A : Around) (outer : List Env) (s : Shared) (H : Hp) (vs : List V) (Q : VK) (E : XK), fd.code = cd → Room k (A.deeper (envOfC qual scope s.heap.objs.size f cd)) → (A.deeper (envOfC qual scope s.heap.objs.size f cd)).guards = some [] → sp vs H Q E →
      ∃ t, PSs (cxOf C P w K mg base N qual scope f cd A outer s H E) body t ∧ t { nx := fun _ H1 => Q .non H1, rt := Q } (L2.start N vs) H) : FnG P w K mg base C (k + 1) f fd ps sp := by
  obtain ⟨oc, od, dV, kV, doc, pm, an, cd, ct, osl, rfl, lk, hcd, _, _⟩ := F.ex
  refine ⟨len, fun {A outer s H args us vs Q E} hr hg e0 bt rv h => ?_⟩
  have hlen := len vs H Q E h
  have kin : K.In s.heap := e0.mod.kin.keeps fun a o z => (e0.bs a o z).1
  have nol : s.heap.NoLimit := e0.mod.nolimit.keeps fun a o z => (e0.bs a o z).1
  have kinds : ∀ y ∈ ps.zip us, scope.names.lookup y.1 = some .local ∨ scope.names.lookup y.1 = some .cell ∧ ((cellsFrom (s.heap.objs.size + 1) scope.names []).lookup y.1).isSome = true := by
    rintro ⟨n, v⟩ hy
    exact (S.par n (List.of_mem_zip hy).1).imp id fun q => ⟨q, PySem.W.cellsFrom_some _ _ _ (.inl q)⟩
  refine codeAny_call_function hr.depth (kin _ _ lk) rfl S.co S.gen rfl (PySem.W.codeRec_of kin hcd) (bt _ _ _ _ (wpAny_newFunctionEnv_cells S.kind kinds fun env he s1 st => ?_))
  subst he
  refine ⟨nol.keeps st.toInCall.keep, codeAny_func ?_⟩
  obtain ⟨t, pt, q⟩ := hb cd A outer s H vs Q E rfl (hr.deeper _) hg h
  refine wpAny_mono (pt.run [] s1 (L2.start N vs) H _ (inv_start S hr.hd e0 hlen rv st) q) (fun fl s2 hs => ?_) fun _ _ z => z
  cases fl with
  | ret u =>
    obtain ⟨v, sg, H1, J, r, qq⟩ := hs
    exact ⟨v, H1, J.os, J.bare, J.base, J.hok, r, qq⟩
  | next =>
    obtain ⟨sg, H1, J, qq⟩ := hs
    exact ⟨.non, H1, J.os, J.bare, J.base, J.hok, rfl, qq⟩
  | brk =>
    obtain ⟨_, _, _, no⟩ := hs
    exact no.elim
  | cont =>
    obtain ⟨_, _, _, no⟩ := hs
    exact no.elim
end
section
variable {X : Cx} {E : XK} {C : CXT} {k : Nat} {f : Addr} {fd : FuncData} {ps : List Str} {sp : Sp} {x : Str} {p pos : Pos}
theorem run_g {pins : List (Addr × Obj)} {sg : L2.St} {H : Hp} {s : Shared} {Q : VK} {args : Args} {us : List Value} {vs : List V} (F : FnG X.prog X.w X.K X.mg X.base C k f fd ps sp) (hr : Room k X.A) (gd : X.A.guards = some []) (hx : Passes C X E)
    (I : L2.Inv X pins sg H s) (hb : BindsTo s fd args (ps.zip us)) (r : Vals vs us) (h : sp vs H Q E) : wpAny (model X.prog X.w) X.A (call (.ref f) args.pos args.kw) (EP X pins sg Q) X.xe s := by
  refine wpAny_call (codeAny_mono (F.run hr gd I.env0 hb r h) fun res s1 hq => ?_)
  match res, hq with
  | .error e, hq => exact hx pins sg H s e s1 I hq
  | .ok (.ret u), hq => exact I.after hq
  | .ok .next, hq => exact hq.elim
  | .ok .brk, hq => exact hq.elim
  | .ok .cont, hq => exact hq.elim
theorem pe_callG {e : Expr} {es : List Expr} {t : TA} (F : FnG X.prog X.w X.K X.mg X.base C k f fd ps sp) (hr : Room k X.A) (gd : X.A.guards = some []) (hg : Gl X x) (hm : X.mg x = some (.ref f)) (hk : PySem.W.keepIn X.K (.ref f) = true) (hb : Binds X.K fd ps []) (hx : Passes C X E) (ha : PA X (e :: es) t)
    (hdb : (x == ("__debug__" : Str)) = false) (he : starEach (e :: es) X.env = (false, eval e X.env) :: starEach es X.env) (hpl : (backTo pos (starEach es X.env)).any (·.1) = false) : PE X (.Call (.Name x p) (e :: es) [] pos) (tCall sp [] E t) := by
  refine ⟨fun pins s sg H Q I h => wpAny_Call_Name_kw (ld_glob I hg hm ?_ hdb)⟩
  refine PySem.W.callWith_K (h₀ := X.base) I.ok.mod.kin hk (thn (ha.run pos pins s sg H _ I h) fun us s1 ⟨vs, H1, I1, r, q0⟩ => ⟨I1.kIn, ?_⟩) he hpl
  have q : sp (vs ++ []) H1 Q E := q0
  rw [List.append_nil] at q
  have hl : us.length = ps.length := by rw [← r.length]; exact F.len _ _ _ _ q
  have bt := hb s1 us I1.kIn (by rw [List.append_nil]; exact hl)
  rw [List.append_nil] at bt
  exact run_g (args := ⟨us, []⟩) F hr gd hx I1 bt r q
theorem pe_callG0 (F : FnG X.prog X.w X.K X.mg X.base C k f fd ps sp) (hr : Room k X.A) (gd : X.A.guards = some []) (hg : Gl X x) (hm : X.mg x = some (.ref f)) (hk : PySem.W.keepIn X.K (.ref f) = true) (hb : Binds X.K fd ps []) (hx : Passes C X E)
    (hdb : (x == ("__debug__" : Str)) = false) : PE X (.Call (.Name x p) [] [] pos) (tCall sp [] E tNil) := by
  refine ⟨fun pins s sg H Q I h => wpAny_Call_Name_kw (ld_glob I hg hm (PySem.W.callWith_K0 I.kIn hk ?_) hdb)⟩
  have q : sp [] H Q E := h
  have bt := hb s [] I.kIn (by rw [List.append_nil]; exact F.len _ _ _ _ q)
  exact run_g (args := ⟨[], []⟩) F hr gd hx I bt .nil q
end
end M
namespace M
open PySem PySem.Spec PyProof.Rows L2
structure ExcF (K : PySem.W.Frag) (mg : Str → Option Value) (c : Nat) : Prop where
  mg : mg (excN c) = some (.ref (He.ga K (excN c)))
  exc : PySem.W.excIn K (He.ga K (excN c)) He.veBase "ValueError.__new__" = true
  keep : PySem.W.keepIn K (.ref (He.ga K (excN c))) = true
  sub : PySem.W.subIn K (.ref (He.ga K (excN c))) (.type "BaseException") = some true
  ty : PySem.W.typeIn K (.ref (He.ga K (excN c))) = some (.type "type")
structure ExcT (K : PySem.W.Frag) (c : Nat) : Prop where
  pin : PySem.W.exmOne K (.ref (He.ga K (excN c))) (.ref (He.ga K (excN 0))) = some true
  cl : L2.ExcC K (He.ga K (excN c))
  one : ∀ j, 1 ≤ j → j < 13 → PySem.W.kitOne K (.ref (He.ga K (excN c))) (.ref (He.ga K (excN j))) = some (decide (c = j))
  val : PySem.W.kitOne K (.ref (He.ga K (excN c))) (.type "ValueError") = some true
def isaE (p : Nat → Pos) (i : Nat) (c : Str) : Expr := .Call (.Name "isinstance" (p i)) [.Name "_law_e" (p (i + 1)), .Name c (p (i + 2))] [] (p (i + 3))
def strE (p : Nat → Pos) (i : Nat) (x : Str) : Expr := .Constant (.str x) 0 (p i)
def nmE (p : Nat → Pos) (i : Nat) (x : Str) : Expr := .Name x (p i)
def metE (p : Nat → Pos) (i : Nat) (f : Str) : Expr := .Call (.Attribute (nmE p i "_law_marks") f (p (i + 1))) [.Constant (.bool true) 0 (p (i + 2))] [] (p (i + 3))
def kindBody (p : Nat → Pos) (w : Str) : List Stmt :=
  [.Assign [nmE p 0 "_law_marks"] (.List [isaE p 1 (excN 1), isaE p 5 (excN 2), isaE p 9 (excN 3), isaE p 13 (excN 4)] (p 17)) (p 18),
   .Assign [nmE p 19 "_law_marks"] (.BinOp (nmE p 20 "_law_marks") .Add (.List [isaE p 21 (excN 5), isaE p 25 (excN 6), isaE p 29 (excN 7), isaE p 33 (excN 8)] (p 37)) (p 38)) (p 39),
   .Assign [nmE p 40 "_law_marks"] (.BinOp (nmE p 41 "_law_marks") .Add (.List [isaE p 42 (excN 9), isaE p 46 (excN 10), isaE p 50 (excN 11), isaE p 54 (excN 12)] (p 58)) (p 59)) (p 60),
   .Assign [nmE p 61 w] (.List [strE p 62 "board", strE p 63 "pins", strE p 64 "pin", strE p 65 "look", strE p 66 "number", strE p 67 "stand", strE p 68 "row", strE p 69 "laid", strE p 70 "deed", strE p 71 "text", strE p 72 "line", strE p 73 "few"] (p 74)) (p 75),
   .If (.BoolOp .Or [.Compare (metE p 76 "count") [.NotEq] [.Constant (.int 1) 0 (p 80)] (p 81), .UnaryOp .Not (isaE p 82 "ValueError") (p 86)] (p 87)) [.Return (some (strE p 88 "other")) (p 89)] [] (p 90),
   .Return (some (.Subscript (nmE p 91 w) (metE p 92 "index") (p 96))) (p 97)]
def addE (p : Nat → Pos) (i : Nat) (a b : Expr) : Expr := .BinOp a .Add b (p i)
def fldE (p : Nat → Pos) (i : Nat) (f : Str) : Expr := .Call (.Name "str" (p i)) [.Attribute (nmE p (i + 1) "_law_e") f (p (i + 2))] [] (p (i + 3))
def saidBody (p : Nat → Pos) : List Stmt :=
  [.Try [.Return (some (.Call (.Name "repr" (p 0)) [.Call (.Name "_law_call" (p 1)) [] [] (p 2)] [] (p 3))) (p 4)]
    [.ExceptHandler (some (.Name "PinError" (p 5))) (some "_law_e")
      [.Assign [nmE p 6 "_law_label"] (.Call (.Name "_law_kind" (p 7)) [nmE p 8 "_law_e"] [] (p 9)) (p 10),
       .Return (some (addE p 32 (addE p 13 (strE p 11 "! ") (nmE p 12 "_law_label"))
         (.IfExp (.Compare (nmE p 14 "_law_label") [.Eq] [strE p 15 "few"] (p 16))
           (addE p 29 (addE p 24 (addE p 22 (strE p 17 " ") (fldE p 18 "many")) (strE p 23 " ")) (fldE p 25 "least")) (strE p 30 "") (p 31)))) (p 33)] (p 34)] [] [] (p 35)]
def saidN : List Str := ["_law_call", "_law_e", "_law_label"]
def kindN (w : Str) : List Str := ["_law_e", "_law_marks", w]
def glob (sc : Scope) (x : Str) : Prop := sc.names.lookup x = some .globalImplicit
def loc1 (sc : Scope) (x : Str) : Prop := sc.names.lookup x = some .local
structure SaidOk (K : PySem.W.Frag) (mg : Str → Option Value) : Prop where
  said : ∃ (g : Addr) (fd : FuncData) (pg : Arguments) (sg : Scope) (p : Nat → Pos), FunD K "_law_said" "_law_said" pg (saidBody p) sg [] [] g fd ∧ mg "_law_said" = some (.ref g) ∧ Binds K fd ["_law_call"] [] ∧ FnScope saidN ["_law_call"] sg ∧
    glob sg "repr" ∧ glob sg "PinError" ∧ glob sg "_law_kind" ∧ glob sg "str" ∧ loc1 sg "_law_e" ∧ loc1 sg "_law_label"
  kind : ∃ (g : Addr) (fd : FuncData) (pg : Arguments) (sg : Scope) (p : Nat → Pos) (w : Str), FunD K "_law_kind" "_law_kind" pg (kindBody p w) sg [] [] g fd ∧ mg "_law_kind" = some (.ref g) ∧ Binds K fd ["_law_e"] [] ∧ FnScope (kindN w) ["_law_e"] sg ∧
    glob sg "isinstance" ∧ glob sg "ValueError" ∧ (∀ c, 1 ≤ c → c < 13 → glob sg (excN c)) ∧ loc1 sg "_law_e" ∧ loc1 sg "_law_marks" ∧ loc1 sg w ∧ (w == ("__debug__" : Str)) = false ∧ (w == ("__classdict__" : Str)) = false ∧ ((p 77).endLine == (p 79).line) = true ∧ ((p 93).endLine == (p 95).line) = true
  repr : mg "repr" = none
  isa : mg "isinstance" = none
  val : mg "ValueError" = none
  str : mg "str" = none
  exc : ∀ c, c < 13 → mg (excN c) = some (.ref (He.ga K (excN c)))
  tel : ∀ c, 1 ≤ c → c < 13 → ExcT K c
  no1 : PySem.W.findIn K (.ref (He.ga K (excN 12))) "many" = some none
  no2 : PySem.W.findIn K (.ref (He.ga K (excN 12))) "least" = some none
end M
namespace M
open PySem PySem.Spec PyProof.Rows L2
abbrev empTab : Obj := { cls := .none, data := .fields #[] }
structure Begin (P : Program) (w : World) (K : PySem.W.Frag) (h : Heap) (a : Addr) (ns : List Int) (ts : List Addr) (H : Hp) : Prop where
  only : ∀ b, H b = none ∨ (b ∈ ts ∧ H b = some (.tbl #[])) ∨ (b = a ∧ ∃ o, H b = some (.frz o (.lst (ns.map V.int))))
  tb : ∀ b ∈ ts, H b = some (.tbl #[])
  sq : SqL K H a (ns.map V.int)
  ok : HOk P w H h
  apart : H a ≠ none → K.lookup a = none
section
variable {P : Program} {w : World} {K : PySem.W.Frag} {s : Shared} {a : Addr} {vs : List Value} {ns : List Int} {ts : List Addr}
theorem begins (KX : K.In s.heap) (ha : s.heap.get? a = some { cls := .type "list", data := .seq vs.toArray }) (hi : IntsAre vs ns) (hl : ns.length ≤ sizeLine) (ht : ∀ b ∈ ts, s.heap.get? b = some empTab) : ∃ H, Begin P w K s.heap a ns ts H := by
  have rv := vals_ints hi
  have lv := hi.length
  have out : a ∉ ts := fun z => by
    have q := ht a z
    rw [ha] at q
    cases (show Data.seq vs.toArray _ = Data.fields #[] from congrArg Obj.data (Option.some.inj q))
  by_cases hk : K.lookup a = none
  · let ob : Obj := { cls := .type "list", data := .seq vs.toArray }
    refine ⟨fun b => if b ∈ ts then some (.tbl #[]) else if b = a then some (.frz ob (.lst (ns.map V.int))) else none, fun b => ?_, fun b hb => if_pos hb, .inl (.inr ⟨ob, (if_neg out).trans (if_pos rfl)⟩), fun b u z => ?_, fun _ => hk⟩
    · by_cases e : b ∈ ts
      · exact .inr (.inl ⟨e, if_pos e⟩)
      · by_cases e2 : b = a
        · exact .inr (.inr ⟨e2, ob, (if_neg e).trans (if_pos e2)⟩)
        · exact .inl ((if_neg e).trans (if_neg e2))
    · by_cases e : b ∈ ts
      · rw [if_pos e] at z
        cases z
        exact ht b e
      · rw [if_neg e] at z
        by_cases e2 : b = a
        · subst e2
          rw [if_pos rfl] at z
          cases z
          exact ⟨ha, by rw [List.length_map]; exact hl, vs, _, rv, ha⟩
        · rw [if_neg e2] at z
          cases z
  · obtain ⟨o, ho⟩ := Option.ne_none_iff_exists'.mp hk
    have e := KX a o ho
    rw [ha] at e
    cases e
    refine ⟨fun b => if b ∈ ts then some (.tbl #[]) else none, fun b => ?_, fun b hb => if_pos hb, .inr ⟨_, vs.toArray, _, ho, rfl, rfl, rfl, by rw [List.size_toArray, lv]; exact hl, by simpa using rv⟩, fun b u z => ?_, fun z => absurd (if_neg out) z⟩
    · by_cases e : b ∈ ts
      · exact .inr (.inl ⟨e, if_pos e⟩)
      · exact .inl (if_neg e)
    · by_cases e : b ∈ ts
      · rw [if_pos e] at z
        cases z
        exact ht b e
      · rw [if_neg e] at z
        cases z
theorem Begin.env {mg mb : Str → Option Value} {H : Hp} (B : Begin P w K s.heap a ns ts H) (KX : K.In s.heap) (n1 : s.heap.Ns mainGlobals mg) (n2 : s.heap.Ns builtinsNs mb) (hbb : ∀ x : Str, x ≠ "__name__" → mb x = bootBuiltins x) (lim : s.heap.NoLimit) (hg : s.gens = #[])
    (ha : s.heap.get? a = some { cls := .type "list", data := .seq vs.toArray }) (ht : ∀ b ∈ ts, s.heap.get? b = some empTab) (nt : ∀ b ∈ ts, K.lookup b = none) :
    K.In (hidT s.heap H) ∧ (hidT s.heap H).Ns mainGlobals mg ∧ Env0 P w K mg (hidT s.heap H) callerA [] s H ∧ ∀ b o, s.heap.get? b = some o → (∀ us n, o.data ≠ .seq us n) → o.data ≠ .fields #[] → (hidT s.heap H).get? b = some o := by
  have free : ∀ b o, s.heap.get? b = some o → (∀ us n, o.data ≠ .seq us n) → o.data ≠ .fields #[] → H b = none := fun b o e d1 d2 => by
    rcases B.only b with z | ⟨z, _⟩ | ⟨z, _⟩
    · exact z
    · rw [ht b z] at e
      cases e
      exact (d2 rfl).elim
    · subst z
      rw [ha] at e
      cases e
      exact (d1 _ _ rfl).elim
  have lay : ∀ {b : Addr} {m : Str → Option Value}, s.heap.Ns b m → (hidT s.heap H).Ns b m := by
    rintro b m ⟨o, es, ep, e, d, r⟩
    exact ⟨o, es, ep, hidT_get e (free b o e (fun us n z => by rw [d] at z; cases z) fun z => by rw [d] at z; cases z), d, r⟩
  have kin : K.In (hidT s.heap H) := fun b o e => hidT_get (KX b o e) (by
    rcases B.only b with z | ⟨z, _⟩ | ⟨z, y, z2⟩
    · exact z
    · rw [nt b z] at e
      cases e
    · subst z
      rw [B.apart (by rw [z2]; simp)] at e
      cases e)
  obtain ⟨mc, l1, l2⟩ := lim
  exact ⟨kin, lay n1, ⟨rfl, ⟨kin, lay n1, ⟨mb, lay n2, hbb⟩, ⟨mc, lay l1, l2⟩⟩, fun b o e => of_hidT e, Nat.le_of_eq (hidT_size _ _), trivial, fun b hb => (nomatch hb), B.ok, .of_eq hg⟩, fun b o e d1 d2 => hidT_get e (free b o e d1 d2)⟩
theorem tabb_of {base h : Heap} {mg : Str → Option Value} {c p : Addr} (bo : ∀ b o, h.get? b = some o → (∀ us n, o.data ≠ .seq us n) → o.data ≠ .fields #[] → base.get? b = some o) (hn : h.Ns mainGlobals mg) (hp : h.get? p = some empTab) (cd : PySem.W.CodeHd h c p)
    (hm : ∃ (bm : Addr) (ob : Obj), mg "__builtins__" = some (.ref bm) ∧ bm ≠ builtinsNs ∧ h.get? bm = some ob ∧ ob.cls = .type "module" ∧ ob.dict = some builtinsNs ∧ ob.data = .plain) : LamX.TabB base mg c p := by
  obtain ⟨og, es, ep, g1, g2, _⟩ := hn
  obtain ⟨bm, ob, b1, b2, b3, b4, b5, b6⟩ := hm
  have ng : mainGlobals ≠ p := fun z => by
    rw [z, hp] at g1
    cases g1
    cases g2
  have nm : bm ≠ mainGlobals := fun z => by
    rw [z, g1] at b3
    cases b3
    rw [g2] at b6
    cases b6
  have np : bm ≠ p := fun z => by
    rw [z, hp] at b3
    cases b3
    cases b6
  obtain ⟨o, us, file, tf, fl, tg, inF, tx, tt, e1, r1, r2, r3, r⟩ := cd
  refine ⟨⟨o, us, file, tf, fl, tg, inF, tx, tt, bo _ _ e1 (fun _ _ z => ?_) fun z => ?_, r1, r2, r3, r⟩, ⟨bm, ob, b1, b2, nm, np, bo _ _ b3 (fun _ _ z => ?_) fun z => ?_, b4, b5, b6⟩, ng⟩
  · rw [r2] at z; cases z
  · rw [r2] at z; cases z; simp at r3
  · rw [b6] at z; cases z
  · rw [b6] at z; cases z
theorem law_callG {C : CXT} {k : Nat} {fa : Addr} {fd : FuncData} {x : Str} {sp : Sp} {mg mb : Str → Option Value} {cs : List (Addr × Addr)} (KX : K.In s.heap) (n1 : s.heap.Ns mainGlobals mg) (n2 : s.heap.Ns builtinsNs mb) (hbb : ∀ x : Str, x ≠ "__name__" → mb x = bootBuiltins x) (lim : s.heap.NoLimit) (hg : s.gens = #[])
    (hm : ∃ (bm : Addr) (ob : Obj), mg "__builtins__" = some (.ref bm) ∧ bm ≠ builtinsNs ∧ s.heap.get? bm = some ob ∧ ob.cls = .type "module" ∧ ob.dict = some builtinsNs ∧ ob.data = .plain)
    (ht : ∀ q ∈ cs, s.heap.get? q.2 = some empTab) (nt : ∀ q ∈ cs, K.lookup q.2 = none) (hc : ∀ q ∈ cs, PySem.W.CodeHd s.heap q.1 q.2)
    (ha : s.heap.get? a = some { cls := .type "list", data := .seq vs.toArray }) (hi : IntsAre vs ns) (hl : ns.length ≤ sizeLine) (hr : Room k callerA) (hs : SmB s.heap) (F : ∀ base : Heap, K.In base → base.Ns mainGlobals mg → (∀ q ∈ cs, LamX.TabB base mg q.1 q.2) → SmB base → FnG P w K mg base C k fa fd [x] sp)
    (hb : ∀ (s : Shared) (u : Value), BindsTo s fd ⟨[u], []⟩ [(x, u)]) (hsp : ∀ H : Hp, (∀ q ∈ cs, H q.2 = some (.tbl #[])) → (∀ xs, H a ≠ some (.lst xs)) → SqL K H a (ns.map V.int) → sp [.ref a] H (fun v _ => v = .bl true) fun _ _ _ => False) (no : ∀ H e s', C [] H s (fun _ _ _ => False) e s' → False) :
    codeAny (model P w) callerA (.call (.ref fa) ⟨[.ref a], []⟩) (fun r s' => r = .ok (.ret (.bool true)) ∧ OldK s.heap s'.heap ∧ s'.os = s.os ∧ AllBare s'.gens) s := by
  have mt : ∀ q ∈ cs, q.2 ∈ cs.map (·.2) := fun q hq => List.mem_map.mpr ⟨q, hq, rfl⟩
  have tm : ∀ b ∈ cs.map (·.2), ∃ q ∈ cs, q.2 = b := fun b hb => List.mem_map.mp hb
  have ht2 : ∀ b ∈ cs.map (·.2), s.heap.get? b = some empTab := fun b hb => by
    obtain ⟨q, hq, rfl⟩ := tm b hb
    exact ht q hq
  have nt2 : ∀ b ∈ cs.map (·.2), K.lookup b = none := fun b hb => by
    obtain ⟨q, hq, rfl⟩ := tm b hb
    exact nt q hq
  obtain ⟨H, B⟩ := begins (P := P) (w := w) KX ha hi hl ht2
  obtain ⟨k1, k2, e0, bo⟩ := B.env KX n1 n2 hbb lim hg ha ht2 nt2
  have nl : ∀ xs, H a ≠ some (.lst xs) := fun xs z => by
    rcases B.only a with e | ⟨_, e⟩ | ⟨_, o, e⟩ <;> rw [z] at e <;> cases e
  refine codeAny_mono ((F _ k1 k2 (fun q hq => tabb_of bo n1 (ht q hq) (hc q hq) hm) (let ⟨o, es, n, h1, h2⟩ := hs; ⟨o, es, n, bo _ _ h1 (fun _ _ z => (by rw [h2] at z; cases z)) (fun z => (by rw [h2] at z; cases z)), h2⟩)).run (us := [Value.ref a]) (vs := [V.ref a]) hr rfl e0 (hb s (.ref a)) (.cons rfl .nil) (hsp H (fun q hq => B.tb _ (mt q hq)) nl B.sq)) fun r s1 h => ?_
  match r, h with
  | .error e, h => exact (no H e s1 h).elim
  | .ok .next, h => exact h.elim
  | .ok .brk, h => exact h.elim
  | .ok .cont, h => exact h.elim
  | .ok (.ret u), h =>
    obtain ⟨v, H1, os, bare, un, ok1, rv, q⟩ := h
    have q : v = .bl true := q
    subst q
    have eu : u = Value.bool true := rv
    subst eu
    have kept : ∀ b o, b ∉ cs.map (·.2) → s.heap.get? b = some o → s1.heap.get? b = some o := fun b o nb e => by
      rcases B.only b with z | ⟨z, _⟩ | ⟨_, oo, z⟩
      · exact un.keep b o e z (fun z => (nomatch z)) (by simp)
      · exact (nb z).elim
      · have f1 := (B.ok b _ z).1
        rw [e] at f1
        cases f1
        exact (ok1 b _ (un.frzs b o _ z)).1
    have grew : ∀ b ∈ cs.map (·.2), ∃ more : Array Value, s1.heap.get? b = some { cls := .none, data := .fields more } := fun b hb => by
      obtain ⟨more, z⟩ := un.tbls b #[] (B.tb b hb)
      exact ⟨_, ok1 b _ z⟩
    refine ⟨rfl, ⟨fun b o e => ?_, fun b o e => ?_⟩, os, bare⟩ <;> by_cases hb : b ∈ cs.map (·.2)
    · obtain ⟨more, z⟩ := grew b hb
      obtain ⟨q, hq, rfl⟩ := tm b hb
      rw [ht q hq] at e
      cases e
      exact .inr (.inl ⟨((hc q hq).tab (ht q hq)).isCodeTable, rfl, #[], more, rfl, by rw [Array.empty_append]; exact z⟩)
    · exact .inl (kept b o hb e)
    · obtain ⟨more, z⟩ := grew b hb
      exact ⟨_, z⟩
    · exact ⟨o, kept b o hb e⟩
end
end M
namespace M
open PySem PySem.Spec PyProof.Rows L2
structure Gs where
  vals : List (Str × P)
  blts : List Str
  fns : List Str
  kws : List (Nat × List Str × List Nat)
  said : Bool
  excs : List Nat
  few : Bool
  /-- the class of tables is there; need_board; which functions are its methods; within a lambda -/
  tb : Bool
  nb : Option Nat
  mths : List Nat
  lo : Bool
  /-- the dict of signs is there -/
  sgn : Bool := false
def Gs.low (G : Gs) : Gs := { G with said := false, nb := none, lo := true }
def Gs.at (G : Gs) (n : Str) : Gs := { G with said := G.said && lamNames.contains n }
def roomS (G : Gs) : Nat := if G.said then 2 else if G.lo then 0 else 2
def fnAt (G : Gs) (f : Nat) (x : Str) : Bool := decide (G.fns[f]? = some x) && !G.mths.contains f
def mtAt (G : Gs) (f : Nat) (x : Str) : Bool := decide (G.fns[f]? = some x) && G.mths.contains f
def nSaid : Str := "_law_said"
def noPs : Arguments → Bool
  | ⟨[], [], none, [], [], none, []⟩ => true
  | _ => false
def vis (sc : Scope) (x : Str) : Bool := match sc.names.lookup x with
  | some .local => true
  | some .cell => true
  | some .free => true
  | _ => false
def isGl (sc : Scope) (x : Str) : Bool := match sc.names.lookup x with
  | some .globalImplicit => true
  | _ => false
def plainNm (x : Str) : Bool := !(x == ("__debug__" : Str)) && !(x == ("__classdict__" : Str))
def bl (G : Gs) (sc : Scope) (x : Str) (y : Str) : Bool := decide (x = y) && isGl sc x && G.blts.contains x
def notSt : Expr → Bool
  | .Starred _ _ => false
  | _ => true
def notSl : Expr → Bool
  | .Slice _ _ _ _ => false
  | _ => true
def notSet : Expr → Bool
  | .Set _ _ _ => false
  | _ => true
def notSup : Expr → Bool
  | .Call (.Name _ _) [] [] _ => false
  | _ => true
def plainTest : Expr → Bool
  | .UnaryOp _ _ _ => false
  | .BoolOp _ _ _ => false
  | .IfExp _ _ _ _ => false
  | .Compare _ _ _ _ => false
  | _ => true
def nLen : Str := "len"
def nAll : Str := "all"
def nTuple : Str := "tuple"
def nList : Str := "list"
def nInt : Str := "int"
def nAbs : Str := "abs"
def nMax : Str := "max"
def nMin : Str := "min"
def nSum : Str := "sum"
def nIsa : Str := "isinstance"
def nBool : Str := "bool"
def nStr : Str := "str"
def nAppend : Str := "append"
def nExtend : Str := "extend"
def nRemove : Str := "remove"
def nIndex : Str := "index"
def nJoin : Str := "join"
def nSplit : Str := "split"
def nCount : Str := "count"
def nSorted : Str := "sorted"
def nInsert : Str := "insert"
def nRepr : Str := "repr"
def nSet : Str := "set"
def nRng : Str := "range"
def a_add (G : Gs) (sc : Scope) (e : Expr) : Option (List Expr) := match e with
  | .BinOp a .Add b _ => some [a, b]
  | _ => none
def a_sub (G : Gs) (sc : Scope) (e : Expr) : Option (List Expr) := match e with
  | .BinOp a .Sub b _ => some [a, b]
  | _ => none
def a_mul (G : Gs) (sc : Scope) (e : Expr) : Option (List Expr) := match e with
  | .BinOp a .Mult b _ => some [a, b]
  | _ => none
def a_fdiv (G : Gs) (sc : Scope) (e : Expr) : Option (List Expr) := match e with
  | .BinOp a .FloorDiv b _ => some [a, b]
  | _ => none
def a_mod (G : Gs) (sc : Scope) (e : Expr) : Option (List Expr) := match e with
  | .BinOp a .Mod b _ => some [a, b]
  | _ => none
def a_pow (G : Gs) (sc : Scope) (e : Expr) : Option (List Expr) := match e with
  | .BinOp a .Pow b _ => some [a, b]
  | _ => none
def a_neg (G : Gs) (sc : Scope) (e : Expr) : Option (List Expr) := match e with
  | .UnaryOp .USub a _ => some [a]
  | _ => none
def a_eq (G : Gs) (sc : Scope) (e : Expr) : Option (List Expr) := match e with
  | .Compare a [.Eq] [b] _ => some [a, b]
  | _ => none
def a_ne (G : Gs) (sc : Scope) (e : Expr) : Option (List Expr) := match e with
  | .Compare a [.NotEq] [b] _ => some [a, b]
  | _ => none
def a_lt (G : Gs) (sc : Scope) (e : Expr) : Option (List Expr) := match e with
  | .Compare a [.Lt] [b] _ => some [a, b]
  | _ => none
def a_gt (G : Gs) (sc : Scope) (e : Expr) : Option (List Expr) := match e with
  | .Compare a [.Gt] [b] _ => some [a, b]
  | _ => none
def a_le (G : Gs) (sc : Scope) (e : Expr) : Option (List Expr) := match e with
  | .Compare a [.LtE] [b] _ => some [a, b]
  | _ => none
def a_ge (G : Gs) (sc : Scope) (e : Expr) : Option (List Expr) := match e with
  | .Compare a [.GtE] [b] _ => some [a, b]
  | _ => none
def a_inn (G : Gs) (sc : Scope) (e : Expr) : Option (List Expr) := match e with
  | .Compare a [.In] [b] _ => if notSet b then some [a, b] else none
  | _ => none
def a_nin (G : Gs) (sc : Scope) (e : Expr) : Option (List Expr) := match e with
  | .Compare a [.NotIn] [b] _ => if notSet b then some [a, b] else none
  | _ => none
def a_ix (G : Gs) (sc : Scope) (e : Expr) : Option (List Expr) := match e with
  | .Subscript a b _ => if notSl b then some [a, b] else none
  | _ => none
def nSigns : Str := "SIGNS"
def a_sgnI (G : Gs) (sc : Scope) (e : Expr) : Option (List Expr) := match e with
  | .Subscript (.Name x _) b _ => if decide (x = nSigns) && G.sgn && isGl sc x && notSl b then some [b] else none
  | _ => none
def a_slL (G : Gs) (sc : Scope) (e : Expr) : Option (List Expr) := match e with
  | .Subscript a (.Slice (some b) none none _) _ => some [a, b]
  | _ => none
def a_slU (G : Gs) (sc : Scope) (e : Expr) : Option (List Expr) := match e with
  | .Subscript a (.Slice none (some c) none _) _ => some [a, c]
  | _ => none
def a_len (G : Gs) (sc : Scope) (e : Expr) : Option (List Expr) := match e with
  | .Call (.Name x _) [a] [] _ => if bl G sc x nLen then some [a] else none
  | _ => none
def a_all (G : Gs) (sc : Scope) (e : Expr) : Option (List Expr) := match e with
  | .Call (.Name x _) [a] [] _ => if bl G sc x nAll then some [a] else none
  | _ => none
def a_tuple (G : Gs) (sc : Scope) (e : Expr) : Option (List Expr) := match e with
  | .Call (.Name x _) [a] [] _ => if bl G sc x nTuple then some [a] else none
  | _ => none
def a_list (G : Gs) (sc : Scope) (e : Expr) : Option (List Expr) := match e with
  | .Call (.Name x _) [a] [] _ => if bl G sc x nList then some [a] else none
  | _ => none
def a_int (G : Gs) (sc : Scope) (e : Expr) : Option (List Expr) := match e with
  | .Call (.Name x _) [a] [] _ => if bl G sc x nInt then some [a] else none
  | _ => none
def a_abs (G : Gs) (sc : Scope) (e : Expr) : Option (List Expr) := match e with
  | .Call (.Name x _) [a] [] _ => if bl G sc x nAbs then some [a] else none
  | _ => none
def a_max2 (G : Gs) (sc : Scope) (e : Expr) : Option (List Expr) := match e with
  | .Call (.Name x _) [a, b] [] _ => if bl G sc x nMax then some [a, b] else none
  | _ => none
def a_min2 (G : Gs) (sc : Scope) (e : Expr) : Option (List Expr) := match e with
  | .Call (.Name x _) [a, b] [] _ => if bl G sc x nMin then some [a, b] else none
  | _ => none
def a_max1 (G : Gs) (sc : Scope) (e : Expr) : Option (List Expr) := match e with
  | .Call (.Name x _) [a] [] _ => if bl G sc x nMax then some [a] else none
  | _ => none
def a_min1 (G : Gs) (sc : Scope) (e : Expr) : Option (List Expr) := match e with
  | .Call (.Name x _) [a] [] _ => if bl G sc x nMin then some [a] else none
  | _ => none
def a_sum (G : Gs) (sc : Scope) (e : Expr) : Option (List Expr) := match e with
  | .Call (.Name x _) [a] [] _ => if bl G sc x nSum then some [a] else none
  | _ => none
def a_isI (G : Gs) (sc : Scope) (e : Expr) : Option (List Expr) := match e with
  | .Call (.Name x _) [a, .Name y _] [] _ => if bl G sc x nIsa && bl G sc y nInt then some [a] else none
  | _ => none
def a_isB (G : Gs) (sc : Scope) (e : Expr) : Option (List Expr) := match e with
  | .Call (.Name x _) [a, .Name y _] [] _ => if bl G sc x nIsa && bl G sc y nBool then some [a] else none
  | _ => none
def a_isS (G : Gs) (sc : Scope) (e : Expr) : Option (List Expr) := match e with
  | .Call (.Name x _) [a, .Name y _] [] _ => if bl G sc x nIsa && bl G sc y nStr then some [a] else none
  | _ => none
def a_isT (G : Gs) (sc : Scope) (e : Expr) : Option (List Expr) := match e with
  | .Call (.Name x _) [a, .Name y _] [] _ => if bl G sc x nIsa && bl G sc y nTuple then some [a] else none
  | _ => none
def a_isL (G : Gs) (sc : Scope) (e : Expr) : Option (List Expr) := match e with
  | .Call (.Name x _) [a, .Name y _] [] _ => if bl G sc x nIsa && bl G sc y nList then some [a] else none
  | _ => none
def a_repr (G : Gs) (sc : Scope) (e : Expr) : Option (List Expr) := match e with
  | .Call (.Name x _) [a] [] _ => if bl G sc x nRepr then some [a] else none
  | _ => none
def a_str (G : Gs) (sc : Scope) (e : Expr) : Option (List Expr) := match e with
  | .Call (.Name x _) [a] [] _ => if bl G sc x nStr then some [a] else none
  | _ => none
def a_sorted (G : Gs) (sc : Scope) (e : Expr) : Option (List Expr) := match e with
  | .Call (.Name x _) [a] [] _ => if bl G sc x nSorted then some [a] else none
  | _ => none
def a_tupRg (G : Gs) (sc : Scope) (e : Expr) : Option (List Expr) := match e with
  | .Call (.Name x _) [.Call (.Name y _) [a] [] _] [] _ => if bl G sc x nTuple && bl G sc y nRng then some [a] else none
  | _ => none
def a_lstRg (G : Gs) (sc : Scope) (e : Expr) : Option (List Expr) := match e with
  | .Call (.Name x _) [.Call (.Name y _) [a] [] _] [] _ => if bl G sc x nList && bl G sc y nRng then some [a] else none
  | _ => none
def glS (G : Gs) (sc : Scope) (x : Str) (t : Str) : Bool := isGl sc x && plainNm x && G.vals.any fun p => decide (p.1 = x) && beqP p.2 (.str t)
def a_turnD (G : Gs) (sc : Scope) (e : Expr) : Option (List Expr) := match e with
  | .Subscript (.Dict [some (.Constant (.int i) _ _), some (.UnaryOp .USub (.Constant (.int j) _ _) _), some (.Constant (.int k) _ _)] [.Name x _, .Name y _, .Name z _] _) a _ => if decide (i = 1) && decide (j = 1) && decide (k = 0) && glS G sc x "left" && glS G sc y "right" && glS G sc z "none" && notSl a then some [a] else none
  | _ => none
def a_setT (G : Gs) (sc : Scope) (e : Expr) : Option (List Expr) := match e with
  | .Call (.Name x _) [a] [] _ => if bl G sc x nSet then some [a] else none
  | _ => none
def a_srtSet (G : Gs) (sc : Scope) (e : Expr) : Option (List Expr) := match e with
  | .Call (.Name x _) [.Call (.Name y _) [a] [] _] [] _ => if bl G sc x nSorted && bl G sc y nSet then some [a] else none
  | _ => none
def a_lenSet (G : Gs) (sc : Scope) (e : Expr) : Option (List Expr) := match e with
  | .Call (.Name x _) [.Call (.Name y _) [a] [] _] [] _ => if bl G sc x nLen && bl G sc y nSet then some [a] else none
  | _ => none
def a_rev (G : Gs) (sc : Scope) (e : Expr) : Option (List Expr) := match e with
  | .Subscript a (.Slice none none (some (.UnaryOp .USub (.Constant (.int 1) _ _) _)) _) _ => some [a]
  | _ => none
def a_isC (G : Gs) (sc : Scope) (e : Expr) : Option (List Expr) := match e with
  | .Compare a [.Is] [b] _ => some [a, b]
  | _ => none
def a_isnC (G : Gs) (sc : Scope) (e : Expr) : Option (List Expr) := match e with
  | .Compare a [.IsNot] [b] _ => some [a, b]
  | _ => none
def opArgs (G : Gs) (sc : Scope) (o : Op) (e : Expr) : Option (List Expr) := match o with
  | .add => a_add G sc e
  | .sub => a_sub G sc e
  | .mul => a_mul G sc e
  | .fdiv => a_fdiv G sc e
  | .mod => a_mod G sc e
  | .pow => a_pow G sc e
  | .neg => a_neg G sc e
  | .eq => a_eq G sc e
  | .ne => a_ne G sc e
  | .lt => a_lt G sc e
  | .gt => a_gt G sc e
  | .le => a_le G sc e
  | .ge => a_ge G sc e
  | .inn => a_inn G sc e
  | .nin => a_nin G sc e
  | .ix => a_ix G sc e
  | .slL _ => a_slL G sc e
  | .slU _ => a_slU G sc e
  | .len => a_len G sc e
  | .all => a_all G sc e
  | .tuple => a_tuple G sc e
  | .list _ => a_list G sc e
  | .int => a_int G sc e
  | .abs => a_abs G sc e
  | .max2 => a_max2 G sc e
  | .min2 => a_min2 G sc e
  | .max1 => a_max1 G sc e
  | .min1 => a_min1 G sc e
  | .sum => a_sum G sc e
  | .isI => a_isI G sc e
  | .isB => a_isB G sc e
  | .isS => a_isS G sc e
  | .isT => a_isT G sc e
  | .isL => a_isL G sc e
  | .addL _ => a_add G sc e
  | .mulL _ => a_mul G sc e
  | .mulT => a_mul G sc e
  | .isC => a_isC G sc e
  | .sorted _ => a_sorted G sc e
  | .repr => a_repr G sc e
  | .setT => a_setT G sc e
  | .turnD => a_turnD G sc e
  | .sgnI => a_sgnI G sc e
  | .tupRg => a_tupRg G sc e
  | .lstRg _ => a_lstRg G sc e
  | .str => a_str G sc e
  | .sortedSet _ => a_srtSet G sc e
  | .lenSet => a_lenSet G sc e
  | .rev _ => a_rev G sc e
  | .isnC => a_isnC G sc e
  | _ => none
def methNm : Op → Option Str
  | .append => some nAppend
  | .extend => some nExtend
  | .remove => some nRemove
  | .index => some nIndex
  | .count => some nCount
  | .insert => some nInsert
  | .join => some nJoin
  | .split => some nSplit
  | _ => none
def nRange : Str := "range"
def nEnum : Str := "enumerate"
def nZip : Str := "zip"
def isTupT : Expr → Bool
  | .Tuple _ _ _ => true
  | _ => false
def isLoc (sc : Scope) (x : Str) : Bool := match sc.names.lookup x with
  | some .local => true
  | some .cell => true
  | _ => false
mutual
/-- a target in the text, and ours -/
def chkT (N : List Str) (sc : Scope) : MT → Expr → Bool
  | .v i, .Name x _ => decide (N[i]? = some x) && isLoc sc x
  | .tup a, .Tuple es _ _ => chkTs N sc a es
  | _, _ => false
def chkTs (N : List Str) (sc : Scope) : MT → List Expr → Bool
  | .nil, [] => true
  | .cons a r, e :: es => notSt e && chkT N sc a e && chkTs N sc r es
  | _, _ => false
end
def slotsT : MT → List Nat
  | .v i => [i]
  | .nil => []
  | .cons a r => slotsT a ++ slotsT r
  | .tup a => slotsT a
def ownP (N : List Str) (own : List Nat) : List (Str × Nat) := own.map fun i => (N.getD i Str.empty, i)
def constIs : P → Const → Bool
  | .none, .none => true
  | .bool b, .bool c => b == c
  | .int b, .int c => decide (b = c)
  | .str b, .str c => decide (b = c)
  | _, _ => false
def bopIs : Bool → BoolOp → Bool
  | true, .And => true
  | false, .Or => true
  | _, _ => false
def cmpIs : Op → CmpOp → Bool
  | .lt, .Lt => true
  | .le, .LtE => true
  | .gt, .Gt => true
  | .ge, .GtE => true
  | .eq, .Eq => true
  | .ne, .NotEq => true
  | _, _ => false
def kwsOf : List Keyword → Option (List Str × List Expr)
  | [] => some ([], [])
  | ⟨some n, e, _⟩ :: r => (match kwsOf r with
    | some (ns, es) => some (n :: ns, e :: es)
    | none => none)
  | ⟨none, _, _⟩ :: _ => none
def permL {A : Type} (perm : List Nat) (xs : List A) : List A := perm.filterMap fun i => xs[i]?
def recv {A : Type} : Bool → A → List A
  | true, u => [u]
  | false, _ => []
def KBk (mt : Bool) (fd : FuncData) (ps ks : List Str) (perm : List Nat) : Prop := ∀ (u : Value) (s : Shared) (ws : List Value), ws.length = ks.length → BindsTo s fd ⟨recv mt u, ks.zip ws⟩ (ps.zip (recv mt u ++ permL perm ws))
def spI (G : Gs) (sc : Scope) : Itk → Expr → Expr → Option (List Expr)
  | .val, _, x => if notSt x && notSet x then some [x] else none
  | .range1, _, .Call (.Name x _) [a] [] _ => if bl G sc x nRange then some [a] else none
  | .range2, _, .Call (.Name x _) [a, b] [] _ => if bl G sc x nRange then some [a, b] else none
  | .enum, t, .Call (.Name x _) [a] [] _ => if bl G sc x nEnum && isTupT t then some [a] else none
  | .zip, t, .Call (.Name x _) [a, b] [] _ => if bl G sc x nZip && isTupT t then some [a, b] else none
  | .chars, _, x => if notSt x && notSet x then some [x] else none
  | .signs, t, .Call (.Attribute (.Name x _) nm ap) [] [] cp => if decide (x = nSigns) && decide (nm = ("items" : Str)) && (ap.endLine == cp.line) && G.sgn && isGl sc x && isTupT t then some [] else none
  | _, _, _ => none
def isDd : P → List (Option Expr) → List Expr → Bool
  | .dict [], [], [] => true
  | .dict [(.int i, .int j)], [some (.Constant (.int i2) _ _)], [.Constant (.int j2) _ _] => decide (i = i2) && decide (j = j2)
  | _, _, _ => false
inductive Md where
  | ex (e : Expr) | te (e : Expr) | ar (es : List Expr) | bo (t : Bool) (op : BoolOp) (es : List Expr) | js (es : List Expr)
def chk (G : Gs) (N : List Str) : ME → Scope → Md → Bool
  | .var i, sc, .ex (.Name x _) => decide (N[i]? = some x) && vis sc x && plainNm x
  | .var i, sc, .te (.Name x _) => decide (N[i]? = some x) && vis sc x && plainNm x
  | .cst d, _, .ex (.Constant c _ _) => constIs d c
  | .cst d, _, .te (.Constant c _ _) => constIs d c
  | .cst d, _, .ex (.Dict ks vs _) => isDd d ks vs
  | .gl x d, sc, .ex (.Name y _) => decide (x = y) && isGl sc x && plainNm x && G.vals.any fun p => decide (p.1 = x) && beqP p.2 d
  | .nilA, _, .ar [] => true
  | .consA a r, sc, .ar (e :: es) => notSt e && chk G N a sc (.ex e) && chk G N r sc (.ar es)
  | .tup a, sc, .ex (.Tuple es _ _) => decide (es.length < 100000) && chk G N a sc (.ar es)
  | .lst _ a, sc, .ex (.List es _) => decide (es.length < 100000) && chk G N a sc (.ar es)
  | .op o a, sc, .ex e => (match opArgs G sc o e with | some es => chk G N a sc (.ar es) | none => false)
  | .op o a, sc, .te e => (match opArgs G sc o e with | some es => chk G N a sc (.ar es) | none => false)
  | .sl3 _ a b c, sc, .ex (.Subscript x (.Slice (some y) (some z) none _) _) => chk G N a sc (.ex x) && chk G N b sc (.ex y) && chk G N c sc (.ex z)
  | .meth o a r, sc, .ex (.Call (.Attribute x n ap) (e :: es) [] cp) => (match methNm o with
    | some y => decide (n = y) && notSup x && (ap.endLine == cp.line) && decide ((e :: es).length < 20) && chk G N a sc (.ex x) && chk G N r sc (.ar (e :: es))
    | none => false)
  | .chn o1 o2 a b c, sc, .ex (.Compare x [p, q] [y, z] _) => cmpIs o1 p && cmpIs o2 q && chk G N a sc (.ex x) && chk G N b sc (.ex y) && chk G N c sc (.ex z)
  | .chn o1 o2 a b c, sc, .te (.Compare x [p, q] [y, z] _) => cmpIs o1 p && cmpIs o2 q && chk G N a sc (.ex x) && chk G N b sc (.ex y) && chk G N c sc (.ex z)
  | .bop b a r, sc, .ex (.BoolOp op (e :: f :: es) _) => bopIs b op && chk G N a sc (.ex e) && chk G N r sc (.bo false op (f :: es))
  | .bop b a r, sc, .te (.BoolOp op (e :: f :: es) _) => bopIs b op && chk G N a sc (.te e) && chk G N r sc (.bo true op (f :: es))
  | .bop b a r, sc, .bo false op (e :: f :: es) => bopIs b op && chk G N a sc (.ex e) && chk G N r sc (.bo false op (f :: es))
  | .bop b a r, sc, .bo true op (e :: f :: es) => bopIs b op && chk G N a sc (.te e) && chk G N r sc (.bo true op (f :: es))
  | .bone a, sc, .bo false _ [e] => chk G N a sc (.ex e)
  | .bone a, sc, .bo true _ [e] => chk G N a sc (.te e)
  | .nt a, sc, .ex (.UnaryOp .Not e _) => chk G N a sc (.ex e)
  | .nt a, sc, .te (.UnaryOp .Not e _) => chk G N a sc (.te e)
  | .ife c a b, sc, .ex (.IfExp x y z _) => chk G N c sc (.te x) && chk G N a sc (.ex y) && chk G N b sc (.ex z)
  | .call _ f a, sc, .ex (.Call (.Name x _) es [] _) => fnAt G f x && isGl sc x && plainNm x && chk G N a sc (.ar es)
  | .call _ f a, sc, .te (.Call (.Name x _) es [] _) => fnAt G f x && isGl sc x && plainNm x && chk G N a sc (.ar es)
  | .callk _ f perm a, sc, .ex (.Call (.Name x _) [] (kw :: kws) _) => fnAt G f x && isGl sc x && plainNm x && (match kwsOf (kw :: kws) with
    | some (ns, es) => decide ((f, ns, perm) ∈ G.kws) && chk G N a sc (.ar es)
    | none => false)
  | .lc _ elt own tg ik it hasIf tst, sc, .ex (.ListComp e [⟨t, i, ifs, as⟩] scope _) => decide (as = 0) && blkC N sc scope (ownP N own) && chkT N scope tg t && (slotsT tg).all own.contains && chk G N elt scope (.ex e)
      && (match hasIf, ifs with
        | false, [] => true
        | true, [c] => chk G N tst scope (.te c)
        | _, _ => false)
      && (match spI G sc ik t i with | some es => chk G N it sc (.ar es) | none => false)
  | .lc2 _ elt own tg ik it own1 tg1 ik1 it1, sc, .ex (.ListComp e [⟨t, i, [], as⟩, ⟨t1, i1, [], as1⟩] scope _) => decide (as = 0) && decide (as1 = 0) && blkC N sc scope (ownP N own) && chkT N scope tg t && (slotsT tg).all own.contains && chkT N scope tg1 t1 && (slotsT tg1).all own1.contains && own1.all own.contains && chk G N elt scope (.ex e)
      && (match spI G sc ik t i with | some es => chk G N it sc (.ar es) | none => false)
      && (match spI G scope ik1 t1 i1 with | some es => chk G N it1 scope (.ar es) | none => false)
  | .said a, sc, .ex (.Call (.Name x _) [.Lambda ps body scope _] [] _) => G.said && decide (x = nSaid) && isGl sc x && noPs ps && LamX.lamSB sc scope && chk G.low N a scope (.ex body)
  | .fldN a, sc, .ex (.Attribute x n _) => decide (n = "now") && G.tb && notSup x && chk G N a sc (.ex x)
  | .fldP a, sc, .ex (.Attribute x n _) => decide (n = "past") && G.tb && notSup x && chk G N a sc (.ex x)
  | .newT f a, sc, .ex (.Call (.Name x _) [e] [] _) => decide (x = "Table") && isGl sc x && G.tb && decide (G.nb = some f) && notSt e && chk G N a sc (.ex e)
  | .mcall _ f o a, sc, .ex (.Call (.Attribute x n ap) es [] cp) => mtAt G f n && G.tb && (notSup x && (ap.endLine == cp.line) && decide (es.length < 20)) && chk G N o sc (.ex x) && chk G N a sc (.ar es)
  | .newT f a, sc, .ex (.Call (.Name x _) [] [⟨some n, e, _⟩] _) => decide (x = "Table") && isGl sc x && G.tb && decide (G.nb = some f) && decide (n = "board") && chk G N a sc (.ex e)
  | .mcallk _ f perm o a, sc, .ex (.Call (.Attribute x n ap) [] (kw :: kws) cp) => mtAt G f n && G.tb && (notSup x && (ap.endLine == cp.line) && decide ((kw :: kws).length < 20)) && chk G N o sc (.ex x) && (match kwsOf (kw :: kws) with
    | some (ns, es) => decide ((f, ns, perm) ∈ G.kws) && chk G N a sc (.ar es)
    | none => false)
  | .lenT f o, sc, .ex (.Call (.Name x _) [e] [] _) => bl G sc x nLen && mtAt G f "__len__" && G.tb && decide (roomS G = 2) && notSt e && chk G N o sc (.ex e)
  | .reprT f o, sc, .ex (.Call (.Name x _) [e] [] _) => bl G sc x nRepr && mtAt G f "__repr__" && G.tb && decide (roomS G = 2) && notSt e && chk G N o sc (.ex e)
  | .eqT f o u, sc, .ex (.Compare x [.Eq] [y] _) => mtAt G f "__eq__" && G.tb && decide (roomS G = 2) && chk G N o sc (.ex x) && chk G N u sc (.ex y)
  | .eqT f o u, sc, .te (.Compare x [.Eq] [y] _) => mtAt G f "__eq__" && G.tb && decide (roomS G = 2) && chk G N o sc (.ex x) && chk G N u sc (.ex y)
  | .pop a, sc, .ex (.Call (.Attribute x n ap) [] [] cp) => decide (n = "pop") && (notSup x && (ap.endLine == cp.line)) && chk G N a sc (.ex x)
  | .isTb o, sc, .ex (.Call (.Name x _) [e, .Name y _] [] _) => bl G sc x nIsa && decide (y = "Table") && isGl sc y && G.tb && notSt e && chk G N o sc (.ex e)
  | .nilA, _, .js [] => true
  | .fjn a r, sc, .js (.FormattedValue x c none _ :: es) => decide (c = -1) && chk G N a sc (.ex x) && chk G N r sc (.js es)
  | .fjn (.cst (.str s)) r, sc, .js (.Constant (.str s2) _ _ :: es) => decide (s = s2) && chk G N r sc (.js es)
  | .fstr r, sc, .ex (.JoinedStr (x :: y :: es) _) => decide (es.length ≤ 6) && chk G N r sc (.js (x :: y :: es))
  | .orv a r, sc, .ex (.BoolOp .Or [e, f] _) => chk G N a sc (.ex e) && chk G N r sc (.ex f)
  | _, _, _ => false
def spM (K : PySem.W.Frag) (cf : CF) (keep : Bool) (f : Nat) : Sp := fun vs H Q E => ∃ rho gh m ds, Rel K rho gh m H ∧ RDs K rho gh H ds vs ∧ WP K gh E ((cf keep f ds m).bind fun d m => .ok [d] m) rho H (one Q)
structure TabK (K : PySem.W.Frag) (mg : Str → Option Value) : Prop where
  mgT : mg "Table" = some (.ref (tabC K))
  cls : Cls K (tabC K)
  n1 : NoAttr K (tabC K) "now"
  n2 : NoAttr K (tabC K) "past"
  ins : C8.InsC K (tabC K)
def spT (K : PySem.W.Frag) (cf : CF) (nb : Nat) : Sp := fun vs H Q E => ∃ (x dx : Addr) (v : V) (rho gh : List Addr) (m : MH) (d : P) (H0 : Hp), vs = [.ref x, v] ∧ H = L2.upd (L2.upd H0 dx (.own x)) x (.ins (tabC K) dx []) ∧ H0 x = none ∧ H0 dx = none ∧ dx ≠ x ∧ Rel K rho gh m H0 ∧ RD K rho gh H0 (.p d) v ∧
  WP K gh E ((cf false nb [.p d] m).bind fun _ m2 => .ok [.ref (m2.length + 1)] (m2 ++ [.lst [], .tab (.tuple [d, .none])])) rho H0 (fun ws H' => ws = [.ref x] → Q .non H')
def initT : List Str := ["self", "board"]
structure ScR (sc : Scope) (X : Cx) : Prop where
  loc : ∀ x, sc.names.lookup x = some .local → X.env.scope.names.lookup x = some .local
  glo : ∀ x, sc.names.lookup x = some .globalImplicit → X.env.scope.names.lookup x = some .globalImplicit
  cel : ∀ x, sc.names.lookup x = some .cell → X.env.scope.names.lookup x = some .cell ∧ X.fn x = true
  fre : ∀ x, sc.names.lookup x = some .free → X.env.scope.names.lookup x = some .cell ∨ X.env.scope.names.lookup x = some .free
def LamG (X : Cx) : Prop := ∃ c P, X.env.code = .ref c ∧ LamX.TabB X.base X.mg c P ∧ (P, X.env.qual ++ "<lambda>") ∈ tabsOf X.K ∧ (∀ p ∈ tabsOf X.K, p.1 = P → p.2 = X.env.qual ++ "<lambda>") ∧ Room 6 X.A
def SgEnt (es : Array DictEntry) (kvs : List (Str × Str)) : Prop := es.size = kvs.length ∧ ∀ (i : Nat) (k y : Str), kvs[i]? = some (k, y) → ∃ h : i < es.size, (∃ t, es[i].key = .str k t) ∧ ∃ t, es[i].val = .str y t
def SgnOk (w : World) (K : PySem.W.Frag) (mg : Str → Option Value) : Prop := ∃ (a : Addr) (es : Array DictEntry) (n : Nat), mg nSigns = some (.ref a) ∧ KDict K w a es n ∧ SgEnt es SgnKV ∧ ∀ p ∈ SgnKV, ∃ t, PySem.W.nsIn K a p.1 = some (some (.str p.2 t))
structure GX (G : Gs) (cf : CF) (N : List Str) (sc : Scope) (E : XK) (X : Cx) : Prop where
  hsc : ScR sc X
  hN : X.N = N
  nd : N.Nodup
  calm : X.calm = true
  un : X.A.units + 100 < cLine
  gd : X.A.guards = some []
  vals : ∀ p ∈ G.vals, ∃ u v, X.mg p.1 = some u ∧ RelV v u ∧ ∀ rho gh H, RD X.K rho gh H (glD p.2) v
  blts : ∀ x, G.blts.contains x = true → X.mg x = none
  fns : ∀ (keep : Bool) (f : Nat) (x : Str), G.fns[f]? = some x → ∃ a fd ps k, (G.mths.contains f = false → X.mg x = some (.ref a)) ∧ (G.mths.contains f = true → Meth X.K (tabC X.K) x a) ∧ PySem.W.keepIn X.K (.ref a) = true ∧ Binds X.K fd ps [] ∧ (∀ ks perm, (f, ks, perm) ∈ G.kws → KBk (G.mths.contains f) fd ps ks perm) ∧ Room (k + roomS G) X.A ∧ FnG X.prog X.w X.K X.mg X.base (L2.CX X.prog X.w) k a fd ps (spM X.K cf keep f)
  pass : Passes (L2.CX X.prog X.w) X E
  lam : G.said = true → LamG X ∧ SaidOk X.K X.mg
  sm : SmB X.base
  tbl : G.tb = true → TabK X.K X.mg
  sgn : G.sgn = true → SgnOk X.w X.K X.mg
  nbl : ∀ nb, G.nb = some nb → ∃ fI fd k, Mk X.K (tabC X.K) fI ∧ Binds X.K fd initT [] ∧ KBk true fd initT ["board"] [0] ∧ Room (k + 1) X.A ∧ FnG X.prog X.w X.K X.mg X.base (L2.CX X.prog X.w) k fI fd initT (spT X.K cf nb)
section
variable {G : Gs} {cf : CF} {N : List Str} {sc : Scope} {E : XK} {X : Cx}
theorem GX.vis (g : GX G cf N sc E X) {x : Str} (h : vis sc x = true) : Vis X.env.scope x := by
  unfold M.vis at h
  unfold Vis
  split at h
  · exact .inl (g.hsc.loc x (by assumption))
  · exact .inr (.inl (g.hsc.cel x (by assumption)).1)
  · exact .inr (g.hsc.fre x (by assumption))
  · cases h
theorem GX.gl (g : GX G cf N sc E X) {x : Str} (h : isGl sc x = true) : Gl X x := by
  unfold isGl at h
  split at h
  · exact g.hsc.glo x (by assumption)
  · cases h
theorem plain_db {x : Str} (h : plainNm x = true) : (x == ("__debug__" : Str)) = false ∧ (x == ("__classdict__" : Str)) = false := by
  unfold plainNm at h
  simpa using h
theorem GX.bl (g : GX G cf N sc E X) {x y : Str} (h : bl G sc x y = true) : x = y ∧ Gl X y ∧ X.mg y = none := by
  unfold M.bl at h
  simp only [Bool.and_eq_true, decide_eq_true_eq] at h
  obtain ⟨⟨rfl, h2⟩, h3⟩ := h
  exact ⟨rfl, g.gl h2, g.blts _ h3⟩
theorem star_of {e : Expr} {es : List Expr} {env : Env} (h : notSt e = true) : starEach (e :: es) env = (false, eval e env) :: starEach es env := by
  cases e <;> first
    | rfl
    | cases h
def noStar : List Expr → Bool
  | [] => true
  | e :: es => notSt e && noStar es
theorem star_none {pos : Pos} {env : Env} : ∀ {es : List Expr}, noStar es = true → (backTo pos (starEach es env)).any (·.1) = false
  | [], _ => rfl
  | e :: es, h => by
    simp only [noStar, Bool.and_eq_true] at h
    rw [star_of h.1]
    have q := star_none (pos := pos) (env := env) h.2
    show (false || (backTo pos (starEach es env)).any (·.1)) = false
    rw [q]
    rfl
def SA (X : Cx) (E : XK) (cf : CF) : ME → List Expr → Prop
  | .nilA, es => es = []
  | .consA a r, es => ∃ e t, es = e :: t ∧ notSt e = true ∧ PE X e (tE X.K E cf a) ∧ SA X E cf r t
  | _, _ => False
theorem wp_cons {K : PySem.W.Frag} {gh rho : List Addr} {H : Hp} {a r : ME} {env : Ev} {m : MH} {k : List D → MH → R (List D)} {Q : List V → Hp → Prop} (h : WP K gh E ((ev cf (.consA a r) env m).bind k) rho H Q) :
    WP K gh E ((ev cf a env m).bind fun x m1 => (match x with | [d] => (ev cf r env m1).bind fun y m2 => k (d :: y) m2 | _ => .bad)) rho H Q := by
  have e : (ev cf (.consA a r) env m).bind k = (ev cf a env m).bind fun x m1 => (match x with | [d] => (ev cf r env m1).bind fun y m2 => k (d :: y) m2 | _ => .bad) := by
    simp only [ev]
    rw [bind_assoc]
    congr 1
    funext x m1
    match x with
    | [] => rfl
    | [d] =>
      show ((ev cf r env m1).bind fun y m2 => .ok (d :: y) m2).bind k = _
      rw [bind_assoc]
      rfl
    | d :: e :: t => rfl
  rw [e] at h
  exact h
theorem ok_bind {A : Type} (r : R A) : (r.bind fun a m => .ok a m) = r := by cases r <;> rfl
theorem wp_step {K : PySem.W.Frag} {gh rho : List Addr} {H : Hp} {sg : L2.St} {a : ME} {env : Ev} {m : MH} {k : D → MH → R (List D)} {Q : List V → Hp → Prop} {Q' : VK} (S : StOk K rho gh env m sg H)
    (h : WP K gh E ((ev cf a env m).bind fun x m1 => (match x with | [d] => k d m1 | _ => .bad)) rho H Q)
    (q : ∀ d v m1 rho1 H1, Ext rho H rho1 H1 → StOk K rho1 gh env m1 sg H1 → RD K rho1 gh H1 d v → WP K gh E (k d m1) rho1 H1 Q → Q' v H1) : tE K E cf a sg H Q' := by
  refine ⟨rho, gh, env, m, S, WP.bind h fun ds m1 rho1 H1 vs e x R r w => ?_⟩
  split at w
  · rename_i d
    obtain ⟨v, rfl, rd⟩ := RDs.one_of r
    exact ⟨v, rfl, q d v m1 rho1 H1 x (S.ext x R) rd w⟩
  · exact w.elim
theorem wp_arg {K : PySem.W.Frag} {gh rho : List Addr} {H : Hp} {sg : L2.St} {a r : ME} {env : Ev} {m : MH} {k : List D → MH → R (List D)} {Q : List V → Hp → Prop} {Q' : VK} (S : StOk K rho gh env m sg H)
    (h : WP K gh E ((ev cf (.consA a r) env m).bind k) rho H Q)
    (q : ∀ d v m1 rho1 H1, Ext rho H rho1 H1 → StOk K rho1 gh env m1 sg H1 → RD K rho1 gh H1 d v → WP K gh E ((ev cf r env m1).bind fun y m2 => k (d :: y) m2) rho1 H1 Q → Q' v H1) : tE K E cf a sg H Q' :=
  wp_step S (k := fun d m1 => (ev cf r env m1).bind fun y m2 => k (d :: y) m2) (wp_cons h) q
theorem SA.pa : ∀ {a : ME} {es : List Expr}, SA X E cf a es → PA X es (tA X.K E cf a) ∧ noStar es = true
  | .nilA, es, h => by
    have h : es = [] := h
    subst h
    exact ⟨PA.imp pa_nil fun sg H Q ⟨rho, gh, env, m, S, w⟩ => w rho H [] Ext.refl S.rel rfl, rfl⟩
  | .consA a r, es, h => by
    obtain ⟨e, t, rfl, h1, h2, h3⟩ := h
    obtain ⟨p, n⟩ := SA.pa h3
    refine ⟨PA.imp (pa_cons h2 p (star_of h1)) fun sg H Q ⟨rho, gh, env, m, S, w⟩ => ?_, by simp only [noStar, Bool.and_eq_true]; exact ⟨h1, n⟩⟩
    have w2 : WP X.K gh E ((ev cf (.consA a r) env m).bind fun ds m => .ok ds m) rho H Q := by rw [ok_bind]; exact w
    refine wp_arg S w2 fun d v m1 rho1 H1 x S1 rd w => ⟨rho1, gh, env, m1, S1, ?_⟩
    refine WP.bind w fun ds m2 rho2 H2 vs e2 x2 R2 rds w => ?_
    exact w rho2 H2 (v :: vs) Ext.refl R2 ⟨v, vs, rfl, x2.rd rd, rds⟩
theorem SA.one {a : ME} {e : Expr} (h : SA X E cf a [e]) : ∃ a1, a = .consA a1 .nilA ∧ notSt e = true ∧ PE X e (tE X.K E cf a1) := by
  cases a with
  | consA a1 r =>
    obtain ⟨e', t, e1, h1, h2, h3⟩ := h
    simp only [List.cons.injEq] at e1
    obtain ⟨rfl, rfl⟩ := e1
    cases r with
    | nilA => exact ⟨a1, rfl, h1, h2⟩
    | consA _ _ => obtain ⟨_, _, z, _⟩ := h3; cases z
    | _ => exact h3.elim
  | nilA => cases (show [e] = [] from h)
  | _ => exact h.elim
theorem SA.two {a : ME} {e f : Expr} (h : SA X E cf a [e, f]) : ∃ a1 a2, a = .consA a1 (.consA a2 .nilA) ∧ notSt e = true ∧ PE X e (tE X.K E cf a1) ∧ notSt f = true ∧ PE X f (tE X.K E cf a2) := by
  cases a with
  | consA a1 r =>
    obtain ⟨e', t, e1, h1, h2, h3⟩ := h
    simp only [List.cons.injEq] at e1
    obtain ⟨rfl, rfl⟩ := e1
    obtain ⟨a2, rfl, h4, h5⟩ := SA.one h3
    exact ⟨a1, a2, rfl, h1, h2, h4, h5⟩
  | nilA => cases (show [e, f] = [] from h)
  | _ => exact h.elim
theorem op2 {o : Op} {a1 a2 : ME} (sg : L2.St) (H : Hp) (Q : VK) (h : tE X.K E cf (.op o (.consA a1 (.consA a2 .nilA))) sg H Q) : tOp (fun x y H Q => rOn X.K E o [x, y] H Q) (tE X.K E cf a1) (tE X.K E cf a2) sg H Q := by
  obtain ⟨rho, gh, env, m, S, w⟩ := h
  simp only [ev.eq_8] at w
  refine wp_arg S w fun d v m1 rho1 H1 x S1 rd w => ?_
  refine wp_arg S1 w fun d2 v2 m2 rho2 H2 x2 S2 rd2 w => ?_
  exact ⟨rho2, gh, m2, [d, d2], S2.rel, ⟨v, [v2], rfl, x2.rd rd, RDs.one rd2⟩, w⟩
theorem op1 {o : Op} {a1 : ME} (sg : L2.St) (H : Hp) (Q : VK) (h : tE X.K E cf (.op o (.consA a1 .nilA)) sg H Q) : tUn (fun x H Q => rOn X.K E o [x] H Q) (tE X.K E cf a1) sg H Q := by
  obtain ⟨rho, gh, env, m, S, w⟩ := h
  simp only [ev.eq_8] at w
  refine wp_arg S w fun d v m1 rho1 H1 x S1 rd w => ?_
  exact ⟨rho1, gh, m1, [d], S1.rel, RDs.one rd, w⟩
theorem opn {o : Op} {a : ME} (sg : L2.St) (H : Hp) (Q : VK) (h : tE X.K E cf (.op o a) sg H Q) : tCB (rOn X.K E o) (tA X.K E cf a) sg H Q := by
  obtain ⟨rho, gh, env, m, S, w⟩ := h
  simp only [ev.eq_8] at w
  exact ⟨rho, gh, env, m, S, WP.bind w fun ds m1 rho1 H1 vs e x R r w => ⟨rho1, gh, m1, ds, R, r, w⟩⟩
theorem isLst_ty {d : D} {v : V} {K : PySem.W.Frag} {rho gh : List Addr} {m : MH} {H : Hp} (R : Rel K rho gh m H) (r : RD K rho gh H d v) (h : isLst d m = true) : tyV K "list" v H := by
  unfold isLst at h
  split at h
  · rename_i ls
    have hw : RP K (rho ++ gh) H (.list ls) v := r
    simp only [RP] at hw
    obtain ⟨a, xs, rfl, q, z⟩ := hw
    exact .inl ⟨rfl, xs, q.sq⟩
  · rename_i n
    obtain ⟨a, rfl, e⟩ := r
    split at h
    · rename_i ls q
      obtain ⟨xs, e3, z⟩ := R.cell n a _ e q
      exact .inl ⟨rfl, xs, SqL.of e3⟩
    · cases h
  · cases h
theorem isTxt_ty {d : D} {v : V} {K : PySem.W.Frag} {rho gh : List Addr} {m : MH} {H : Hp} (R : Rel K rho gh m H) (r : RD K rho gh H d v) (h : isTxt d = true) : tyV K "str" v H := by
  unfold isTxt at h
  split at h
  · cases rd_str r
    exact rfl
  · cases h
theorem opm {o : Op} {a r : ME} {T : String} (ty : ∀ {d : D} {v : V} {rho gh : List Addr} {m : MH} {H : Hp}, Rel X.K rho gh m H → RD X.K rho gh H d v → recvOk o d m = true → tyV X.K T v H) (sg : L2.St) (H : Hp) (Q : VK)
    (h : tE X.K E cf (.meth o a r) sg H Q) : tBM X.K T (fun x vs H Q => rOn X.K E o (x :: vs) H Q) (tE X.K E cf a) (tA X.K E cf r) sg H Q := by
  obtain ⟨rho, gh, env, m, S, w⟩ := h
  simp only [ev] at w
  refine wp_step S (k := fun d m1 => if recvOk o d m1 then (ev cf r env m1).bind fun ys m2 => opD o (d :: ys) m2 else .bad) w fun d v m1 rho1 H1 x S1 rd w => ?_
  split at w
  · rename_i c
    refine ⟨ty S1.rel rd c, rho1, gh, env, m1, S1, WP.bind w fun ds m2 rho2 H2 vs e x2 R2 rds w => ?_⟩
    exact ⟨rho2, gh, m2, d :: ds, R2, ⟨v, vs, rfl, x2.rd rd, rds⟩, w⟩
  · exact w.elim
end
end M
namespace M
open PySem PySem.Spec PyProof.Rows L2
section
variable {G : Gs} {cf : CF} {N : List Str} {sc : Scope} {E : XK} {X : Cx}
theorem tT_of {me : ME} {sg : L2.St} {H : Hp} {Q : Bool → Hp → Prop} (h : tT X.K E cf me sg H Q) : tE X.K E cf me sg H fun x H1 => ∃ c, x = .bl c ∧ Q c H1 := h
theorem pt_of {e : Expr} {me : ME} (h : PE X e (tE X.K E cf me)) (p : plainTest e = true) : PT X e (tT X.K E cf me) := by
  refine PT.imp (pt_val h fun whole => ?_) fun sg H Q q => tT_of q
  cases e <;> first
    | rfl
    | (simp [plainTest] at p)
theorem mark_of {op : CmpOp} {b : Expr} (h : notSet b = true) : behindInMarks op b = false := by
  cases b <;> first
    | rfl
    | (simp [notSet] at h)
theorem cmp_snd {op : CmpOp} {o : Op} {a : ME} {e f : Expr} {pos : Pos} (ho : OpR X (compareOp op) (fun x y H Q => rOn X.K E o [x, y] H Q)) (hm : behindInMarks op f = false) (s : SA X E cf a [e, f]) :
    PE X (.Compare e [op] [f] pos) (tE X.K E cf (.op o a)) ∧ PT X (.Compare e [op] [f] pos) (tT X.K E cf (.op o a)) := by
  obtain ⟨a1, a2, rfl, n1, p1, n2, p2⟩ := SA.two s
  exact ⟨PE.imp (pe_cmpR ho p1 p2 hm) op2, PT.imp (pt_cmpR ho p1 p2 hm) fun sg H Q q => op2 sg H _ (tT_of q)⟩
theorem bin_snd {op : Operator} {o : Op} {a : ME} {e f : Expr} {pos : Pos} (ho : OpR X (binaryOp op) (fun x y H Q => rOn X.K E o [x, y] H Q)) (s : SA X E cf a [e, f]) :
    PE X (.BinOp e op f pos) (tE X.K E cf (.op o a)) ∧ PT X (.BinOp e op f pos) (tT X.K E cf (.op o a)) := by
  obtain ⟨a1, a2, rfl, n1, p1, n2, p2⟩ := SA.two s
  have h : PE X (.BinOp e op f pos) (tE X.K E cf (.op o (.consA a1 (.consA a2 .nilA)))) := PE.imp (pe_op ho p1 p2) op2
  exact ⟨h, pt_of h rfl⟩
theorem blt_snd (g : GX G cf N sc E X) {x y : Str} {id : String} {o : Op} {a : ME} {es : List Expr} {pos p : Pos} (hb : bl G sc x y = true) (hv : bootBuiltins y = some (.builtin id)) (hn : y ≠ "__name__") (hd : (y == ("__debug__" : Str)) = false)
    (ho : CallR X (.builtin id) (rOn X.K E o)) (s : SA X E cf a es) (ne : es ≠ []) : PE X (.Call (.Name x p) es [] pos) (tE X.K E cf (.op o a)) ∧ PT X (.Call (.Name x p) es [] pos) (tT X.K E cf (.op o a)) := by
  obtain ⟨rfl, g1, g2⟩ := g.bl hb
  obtain ⟨q, nst⟩ := SA.pa s
  cases es with
  | nil => exact (ne rfl).elim
  | cons e es =>
    simp only [noStar, Bool.and_eq_true] at nst
    have h : PE X (.Call (.Name x p) (e :: es) [] pos) (tE X.K E cf (.op o a)) := PE.imp (pe_callB ho g1 g2 hv q hn hd (star_of nst.1) (star_none nst.2)) opn
    exact ⟨h, pt_of h rfl⟩
theorem bty_snd (g : GX G cf N sc E X) {x y : Str} {T : String} {o : Op} {a : ME} {es : List Expr} {pos p : Pos} (hb : bl G sc x y = true) (hv : bootBuiltins y = some (.type T)) (hn : y ≠ "__name__") (hd : (y == ("__debug__" : Str)) = false)
    (ho : CallR X (.type T) (rOn X.K E o)) (s : SA X E cf a es) (ne : es ≠ []) : PE X (.Call (.Name x p) es [] pos) (tE X.K E cf (.op o a)) ∧ PT X (.Call (.Name x p) es [] pos) (tT X.K E cf (.op o a)) := by
  obtain ⟨rfl, g1, g2⟩ := g.bl hb
  obtain ⟨q, nst⟩ := SA.pa s
  cases es with
  | nil => exact (ne rfl).elim
  | cons e es =>
    simp only [noStar, Bool.and_eq_true] at nst
    have h : PE X (.Call (.Name x p) (e :: es) [] pos) (tE X.K E cf (.op o a)) := PE.imp (pe_callTy ho g1 g2 hv q hn hd (star_of nst.1) (star_none nst.2)) opn
    exact ⟨h, pt_of h rfl⟩
theorem isa_snd (g : GX G cf N sc E X) {x y z : Str} {T : String} {o : Op} {a : ME} {e : Expr} {pos p p2 : Pos} (hb : bl G sc x nIsa = true) (hz : bl G sc z y = true) (hv : bootBuiltins y = some (.type T)) (hn : y ≠ "__name__") (hd : (y == ("__debug__" : Str)) = false)
    (ho : CallR X (.builtin "isinstance") (rIsa X.K E o T)) (s : SA X E cf a [e]) : PE X (.Call (.Name x p) [e, .Name z p2] [] pos) (tE X.K E cf (.op o a)) ∧ PT X (.Call (.Name x p) [e, .Name z p2] [] pos) (tT X.K E cf (.op o a)) := by
  obtain ⟨rfl, g1, g2⟩ := g.bl hb
  obtain ⟨rfl, g3, g4⟩ := g.bl hz
  obtain ⟨a1, rfl, n1, p1⟩ := SA.one s
  have hT : PE X (.Name z p2) (tC (.ty T)) := pe_bltn g3 g4 hv rfl hn hd
  have h : PE X (.Call (.Name nIsa p) [e, .Name z p2] [] pos) (tE X.K E cf (.op o (.consA a1 .nilA))) := by
    refine PE.imp (pe_callB ho g1 g2 (by decide +kernel) (pa_cons p1 (pa_cons hT pa_nil) (star_of n1)) (by decide +kernel) (by decide +kernel) (star_of n1) (by rfl)) fun sg H Q q => ?_
    have q2 := op1 sg H Q q
    obtain ⟨rho, gh, env, m, S, w⟩ := q2
    exact ⟨rho, gh, env, m, S, WP.imp (fun vs H' ⟨v, e, z⟩ => ⟨v, e, ⟨v, rfl, z⟩⟩) w⟩
  exact ⟨h, pt_of h rfl⟩
theorem both {e : Expr} {me : ME} (h : PE X e (tE X.K E cf me)) (p : plainTest e = true) : PE X e (tE X.K E cf me) ∧ PT X e (tT X.K E cf me) := ⟨h, pt_of h p⟩
theorem bothU {e : Expr} {pos : Pos} {me : ME} (h : PE X (.UnaryOp .USub e pos) (tE X.K E cf me)) : PE X (.UnaryOp .USub e pos) (tE X.K E cf me) ∧ PT X (.UnaryOp .USub e pos) (tT X.K E cf me) := ⟨h, PT.imp (pt_val h (fun _ => rfl)) fun sg H Q q => tT_of q⟩
theorem ix_pl {b : Expr} (c : notSl b = true) : PlainIx b := fun o i => by
  cases b <;> first
    | rfl
    | (simp [notSl] at c)
theorem snd_add (g : GX G cf N sc E X) {a : ME} {e : Expr} {es : List Expr} (h : opArgs G sc (.add) e = some es) (s : SA X E cf a es) : PE X e (tE X.K E cf (.op (.add) a)) ∧ PT X e (tT X.K E cf (.op (.add) a)) := by
  have hu : X.A.units + 64 < cLine := by have := g.un; omega
  have hc := g.calm
  simp only [opArgs, a_add] at h
  split at h
  · cases h
    exact bin_snd rO_add s
  · cases h
theorem snd_sub (g : GX G cf N sc E X) {a : ME} {e : Expr} {es : List Expr} (h : opArgs G sc (.sub) e = some es) (s : SA X E cf a es) : PE X e (tE X.K E cf (.op (.sub) a)) ∧ PT X e (tT X.K E cf (.op (.sub) a)) := by
  have hu : X.A.units + 64 < cLine := by have := g.un; omega
  have hc := g.calm
  simp only [opArgs, a_sub] at h
  split at h
  · cases h
    exact bin_snd rO_sub s
  · cases h
theorem snd_mul (g : GX G cf N sc E X) {a : ME} {e : Expr} {es : List Expr} (h : opArgs G sc (.mul) e = some es) (s : SA X E cf a es) : PE X e (tE X.K E cf (.op (.mul) a)) ∧ PT X e (tT X.K E cf (.op (.mul) a)) := by
  have hu : X.A.units + 64 < cLine := by have := g.un; omega
  have hc := g.calm
  simp only [opArgs, a_mul] at h
  split at h
  · cases h
    exact bin_snd rO_mul s
  · cases h
theorem snd_fdiv (g : GX G cf N sc E X) {a : ME} {e : Expr} {es : List Expr} (h : opArgs G sc (.fdiv) e = some es) (s : SA X E cf a es) : PE X e (tE X.K E cf (.op (.fdiv) a)) ∧ PT X e (tT X.K E cf (.op (.fdiv) a)) := by
  have hu : X.A.units + 64 < cLine := by have := g.un; omega
  have hc := g.calm
  simp only [opArgs, a_fdiv] at h
  split at h
  · cases h
    exact bin_snd rO_fdiv s
  · cases h
theorem snd_mod (g : GX G cf N sc E X) {a : ME} {e : Expr} {es : List Expr} (h : opArgs G sc (.mod) e = some es) (s : SA X E cf a es) : PE X e (tE X.K E cf (.op (.mod) a)) ∧ PT X e (tT X.K E cf (.op (.mod) a)) := by
  have hu : X.A.units + 64 < cLine := by have := g.un; omega
  have hc := g.calm
  simp only [opArgs, a_mod] at h
  split at h
  · cases h
    exact bin_snd rO_mod s
  · cases h
theorem snd_pow (g : GX G cf N sc E X) {a : ME} {e : Expr} {es : List Expr} (h : opArgs G sc (.pow) e = some es) (s : SA X E cf a es) : PE X e (tE X.K E cf (.op (.pow) a)) ∧ PT X e (tT X.K E cf (.op (.pow) a)) := by
  have hu : X.A.units + 64 < cLine := by have := g.un; omega
  have hc := g.calm
  simp only [opArgs, a_pow] at h
  split at h
  · cases h
    exact bin_snd rO_pow s
  · cases h
theorem snd_neg (g : GX G cf N sc E X) {a : ME} {e : Expr} {es : List Expr} (h : opArgs G sc (.neg) e = some es) (s : SA X E cf a es) : PE X e (tE X.K E cf (.op (.neg) a)) ∧ PT X e (tT X.K E cf (.op (.neg) a)) := by
  have hu : X.A.units + 64 < cLine := by have := g.un; omega
  have hc := g.calm
  simp only [opArgs, a_neg] at h
  split at h
  · cases h
    obtain ⟨a1, rfl, n1, p1⟩ := SA.one s
    exact bothU (PE.imp (pe_un rU_neg p1) op1)
  · cases h
theorem snd_eq (g : GX G cf N sc E X) {a : ME} {e : Expr} {es : List Expr} (h : opArgs G sc (.eq) e = some es) (s : SA X E cf a es) : PE X e (tE X.K E cf (.op (.eq) a)) ∧ PT X e (tT X.K E cf (.op (.eq) a)) := by
  have hu : X.A.units + 64 < cLine := by have := g.un; omega
  have hc := g.calm
  simp only [opArgs, a_eq] at h
  split at h
  · cases h
    exact cmp_snd (rO_eq hu) (nomark _) s
  · cases h
theorem snd_ne (g : GX G cf N sc E X) {a : ME} {e : Expr} {es : List Expr} (h : opArgs G sc (.ne) e = some es) (s : SA X E cf a es) : PE X e (tE X.K E cf (.op (.ne) a)) ∧ PT X e (tT X.K E cf (.op (.ne) a)) := by
  have hu : X.A.units + 64 < cLine := by have := g.un; omega
  have hc := g.calm
  simp only [opArgs, a_ne] at h
  split at h
  · cases h
    exact cmp_snd (rO_ne hu) (nomark _) s
  · cases h
theorem snd_lt (g : GX G cf N sc E X) {a : ME} {e : Expr} {es : List Expr} (h : opArgs G sc (.lt) e = some es) (s : SA X E cf a es) : PE X e (tE X.K E cf (.op (.lt) a)) ∧ PT X e (tT X.K E cf (.op (.lt) a)) := by
  have hu : X.A.units + 64 < cLine := by have := g.un; omega
  have hc := g.calm
  simp only [opArgs, a_lt] at h
  split at h
  · cases h
    exact cmp_snd (rO_lt hu) (nomark _) s
  · cases h
theorem snd_gt (g : GX G cf N sc E X) {a : ME} {e : Expr} {es : List Expr} (h : opArgs G sc (.gt) e = some es) (s : SA X E cf a es) : PE X e (tE X.K E cf (.op (.gt) a)) ∧ PT X e (tT X.K E cf (.op (.gt) a)) := by
  have hu : X.A.units + 64 < cLine := by have := g.un; omega
  have hc := g.calm
  simp only [opArgs, a_gt] at h
  split at h
  · cases h
    exact cmp_snd (rO_gt hu) (nomark _) s
  · cases h
theorem snd_le (g : GX G cf N sc E X) {a : ME} {e : Expr} {es : List Expr} (h : opArgs G sc (.le) e = some es) (s : SA X E cf a es) : PE X e (tE X.K E cf (.op (.le) a)) ∧ PT X e (tT X.K E cf (.op (.le) a)) := by
  have hu : X.A.units + 64 < cLine := by have := g.un; omega
  have hc := g.calm
  simp only [opArgs, a_le] at h
  split at h
  · cases h
    exact cmp_snd (rO_le hu) (nomark _) s
  · cases h
theorem snd_ge (g : GX G cf N sc E X) {a : ME} {e : Expr} {es : List Expr} (h : opArgs G sc (.ge) e = some es) (s : SA X E cf a es) : PE X e (tE X.K E cf (.op (.ge) a)) ∧ PT X e (tT X.K E cf (.op (.ge) a)) := by
  have hu : X.A.units + 64 < cLine := by have := g.un; omega
  have hc := g.calm
  simp only [opArgs, a_ge] at h
  split at h
  · cases h
    exact cmp_snd (rO_ge hu) (nomark _) s
  · cases h
theorem snd_inn (g : GX G cf N sc E X) {a : ME} {e : Expr} {es : List Expr} (h : opArgs G sc (.inn) e = some es) (s : SA X E cf a es) : PE X e (tE X.K E cf (.op (.inn) a)) ∧ PT X e (tT X.K E cf (.op (.inn) a)) := by
  have hu : X.A.units + 64 < cLine := by have := g.un; omega
  have hc := g.calm
  simp only [opArgs, a_inn] at h
  split at h
  · split at h
    · rename_i c
      simp only [Option.some.injEq] at h
      subst h
      exact cmp_snd (rO_in hu) (mark_of c) s
    · cases h
  · cases h
theorem snd_nin (g : GX G cf N sc E X) {a : ME} {e : Expr} {es : List Expr} (h : opArgs G sc (.nin) e = some es) (s : SA X E cf a es) : PE X e (tE X.K E cf (.op (.nin) a)) ∧ PT X e (tT X.K E cf (.op (.nin) a)) := by
  have hu : X.A.units + 64 < cLine := by have := g.un; omega
  have hc := g.calm
  simp only [opArgs, a_nin] at h
  split at h
  · split at h
    · rename_i c
      simp only [Option.some.injEq] at h
      subst h
      exact cmp_snd (rO_nin hu) (mark_of c) s
    · cases h
  · cases h
theorem snd_ix (g : GX G cf N sc E X) {a : ME} {e : Expr} {es : List Expr} (h : opArgs G sc (.ix) e = some es) (s : SA X E cf a es) : PE X e (tE X.K E cf (.op (.ix) a)) ∧ PT X e (tT X.K E cf (.op (.ix) a)) := by
  have hu : X.A.units + 64 < cLine := by have := g.un; omega
  have hc := g.calm
  simp only [opArgs, a_ix] at h
  split at h
  · split at h
    · rename_i c
      simp only [Option.some.injEq] at h
      subst h
      obtain ⟨a1, a2, rfl, n1, p1, n2, p2⟩ := SA.two s
      exact both (PE.imp (pe_ix rX_ix p1 p2 (ix_pl c)) op2) rfl
    · cases h
  · cases h
theorem snd_len (g : GX G cf N sc E X) {a : ME} {e : Expr} {es : List Expr} (h : opArgs G sc (.len) e = some es) (s : SA X E cf a es) : PE X e (tE X.K E cf (.op (.len) a)) ∧ PT X e (tT X.K E cf (.op (.len) a)) := by
  have hu : X.A.units + 64 < cLine := by have := g.un; omega
  have hc := g.calm
  simp only [opArgs, a_len] at h
  split at h
  · split at h
    · rename_i c
      simp only [Option.some.injEq] at h
      subst h
      exact blt_snd g c (by decide +kernel) (by decide +kernel) (by decide +kernel) rC_len s (by simp)
    · cases h
  · cases h
theorem snd_all (g : GX G cf N sc E X) {a : ME} {e : Expr} {es : List Expr} (h : opArgs G sc (.all) e = some es) (s : SA X E cf a es) : PE X e (tE X.K E cf (.op (.all) a)) ∧ PT X e (tT X.K E cf (.op (.all) a)) := by
  have hu : X.A.units + 64 < cLine := by have := g.un; omega
  have hc := g.calm
  simp only [opArgs, a_all] at h
  split at h
  · split at h
    · rename_i c
      simp only [Option.some.injEq] at h
      subst h
      exact blt_snd g c (by decide +kernel) (by decide +kernel) (by decide +kernel) (rC_all hc) s (by simp)
    · cases h
  · cases h
theorem snd_tuple (g : GX G cf N sc E X) {a : ME} {e : Expr} {es : List Expr} (h : opArgs G sc (.tuple) e = some es) (s : SA X E cf a es) : PE X e (tE X.K E cf (.op (.tuple) a)) ∧ PT X e (tT X.K E cf (.op (.tuple) a)) := by
  have hu : X.A.units + 64 < cLine := by have := g.un; omega
  have hc := g.calm
  simp only [opArgs, a_tuple] at h
  split at h
  · split at h
    · rename_i c
      simp only [Option.some.injEq] at h
      subst h
      exact bty_snd g c (by decide +kernel) (by decide +kernel) (by decide +kernel) rC_tuple s (by simp)
    · cases h
  · cases h
theorem snd_list (g : GX G cf N sc E X) {k : Bool} {a : ME} {e : Expr} {es : List Expr} (h : opArgs G sc (.list k) e = some es) (s : SA X E cf a es) : PE X e (tE X.K E cf (.op (.list k) a)) ∧ PT X e (tT X.K E cf (.op (.list k) a)) := by
  have hu : X.A.units + 64 < cLine := by have := g.un; omega
  have hc := g.calm
  simp only [opArgs, a_list] at h
  split at h
  · split at h
    · rename_i c
      simp only [Option.some.injEq] at h
      subst h
      exact bty_snd g c (by decide +kernel) (by decide +kernel) (by decide +kernel) rC_list s (by simp)
    · cases h
  · cases h
theorem snd_int (g : GX G cf N sc E X) {a : ME} {e : Expr} {es : List Expr} (h : opArgs G sc (.int) e = some es) (s : SA X E cf a es) : PE X e (tE X.K E cf (.op (.int) a)) ∧ PT X e (tT X.K E cf (.op (.int) a)) := by
  have hu : X.A.units + 64 < cLine := by have := g.un; omega
  have hc := g.calm
  simp only [opArgs, a_int] at h
  split at h
  · split at h
    · rename_i c
      simp only [Option.some.injEq] at h
      subst h
      exact bty_snd g c (by decide +kernel) (by decide +kernel) (by decide +kernel) rC_int s (by simp)
    · cases h
  · cases h
theorem snd_str (g : GX G cf N sc E X) {a : ME} {e : Expr} {es : List Expr} (h : opArgs G sc (.str) e = some es) (s : SA X E cf a es) : PE X e (tE X.K E cf (.op (.str) a)) ∧ PT X e (tT X.K E cf (.op (.str) a)) := by
  simp only [opArgs, a_str] at h
  split at h
  · split at h
    · rename_i c
      simp only [Option.some.injEq] at h
      subst h
      exact bty_snd g c (by decide +kernel) (by decide +kernel) (by decide +kernel) rC_str s (by simp)
    · cases h
  · cases h
theorem snd_abs (g : GX G cf N sc E X) {a : ME} {e : Expr} {es : List Expr} (h : opArgs G sc (.abs) e = some es) (s : SA X E cf a es) : PE X e (tE X.K E cf (.op (.abs) a)) ∧ PT X e (tT X.K E cf (.op (.abs) a)) := by
  have hu : X.A.units + 64 < cLine := by have := g.un; omega
  have hc := g.calm
  simp only [opArgs, a_abs] at h
  split at h
  · split at h
    · rename_i c
      simp only [Option.some.injEq] at h
      subst h
      exact blt_snd g c (by decide +kernel) (by decide +kernel) (by decide +kernel) rC_abs s (by simp)
    · cases h
  · cases h
theorem snd_max2 (g : GX G cf N sc E X) {a : ME} {e : Expr} {es : List Expr} (h : opArgs G sc (.max2) e = some es) (s : SA X E cf a es) : PE X e (tE X.K E cf (.op (.max2) a)) ∧ PT X e (tT X.K E cf (.op (.max2) a)) := by
  have hu : X.A.units + 64 < cLine := by have := g.un; omega
  have hc := g.calm
  simp only [opArgs, a_max2] at h
  split at h
  · split at h
    · rename_i c
      simp only [Option.some.injEq] at h
      subst h
      exact blt_snd g c (by decide +kernel) (by decide +kernel) (by decide +kernel) (rC_max2 hc) s (by simp)
    · cases h
  · cases h
theorem snd_min2 (g : GX G cf N sc E X) {a : ME} {e : Expr} {es : List Expr} (h : opArgs G sc (.min2) e = some es) (s : SA X E cf a es) : PE X e (tE X.K E cf (.op (.min2) a)) ∧ PT X e (tT X.K E cf (.op (.min2) a)) := by
  have hu : X.A.units + 64 < cLine := by have := g.un; omega
  have hc := g.calm
  simp only [opArgs, a_min2] at h
  split at h
  · split at h
    · rename_i c
      simp only [Option.some.injEq] at h
      subst h
      exact blt_snd g c (by decide +kernel) (by decide +kernel) (by decide +kernel) (rC_min2 hc) s (by simp)
    · cases h
  · cases h
theorem snd_max1 (g : GX G cf N sc E X) {a : ME} {e : Expr} {es : List Expr} (h : opArgs G sc (.max1) e = some es) (s : SA X E cf a es) : PE X e (tE X.K E cf (.op (.max1) a)) ∧ PT X e (tT X.K E cf (.op (.max1) a)) := by
  have hu : X.A.units + 64 < cLine := by have := g.un; omega
  have hc := g.calm
  simp only [opArgs, a_max1] at h
  split at h
  · split at h
    · rename_i c
      simp only [Option.some.injEq] at h
      subst h
      exact blt_snd g c (by decide +kernel) (by decide +kernel) (by decide +kernel) (rC_max1 hc hu) s (by simp)
    · cases h
  · cases h
theorem snd_min1 (g : GX G cf N sc E X) {a : ME} {e : Expr} {es : List Expr} (h : opArgs G sc (.min1) e = some es) (s : SA X E cf a es) : PE X e (tE X.K E cf (.op (.min1) a)) ∧ PT X e (tT X.K E cf (.op (.min1) a)) := by
  have hu : X.A.units + 64 < cLine := by have := g.un; omega
  have hc := g.calm
  simp only [opArgs, a_min1] at h
  split at h
  · split at h
    · rename_i c
      simp only [Option.some.injEq] at h
      subst h
      exact blt_snd g c (by decide +kernel) (by decide +kernel) (by decide +kernel) (rC_min1 hc hu) s (by simp)
    · cases h
  · cases h
theorem snd_sum (g : GX G cf N sc E X) {a : ME} {e : Expr} {es : List Expr} (h : opArgs G sc (.sum) e = some es) (s : SA X E cf a es) : PE X e (tE X.K E cf (.op (.sum) a)) ∧ PT X e (tT X.K E cf (.op (.sum) a)) := by
  have hu : X.A.units + 64 < cLine := by have := g.un; omega
  have hc := g.calm
  simp only [opArgs, a_sum] at h
  split at h
  · split at h
    · rename_i c
      simp only [Option.some.injEq] at h
      subst h
      exact blt_snd g c (by decide +kernel) (by decide +kernel) (by decide +kernel) (rC_sum hc) s (by simp)
    · cases h
  · cases h
theorem snd_isI (g : GX G cf N sc E X) {a : ME} {e : Expr} {es : List Expr} (h : opArgs G sc (.isI) e = some es) (s : SA X E cf a es) : PE X e (tE X.K E cf (.op (.isI) a)) ∧ PT X e (tT X.K E cf (.op (.isI) a)) := by
  have hu : X.A.units + 64 < cLine := by have := g.un; omega
  have hc := g.calm
  simp only [opArgs, a_isI] at h
  split at h
  · split at h
    · rename_i c
      simp only [Option.some.injEq] at h
      subst h
      simp only [Bool.and_eq_true] at c
      exact isa_snd g c.1 c.2 (by decide +kernel) (by decide +kernel) (by decide +kernel) (rC_isa (fun r q => PySem.W.isinstance_int_data r q) fun ds m => by
        simp only [opD, d_isI]
        split
        · exact .inr ⟨_, rfl, rfl⟩
        · exact .inl rfl) s
    · cases h
  · cases h
theorem snd_isB (g : GX G cf N sc E X) {a : ME} {e : Expr} {es : List Expr} (h : opArgs G sc (.isB) e = some es) (s : SA X E cf a es) : PE X e (tE X.K E cf (.op (.isB) a)) ∧ PT X e (tT X.K E cf (.op (.isB) a)) := by
  have hu : X.A.units + 64 < cLine := by have := g.un; omega
  have hc := g.calm
  simp only [opArgs, a_isB] at h
  split at h
  · split at h
    · rename_i c
      simp only [Option.some.injEq] at h
      subst h
      simp only [Bool.and_eq_true] at c
      exact isa_snd g c.1 c.2 (by decide +kernel) (by decide +kernel) (by decide +kernel) (rC_isa (fun r q => PySem.W.isinstance_bool_data r q) fun ds m => by
        simp only [opD, d_isB]
        split
        · exact .inr ⟨_, rfl, rfl⟩
        · exact .inl rfl) s
    · cases h
  · cases h
theorem snd_isS (g : GX G cf N sc E X) {a : ME} {e : Expr} {es : List Expr} (h : opArgs G sc (.isS) e = some es) (s : SA X E cf a es) : PE X e (tE X.K E cf (.op (.isS) a)) ∧ PT X e (tT X.K E cf (.op (.isS) a)) := by
  have hu : X.A.units + 64 < cLine := by have := g.un; omega
  have hc := g.calm
  simp only [opArgs, a_isS] at h
  split at h
  · split at h
    · rename_i c
      simp only [Option.some.injEq] at h
      subst h
      simp only [Bool.and_eq_true] at c
      exact isa_snd g c.1 c.2 (by decide +kernel) (by decide +kernel) (by decide +kernel) (rC_isa (fun r q => PySem.W.isinstance_str_data r q) fun ds m => by
        simp only [opD, d_isS]
        split
        · exact .inr ⟨_, rfl, rfl⟩
        · exact .inl rfl) s
    · cases h
  · cases h
theorem snd_isT (g : GX G cf N sc E X) {a : ME} {e : Expr} {es : List Expr} (h : opArgs G sc (.isT) e = some es) (s : SA X E cf a es) : PE X e (tE X.K E cf (.op (.isT) a)) ∧ PT X e (tT X.K E cf (.op (.isT) a)) := by
  have hu : X.A.units + 64 < cLine := by have := g.un; omega
  have hc := g.calm
  simp only [opArgs, a_isT] at h
  split at h
  · split at h
    · rename_i c
      simp only [Option.some.injEq] at h
      subst h
      simp only [Bool.and_eq_true] at c
      exact isa_snd g c.1 c.2 (by decide +kernel) (by decide +kernel) (by decide +kernel) (rC_isa (fun r q => PySem.W.isinstance_tuple_data r q) fun ds m => by
        simp only [opD, d_isT]
        split
        · exact .inr ⟨_, rfl, rfl⟩
        · exact .inl rfl) s
    · cases h
  · cases h
theorem snd_isL (g : GX G cf N sc E X) {a : ME} {e : Expr} {es : List Expr} (h : opArgs G sc (.isL) e = some es) (s : SA X E cf a es) : PE X e (tE X.K E cf (.op (.isL) a)) ∧ PT X e (tT X.K E cf (.op (.isL) a)) := by
  have hu : X.A.units + 64 < cLine := by have := g.un; omega
  have hc := g.calm
  simp only [opArgs, a_isL] at h
  split at h
  · split at h
    · rename_i c
      simp only [Option.some.injEq] at h
      subst h
      simp only [Bool.and_eq_true] at c
      exact isa_snd g c.1 c.2 (by decide +kernel) (by decide +kernel) (by decide +kernel) (rC_isa (fun r q => PySem.W.isinstance_list_data r q) fun ds m => by
        simp only [opD, d_isL]
        split
        · exact .inr ⟨_, rfl, rfl⟩
        · exact .inl rfl) s
    · cases h
  · cases h
theorem rd_slL {k : Bool} {a1 a2 : ME} (sg : L2.St) (H : Hp) (Q : VK) (h : tE X.K E cf (.op (.slL k) (.consA a1 (.consA a2 .nilA))) sg H Q) : tSl (fun x lo hi H Q => rSlL X.K x lo hi H Q ∨ rSlA X.K x lo hi H Q ∨ rSlS x lo hi H Q) (tE X.K E cf a1) (tPart (tE X.K E cf a2)) tNoPart sg H Q := by
  obtain ⟨rho, gh, env, m, S, w⟩ := h
  simp only [ev.eq_8] at w
  refine wp_arg S w fun d v m1 rho1 H1 x S1 rd w => ?_
  refine wp_arg S1 w fun d2 v2 m2 rho2 H2 x2 S2 rd2 w => ?_
  simp only [ev, bind_ok, opD] at w
  unfold d_slL at w
  split at w
  · rename_i z
    simp only [List.cons.injEq, and_true] at z
    obtain ⟨rfl, rfl⟩ := z
    exact ⟨_, rd_int rd2, rS_sl S2.rel (x2.rd rd) w⟩
  · exact w.elim
theorem snd_slL (g : GX G cf N sc E X) {k : Bool} {a : ME} {e : Expr} {es : List Expr} (h : opArgs G sc (.slL k) e = some es) (s : SA X E cf a es) : PE X e (tE X.K E cf (.op (.slL k) a)) ∧ PT X e (tT X.K E cf (.op (.slL k) a)) := by
  simp only [opArgs, a_slL] at h
  split at h
  · cases h
    obtain ⟨a1, a2, rfl, n1, p1, n2, p2⟩ := SA.two s
    exact both (PE.imp (pe_slice (sl_list.or (sl_tupA.or sl_str)) p1 (po_some p2) po_none) rd_slL) rfl
  · cases h
theorem rd_slU {k : Bool} {a1 a2 : ME} (sg : L2.St) (H : Hp) (Q : VK) (h : tE X.K E cf (.op (.slU k) (.consA a1 (.consA a2 .nilA))) sg H Q) : tSl (fun x lo hi H Q => rSlL X.K x lo hi H Q ∨ rSlA X.K x lo hi H Q ∨ rSlS x lo hi H Q) (tE X.K E cf a1) tNoPart (tPart (tE X.K E cf a2)) sg H Q := by
  obtain ⟨rho, gh, env, m, S, w⟩ := h
  simp only [ev.eq_8] at w
  refine wp_arg S w fun d v m1 rho1 H1 x S1 rd w => ?_
  refine wp_arg S1 w fun d2 v2 m2 rho2 H2 x2 S2 rd2 w => ?_
  simp only [ev, bind_ok, opD] at w
  unfold d_slU at w
  split at w
  · rename_i z
    simp only [List.cons.injEq, and_true] at z
    obtain ⟨rfl, rfl⟩ := z
    exact ⟨_, rd_int rd2, rS_sl S2.rel (x2.rd rd) w⟩
  · exact w.elim
theorem snd_slU (g : GX G cf N sc E X) {k : Bool} {a : ME} {e : Expr} {es : List Expr} (h : opArgs G sc (.slU k) e = some es) (s : SA X E cf a es) : PE X e (tE X.K E cf (.op (.slU k) a)) ∧ PT X e (tT X.K E cf (.op (.slU k) a)) := by
  simp only [opArgs, a_slU] at h
  split at h
  · cases h
    obtain ⟨a1, a2, rfl, n1, p1, n2, p2⟩ := SA.two s
    exact both (PE.imp (pe_slice (sl_list.or (sl_tupA.or sl_str)) p1 po_none (po_some p2)) rd_slU) rfl
  · cases h
theorem snd_addL (g : GX G cf N sc E X) {k : Bool} {a : ME} {e : Expr} {es : List Expr} (h : opArgs G sc (.addL k) e = some es) (s : SA X E cf a es) : PE X e (tE X.K E cf (.op (.addL k) a)) ∧ PT X e (tT X.K E cf (.op (.addL k) a)) := by
  have hu : X.A.units + 64 < cLine := by have := g.un; omega
  simp only [opArgs, a_add] at h
  split at h
  · cases h
    exact bin_snd rO_addL s
  · cases h
theorem snd_mulL (g : GX G cf N sc E X) {k : Bool} {a : ME} {e : Expr} {es : List Expr} (h : opArgs G sc (.mulL k) e = some es) (s : SA X E cf a es) : PE X e (tE X.K E cf (.op (.mulL k) a)) ∧ PT X e (tT X.K E cf (.op (.mulL k) a)) := by
  have hu : X.A.units + 64 < cLine := by have := g.un; omega
  simp only [opArgs, a_mul] at h
  split at h
  · cases h
    exact bin_snd rO_mulL s
  · cases h
theorem snd_mulT (g : GX G cf N sc E X) {a : ME} {e : Expr} {es : List Expr} (h : opArgs G sc (.mulT) e = some es) (s : SA X E cf a es) : PE X e (tE X.K E cf (.op (.mulT) a)) ∧ PT X e (tT X.K E cf (.op (.mulT) a)) := by
  have hu : X.A.units + 64 < cLine := by have := g.un; omega
  simp only [opArgs, a_mul] at h
  split at h
  · cases h
    exact bin_snd rO_mulT s
  · cases h
theorem snd_isC (g : GX G cf N sc E X) {a : ME} {e : Expr} {es : List Expr} (h : opArgs G sc (.isC) e = some es) (s : SA X E cf a es) : PE X e (tE X.K E cf (.op (.isC) a)) ∧ PT X e (tT X.K E cf (.op (.isC) a)) := by
  have hu : X.A.units + 64 < cLine := by have := g.un; omega
  simp only [opArgs, a_isC] at h
  split at h
  · cases h
    exact cmp_snd rO_is (nomark _) s
  · cases h
theorem snd_isnC (g : GX G cf N sc E X) {a : ME} {e : Expr} {es : List Expr} (h : opArgs G sc (.isnC) e = some es) (s : SA X E cf a es) : PE X e (tE X.K E cf (.op (.isnC) a)) ∧ PT X e (tT X.K E cf (.op (.isnC) a)) := by
  have hu : X.A.units + 64 < cLine := by have := g.un; omega
  simp only [opArgs, a_isnC] at h
  split at h
  · cases h
    exact cmp_snd rO_isn (nomark _) s
  · cases h
theorem snd_sorted (g : GX G cf N sc E X) {k : Bool} {a : ME} {e : Expr} {es : List Expr} (h : opArgs G sc (.sorted k) e = some es) (s : SA X E cf a es) : PE X e (tE X.K E cf (.op (.sorted k) a)) ∧ PT X e (tT X.K E cf (.op (.sorted k) a)) := by
  simp only [opArgs, a_sorted] at h
  split at h
  · split at h
    · rename_i c
      simp only [Option.some.injEq] at h
      subst h
      exact blt_snd g c (by decide +kernel) (by decide +kernel) (by decide +kernel) (rC_sorted g.un) s (by simp)
    · cases h
  · cases h
theorem rps_range {K : PySem.W.Frag} {ex : List Addr} {H : Hp} (n : Int) : RPs K ex H ((List.range n.toNat).map fun i : Nat => PyData.int i) (rgV 0 n) := by
  have e : rgV 0 n = (List.range n.toNat).map fun i : Nat => V.int (i : Int) := by
    unfold rgV
    rw [Int.sub_zero]
    refine List.map_congr_left fun i _ => ?_
    rw [Int.zero_add]
  rw [e]
  generalize List.range n.toNat = l
  induction l with
  | nil => simp [RPs]
  | cons x r ih => simp only [List.map_cons, RPs]; exact ⟨_, _, rfl, by simp only [RP], ih⟩
theorem snd_tupRg (g : GX G cf N sc E X) {a : ME} {e : Expr} {es : List Expr} (h : opArgs G sc .tupRg e = some es) (s : SA X E cf a es) : PE X e (tE X.K E cf (.op .tupRg a)) ∧ PT X e (tT X.K E cf (.op .tupRg a)) := by
  simp only [opArgs, a_tupRg] at h
  split at h
  · split at h
    · rename_i c
      simp only [Option.some.injEq] at h
      subst h
      simp only [Bool.and_eq_true] at c
      obtain ⟨rfl, g1, g2⟩ := g.bl c.1
      obtain ⟨rfl, g3, g4⟩ := g.bl c.2
      obtain ⟨a1, rfl, n1, p1⟩ := SA.one s
      refine both (PE.imp (pe_tupRg g.calm g1 g2 (prg_1 g3 g4 p1 (star_of n1))) fun sg H Q h => ?_) rfl
      obtain ⟨rho, gh, env, m, S, w⟩ := h
      simp only [ev.eq_8] at w
      refine wp_arg S w fun d v m1 rho1 H1 x S1 rd w => ?_
      simp only [ev, bind_ok, opD] at w
      unfold d_tupRg at w
      split at w
      · rename_i n z
        simp only [List.cons.injEq, and_true] at z
        subst z
        split at w
        · rename_i c2
          simp only [Bool.and_eq_true, decide_eq_true_eq] at c2
          exact ⟨n, rd_int rd, RgOk.of_le (by omega) (by omega) (by omega) (by omega), fun q nq => wpT S1.rel w (rps_range n) nq⟩
        · exact w.elim
      · exact w.elim
    · cases h
  · cases h
theorem snd_lstRg (g : GX G cf N sc E X) {k : Bool} {a : ME} {e : Expr} {es : List Expr} (h : opArgs G sc (.lstRg k) e = some es) (s : SA X E cf a es) : PE X e (tE X.K E cf (.op (.lstRg k) a)) ∧ PT X e (tT X.K E cf (.op (.lstRg k) a)) := by
  simp only [opArgs, a_lstRg] at h
  split at h
  · split at h
    · rename_i c
      simp only [Option.some.injEq] at h
      subst h
      simp only [Bool.and_eq_true] at c
      obtain ⟨rfl, g1, g2⟩ := g.bl c.1
      obtain ⟨rfl, g3, g4⟩ := g.bl c.2
      obtain ⟨a1, rfl, n1, p1⟩ := SA.one s
      refine both (PE.imp (pe_listRg g.calm g1 g2 (prg_1 g3 g4 p1 (star_of n1))) fun sg H Q h => ?_) rfl
      obtain ⟨rho, gh, env, m, S, w⟩ := h
      simp only [ev.eq_8] at w
      refine wp_arg S w fun d v m1 rho1 H1 x S1 rd w => ?_
      simp only [ev, bind_ok, opD] at w
      unfold d_lstRg at w
      split at w
      · rename_i n z
        simp only [List.cons.injEq, and_true] at z
        subst z
        split at w
        · rename_i c2
          simp only [Bool.and_eq_true, decide_eq_true_eq] at c2
          exact ⟨n, rd_int rd, RgOk.of_le (by omega) (by omega) (by omega) (by omega), fun q nq => wpL S1.rel w (rps_range n) nq⟩
        · exact w.elim
      · exact w.elim
    · cases h
  · cases h
theorem upd_twice {H : Hp} {p : Addr} {a b : HO} : upd (upd H p a) p b = upd H p b := by
  funext x
  by_cases c : x = p
  · subst c
    rw [upd_same, upd_same]
  · rw [upd_ne c, upd_ne c, upd_ne c]
theorem ns_of {b : Expr} (c : notSl b = true) : NoSl b := fun o i => by
  cases b <;> first
    | rfl
    | (simp [notSl] at c)
theorem glS_pe (g : GX G cf N sc E X) {x t : Str} {pos : Pos} (h : glS G sc x t = true) : PE X (.Name x pos) (tC (.str t)) := by
  unfold glS at h
  simp only [Bool.and_eq_true, decide_eq_true_eq, List.any_eq_true] at h
  obtain ⟨⟨h2, h3⟩, ⟨p, hp, h4, h5⟩⟩ := h
  have e := beqP_eq _ _ h5
  obtain ⟨u, v, m1, rv, rp⟩ := g.vals p hp
  rw [h4] at m1
  rw [e] at rp
  have ev : v = .str t := rd_str (rp [] [] (fun _ => none))
  subst ev
  exact pe_glob (g.gl h2) m1 rv (plain_db h3).1
theorem snd_turnD (g : GX G cf N sc E X) {a : ME} {e : Expr} {es : List Expr} (h : opArgs G sc .turnD e = some es) (s : SA X E cf a es) : PE X e (tE X.K E cf (.op .turnD a)) ∧ PT X e (tT X.K E cf (.op .turnD a)) := by
  have hu : X.A.units + 1 < cLine := by have := g.un; omega
  simp only [opArgs, a_turnD] at h
  split at h
  · split at h
    · rename_i c
      simp only [Option.some.injEq] at h
      subst h
      simp only [Bool.and_eq_true, decide_eq_true_eq] at c
      obtain ⟨⟨⟨⟨⟨⟨rfl, rfl⟩, rfl⟩, g1⟩, g2⟩, g3⟩, ns⟩ := c
      obtain ⟨a1, rfl, n1, p1⟩ := SA.one s
      refine both (PE.imp (pe_dget hu (pe_disp (pps_cons pe_int (glS_pe g g1) (pps_cons (pe_un un_neg pe_int) (glS_pe g g2) (pps_cons pe_int (glS_pe g g3) pps_nil))) rfl rfl (by simp) (by simp)) p1 (ns_of ns)) fun sg H Q h => ?_) rfl
      obtain ⟨rho, gh, env, m, S, w⟩ := h
      simp only [ev.eq_8] at w
      intro p n
      refine ⟨1, rfl, ?_⟩
      refine ⟨upd_same, [(.inl 1, .str "left"), (.inl (-1), .str "right"), (.inl 0, .str "none")], rfl, by simp, ?_⟩
      have x0 : Ext rho H rho (L2.upd (L2.upd H p (.dK [])) p (.dK (mergeK [] [(.inl 1, .str "left"), (.inl (-1), .str "right"), (.inl 0, .str "none")]))) := by
        rw [upd_twice]
        exact Ext.upd n
      have S0 := S.ext x0 (by rw [upd_twice]; exact S.rel.upd n)
      have w0 := WP.ext x0 w
      have hp0 : L2.upd (L2.upd H p (.dK [])) p (.dK (mergeK [] [(.inl 1, .str "left"), (.inl (-1), .str "right"), (.inl 0, .str "none")])) p = some (.dK [(.inl 1, .str "left"), (.inl (-1), .str "right"), (.inl 0, .str "none")]) := upd_same
      have np : p ∉ rho := fun z => S.rel.out n (List.mem_append_left _ z)
      refine wp_arg S0 w0 fun d v m1 rho1 H1 x S1 rd w => ?_
      simp only [ev, bind_ok, opD] at w
      have hp1 := (x.fr p _ ⟨hp0, fun _ z => nomatch z⟩ np).1
      unfold d_turnD at w
      split at w
      · rename_i n2 z
        simp only [List.cons.injEq, and_true] at z
        subst z
        have ev := rd_int rd
        subst ev
        refine ⟨p, ?_⟩
        split at w
        · rename_i c2
          subst c2
          exact ⟨.str "left", rfl, DGet.k (k := .inl 1) hp1, wp1 S1.rel w rfl⟩
        · split at w
          · rename_i c2
            subst c2
            exact ⟨.str "right", rfl, DGet.k (k := .inl (-1)) hp1, wp1 S1.rel w rfl⟩
          · split at w
            · rename_i c2
              subst c2
              exact ⟨.str "none", rfl, DGet.k (k := .inl 0) hp1, wp1 S1.rel w rfl⟩
            · exact w.elim
      · exact w.elim
    · cases h
  · cases h
theorem lookup_mem {z y : Str} : ∀ {l : List (Str × Str)}, l.lookup z = some y → (z, y) ∈ l
  | [], h => by simp at h
  | (a, b) :: l, h => by
    simp only [List.lookup_cons] at h
    split at h
    · rename_i e
      simp only [Option.some.injEq] at h
      have e := eq_of_beq e
      subst e h
      exact List.mem_cons_self
    · exact List.mem_cons_of_mem _ (lookup_mem h)
theorem ix_sgn {d : Addr} {es : Array DictEntry} {n : Nat} (D : KDict X.K X.w d es n) (hs : ∀ p ∈ SgnKV, ∃ t, PySem.W.nsIn X.K d p.1 = some (some (.str p.2 t))) : IxR X (fun x y H Q => x = .ref d ∧ rOn X.K E .sgnI [y] H Q) := by
  intro value slice pins s sg H x y v u Q I rx ry h hq
  obtain ⟨rfl, rho, gh, m, ds, R, h, w⟩ := h
  cases rx
  simp only [opD, d_sgnI] at w
  split at w
  · rename_i z
    split at w
    · rename_i y0 ey
      obtain ⟨v1, e1, h1⟩ := RDs.one_of h
      simp only [List.cons.injEq, and_true] at e1
      subst e1
      cases rd_str h1
      obtain ⟨t, rfl⟩ := ry
      obtain ⟨t2, e2⟩ := hs _ (lookup_mem ey)
      have mo := PySem.W.mapOf_K (prog := X.prog) (w := X.w) I.kIn D.at_ D.lit
      exact tail_any (kd_type D I) PySem.F.slot_dict_getitem.lookup (wpAny_getItem_of (PySem.strKind_is X.prog X.w z t) mo (PySem.W.find_K D.at_ e2) ⟨.str y0, H, I.tok _, ⟨t2, rfl⟩, wp1 R w rfl⟩) hq
    · exact w.elim
  · exact w.elim
theorem snd_sgnI (g : GX G cf N sc E X) {a : ME} {e : Expr} {es : List Expr} (h : opArgs G sc .sgnI e = some es) (s : SA X E cf a es) : PE X e (tE X.K E cf (.op .sgnI a)) ∧ PT X e (tT X.K E cf (.op .sgnI a)) := by
  simp only [opArgs, a_sgnI] at h
  split at h
  · split at h
    · rename_i c
      simp only [Bool.and_eq_true, decide_eq_true_eq] at c
      obtain ⟨⟨⟨rfl, c2⟩, c3⟩, c4⟩ := c
      simp only [Option.some.injEq] at h
      subst h
      obtain ⟨a1, rfl, n1, p1⟩ := SA.one s
      obtain ⟨d, es, n, hm, D, _, hs⟩ := g.sgn c2
      refine both (PE.imp (pe_ix (ix_sgn (E := E) D hs) (pe_glob (v := .ref d) (g.gl c3) hm rfl (by decide +kernel)) p1 (ix_pl c4)) fun sg H Q h => ?_) rfl
      obtain ⟨rho, gh, env, m, S, w⟩ := h
      simp only [ev.eq_8] at w
      refine wp_arg S w fun d v m1 rho1 H1 x S1 rd w => ?_
      exact ⟨rfl, rho1, gh, m1, [d], S1.rel, RDs.one rd, w⟩
    · cases h
  · cases h
theorem snd_setT (g : GX G cf N sc E X) {a : ME} {e : Expr} {es : List Expr} (h : opArgs G sc .setT e = some es) (s : SA X E cf a es) : PE X e (tE X.K E cf (.op .setT a)) ∧ PT X e (tT X.K E cf (.op .setT a)) := by
  simp only [opArgs, a_setT] at h
  split at h
  · split at h
    · rename_i c
      simp only [Option.some.injEq] at h
      subst h
      exact bty_snd g c (by decide +kernel) (by decide +kernel) (by decide +kernel) (rC_setT g.calm) s (by simp)
    · cases h
  · cases h
theorem snd_repr (g : GX G cf N sc E X) {a : ME} {e : Expr} {es : List Expr} (h : opArgs G sc .repr e = some es) (s : SA X E cf a es) : PE X e (tE X.K E cf (.op .repr a)) ∧ PT X e (tT X.K E cf (.op .repr a)) := by
  simp only [opArgs, a_repr] at h
  split at h
  · split at h
    · rename_i c
      simp only [Option.some.injEq] at h
      subst h
      exact blt_snd g c (by decide +kernel) (by decide +kernel) (by decide +kernel) (rC_repr g.sm g.gd g.un) s (by simp)
    · cases h
  · cases h
theorem snd_srtSet (g : GX G cf N sc E X) {k : Bool} {a : ME} {e : Expr} {es : List Expr} (h : opArgs G sc (.sortedSet k) e = some es) (s : SA X E cf a es) : PE X e (tE X.K E cf (.op (.sortedSet k) a)) ∧ PT X e (tT X.K E cf (.op (.sortedSet k) a)) := by
  simp only [opArgs, a_srtSet] at h
  split at h
  · split at h
    · rename_i c
      simp only [Option.some.injEq] at h
      subst h
      simp only [Bool.and_eq_true] at c
      obtain ⟨rfl, g1, g2⟩ := g.bl c.1
      obtain ⟨rfl, g3, g4⟩ := g.bl c.2
      obtain ⟨a1, rfl, n1, p1⟩ := SA.one s
      refine both (PE.imp (pe_sortSet g.calm g1 g2 g3 g4 p1 (star_of n1)) fun sg H Q h => ?_) rfl
      obtain ⟨rho, gh, env, m, S, w⟩ := h
      simp only [ev.eq_8] at w
      refine wp_arg S w fun d v m1 rho1 H1 x S1 rd w => ?_
      simp only [ev, bind_ok, opD, d_sortedSet] at w
      split at w
      · rename_i l q
        split at w
        · rename_i ns e2
          split at w
          · rename_i c2
            simp only [Bool.and_eq_true, decide_eq_true_eq] at c2
            obtain ⟨a, xs, rfl, e3, z⟩ := lsP_of S1.rel rd q
            have ex := ints_of e2 z
            subst ex
            refine ⟨a, ns, rfl, e3, c2.1, c2.2, fun p n => wpL S1.rel w ?_ n⟩
            have rp : ∀ l : List Int, RPs X.K (rho1 ++ gh) H1 (l.map .int) (l.map V.int) := fun l => by
              induction l with
              | nil => simp [RPs]
              | cons x r ih => simp only [List.map_cons, RPs]; exact ⟨_, _, rfl, by simp only [RP], ih⟩
            exact rp _
          · exact w.elim
        · exact w.elim
      · exact w.elim
    · cases h
  · cases h
theorem snd_lenSet (g : GX G cf N sc E X) {a : ME} {e : Expr} {es : List Expr} (h : opArgs G sc .lenSet e = some es) (s : SA X E cf a es) : PE X e (tE X.K E cf (.op .lenSet a)) ∧ PT X e (tT X.K E cf (.op .lenSet a)) := by
  simp only [opArgs, a_lenSet] at h
  split at h
  · split at h
    · rename_i c
      simp only [Option.some.injEq] at h
      subst h
      simp only [Bool.and_eq_true] at c
      obtain ⟨rfl, g1, g2⟩ := g.bl c.1
      obtain ⟨rfl, g3, g4⟩ := g.bl c.2
      obtain ⟨a1, rfl, n1, p1⟩ := SA.one s
      refine both (PE.imp (pe_lenSetI g.calm g1 g2 g3 g4 p1 (star_of n1)) fun sg H Q h => ?_) rfl
      obtain ⟨rho, gh, env, m, S, w⟩ := h
      simp only [ev.eq_8] at w
      refine wp_arg S w fun d v m1 rho1 H1 x S1 rd w => ?_
      simp only [ev, bind_ok, opD, d_lenSet] at w
      split at w
      · rename_i l q
        split at w
        · rename_i ns e2
          split at w
          · rename_i c2
            obtain ⟨a, xs, rfl, e3, z⟩ := lsP_of S1.rel rd q
            have ex := ints_of e2 z
            subst ex
            exact ⟨a, ns, rfl, e3, of_decide_eq_true c2, wp1 S1.rel w rfl⟩
          · exact w.elim
        · exact w.elim
      · exact w.elim
    · cases h
  · cases h
theorem snd_rev (g : GX G cf N sc E X) {k : Bool} {a : ME} {e : Expr} {es : List Expr} (h : opArgs G sc (.rev k) e = some es) (s : SA X E cf a es) : PE X e (tE X.K E cf (.op (.rev k) a)) ∧ PT X e (tT X.K E cf (.op (.rev k) a)) := by
  simp only [opArgs, a_rev] at h
  split at h
  · cases h
    obtain ⟨a1, rfl, n1, p1⟩ := SA.one s
    refine both (PE.imp (pe_revA p1) fun sg H Q h => ?_) rfl
    obtain ⟨rho, gh, env, m, S, w⟩ := h
    simp only [ev.eq_8] at w
    refine wp_arg S w fun d v m1 rho1 H1 x S1 rd w => ?_
    simp only [ev, bind_ok, opD, d_rev] at w
    split at w
    · rename_i l q
      obtain ⟨a, xs, rfl, e3, z⟩ := lsP_of S1.rel rd q
      exact .inl ⟨a, xs, rfl, e3, fun p n => wpL S1.rel w z.rev n⟩
    · unfold revT at w
      split at w
      · rename_i ds _
        have rd : RP X.K (rho1 ++ gh) H1 (.tuple ds) v := rd
        simp only [RP] at rd
        obtain ⟨a, xs, rfl, e3, z⟩ := rd
        exact .inr ⟨a, xs, rfl, e3.sq, fun p n => wpT S1.rel w z.rev n⟩
      · exact w.elim
  · cases h
theorem op_snd (g : GX G cf N sc E X) {o : Op} {a : ME} {e : Expr} {es : List Expr} (h : opArgs G sc o e = some es) (s : SA X E cf a es) : PE X e (tE X.K E cf (.op o a)) ∧ PT X e (tT X.K E cf (.op o a)) := by
  cases o
  case add => exact snd_add g h s
  case sub => exact snd_sub g h s
  case mul => exact snd_mul g h s
  case fdiv => exact snd_fdiv g h s
  case mod => exact snd_mod g h s
  case pow => exact snd_pow g h s
  case neg => exact snd_neg g h s
  case eq => exact snd_eq g h s
  case ne => exact snd_ne g h s
  case lt => exact snd_lt g h s
  case gt => exact snd_gt g h s
  case le => exact snd_le g h s
  case ge => exact snd_ge g h s
  case inn => exact snd_inn g h s
  case nin => exact snd_nin g h s
  case ix => exact snd_ix g h s
  case slL => exact snd_slL g h s
  case slU => exact snd_slU g h s
  case len => exact snd_len g h s
  case all => exact snd_all g h s
  case tuple => exact snd_tuple g h s
  case list => exact snd_list g h s
  case int => exact snd_int g h s
  case abs => exact snd_abs g h s
  case max2 => exact snd_max2 g h s
  case min2 => exact snd_min2 g h s
  case max1 => exact snd_max1 g h s
  case min1 => exact snd_min1 g h s
  case sum => exact snd_sum g h s
  case isI => exact snd_isI g h s
  case isB => exact snd_isB g h s
  case isS => exact snd_isS g h s
  case isT => exact snd_isT g h s
  case isL => exact snd_isL g h s
  case sorted => exact snd_sorted g h s
  case rev => exact snd_rev g h s
  case repr => exact snd_repr g h s
  case setT => exact snd_setT g h s
  case sgnI => exact snd_sgnI g h s
  case turnD => exact snd_turnD g h s
  case tupRg => exact snd_tupRg g h s
  case lstRg => exact snd_lstRg g h s
  case str => exact snd_str g h s
  case sortedSet => exact snd_srtSet g h s
  case lenSet => exact snd_lenSet g h s
  case addL => exact snd_addL g h s
  case mulL => exact snd_mulL g h s
  case mulT => exact snd_mulT g h s
  case isC => exact snd_isC g h s
  case isnC => exact snd_isnC g h s
  all_goals (simp only [opArgs] at h; cases h)
end
end M
namespace PySem
open Sem (wp)
theorem mk_enum_at {vt : Value} {io : Obj} {HT : Heap → Prop} (B : Begins vt io HT) :
    Meets (Builtin.«enumerate.__new__» ⟨[.type "enumerate", vt], []⟩) (fun _ R sx => HT sx.heap ∧
      R (.ok (.ret (.ref (sx.heap.push io).objs.size))) { sx with heap := (sx.heap.push io).push { cls := .type "enumerate", data := .fields #[.none, .bool false, .ref sx.heap.objs.size, rawInt 0, .none, .none] } }) :=
  .of_wp fun pr wo Ax Rx sx hx => by
    obtain ⟨hp, gn, dr, tk, os⟩ := sx
    obtain ⟨ht, hr⟩ := hx
    have hs := sub_enumerate
    have itq : ∀ {A2 : Around} {E2 : Value → Shared → Prop} {Q2 : Value → Shared → Prop}, Q2 (.ref hp.objs.size) ⟨hp.push io, gn, dr, tk, os⟩ → wpAny (model pr wo) A2 (pyIter vt) Q2 E2 ⟨hp, gn, dr, tk, os⟩ :=
      fun z => B.iter pr wo _ _ ⟨hp, gn, dr, tk, os⟩ _ ht z
    wp_walk using itq
    refine wpAny_stack_any fun stk => wpAny_pure ?_
    split
    · rename_i cc _ _ _ _ _
      cases (cc == Value.type "enumerate") <;> (wp_walk using itq; exact ⟨_, rfl, hr⟩)
    · wp_walk using itq
      exact ⟨_, rfl, hr⟩
theorem mk_enum_call {pr : Program} {wo : World} {Ax : Around} {Ex : Value → Shared → Prop} {sx : Shared} {vt : Value} {io : Obj} {HT : Heap → Prop} {Qx : Value → Shared → Prop} (B : Begins vt io HT) (ht : HT sx.heap)
    (k : ∀ h2, IsEnum h2 (sx.heap.objs.size + 1) sx.heap.objs.size 0 .none → h2.get? sx.heap.objs.size = some io → (∀ b o, sx.heap.get? b = some o → h2.get? b = some o) → Qx (.ref (sx.heap.objs.size + 1)) { sx with heap := h2 }) :
    wpAny (model pr wo) Ax (call (.type "enumerate") [vt]) Qx Ex sx := by
  refine callType_new F.called_enumerate (by decide) (F.typeCall_enumerate_1 _) (F.newCall_enumerate_1 _) (fun ob => F.args_object_init_2 ob _) F.entry_enumerate_new (mk_enum_at B) ⟨ht, ?_⟩
  have sz : (sx.heap.push io).objs.size = sx.heap.objs.size + 1 := Heap.size_push ..
  show _ ∧ _
  rw [sz]
  have en : IsEnum ((sx.heap.push io).push { cls := .type "enumerate", data := .fields #[.none, .bool false, .ref sx.heap.objs.size, rawInt 0, .none, .none] }) (sx.heap.objs.size + 1) sx.heap.objs.size 0 .none := by
    have z := Heap.get?_push_size (sx.heap.push io) (o := { cls := .type "enumerate", data := .fields #[.none, .bool false, .ref sx.heap.objs.size, rawInt 0, .none, .none] }) rfl
    rw [sz] at z
    exact z
  exact ⟨⟨_, en, rfl⟩, k _ en (Heap.get?_push_of_some _ (Heap.get?_push_size _ B.free)) fun b o z => Heap.get?_push_of_some _ (Heap.get?_push_of_some _ z)⟩
end PySem
namespace M
open PySem PySem.Spec PyProof.Rows L2
def ItE (K : PySem.W.Frag) (a : Addr) : It :=
  ⟨fun i H => ∃ (xs : List V) (x : V), SqT K H a xs ∧ xs[i]? = some x, fun i H v H' => ∃ T x, v = .ref T ∧ H T = none ∧ H' = upd H T (.tup [.int (i : Nat), x]) ∧ ∀ xs, SqT K H a xs → xs[i]? = some x, fun i H => ∃ xs : List V, SqT K H a xs ∧ xs.length = i⟩
theorem turn_ItE {P : Program} {w : World} {K : PySem.W.Frag} {elts : List Expr} {kk : Nat} {tpos : Pos} (a e it : Addr) (hat : a ≠ it) :
    Turn P w K (.Tuple elts kk tpos) (ItE K a) [e, it] e (fun i h => (∃ old, IsEnum h e it ((i : Nat) : Int) old) ∧ h.IsTupleIter it a i ∧ e ≠ it) where
  mem := List.mem_cons_self
  obj := fun i h st b hb => by
    obtain ⟨⟨old, he⟩, ⟨o, ho, hc, hd⟩, _⟩ := st
    rcases List.mem_cons.mp hb with z | z
    · rw [z]
      exact ⟨_, he, fun v q => nomatch q⟩
    · rw [List.mem_singleton.mp z]
      exact ⟨o, ho, fun v q => by rw [hd] at q; cases q⟩
  keep := fun i h h' st k => by
    obtain ⟨⟨old, he⟩, hi, hne⟩ := st
    exact ⟨⟨old, k e List.mem_cons_self _ he⟩, hi.at fun o q => k it (List.mem_cons_of_mem _ List.mem_cons_self) o q, hne⟩
  item := by
    intro X hP hw hK hc i pins s sg H E I hf st hg
    subst hP hw hK
    obtain ⟨⟨old, he⟩, hit, hne⟩ := st
    obtain ⟨xs, x, hq, hx⟩ := hg
    obtain ⟨its, rv, p, hz⟩ := I.tuple hq
    obtain ⟨u, hu, ru⟩ := rv.get hx
    have hel : e < s.heap.objs.size := Heap.lt_size he
    have hil : it < s.heap.objs.size := by
      obtain ⟨_, q, _⟩ := hit
      exact Heap.lt_size q
    have D := Draws.tuple (prog := X.prog) (w := X.w) (A := X.A.in1) (I.ok.hd hc) it a hat its.toArray
    have hlt : i < its.toArray.size := by
      have z := (List.getElem?_eq_some_iff.mp hu).1
      simpa using z
    have nea : e ≠ a := by
      rintro rfl
      obtain ⟨o, ho, hcl, _⟩ := p
      have he2 : s.heap.get? e = some _ := he
      rw [ho] at he2
      have z := Option.some.inj he2
      rw [z] at hcl
      simp at hcl
    refine wpAny_pyNext_enum_itemC D he ⟨hit, p⟩ hlt hne (by simp only [List.mem_cons, List.not_mem_nil, or_false, not_or]; exact ⟨hne, nea⟩) fun y h' tk hy ho st' hT hsz hk => ?_
    have ey : y = u := by
      have z : its[i]? = some y := by simpa using hy
      rw [hu] at z
      exact (Option.some.inj z).symm
    subst ey
    refine ⟨_, rfl, wpAny_letOwnedTupleGo_enum (s := { s with heap := h', toks := tk + 1 }) ho fun h'' he' sb => ?_⟩
    have hT2 : h''.get? s.heap.objs.size = some { cls := .type "tuple", data := .seq #[.int i tk, y] } := (sb.2 _ (Nat.ne_of_gt hel)).trans hT
    have new : ObjOk X.prog X.w (upd H s.heap.objs.size (.tup [.int (i : Nat), x])) h'' s.heap.objs.size (.tup [.int (i : Nat), x]) :=
      ⟨by show 2 ≤ sizeLine; decide, [.int i tk, y], .cons ⟨_, rfl⟩ (.cons ru .nil), ⟨_, hT2, rfl, _, rfl⟩⟩
    have I1 : L2.Inv X pins sg (upd H s.heap.objs.size (.tup [.int (i : Nat), x])) { s with heap := h'', toks := tk + 1 } :=
      I.turnedNew (ch := [e, it]) (fun b ob hb q => (sb.2 b (fun z => hb (by simp [z]))).trans (hk b ob (fun z => hb (by simp [z])) (fun z => hb (by simp [z])) q)) hf (Nat.le_refl _) new
    refine ⟨.ref s.heap.objs.size, _, I1, rfl, ⟨_, x, rfl, I.hok.fresh (Nat.le_refl _), rfl, fun ys hy => by rw [I.tuple_inj hy hq]; exact hx⟩, ⟨⟨y, ?_⟩, st'.1.at fun o q => (sb.2 it (Ne.symm hne)).trans q, hne⟩, fun b hb => ?_⟩
    · have e1 : ((i + 1 : Nat) : Int) = (i : Int) + 1 := by omega
      rw [e1]
      exact he'
    · have hb' : b < s.heap.objs.size := by
        rcases List.mem_cons.mp hb with z | z
        · rw [z]; exact hel
        · rw [List.mem_singleton.mp z]; exact hil
      rw [upd_ne (Nat.ne_of_lt hb')]
      exact (hf b hb).1
  done := by
    intro X hP hw hK hc i pins s sg H E I hf st hg
    subst hP hw hK
    obtain ⟨⟨old, he⟩, hit, hne⟩ := st
    obtain ⟨xs, hq, hx⟩ := hg
    obtain ⟨its, rv, p, hz⟩ := I.tuple hq
    obtain ⟨f0, f1, f2, f3, f4, f5⟩ := hf it (List.mem_cons_of_mem _ List.mem_cons_self)
    have hl := rv.length
    have D := Draws.tuple (prog := X.prog) (w := X.w) (A := X.A.in1) (I.ok.hd hc) it a hat its.toArray
    have en : i = its.toArray.size := by simp; omega
    subst en
    exact wpAny_pyNext_enum_endD D he ⟨hit, p⟩ fun h' eb => ⟨rfl, I.turned (t' := s.toks) (fun b o hb q => eb b o hb q) f0 f1 f3 f4 f5⟩
  self := fun A i s Q E st h => by
    obtain ⟨⟨_, he⟩, _⟩ := st
    exact wpAny_pyIter_enum he h
theorem pi_enumT {X : Cx} {pins : List (Addr × Obj)} {sg : L2.St} {s : Shared} {H : Hp} {R : It → Hp → Prop} {elts : List Expr} {kk : Nat} {tpos : Pos} {a : Addr} {xs : List V} (I : L2.Inv X pins sg H s) (hq : SqT X.K H a xs) (q : R (ItE X.K a) H) :
    wpAny (model X.prog X.w) X.A (call (.type "enumerate") [.ref a]) (fun v s1 => wpAny (model X.prog X.w) X.A (pyIter v) (PIE X pins sg (.Tuple elts kk tpos) R) X.xe s1) X.xe s := by
  obtain ⟨its, rv, p, hz⟩ := I.tuple hq
  have la : a < s.heap.objs.size := p.lt
  refine mk_enum_call (begins_tuple a its.toArray) p fun h' he hit hk => wpAny_pyIter_enum he ?_
  have I2 : L2.Inv X pins sg H { s with heap := h' } := I.kept (t' := s.toks) hk
  refine ⟨s.heap.objs.size + 1, [s.heap.objs.size + 1, s.heap.objs.size], _, _, H, rfl, I2, turn_ItE a (s.heap.objs.size + 1) s.heap.objs.size (Nat.ne_of_lt la), ⟨⟨.none, he⟩, ⟨_, hit, rfl, rfl⟩, Nat.succ_ne_self _⟩, fun b hb => ?_, q⟩
  have hle : s.heap.objs.size ≤ b := by
    rcases List.mem_cons.mp hb with z | z
    · rw [z]; exact Nat.le_add_right _ _
    · rw [List.mem_singleton.mp z]; exact Nat.le_refl _
  exact I.fpOk hle (I.hok.fresh hle)
theorem pi_enumL {X : Cx} {pins : List (Addr × Obj)} {sg : L2.St} {s : Shared} {H : Hp} {R : It → Hp → Prop} {elts : List Expr} {kk : Nat} {tpos : Pos} {a : Addr} {xs : List V} (I : L2.Inv X pins sg H s) (hq : SqL X.K H a xs) (q : R (Ite X.K a) H) :
    wpAny (model X.prog X.w) X.A (call (.type "enumerate") [.ref a]) (fun v s1 => wpAny (model X.prog X.w) X.A (pyIter v) (PIE X pins sg (.Tuple elts kk tpos) R) X.xe s1) X.xe s := by
  obtain ⟨its, rv, p, hz⟩ := I.list hq
  refine mk_enum_call (begins_list a its.toArray) p.isList fun h' he hit hk => wpAny_pyIter_enum he ?_
  have I2 : L2.Inv X pins sg H { s with heap := h' } := I.kept (t' := s.toks) hk
  refine ⟨s.heap.objs.size + 1, [s.heap.objs.size + 1, s.heap.objs.size], _, _, H, rfl, I2, turn_enum a (s.heap.objs.size + 1) s.heap.objs.size, ⟨⟨.none, he⟩, ⟨_, hit, rfl, rfl⟩, Nat.succ_ne_self _⟩, fun b hb => ?_, q⟩
  have hle : s.heap.objs.size ≤ b := by
    rcases List.mem_cons.mp hb with z | z
    · rw [z]; exact Nat.le_add_right _ _
    · rw [List.mem_singleton.mp z]; exact Nat.le_refl _
  exact I.fpOk hle (I.hok.fresh hle)
theorem pi_enumA {X : Cx} {e : Expr} {ta : TA} {p pos tpos : Pos} {elts : List Expr} {kk : Nat} (hg : Gl X "enumerate") (hm : X.mg "enumerate" = none) (ha : PA X [e] ta) (hs : notSt e = true) :
    PI X (.Tuple elts kk tpos) (.Call (.Name "enumerate" p) [e] [] pos) (fun sg H R => ta sg H fun vs H1 => ∃ a xs, vs = [.ref a] ∧ ((SqL X.K H1 a xs ∧ R (Ite X.K a) H1) ∨ (SqT X.K H1 a xs ∧ R (ItE X.K a) H1))) := by
  refine ⟨fun pins s sg H R I h => ?_⟩
  refine Call_ (ld_blt I hg hm boot_enumerate (PyProof.Rows.callWith_type1 (thn (ha.run pos pins s sg H _ I h) fun us s1 ⟨vs, H1, I1, r1, q1⟩ => ?_) (star_of hs) rfl))
  obtain ⟨a, xs, ex, q1⟩ := q1
  subst ex
  cases r1 with
  | cons r rr =>
    cases rr
    cases r
    rcases q1 with ⟨hq, q⟩ | ⟨hq, q⟩
    · exact pi_enumL I1 hq q
    · exact pi_enumT I1 hq q
theorem pi_seqA {X : Cx} {tg l : Expr} {tl : TE} (hl : PE X l tl) : PI X tg l (fun sg H R => tl sg H fun x H1 => ∃ a xs, x = .ref a ∧ ((SqL X.K H1 a xs ∧ R (Itl X.K a) H1) ∨ (SqT X.K H1 a xs ∧ R (Itt X.K a) H1))) := by
  refine ⟨fun pins s sg H R I h => ?_⟩
  refine thn (hl.run pins s sg H _ I h) fun v s1 ⟨x, H1, I1, r1, q1⟩ => ?_
  obtain ⟨a, xs, e, q1⟩ := q1
  subst e
  cases r1
  rcases q1 with ⟨hq, q⟩ | ⟨hq, q⟩
  · obtain ⟨its, rv, p, hz⟩ := I1.list hq
    refine wpAny_pyIter_list p.isList ⟨s1.heap.objs.size, [s1.heap.objs.size], _, _, H1, rfl, I1.kept (t' := s1.toks) fun b o e => Heap.get?_push_of_some _ e, turn_list a _, ⟨_, Heap.get?_push_size _ rfl, rfl, rfl⟩, fun b hb => ?_, q⟩
    rw [List.mem_singleton.mp hb]
    exact I1.fpOk (Nat.le_refl _) (I1.hok.fresh (Nat.le_refl _))
  · obtain ⟨its, rv, p, hz⟩ := I1.tuple hq
    refine wpAny_pyIter_tuple p ⟨s1.heap.objs.size, [s1.heap.objs.size], _, _, H1, rfl, I1.kept (t' := s1.toks) fun b o e => Heap.get?_push_of_some _ e, turn_tuple a _, ⟨_, Heap.get?_push_size _ rfl, rfl, rfl⟩, fun b hb => ?_, q⟩
    rw [List.mem_singleton.mp hb]
    exact I1.fpOk (Nat.le_refl _) (I1.hok.fresh (Nat.le_refl _))
structure Its (K : PySem.W.Frag) (gh rho : List Addr) (H0 : Hp) (J : It) (items : List P) (ck : MH → Bool) : Prop where
  ex : ∃ (G : Hp → Prop) (Y : Nat → Hp → V → Hp → Prop), Walk J items.length G Y ∧
    (∀ (rho' gh' : List Addr) (m' : MH) (H : Hp), (∀ a o, At (rho ++ gh) H0 a o → At (rho' ++ gh') H a o) → rho <+: rho' → Rel K rho' gh' m' H → ck m' = true → G H) ∧
    ∀ (i : Nat) (rho' gh' : List Addr) (H : Hp) (x : V) (H' : Hp) (m' : MH), i < items.length → (∀ a o, At (rho ++ gh) H0 a o → At (rho' ++ gh') H a o) → rho <+: rho' → Rel K rho' gh' m' H → ck m' = true → Y i H x H' →
      ∃ d, items[i]? = some d ∧ Ext rho' H rho' H' ∧ Rel K rho' gh' m' H' ∧ RP K (rho' ++ gh') H' d x
section
variable {K : PySem.W.Frag} {gh rho : List Addr} {H0 : Hp} {ck : MH → Bool}
theorem its_list {a : Addr} {xs : List V} {ds : List P} (h : LOk K (rho ++ gh) H0 a xs) (r : RPs K (rho ++ gh) H0 ds xs) : Its K gh rho H0 (Itl K a) ds ck := by
  refine ⟨fun H => SqL K H a xs, YAt xs, ?_, fun rho' gh' m' H x _ _ _ => (h.mono x).sq, fun i rho' gh' H x H' m' hi e _ R _ y => ?_⟩
  · rw [← RPs.len r]; exact walk_list
  · obtain ⟨rfl, y⟩ := y
    obtain ⟨d, e1, r1⟩ := RPs.geti r y
    exact ⟨d, e1, Ext.refl, R, RP.mono e _ _ r1⟩
theorem its_tup {a : Addr} {xs : List V} {ds : List P} (h : TOk K (rho ++ gh) H0 a xs) (r : RPs K (rho ++ gh) H0 ds xs) : Its K gh rho H0 (Itt K a) ds ck := by
  refine ⟨fun H => SqT K H a xs, YAt xs, ?_, fun rho' gh' m' H x _ _ _ => (h.mono x).sq, fun i rho' gh' H x H' m' hi e _ R _ y => ?_⟩
  · rw [← RPs.len r]; exact walk_tup
  · obtain ⟨rfl, y⟩ := y
    obtain ⟨d, e1, r1⟩ := RPs.geti r y
    exact ⟨d, e1, Ext.refl, R, RP.mono e _ _ r1⟩
theorem rangeP_len (lo : Int) : ∀ n, (rangeP lo n).length = n
  | 0 => rfl
  | n + 1 => by simp only [rangeP, List.length_cons, rangeP_len (lo + 1) n]
theorem rangeP_get : ∀ (n : Nat) (lo : Int) (i : Nat), i < n → (rangeP lo n)[i]? = some (.int (lo + i))
  | 0, _, _, h => absurd h (Nat.not_lt_zero _)
  | n + 1, lo, 0, _ => by simp [rangeP]
  | n + 1, lo, i + 1, h => by
    have e : lo + 1 + (i : Int) = lo + ((i + 1 : Nat) : Int) := by omega
    simp only [rangeP, List.getElem?_cons_succ]
    rw [rangeP_get n (lo + 1) i (by omega), e]
theorem its_range {lo : Int} {n : Nat} : Its K gh rho H0 (Itr lo n) (rangeP lo n) ck := by
  refine ⟨fun _ => True, YFn fun i => .int (lo + i), ?_, fun _ _ _ _ _ _ _ _ => trivial, fun i rho' gh' H x H' m' hi e _ R _ y => ?_⟩
  · rw [rangeP_len]; exact walk_range
  · rw [rangeP_len] at hi
    obtain ⟨rfl, rfl⟩ := y
    exact ⟨_, rangeP_get n lo i hi, Ext.refl, R, by simp only [RP]⟩
theorem its_str {z : Str} : Its K gh rho H0 (L2.Its z) (z.cps.toList.map fun c => PyData.str ⟨#[c]⟩) ck := by
  refine ⟨fun _ => True, fun i H v H' => H' = H ∧ ∃ c, z.cps[i]? = some c ∧ v = .str ⟨#[c]⟩, ⟨fun i H hi _ => ?_, fun H _ => ?_, fun i H x H' hi _ y => y⟩, fun _ _ _ _ _ _ _ _ => trivial, fun i rho' gh' H x H' m' hi e _ R _ y => ?_⟩
  · show i < z.cps.size
    simpa using hi
  · show z.cps.size ≤ (z.cps.toList.map fun c => PyData.str ⟨#[c]⟩).length
    simp
  · obtain ⟨rfl, c, ec, rfl⟩ := y
    refine ⟨.str ⟨#[c]⟩, ?_, Ext.refl, R, by simp only [RP]⟩
    rw [List.getElem?_map, Array.getElem?_toList, ec]
    rfl
theorem enumP_len : ∀ (ds : List P) (k : Nat), (enumP k ds).length = ds.length
  | [], _ => rfl
  | d :: r, k => by simp only [enumP, List.length_cons, enumP_len r (k + 1)]
theorem enumP_get : ∀ (ds : List P) (k i : Nat) (d : P), ds[i]? = some d → (enumP k ds)[i]? = some (.tuple [.int ((k + i : Nat) : Int), d])
  | [], _, _, _, h => by simp at h
  | d0 :: r, k, 0, d, h => by
    simp only [List.getElem?_cons_zero, Option.some.injEq] at h
    subst h
    simp [enumP]
  | d0 :: r, k, i + 1, d, h => by
    simp only [enumP, List.getElem?_cons_succ]
    rw [enumP_get r (k + 1) i d (by simpa using h)]
    have e : k + 1 + i = k + (i + 1) := by omega
    rw [e]
theorem pair_rp {rho' : List Addr} {H H' : Hp} {m' : MH} {x y : V} {d e : P} {T : Addr} (R : Rel K rho' gh m' H) (n : H T = none) (eH : H' = upd H T (.tup [x, y])) (hx : RP K (rho' ++ gh) H d x) (hy : RP K (rho' ++ gh) H e y) :
    Ext rho' H rho' H' ∧ Rel K rho' gh m' H' ∧ RP K (rho' ++ gh) H' (.tuple [d, e]) (.ref T) := by
  subst eH
  have x1 : Ext rho' H rho' (upd H T (.tup [x, y])) := Ext.upd n
  refine ⟨x1, R.upd n, ?_⟩
  simp only [RP, RPs]
  exact ⟨T, [x, y], rfl, ⟨⟨upd_same, fun _ z => nomatch z⟩, R.out n⟩, x, [y], rfl, x1.rp hx, y, [], rfl, x1.rp hy, rfl⟩
theorem its_enumL {a : Addr} {xs : List V} {ds : List P} (h : LOk K (rho ++ gh) H0 a xs) (r : RPs K (rho ++ gh) H0 ds xs) : Its K gh rho H0 (Ite K a) (enumP 0 ds) ck := by
  refine ⟨fun H => SqL K H a xs, YPair (fun i => some (.int (i : Nat))) (fun i => xs[i]?), ?_, fun rho' gh' m' H x _ _ _ => (h.mono x).sq, fun i rho' gh' H x H' m' hi e _ R _ y => ?_⟩
  · rw [enumP_len, ← RPs.len r]; exact walk_enum
  · obtain ⟨T, x0, y0, rfl, n, eH, e1, e2⟩ := y
    simp only [Option.some.injEq] at e1
    subst e1
    obtain ⟨d, e3, r1⟩ := RPs.geti r e2
    obtain ⟨k1, k2, k3⟩ := pair_rp (d := .int (i : Nat)) R n eH (by simp only [RP]) (RP.mono e _ _ r1)
    have z := enumP_get ds 0 i d e3
    rw [Nat.zero_add] at z
    exact ⟨_, z, k1, k2, k3⟩
theorem its_enumT {a : Addr} {xs : List V} {ds : List P} (h : TOk K (rho ++ gh) H0 a xs) (r : RPs K (rho ++ gh) H0 ds xs) : Its K gh rho H0 (ItE K a) (enumP 0 ds) ck := by
  refine ⟨fun H => SqT K H a xs, YPair (fun i => some (.int (i : Nat))) (fun i => xs[i]?), ?_, fun rho' gh' m' H x _ _ _ => (h.mono x).sq, fun i rho' gh' H x H' m' hi e _ R _ y => ?_⟩
  · rw [enumP_len, ← RPs.len r]
    refine ⟨fun i _ hi q => ⟨xs, xs[i], q, by simp [hi]⟩, fun _ q => ⟨xs, q, rfl⟩, fun i H v H' _ q y => ?_⟩
    obtain ⟨T, x, h1, h2, h3, h4⟩ := y
    exact ⟨T, .int (i : Nat), x, h1, h2, h3, rfl, h4 xs q⟩
  · obtain ⟨T, x0, y0, rfl, n, eH, e1, e2⟩ := y
    simp only [Option.some.injEq] at e1
    subst e1
    obtain ⟨d, e3, r1⟩ := RPs.geti r e2
    obtain ⟨k1, k2, k3⟩ := pair_rp (d := .int (i : Nat)) R n eH (by simp only [RP]) (RP.mono e _ _ r1)
    have z := enumP_get ds 0 i d e3
    rw [Nat.zero_add] at z
    exact ⟨_, z, k1, k2, k3⟩
theorem zipP_len : ∀ (xs ys : List P), (zipP xs ys).length = min xs.length ys.length
  | [], ys => by simp [zipP]
  | x :: xs, [] => by simp [zipP]
  | x :: xs, y :: ys => by simp only [zipP, List.length_cons, zipP_len xs ys]; omega
theorem zipP_get : ∀ (xs ys : List P) (i : Nat) (d e : P), xs[i]? = some d → ys[i]? = some e → (zipP xs ys)[i]? = some (.tuple [d, e])
  | [], ys, i, d, e, h, _ => by simp at h
  | x :: xs, [], i, d, e, _, h => by simp at h
  | x :: xs, y :: ys, 0, d, e, h1, h2 => by
    simp only [List.getElem?_cons_zero, Option.some.injEq] at h1 h2
    subst h1 h2
    simp [zipP]
  | x :: xs, y :: ys, i + 1, d, e, h1, h2 => by
    simp only [zipP, List.getElem?_cons_succ]
    exact zipP_get xs ys i d e (by simpa using h1) (by simpa using h2)
theorem its_zipL {a b : Addr} {xs ys : List V} {ds es : List P} (h : LOk K (rho ++ gh) H0 a xs) (r : RPs K (rho ++ gh) H0 ds xs) (h2 : LOk K (rho ++ gh) H0 b ys) (r2 : RPs K (rho ++ gh) H0 es ys) : Its K gh rho H0 (Itz K a b) (zipP ds es) ck := by
  refine ⟨fun H => SqL K H a xs ∧ SqL K H b ys, YPair (fun i => xs[i]?) (fun i => ys[i]?), ?_, fun rho' gh' m' H x _ _ _ => ⟨(h.mono x).sq, (h2.mono x).sq⟩, fun i rho' gh' H x H' m' hi e _ R _ y => ?_⟩
  · rw [zipP_len]; exact walk_zip (by rw [RPs.len r, RPs.len r2])
  · obtain ⟨T, x0, y0, rfl, n, eH, e1, e2⟩ := y
    obtain ⟨d, e3, r3⟩ := RPs.geti r e1
    obtain ⟨d2, e4, r4⟩ := RPs.geti r2 e2
    obtain ⟨k1, k2, k3⟩ := pair_rp R n eH (RP.mono e _ _ r3) (RP.mono e _ _ r4)
    exact ⟨_, zipP_get ds es i d d2 e3 e4, k1, k2, k3⟩
theorem its_zipT {a b : Addr} {xs ys : List V} {ds es : List P} (h : TOk K (rho ++ gh) H0 a xs) (r : RPs K (rho ++ gh) H0 ds xs) (h2 : TOk K (rho ++ gh) H0 b ys) (r2 : RPs K (rho ++ gh) H0 es ys) : Its K gh rho H0 (RZ.ItzT K a b) (zipP ds es) ck := by
  refine ⟨fun H => SqT K H a xs ∧ SqT K H b ys, YPair (fun i => xs[i]?) (fun i => ys[i]?), ?_, fun rho' gh' m' H x _ _ _ => ⟨(h.mono x).sq, (h2.mono x).sq⟩, fun i rho' gh' H x H' m' hi e _ R _ y => ?_⟩
  · rw [zipP_len, ← RPs.len r, ← RPs.len r2]
    refine ⟨fun i _ hi q => ?_, fun _ q => ⟨xs, ys, q.1, q.2, by omega⟩, fun i H v H' _ q y => ?_⟩
    · have h1 : i < xs.length := by omega
      have h2 : i < ys.length := by omega
      exact ⟨xs, ys, xs[i], ys[i], q.1, q.2, by simp [h1], by simp [h2]⟩
    · obtain ⟨T, x, z, h1, h2, h3, h4, h5⟩ := y
      exact ⟨T, x, z, h1, h2, h3, h4 xs q.1, h5 ys q.2⟩
  · obtain ⟨T, x0, y0, rfl, n, eH, e1, e2⟩ := y
    obtain ⟨d, e3, r3⟩ := RPs.geti r e1
    obtain ⟨d2, e4, r4⟩ := RPs.geti r2 e2
    obtain ⟨k1, k2, k3⟩ := pair_rp R n eH (RP.mono e _ _ r3) (RP.mono e _ _ r4)
    exact ⟨_, zipP_get ds es i d d2 e3 e4, k1, k2, k3⟩
theorem cell_at {rho' gh' : List Addr} {m' : MH} {H : Hp} {n : Nat} {a : Addr} {ds : List P} (e : rho[n]? = some a) (p : rho <+: rho') (R : Rel K rho' gh' m' H) (c : cellIs n ds m' = true) : ∃ xs, H a = some (.lst xs) ∧ RPs K (rho' ++ gh') H ds xs := by
  unfold cellIs at c
  split at c
  · rename_i l q
    have z := beqPs_eq _ _ c
    subst z
    exact R.cell n a _ (pre_get p e) q
  · cases c
theorem its_ref {n : Nat} {a : Addr} {ds : List P} (e : rho[n]? = some a) : Its K gh rho H0 (Itl K a) ds (cellIs n ds) := by
  refine ⟨fun H => ∃ xs, SqL K H a xs ∧ xs.length = ds.length, fun i H x H' => H' = H ∧ ∀ xs, SqL K H a xs → xs[i]? = some x, ⟨fun i H hi ⟨xs, q, hl⟩ => ?_, fun H ⟨xs, q, hl⟩ => ⟨xs, q, by omega⟩, fun i H x H' hi _ y => y⟩, fun rho' gh' m' H x p R c => ?_, fun i rho' gh' H x H' m' hi e0 p R c y => ?_⟩
  · have h1 : i < xs.length := by omega
    exact ⟨xs, xs[i], q, by simp [h1]⟩
  · obtain ⟨xs, e1, r1⟩ := cell_at e p R c
    exact ⟨xs, SqL.of e1, RPs.len r1⟩
  · obtain ⟨rfl, y⟩ := y
    obtain ⟨xs, e1, r1⟩ := cell_at e p R c
    obtain ⟨d, e2, r2⟩ := RPs.geti r1 (y xs (SqL.of e1))
    exact ⟨d, e2, Ext.refl, R, r2⟩
theorem its_refE {n : Nat} {a : Addr} {ds : List P} (e : rho[n]? = some a) : Its K gh rho H0 (Ite K a) (enumP 0 ds) (cellIs n ds) := by
  refine ⟨fun H => ∃ xs, SqL K H a xs ∧ xs.length = ds.length, fun i H v H' => ∀ xs, SqL K H a xs → xs.length = ds.length → YPair (fun i => some (.int (i : Nat))) (fun i => xs[i]?) i H v H', ⟨fun i H hi ⟨xs, q, hl⟩ => (walk_enum (K := K) (a := a) (xs := xs)).goes i H (by rw [enumP_len] at hi; omega) q, fun H ⟨xs, q, hl⟩ => by
      have z := (walk_enum (K := K) (a := a) (xs := xs)).stops H q
      rw [enumP_len, ← hl]
      exact z, fun i H x H' hi _ y xs q hl => (walk_enum (K := K) (a := a) (xs := xs)).yields i H x H' (by rw [enumP_len] at hi; omega) q y⟩, fun rho' gh' m' H x p R c => ?_, fun i rho' gh' H x H' m' hi e0 p R c y => ?_⟩
  · obtain ⟨xs, e1, r1⟩ := cell_at e p R c
    exact ⟨xs, SqL.of e1, RPs.len r1⟩
  · obtain ⟨xs, e1, r1⟩ := cell_at e p R c
    obtain ⟨T, x0, y0, rfl, n, eH, e3, e2⟩ := y xs (SqL.of e1) (RPs.len r1)
    simp only [Option.some.injEq] at e3
    subst e3
    obtain ⟨d, e4, r2⟩ := RPs.geti r1 e2
    obtain ⟨k1, k2, k3⟩ := pair_rp (d := .int (i : Nat)) R n eH (by simp only [RP]) r2
    have z := enumP_get ds 0 i d e4
    rw [Nat.zero_add] at z
    exact ⟨_, z, k1, k2, k3⟩
theorem its_refZ {n : Nat} {a b : Addr} {ys : List V} {ds es : List P} (e : rho[n]? = some a) (h2 : LOk K (rho ++ gh) H0 b ys) (r2 : RPs K (rho ++ gh) H0 es ys) : Its K gh rho H0 (Itz K a b) (zipP ds es) (cellIs n ds) := by
  have ly := RPs.len r2
  refine ⟨fun H => (∃ xs, SqL K H a xs ∧ xs.length = ds.length) ∧ SqL K H b ys, fun i H v H' => ∀ xs, SqL K H a xs → xs.length = ds.length → SqL K H b ys → YPair (fun i => xs[i]?) (fun i => ys[i]?) i H v H',
    ⟨fun i H hi ⟨⟨xs, q, hl⟩, q2⟩ => (walk_zip (K := K) (a := a) (b := b) (xs := xs) (ys := ys) rfl).goes i H (by rw [zipP_len] at hi; omega) ⟨q, q2⟩, fun H ⟨⟨xs, q, hl⟩, q2⟩ => by
      have z := (walk_zip (K := K) (a := a) (b := b) (xs := xs) (ys := ys) rfl).stops H ⟨q, q2⟩
      rw [zipP_len, ← hl, ← ly]
      exact z, fun i H x H' hi _ y xs q hl q2 => (walk_zip (K := K) (a := a) (b := b) (xs := xs) (ys := ys) rfl).yields i H x H' (by rw [zipP_len] at hi; omega) ⟨q, q2⟩ y⟩, fun rho' gh' m' H x p R c => ?_, fun i rho' gh' H x H' m' hi e0 p R c y => ?_⟩
  · obtain ⟨xs, e1, r1⟩ := cell_at e p R c
    exact ⟨⟨xs, SqL.of e1, RPs.len r1⟩, (h2.mono x).sq⟩
  · obtain ⟨xs, e1, r1⟩ := cell_at e p R c
    obtain ⟨T, x0, y0, rfl, n, eH, e3, e2⟩ := y xs (SqL.of e1) (RPs.len r1) (h2.mono e0).sq
    obtain ⟨d, e4, r4⟩ := RPs.geti r1 e3
    obtain ⟨d2, e5, r5⟩ := RPs.geti r2 e2
    obtain ⟨k1, k2, k3⟩ := pair_rp R n eH r4 (RP.mono e0 _ _ r5)
    exact ⟨_, zipP_get ds es i d d2 e4 e5, k1, k2, k3⟩
end
end M
namespace M
open PySem PySem.Spec PyProof.Rows L2
abbrev EN : XK := fun _ _ _ => False
def Only (sl : List Nat) (sg sg2 : L2.St) : Prop := sg2.length = sg.length ∧ ∀ j, j ∉ sl → sg2[j]? = sg[j]?
theorem Only.wipe {own sl : List Nat} {sg sg2 : L2.St} (o : Only sl sg sg2) (h : ∀ i ∈ sl, i ∈ own) : L2.wipe sg2 own = L2.wipe sg own := by
  apply List.ext_getElem?
  intro j
  by_cases hj : j ∈ own
  · have q : ∀ (s : L2.St) (own : List Nat), j ∈ own → (L2.wipe s own)[j]? = if j < s.length then some none else none := by
      intro s own
      induction own with
      | nil => intro h; cases h
      | cons v vs ih =>
        intro h
        simp only [L2.wipe]
        by_cases hv : v = j
        · subst hv
          by_cases hl : v < (L2.wipe s vs).length
          · rw [List.getElem?_set_self hl, if_pos (by rw [wipe_length] at hl; exact hl)]
          · rw [List.getElem?_eq_none (by simpa using hl), if_neg (by rw [wipe_length] at hl; exact hl)]
        · rw [List.getElem?_set_ne hv]
          exact ih ((List.mem_cons.mp h).resolve_left (Ne.symm hv))
    rw [q sg2 own hj, q sg own hj, o.1]
  · rw [wipe_out hj, wipe_out hj]
    exact o.2 j fun z => hj (h j z)
def tG (K : PySem.W.Frag) (mt : MT) : TG := fun v sg H Q => ∃ rho gh m env d env2, Rel K rho gh m H ∧ EOk K rho gh H env sg ∧ RP K (rho ++ gh) H d v ∧ bindT mt d env = some env2 ∧ ∀ sg2, EOk K rho gh H env2 sg2 → Only (slotsT mt) sg sg2 → Q sg2 H
def tGs (K : PySem.W.Frag) (mt : MT) : TGs := fun vs sg H Q => ∃ rho gh m env ds env2, Rel K rho gh m H ∧ EOk K rho gh H env sg ∧ RPs K (rho ++ gh) H ds vs ∧ bindTs mt ds env = some env2 ∧ ∀ sg2, EOk K rho gh H env2 sg2 → Only (slotsT mt) sg sg2 → Q sg2 H
theorem PG.imp {X : Cx} {e : Expr} {t t' : TG} (h : PG X e t) (k : ∀ v sg H Q, t' v sg H Q → t v sg H Q) : PG X e t' := ⟨fun pins s sg H v u Q I r q => h.run pins s sg H v u Q I r (k v sg H Q q)⟩
theorem PGs.imp {X : Cx} {e : List Expr} {t t' : TGs} (h : PGs X e t) (k : ∀ v sg H Q, t' v sg H Q → t v sg H Q) : PGs X e t' := ⟨fun pins s sg H v u Q I r q => h.run pins s sg H v u Q I r (k v sg H Q q)⟩
theorem PI.imp {X : Cx} {tg e : Expr} {t t' : TI} (h : PI X tg e t) (k : ∀ sg H Q, t' sg H Q → t sg H Q) : PI X tg e t' := ⟨fun pins s sg H R I q => h.run pins s sg H R I (k sg H R q)⟩
theorem assign_st {env : Env} : ∀ {es : List Expr}, noStar es = true → (assignEach es env).length = es.length ∧ (assignEach es env).findIdx? (·.1) = none ∧ ∀ e t, es = e :: t → (assignEach es env).map (·.2) = assign e env :: (assignEach t env).map (·.2)
  | [], _ => ⟨rfl, rfl, fun _ _ h => nomatch h⟩
  | e :: es, h => by
    simp only [noStar, Bool.and_eq_true] at h
    have q := assign_st (env := env) h.2
    have z : assignEach (e :: es) env = (false, assign e env) :: assignEach es env := by
      have h1 := h.1
      cases e <;> first
        | rfl
        | cases h1
    rw [z]
    refine ⟨by simp [q.1], ?_, fun e' t h => ?_⟩
    · rw [List.findIdx?_cons]
      simp [q.2.1]
    · simp only [List.cons.injEq] at h
      obtain ⟨rfl, rfl⟩ := h
      rfl
section
variable {X : Cx} {N : List Str} {sc : Scope}
theorem pg_tgt (hsc : ScR sc X) (hN : X.N = N) (nd : N.Nodup) (calm : X.calm = true) : ∀ mt : MT,
    (∀ e, chkT N sc mt e = true → PG X e (tG X.K mt)) ∧ (∀ es, chkTs N sc mt es = true → PGs X es (tGs X.K mt) ∧ noStar es = true) := by
  intro mt
  induction mt with
  | v i =>
    refine ⟨fun e h => ?_, fun es h => by simp [chkTs] at h⟩
    cases e <;> simp only [chkT, Bool.false_eq_true, Bool.and_eq_true, decide_eq_true_eq] at h
    rename_i x p
    have lc : L2.Loc X.env.scope x ∧ (X.fn x = true ∨ X.env.scope.names.lookup x = some .local) := by
      have h2 := h.2
      unfold isLoc at h2
      unfold L2.Loc
      split at h2
      · have z := hsc.loc x (by assumption)
        exact ⟨.inl z, .inr z⟩
      · have z := hsc.cel x (by assumption)
        exact ⟨.inr z.1, .inl z.2⟩
      · cases h2
    obtain ⟨lc, hf⟩ := lc
    refine PG.imp (pg_name (by rw [hN]; exact nd) (by rw [hN]; exact h.1) lc hf) fun v sg H Q ⟨rho, gh, m, env, d, env2, R, eo, r, b, k⟩ => ?_
    simp only [bindT, Option.some.injEq] at b
    subst b
    exact k _ (eo.set (d := .p d) r) ⟨by simp, fun j hj => by rw [List.getElem?_set_ne]; intro z; exact hj (by simp [slotsT, z])⟩
  | nil =>
    refine ⟨fun e h => by simp [chkT] at h, fun es h => ?_⟩
    cases es with
    | cons _ _ => simp [chkTs] at h
    | nil =>
      refine ⟨PGs.imp pgs_nil fun vs sg H Q ⟨rho, gh, m, env, ds, env2, R, eo, r, b, k⟩ => ?_, rfl⟩
      cases ds with
      | cons _ _ => simp [bindTs] at b
      | nil =>
        simp only [bindTs, Option.some.injEq] at b
        subst b
        simp only [RPs] at r
        exact ⟨r, k sg eo ⟨rfl, fun _ _ => rfl⟩⟩
  | cons a r iha ihr =>
    refine ⟨fun e h => by simp [chkT] at h, fun es h => ?_⟩
    cases es with
    | nil => simp [chkTs] at h
    | cons e es =>
      simp only [chkTs, Bool.and_eq_true] at h
      obtain ⟨⟨h1, h2⟩, h3⟩ := h
      obtain ⟨p, ns⟩ := ihr.2 es h3
      have nsa : noStar (e :: es) = true := by simp only [noStar, Bool.and_eq_true]; exact ⟨h1, ns⟩
      refine ⟨PGs.imp (pgs_cons (iha.1 e h2) p ((assign_st nsa).2.2 e es rfl)) fun vs sg H Q ⟨rho, gh, m, env, ds, env2, R, eo, rr, b, k⟩ => ?_, nsa⟩
      cases ds with
      | nil => simp [bindTs] at b
      | cons d ds =>
        simp only [bindTs] at b
        simp only [RPs] at rr
        obtain ⟨v, t, rfl, r1, r2⟩ := rr
        split at b
        · rename_i e1 q1
          refine ⟨v, t, rfl, rho, gh, m, env, d, e1, R, eo, r1, q1, fun sg1 eo1 o1 => ⟨rho, gh, m, e1, ds, env2, R, eo1, r2, b, fun sg2 eo2 o2 => k sg2 eo2 ⟨o2.1.trans o1.1, fun j hj => ?_⟩⟩⟩
          simp only [slotsT, List.mem_append, not_or] at hj
          rw [o2.2 j hj.2, o1.2 j hj.1]
        · cases b
  | tup a iha =>
    refine ⟨fun e h => ?_, fun es h => by simp [chkTs] at h⟩
    cases e <;> simp only [chkT, Bool.false_eq_true] at h
    rename_i es k p
    obtain ⟨q, ns⟩ := iha.2 es h
    have z := assign_st (env := X.env) ns
    refine PG.imp (pg_tup calm q z.1 z.2.1) fun v sg H Q ⟨rho, gh, m, env, d, env2, R, eo, r, b, k⟩ => ?_
    cases d <;> simp only [bindT, reduceCtorEq] at b
    rename_i ds
    simp only [RP] at r
    obtain ⟨a', xs, rfl, t, rs⟩ := r
    have hl : ∀ (mt : MT) (ds : List P) (env env2 : Ev) (es : List Expr), bindTs mt ds env = some env2 → chkTs N sc mt es = true → ds.length = es.length := by
      intro mt
      induction mt with
      | v i => intro ds env env2 es b; simp [bindTs] at b
      | tup i _ => intro ds env env2 es b; simp [bindTs] at b
      | nil =>
        intro ds env env2 es b c
        cases ds <;> cases es <;> simp [bindTs, chkTs] at b c ⊢
      | cons x y _ ih2 =>
        intro ds env env2 es b c
        cases ds with
        | nil => simp [bindTs] at b
        | cons d ds =>
          cases es with
          | nil => simp [chkTs] at c
          | cons e es =>
            simp only [chkTs, Bool.and_eq_true] at c
            simp only [bindTs] at b
            split at b
            · simp only [List.length_cons]
              rw [ih2 ds _ _ es b c.2]
            · cases b
    exact ⟨a', xs, rfl, t.sq, by rw [RPs.len rs]; exact hl a ds env env2 es b h, rho, gh, m, env, ds, env2, R, eo, rs, b, k⟩
end
def WPi (K : PySem.W.Frag) (gh : List Addr) (E : XK) (ik : Itk) (r : R (List D)) (rho : List Addr) (H : Hp) (Rr : It → Hp → Prop) : Prop := match r with
  | .ok ds m => (match iterD ik ds m with
    | some (items, ck) => ∀ rho' H' J, Ext rho H rho' H' → Rel K rho' gh m H' → Its K gh rho' H' J items ck → Rr J H'
    | none => False)
  | .exc c fs m => ∀ rho' H' u dx, Ext rho H rho' H' → Rel K rho' gh m H' → ExcOk K c fs u dx (rho' ++ gh) H' → E u dx H'
  | .bad => False
def tI (K : PySem.W.Frag) (E : XK) (cf : CF) (ik : Itk) (it : ME) : TI := fun sg H Rr => ∃ rho gh env m, StOk K rho gh env m sg H ∧ WPi K gh E ik (ev cf it env m) rho H Rr
theorem tI_tA {K : PySem.W.Frag} {E : XK} {cf : CF} {ik : Itk} {it : ME} {sg : L2.St} {H : Hp} {Rr : It → Hp → Prop} {Q : List V → Hp → Prop} (h : tI K E cf ik it sg H Rr)
    (k : ∀ rho gh m ds items ck vs H1, iterD ik ds m = some (items, ck) → Rel K rho gh m H1 → RDs K rho gh H1 ds vs → (∀ J, Its K gh rho H1 J items ck → Rr J H1) → Q vs H1) : tA K E cf it sg H Q := by
  obtain ⟨rho, gh, env, m, S, w⟩ := h
  refine ⟨rho, gh, env, m, S, ?_⟩
  unfold WPi at w
  unfold WP
  cases e : ev cf it env m with
  | ok ds m1 =>
    rw [e] at w
    simp only at w ⊢
    intro rho1 H1 vs x R rd
    split at w
    · rename_i items ck q
      exact k rho1 gh m1 ds items ck vs H1 q R rd fun J hJ => w rho1 H1 J x R hJ
    · exact w.elim
  | exc c fs m1 =>
    rw [e] at w
    exact w
  | bad =>
    rw [e] at w
    exact w
theorem tA_tE {K : PySem.W.Frag} {E : XK} {cf : CF} {a : ME} {sg : L2.St} {H : Hp} {Q : List V → Hp → Prop} (h : tA K E cf (.consA a .nilA) sg H Q) : tE K E cf a sg H fun v H1 => Q [v] H1 := by
  obtain ⟨rho, gh, env, m, S, w⟩ := h
  have w2 : WP K gh E ((ev cf (.consA a .nilA) env m).bind fun ds m => .ok ds m) rho H Q := by rw [ok_bind]; exact w
  refine wp_arg S w2 fun d v m1 rho1 H1 x S1 rd w => ?_
  exact w rho1 H1 [v] Ext.refl S1.rel (RDs.one rd)
section
variable {G : Gs} {cf : CF} {N : List Str} {sc : Scope} {E : XK} {X : Cx}
theorem set_of {i : Expr} {env : Env} (h : notSet i = true) (x : Value) : foldedSetIterable i env x = pure x := by
  cases i <;> first
    | rfl
    | (simp [notSet] at h)
theorem tE_imp {K : PySem.W.Frag} {me : ME} {sg : L2.St} {H : Hp} {Q Q' : VK} (h : tE K E cf me sg H Q) (k : ∀ v H, Q v H → Q' v H) : tE K E cf me sg H Q' := by
  obtain ⟨rho, gh, env, m, S, w⟩ := h
  exact ⟨rho, gh, env, m, S, WP.imp (fun vs H ⟨v, e, q⟩ => ⟨v, e, k v H q⟩) w⟩
theorem pi_val {tg i : Expr} {it : ME} (s : SA X E cf it [i]) : PI X tg i (tI X.K E cf .val it) := by
  obtain ⟨a1, rfl, n1, p1⟩ := SA.one s
  refine PI.imp (pi_seqA p1) fun sg H Rr h => ?_
  refine tE_imp (tA_tE (tI_tA h fun rho gh m ds items ck vs H1 e R rd k => ?_) (Q := fun vs H1 => ∀ x, vs = [x] → ∃ a xs, x = .ref a ∧ ((SqL X.K H1 a xs ∧ Rr (Itl X.K a) H1) ∨ (SqT X.K H1 a xs ∧ Rr (Itt X.K a) H1)))) fun v H1 q => q v rfl
  intro x ex
  subst ex
  simp only [iterD, i_val] at e
  split at e
  · rename_i l
    simp only [Option.some.injEq, Prod.mk.injEq] at e
    obtain ⟨rfl, rfl⟩ := e
    have r1 : RP X.K (rho ++ gh) H1 (.list l) x := one_rd rd
    simp only [RP] at r1
    obtain ⟨a, xs, rfl, q, z⟩ := r1
    exact ⟨a, xs, rfl, .inl ⟨q.sq, k _ (its_list q z)⟩⟩
  · rename_i l
    simp only [Option.some.injEq, Prod.mk.injEq] at e
    obtain ⟨rfl, rfl⟩ := e
    have r1 : RP X.K (rho ++ gh) H1 (.tuple l) x := one_rd rd
    simp only [RP] at r1
    obtain ⟨a, xs, rfl, q, z⟩ := r1
    exact ⟨a, xs, rfl, .inr ⟨q.sq, k _ (its_tup q z)⟩⟩
  · rename_i n
    split at e
    · rename_i l q
      simp only [Option.some.injEq, Prod.mk.injEq] at e
      obtain ⟨rfl, rfl⟩ := e
      obtain ⟨a, rfl, e1⟩ := one_rd rd
      obtain ⟨xs, e2, z⟩ := R.cell n a _ e1 q
      exact ⟨a, xs, rfl, .inl ⟨SqL.of e2, k _ (its_ref e1)⟩⟩
    · cases e
  · cases e
theorem pi_chars {tg i : Expr} {it : ME} (s : SA X E cf it [i]) : PI X tg i (tI X.K E cf .chars it) := by
  obtain ⟨a1, rfl, n1, p1⟩ := SA.one s
  refine PI.imp (pi_str p1) fun sg H Rr h => ?_
  refine tE_imp (tA_tE (tI_tA h fun rho gh m ds items ck vs H1 e R rd k => ?_) (Q := fun vs H1 => ∀ x, vs = [x] → ∃ z, x = .str z ∧ Rr (L2.Its z) H1)) fun v H1 q => q v rfl
  intro x ex
  subst ex
  simp only [iterD, i_chars] at e
  split at e
  · rename_i z
    simp only [Option.some.injEq, Prod.mk.injEq] at e
    obtain ⟨rfl, rfl⟩ := e
    cases rd_str (one_rd rd)
    exact ⟨z, rfl, k _ its_str⟩
  · cases e
theorem big_of {i : Int} (h : big62 i = true) : -(2 ^ 62) ≤ i ∧ i < 2 ^ 62 := by
  unfold big62 at h
  simpa using h
theorem pi_r1 (g : GX G cf N sc E X) {tg i : Expr} {x : Str} {p pos : Pos} {it : ME} (hb : bl G sc x nRange = true) (s : SA X E cf it [i]) : PI X tg (.Call (.Name x p) [i] [] pos) (tI X.K E cf .range1 it) := by
  obtain ⟨rfl, g1, g2⟩ := g.bl hb
  obtain ⟨q, ns⟩ := SA.pa s
  simp only [noStar, Bool.and_true] at ns
  refine PI.imp (pi_range1 g1 g2 q (star_of ns)) fun sg H Rr h => tI_tA h fun rho gh m ds items ck vs H1 e R rd k => ?_
  simp only [iterD, i_range1] at e
  split at e
  · rename_i n
    split at e
    · rename_i c
      simp only [Option.some.injEq, Prod.mk.injEq] at e
      obtain ⟨rfl, rfl⟩ := e
      obtain ⟨v, rfl, r1⟩ := RDs.one_of rd
      cases rd_int r1
      exact ⟨n, rfl, (big_of c).1, (big_of c).2, k _ its_range⟩
    · cases e
  · cases e
theorem pi_r2 (g : GX G cf N sc E X) {tg i j : Expr} {x : Str} {p pos : Pos} {it : ME} (hb : bl G sc x nRange = true) (s : SA X E cf it [i, j]) : PI X tg (.Call (.Name x p) [i, j] [] pos) (tI X.K E cf .range2 it) := by
  obtain ⟨rfl, g1, g2⟩ := g.bl hb
  obtain ⟨q, ns⟩ := SA.pa s
  simp only [noStar, Bool.and_true, Bool.and_eq_true] at ns
  refine PI.imp (pi_range2 g1 g2 q (by rw [star_of ns.1, star_of ns.2]; rfl) (by rw [star_of ns.2]; rfl)) fun sg H Rr h => tI_tA h fun rho gh m ds items ck vs H1 e R rd k => ?_
  simp only [iterD, i_range2] at e
  split at e
  · rename_i a b
    split at e
    · rename_i c
      simp only [Bool.and_eq_true] at c
      simp only [Option.some.injEq, Prod.mk.injEq] at e
      obtain ⟨rfl, rfl⟩ := e
      obtain ⟨v, w, rfl, r1, r2⟩ := RDs.two_of rd
      cases rd_int r1
      cases rd_int r2
      exact ⟨a, b, rfl, ⟨(big_of c.1).1, (big_of c.1).2, (big_of c.2).1, (big_of c.2).2⟩, k _ its_range⟩
    · cases e
  · cases e
theorem pi_en (g : GX G cf N sc E X) {i : Expr} {elts : List Expr} {kk : Nat} {tpos : Pos} {x : Str} {p pos : Pos} {it : ME} (hb : bl G sc x nEnum = true) (s : SA X E cf it [i]) : PI X (.Tuple elts kk tpos) (.Call (.Name x p) [i] [] pos) (tI X.K E cf .enum it) := by
  obtain ⟨rfl, g1, g2⟩ := g.bl hb
  obtain ⟨q, ns⟩ := SA.pa s
  simp only [noStar, Bool.and_true] at ns
  refine PI.imp (pi_enumA g1 g2 q ns) fun sg H Rr h => tI_tA h fun rho gh m ds items ck vs H1 e R rd k => ?_
  simp only [iterD, i_enum] at e
  split at e
  · rename_i l
    simp only [Option.some.injEq, Prod.mk.injEq] at e
    obtain ⟨rfl, rfl⟩ := e
    obtain ⟨v, rfl, r1⟩ := RDs.one_of rd
    have r1 : RP X.K (rho ++ gh) H1 (.list l) v := r1
    simp only [RP] at r1
    obtain ⟨a, xs, rfl, q, z⟩ := r1
    exact ⟨a, xs, rfl, .inl ⟨q.sq, k _ (its_enumL q z)⟩⟩
  · rename_i l
    simp only [Option.some.injEq, Prod.mk.injEq] at e
    obtain ⟨rfl, rfl⟩ := e
    obtain ⟨v, rfl, r1⟩ := RDs.one_of rd
    have r1 : RP X.K (rho ++ gh) H1 (.tuple l) v := r1
    simp only [RP] at r1
    obtain ⟨a, xs, rfl, q, z⟩ := r1
    exact ⟨a, xs, rfl, .inr ⟨q.sq, k _ (its_enumT q z)⟩⟩
  · rename_i n
    split at e
    · rename_i l q
      simp only [Option.some.injEq, Prod.mk.injEq] at e
      obtain ⟨rfl, rfl⟩ := e
      obtain ⟨v, rfl, r1⟩ := RDs.one_of rd
      obtain ⟨a, rfl, e1⟩ := r1
      obtain ⟨xs, e2, z⟩ := R.cell n a _ e1 q
      exact ⟨a, xs, rfl, .inl ⟨SqL.of e2, k _ (its_refE e1)⟩⟩
    · cases e
  · cases e
theorem pi_zp (g : GX G cf N sc E X) {i j : Expr} {elts : List Expr} {kk : Nat} {tpos : Pos} {x : Str} {p pos : Pos} {it : ME} (hb : bl G sc x nZip = true) (s : SA X E cf it [i, j]) : PI X (.Tuple elts kk tpos) (.Call (.Name x p) [i, j] [] pos) (tI X.K E cf .zip it) := by
  obtain ⟨rfl, g1, g2⟩ := g.bl hb
  obtain ⟨q, ns⟩ := SA.pa s
  simp only [noStar, Bool.and_true, Bool.and_eq_true] at ns
  have n2 : noStar [j] = true := by simp only [noStar, Bool.and_true]; exact ns.2
  refine PI.imp (RZ.pi_zipA g1 g2 q (star_of ns.1) (star_none n2)) fun sg H Rr h => tI_tA h fun rho gh m ds items ck vs H1 e R rd k => ?_
  simp only [iterD, i_zip] at e
  split at e
  · rename_i l l2
    simp only [Option.some.injEq, Prod.mk.injEq] at e
    obtain ⟨rfl, rfl⟩ := e
    obtain ⟨v, w, rfl, r1, r2⟩ := RDs.two_of rd
    have r1 : RP X.K (rho ++ gh) H1 (.list l) v := r1
    have r2 : RP X.K (rho ++ gh) H1 (.list l2) w := r2
    simp only [RP] at r1 r2
    obtain ⟨a, xs, rfl, q, z⟩ := r1
    obtain ⟨b, ys, rfl, q2, z2⟩ := r2
    exact ⟨a, b, xs, ys, rfl, .inl ⟨q.sq, q2.sq, k _ (its_zipL q z q2 z2)⟩⟩
  · rename_i l l2
    simp only [Option.some.injEq, Prod.mk.injEq] at e
    obtain ⟨rfl, rfl⟩ := e
    obtain ⟨v, w, rfl, r1, r2⟩ := RDs.two_of rd
    have r1 : RP X.K (rho ++ gh) H1 (.tuple l) v := r1
    have r2 : RP X.K (rho ++ gh) H1 (.tuple l2) w := r2
    simp only [RP] at r1 r2
    obtain ⟨a, xs, rfl, q, z⟩ := r1
    obtain ⟨b, ys, rfl, q2, z2⟩ := r2
    exact ⟨a, b, xs, ys, rfl, .inr ⟨q.sq, q2.sq, k _ (its_zipT q z q2 z2)⟩⟩
  · rename_i n l2
    split at e
    · rename_i l qc
      simp only [Option.some.injEq, Prod.mk.injEq] at e
      obtain ⟨rfl, rfl⟩ := e
      obtain ⟨v, w, rfl, r1, r2⟩ := RDs.two_of rd
      have r2 : RP X.K (rho ++ gh) H1 (.list l2) w := r2
      simp only [RP] at r2
      obtain ⟨a, rfl, e1⟩ := r1
      obtain ⟨xs, e2, z⟩ := R.cell n a _ e1 qc
      obtain ⟨b, ys, rfl, q2, z2⟩ := r2
      exact ⟨a, b, xs, ys, rfl, .inl ⟨SqL.of e2, q2.sq, k _ (its_refZ e1 q2 z2)⟩⟩
    · cases e
  · cases e
end
end M
namespace M
open PySem PySem.Spec PyProof.Rows L2
theorem wipe_only (own : List Nat) (sg : L2.St) : Only own sg (L2.wipe sg own) := ⟨wipe_length sg own, fun j hj => wipe_out hj⟩
theorem wipe_idem (own : List Nat) (sg : L2.St) : L2.wipe (L2.wipe sg own) own = L2.wipe sg own := (wipe_only own sg).wipe fun _ h => h
theorem ownP_ix (N : List Str) (own : List Nat) : (ownP N own).map (·.2) = own := by
  unfold ownP
  rw [List.map_map]
  induction own with
  | nil => rfl
  | cons a r ih => rw [List.map_cons, ih]; rfl
section
variable {K : PySem.W.Frag} {rho gh rho1 gh1 rho2 : List Addr} {m : MH} {H H1 H2 : Hp} {D : Addr}
theorem RD.mv (p : rho <+: rho1) (k : ∀ a o, At (rho ++ gh) H a o → At (rho1 ++ gh1) H1 a o) {d : M.D} {v : V} (h : RD K rho gh H d v) : RD K rho1 gh1 H1 d v := by
  cases d with
  | p d => exact RP.mono k d v h
  | ref n =>
    obtain ⟨a, e, q⟩ := h
    exact ⟨a, e, pre_get p q⟩
  | ro ds =>
    obtain ⟨a, xs, e, q, z⟩ := h
    exact ⟨a, xs, e, q.mono k, RPs.mono k _ _ z⟩
  | kt ds =>
    obtain ⟨a, xs, e, q, z⟩ := h
    exact ⟨a, xs, e, q, RPs.mono k _ _ z⟩
  | st n =>
    obtain ⟨a, e, q⟩ := h
    exact ⟨a, e, k _ _ q⟩
theorem EOk.mv (p : rho <+: rho1) (k : ∀ a o, At (rho ++ gh) H a o → At (rho1 ++ gh1) H1 a o) {env : Ev} {sg : L2.St} (e : EOk K rho gh H env sg) : EOk K rho1 gh1 H1 env sg :=
  ⟨e.len, fun i d q => let ⟨v, h1, h2⟩ := e.get i d q; ⟨v, h1, h2.mv p k⟩⟩
theorem At.out (h : D ∈ rho ++ gh) {u : HO} : ∀ a o, At (rho ++ gh) H a o → At (rho ++ gh) (L2.upd H D u) a o := fun a o ⟨e, n⟩ =>
  ⟨e.upd fun z => n (by rw [z]; exact h), n⟩
theorem Rel.out1 (r : Rel K rho (D :: gh) m H) {us : List V} : Rel K rho (D :: gh) m (L2.upd H D (.lst us)) := by
  have hD := (r.gho D List.mem_cons_self).2
  obtain ⟨ys, ey⟩ := (r.gho D List.mem_cons_self).1
  refine ⟨r.len, r.nd, fun a h => ⟨?_, (r.gho a h).2⟩, fun i a c e1 e2 => (r.cell i a c e1 e2).mono (At.out (List.mem_append_right _ List.mem_cons_self)) fun o e => e.upd ?_, tabs_set r.tabs ey (fun _ z => nomatch z) fun c q => lst_code c q⟩
  · by_cases z : a = D
    · rw [z, upd_same]; exact ⟨us, rfl⟩
    · rw [upd_ne z]; exact (r.gho a h).1
  · rintro rfl
    exact hD (List.mem_of_getElem? e1)
theorem Ext.out1 (x : Ext rho H rho1 H1) (n : H D = none) {u : HO} : Ext rho H rho1 (L2.upd H1 D u) := ⟨x.pre, x.new, fun a o e h => (x.fr a o e h).upd (ne_of_none e.1 n)⟩
theorem Rel.drop1 (r : Rel K rho (D :: gh) m H) : Rel K rho gh m H := ⟨r.len, r.nd, fun a h => r.gho a (List.mem_cons_of_mem _ h), fun i a c e1 e2 => (r.cell i a c e1 e2).mono (fun a o ⟨e, n⟩ => ⟨e, fun z => n (by
  rcases List.mem_append.mp z with z | z
  · exact List.mem_append_left _ z
  · exact List.mem_append_right _ (List.mem_cons_of_mem _ z))⟩) fun o e => e, r.tabs⟩
theorem Rel.take1 (r : Rel K rho (D :: gh) m H) (n : D ∉ gh) {ds : List P} {xs : List V} (e : H D = some (.lst xs)) (h : RPs K (rho ++ D :: gh) H ds xs) : Rel K (rho ++ [D]) gh (m ++ [.lst ds]) H := by
  have e0 : rho ++ D :: gh = rho ++ [D] ++ gh := by simp
  have hD := (r.gho D List.mem_cons_self).2
  rw [e0] at h
  refine ⟨by simp [r.len], ?_, fun a h => ⟨(r.gho a (List.mem_cons_of_mem _ h)).1, fun z => ?_⟩, fun i a c e1 e2 => ?_, r.tabs⟩
  · rw [List.nodup_append]
    refine ⟨r.nd, by simp, fun a ha b hb => ?_⟩
    have e : b = D := by simpa using hb
    rw [e]
    rintro rfl
    exact hD ha
  · rcases List.mem_append.mp z with z | z
    · exact (r.gho a (List.mem_cons_of_mem _ h)).2 z
    · have e : a = D := by simpa using z
      rw [e] at h
      exact n h
  · by_cases hi : i < rho.length
    · rw [List.getElem?_append_left hi] at e1
      rw [List.getElem?_append_left (by rw [← r.len]; exact hi)] at e2
      have z := r.cell i a c e1 e2
      rw [e0] at z
      rw [prv_pre ⟨[D], rfl⟩ hi]
      exact z
    · have e3 : i < (rho ++ [D]).length := (List.getElem?_eq_some_iff.mp e1).1
      simp at e3
      have e4 : i = rho.length := by omega
      subst e4
      rw [List.getElem?_append_right (Nat.le_refl _)] at e1
      rw [List.getElem?_append_right (by rw [r.len]; exact Nat.le_refl _)] at e2
      simp [r.len] at e1 e2
      subst e1 e2
      exact ⟨xs, e, h⟩
theorem sub_at (n : H D = none) : ∀ a o, At (rho ++ gh) H a o → At (rho ++ D :: gh) H a o := fun a o ⟨e, z⟩ => ⟨e, fun h => by
  rcases List.mem_append.mp h with h | h
  · exact z (List.mem_append_left _ h)
  · rcases List.mem_cons.mp h with h | h
    · rw [h] at e
      exact e.ne n
    · exact z (List.mem_append_right _ h)⟩
end
structure Lg (K : PySem.W.Frag) (gh : List Addr) (D : Addr) (rho1 : List Addr) (H1 : Hp) (rho : List Addr) (m : MH) (H : Hp) (acc : List P) : Prop where
  ext : Ext rho1 H1 rho H
  rel : Rel K rho (D :: gh) m H
  at_ : ∃ av, H D = some (.lst av) ∧ RPs K (rho ++ D :: gh) H acc av
section
variable {K : PySem.W.Frag} {gh rho1 rho : List Addr} {m m1 : MH} {H H1 : Hp} {D : Addr} {acc : List P}
theorem Lg.start (R : Rel K rho1 gh m1 H1) (n : H1 D = none) : Lg K gh D rho1 H1 rho1 m1 (L2.upd H1 D (.lst [])) [] := by
  have R1 : Rel K rho1 (D :: gh) m1 (L2.upd H1 D (.lst [])) := by
    refine ⟨R.len, R.nd, fun a h => ?_, fun i a c e1 e2 => (R.cell i a c e1 e2).mono (fun a o h => ?_) fun o e => e.upd (ne_of_none e.1 n), R.tabs.upd n⟩
    · rcases List.mem_cons.mp h with h | h
      · rw [h, upd_same]
        exact ⟨⟨[], rfl⟩, fun z => R.isS z n⟩
      · refine ⟨?_, (R.gho a h).2⟩
        obtain ⟨ys, z⟩ := (R.gho a h).1
        exact ⟨ys, by rw [upd_ne (ne_of_none z n)]; exact z⟩
    · obtain ⟨e, z⟩ := sub_at n a o h
      exact ⟨e.upd (ne_of_none e.1 n), z⟩
  exact ⟨Ext.upd n, R1, [], upd_same, by simp [RPs]⟩
theorem Lg.ext1 {rho2 : List Addr} {H2 : Hp} {m2 : MH} (L : Lg K gh D rho1 H1 rho m H acc) (x : Ext rho H rho2 H2) (R : Rel K rho2 (D :: gh) m2 H2) : Lg K gh D rho1 H1 rho2 m2 H2 acc := by
  obtain ⟨av, e, r⟩ := L.at_
  exact ⟨L.ext.trans x, R, av, (x.fr D _ (nt_lst e) (L.rel.gho D List.mem_cons_self).2).1, x.rps r⟩
theorem Lg.app {d : P} {v : V} {av : List V} (n : H1 D = none) (L : Lg K gh D rho1 H1 rho m H acc) (e : H D = some (.lst av)) (r : RP K (rho ++ D :: gh) H d v) : Lg K gh D rho1 H1 rho m (L2.upd H D (.lst (av ++ [v]))) (acc ++ [d]) := by
  obtain ⟨av', e', r'⟩ := L.at_
  rw [e] at e'
  cases e'
  refine ⟨L.ext.out1 n, L.rel.out1, _, upd_same, RPs.mono (At.out (List.mem_append_right _ List.mem_cons_self)) _ _ (r'.append (RPs.one r))⟩
def ttOf (K : PySem.W.Frag) (cf : CF) (tst : ME) : Bool → TT
  | false => tYes
  | true => tT K EN cf tst
theorem lc_turn {cf : CF} {tg : MT} {own : List Nat} {hasIf : Bool} {tst elt : ME} {env : Ev} {sg : L2.St} {d : P} {x : V} {o : Option P} {m3 : MH} {Nx : Hp → Prop} {tt : TT} {rest : Nat} (n : H1 D = none) (L : Lg K gh D rho1 H1 rho m H acc) (hsl : (slotsT tg).all own.contains = true)
    (eo : EOk K rho (D :: gh) H (wipeE env own) (L2.wipe sg own)) (rx : RP K (rho ++ D :: gh) H d x) (hf : (match bindT tg d (wipeE env own) with
        | none => .bad
        | some env2 => (match hasIf with
          | false => (ev cf elt env2 m).bind oneP
          | true => (ev cf tst env2 m).bind fun t m3 => (match truth t with
            | some true => (ev cf elt env2 m3).bind oneP
            | some false => .ok none m3
            | none => .bad))) = R.ok o m3) (htt : tt = ttOf K cf tst hasIf) (hl : acc.length ≤ 100000)
    (nx : ∀ rho2 H2, Lg K gh D rho1 H1 rho2 m3 H2 (acc ++ o.toList) → rho <+: rho2 → (∀ a u, At (rho ++ D :: gh) H a u → At (rho2 ++ D :: gh) H2 a u) → Nx H2) :
    tG K tg x (L2.wipe sg own) H fun σ2 H2 => L2.wipe σ2 own = L2.wipe sg own ∧ tt σ2 H2 fun b H3 =>
      if b = true then tE K EN cf elt σ2 H3 fun y H4 => ∃ acc, H4 D = some (.lst acc) ∧ acc.length < sizeLine ∧ Nx (L2.upd H4 D (.lst (acc ++ [y]))) else Nx H3 := by
  cases hb : bindT tg d (wipeE env own) with
  | none => rw [hb] at hf; cases hf
  | some env2 =>
    rw [hb] at hf
    simp only at hf
    refine ⟨rho, D :: gh, m, wipeE env own, d, env2, L.rel, eo, rx, hb, fun sg2 eo2 on => ⟨?_, ?_⟩⟩
    · rw [on.wipe fun i hi => by
        have z := List.all_eq_true.mp hsl i hi
        simpa using z, wipe_idem]
    · -- the element
      have el : ∀ {m4 : MH} {rho4 : List Addr} {H4 : Hp}, Lg K gh D rho1 H1 rho4 m4 H4 acc → Ext rho H rho4 H4 → EOk K rho4 (D :: gh) H4 env2 sg2 → (ev cf elt env2 m4).bind oneP = R.ok o m3 →
          tE K EN cf elt sg2 H4 fun y H4 => ∃ acc, H4 D = some (.lst acc) ∧ acc.length < sizeLine ∧ Nx (L2.upd H4 D (.lst (acc ++ [y]))) := fun {m4 rho4 H4} L4 x4 eo4 hq => by
        refine ⟨rho4, D :: gh, env2, m4, ⟨L4.rel, eo4⟩, ?_⟩
        cases he : ev cf elt env2 m4 with
        | exc c fs m => rw [he] at hq; cases hq
        | bad => rw [he] at hq; cases hq
        | ok ys m5 =>
          rw [he] at hq
          simp only [bind_ok] at hq
          unfold oneP at hq
          split at hq
          · rename_i e
            simp only [R.ok.injEq] at hq
            obtain ⟨rfl, rfl⟩ := hq
            intro rho5 H5 vs x5 R5 rd5
            obtain ⟨y, rfl, r5⟩ := RDs.one_of rd5
            have L5 := L4.ext1 x5 R5
            obtain ⟨av, e5, z5⟩ := L5.at_
            refine ⟨y, rfl, av, e5, ?_, nx rho5 _ (L5.app n e5 r5) (x4.pre.trans x5.pre) fun a u h => At.out (List.mem_append_right _ List.mem_cons_self) a u (x5.at (gh := D :: gh) a u (x4.at (gh := D :: gh) a u h))⟩
            rw [RPs.len z5]
            exact line_lt hl
          · cases hq
      cases hasIf with
      | false =>
        simp only at hf
        simp only [ttOf] at htt
        subst htt
        have z := el L Ext.refl eo2 hf
        unfold tYes
        simp only [if_true]
        exact z
      | true =>
        simp only at hf
        simp only [ttOf] at htt
        subst htt
        refine ⟨rho, D :: gh, env2, m, ⟨L.rel, eo2⟩, ?_⟩
        cases ht : ev cf tst env2 m with
        | exc c fs m => rw [ht] at hf; cases hf
        | bad => rw [ht] at hf; cases hf
        | ok ts m5 =>
          rw [ht] at hf
          simp only [bind_ok] at hf
          intro rho5 H5 vs x5 R5 rd5
          have L5 := L.ext1 x5 R5
          unfold truth at hf
          split at hf <;> rename_i q
          · split at q
            · simp only [Option.some.injEq] at q
              subst q
              obtain ⟨y, rfl, r5⟩ := RDs.one_of rd5
              have r5 : y = .bl true := r5
              refine ⟨y, rfl, true, r5, ?_⟩
              simp only [if_true]
              exact el L5 x5 (eo2.ext x5) hf
            · cases q
          · split at q
            · simp only [Option.some.injEq] at q
              subst q
              obtain ⟨y, rfl, r5⟩ := RDs.one_of rd5
              have r5 : y = .bl false := r5
              refine ⟨y, rfl, false, r5, ?_⟩
              simp only [Bool.false_eq_true, if_false]
              simp only [R.ok.injEq] at hf
              obtain ⟨rfl, rfl⟩ := hf
              exact nx rho5 H5 (by simpa using L5) x5.pre (x5.at (gh := D :: gh))
            · cases q
          · cases hf
theorem bind_ok_of {A B : Type} {r : R A} {k : A → MH → R B} {b : B} {m : MH} (h : r.bind k = .ok b m) : ∃ a m1, r = .ok a m1 ∧ k a m1 = .ok b m := by
  cases r with
  | ok a m1 => exact ⟨a, m1, rfl, h⟩
  | exc c fs m => cases h
  | bad => cases h
theorem lg_end {E : XK} {k : Bool} {Q : VK} {rho0 : List Addr} {H0 : Hp} (n : H1 D = none) (ng : D ∉ gh) (L : Lg K gh D rho1 H1 rho m H acc) (w : WP K gh E (mkL k acc m) rho1 H1 (one Q)) : Q (.ref D) H := by
  obtain ⟨av, e, r⟩ := L.at_
  have nr := (L.rel.gho D List.mem_cons_self).2
  cases k with
  | false =>
    obtain ⟨v', e', z⟩ := w rho H [.ref D] L.ext L.rel.drop1 (RDs.one (d := .p (.list acc)) (by
      show RP K (rho ++ gh) _ _ _
      simp only [RP]
      exact ⟨D, av, rfl, ⟨nt_lst e, fun h => (List.mem_append.mp h).elim nr ng⟩, RPs.mono (fun a o ⟨e, z⟩ => ⟨e, fun h => z (by
        rcases List.mem_append.mp h with h | h
        · exact List.mem_append_left _ h
        · exact List.mem_append_right _ (List.mem_cons_of_mem _ h))⟩) _ _ r⟩))
    cases e'
    exact z
  | true =>
    have x : Ext rho1 H1 (rho ++ [D]) H := ⟨L.ext.pre.trans ⟨[D], rfl⟩, fun a h => (List.mem_append.mp h).elim (L.ext.new a) fun z => .inr (by
      have e : a = D := by simpa using z
      rw [e]; exact fr0_none n), L.ext.fr⟩
    obtain ⟨v', e', z⟩ := w (rho ++ [D]) H [.ref D] x (L.rel.take1 ng e r) (RDs.one (d := .ref m.length) ⟨D, rfl, by rw [← L.rel.len]; simp⟩)
    cases e'
    exact z
theorem lcGo_ck {ck : MH → Bool} {f : P → MH → R (Option P)} {l : List P} {m m5 : MH} {ds : List P} (h : lcGo ck f l m = .ok ds m5) : ck m = true := by
  cases l <;> simp only [lcGo] at h <;> split at h <;> first
    | assumption
    | cases h
theorem lcCat_ck {ck : MH → Bool} {f : P → MH → R (List P)} {l : List P} {m m5 : MH} {ds : List P} (h : lcCat ck f l m = .ok ds m5) : ck m = true := by
  cases l <;> simp only [lcCat] at h <;> split at h <;> first
    | assumption
    | cases h
theorem lcGo_cons {ck : MH → Bool} {f : P → MH → R (Option P)} {d : P} {r : List P} {m m5 : MH} {ds : List P} (h : lcGo ck f (d :: r) m = .ok ds m5) : ∃ o m3 ds', f d m = .ok o m3 ∧ lcGo ck f r m3 = .ok ds' m5 ∧ ds = o.toList ++ ds' := by
  simp only [lcGo, lcGo_ck h, if_true] at h
  obtain ⟨o, m3, e1, h⟩ := bind_ok_of h
  obtain ⟨ds', m4, e2, h⟩ := bind_ok_of h
  simp only [R.ok.injEq] at h
  obtain ⟨rfl, rfl⟩ := h
  refine ⟨o, m3, ds', e1, e2, ?_⟩
  cases o <;> rfl
theorem lcCat_cons {ck : MH → Bool} {f : P → MH → R (List P)} {d : P} {r : List P} {m m5 : MH} {ds : List P} (h : lcCat ck f (d :: r) m = .ok ds m5) : ∃ o m3 ds', f d m = .ok o m3 ∧ lcCat ck f r m3 = .ok ds' m5 ∧ ds = o ++ ds' := by
  simp only [lcCat, lcCat_ck h, if_true] at h
  obtain ⟨o, m3, e1, h⟩ := bind_ok_of h
  obtain ⟨ds', m4, e2, h⟩ := bind_ok_of h
  simp only [R.ok.injEq] at h
  obtain ⟨rfl, rfl⟩ := h
  exact ⟨o, m3, ds', e1, e2, rfl⟩
theorem nox_of {A : Type} {r : R A} {B : Type} {k : A → MH → R B} {gh rho : List Addr} {H : Hp} {E : XK} {Q : List V → Hp → Prop} {f : B → List M.D} (h : r.nox.bind k = .bad → False) : ∃ a m, r = .ok a m := by
  cases r with
  | ok a m => exact ⟨a, m, rfl⟩
  | exc c fs m => exact (h rfl).elim
  | bad => exact (h rfl).elim
theorem drop_cons {A : Type} {l : List A} {i : Nat} {d : A} (h : l[i]? = some d) : l.drop i = d :: l.drop (i + 1) := by
  obtain ⟨hi, e⟩ := List.getElem?_eq_some_iff.mp h
  rw [List.drop_eq_getElem_cons hi, e]
end
section
variable {G : Gs} {cf : CF} {N : List Str} {sc : Scope} {E : XK} {X : Cx}
theorem fresh_gh {K : PySem.W.Frag} {rho gh : List Addr} {m : MH} {H : Hp} {D : Addr} (R : Rel K rho gh m H) (n : H D = none) : D ∉ gh := fun h => by
  obtain ⟨ys, z⟩ := (R.gho D h).1
  rw [n] at z
  cases z
theorem rd_lc {K : PySem.W.Frag} {k hasIf : Bool} {elt it tst : ME} {own : List Nat} {tg : MT} {ik : Itk} {tt : TT} (htt : tt = ttOf K cf tst hasIf) (hsl : (slotsT tg).all own.contains = true) (sg : L2.St) (H : Hp) (Q : VK)
    (h : tE K E cf (.lc k elt own tg ik it hasIf tst) sg H Q) : tLc (tI K E cf ik it) (tG K tg) tt (tE K EN cf elt) own sg H Q := by
  obtain ⟨rho, gh, env, m, S, w⟩ := h
  refine ⟨rho, gh, env, m, S, ?_⟩
  simp only [ev] at w
  unfold WPi
  cases e : ev cf it env m with
  | exc c fs m1 => rw [e] at w; exact w
  | bad => rw [e] at w; exact w
  | ok xs m1 =>
    rw [e] at w
    simp only [bind_ok] at w
    split at w
    · exact w.elim
    · rename_i items ck q
      simp only [q]
      intro rho1 H1 J x1 R1 hJ D nD
      obtain ⟨ds, m5, hgo⟩ : ∃ ds m5, lcGo ck _ items m1 = R.ok ds m5 := nox_of (f := fun _ => []) (Q := one Q) (rho := rho) (gh := gh) (H := H) (E := E) fun z => by rw [z] at w; exact w
      rw [hgo] at w
      simp only [nox_ok, bind_ok] at w
      split at w
      · rename_i hlen
        have w := WP.ext x1 w
        have ng := fresh_gh R1 nD
        obtain ⟨Gp, Y, wk, hG, hY⟩ := hJ.ex
        refine lc_it wk (fun i H2 => ∃ rho2 m2 acc rest, Lg K gh D rho1 H1 rho2 m2 H2 acc ∧ lcGo ck _ (items.drop i) m2 = R.ok rest m5 ∧ acc ++ rest = ds) ⟨rho1, m1, [], ds, Lg.start R1 nD, hgo, rfl⟩
          (fun i H2 _ ⟨rho2, m2, acc, rest, L, hg, _⟩ => hG _ _ m2 H2 (fun a o h => L.ext.at (gh := D :: gh) a o (sub_at nD a o h)) L.ext.pre L.rel (lcGo_ck hg)) (fun i x H2 H3 hi ⟨rho2, m2, acc, rest, L, hg, hds⟩ y => ?_) (fun H2 ⟨rho2, m2, acc, rest, L, hg, hds⟩ => ?_)
        · obtain ⟨d, hd, x3, R3, r3⟩ := hY i rho2 (D :: gh) H2 x H3 m2 hi (fun a o h => L.ext.at (gh := D :: gh) a o (sub_at nD a o h)) L.ext.pre L.rel (lcGo_ck hg) y
          rw [drop_cons hd] at hg
          obtain ⟨o, m3, ds', hf, hg', rfl⟩ := lcGo_cons hg
          have L3 := L.ext1 x3 R3
          have eo : EOk K rho2 (D :: gh) H3 (wipeE env own) (L2.wipe sg own) := (EOk.mv (gh1 := D :: gh) (x1.pre.trans L3.ext.pre) (fun a o h => L3.ext.at (gh := D :: gh) a o (sub_at nD a o (x1.at (gh := gh) a o h))) S.env).wipe own
          have hl : acc.length ≤ 100000 := by rw [← hds] at hlen; simp at hlen; omega
          exact lc_turn (rest := 0) nD L3 hsl eo r3 hf htt hl fun rho4 H4 L4 _ _ => ⟨rho4, m3, _, ds', L4, hg', by rw [List.append_assoc]; exact hds⟩
        · rw [List.drop_length] at hg
          simp only [lcGo, lcGo_ck hg, if_true, R.ok.injEq] at hg
          obtain ⟨rfl, rfl⟩ := hg
          rw [List.append_nil] at hds
          subst hds
          exact lg_end (rho0 := rho) (H0 := H) nD ng L w
      · exact w.elim
theorem rd_lc2 {K : PySem.W.Frag} {k : Bool} {elt it it1 : ME} {own own1 : List Nat} {tg tg1 : MT} {ik ik1 : Itk} (hsl : (slotsT tg).all own.contains = true) (hsl1 : (slotsT tg1).all own1.contains = true) (sg : L2.St) (H : Hp) (Q : VK)
    (h : tE K E cf (.lc2 k elt own tg ik it own1 tg1 ik1 it1) sg H Q) : tLc2 (tI K E cf ik it) (tG K tg) tYes (tI K EN cf ik1 it1) (tG K tg1) tYes (tE K EN cf elt) own own1 sg H Q := by
  obtain ⟨rho, gh, env, m, S, w⟩ := h
  refine ⟨rho, gh, env, m, S, ?_⟩
  simp only [ev] at w
  unfold WPi
  cases e : ev cf it env m with
  | exc c fs m1 => rw [e] at w; exact w
  | bad => rw [e] at w; exact w
  | ok xs m1 =>
    rw [e] at w
    simp only [bind_ok] at w
    split at w
    · exact w.elim
    · rename_i items ck q
      simp only [q]
      intro rho1 H1 J x1 R1 hJ D nD
      obtain ⟨ds, m5, hgo⟩ : ∃ ds m5, lcCat ck _ items m1 = R.ok ds m5 := nox_of (f := fun _ => []) (Q := one Q) (rho := rho) (gh := gh) (H := H) (E := E) fun z => by rw [z] at w; exact w
      rw [hgo] at w
      simp only [nox_ok, bind_ok] at w
      split at w
      · rename_i hlen
        have w := WP.ext x1 w
        have ng := fresh_gh R1 nD
        obtain ⟨Gp, Y, wk, hG, hY⟩ := hJ.ex
        generalize hPv : (fun (i : Nat) (H2 : Hp) => ∃ rho2 m2 acc rest, Lg K gh D rho1 H1 rho2 m2 H2 acc ∧ lcCat ck (fun d m2 => (match bindT tg d (wipeE env own) with
          | none => .bad
          | some env2 => (ev cf it1 env2 m2).bind fun ys m3 => (match iterD ik1 ys m3 with
            | none => .bad
            | some (items1, ck1) => lcGo ck1 (fun d1 m4 => (match bindT tg1 d1 (wipeE env2 own1) with
              | none => .bad
              | some env3 => (ev cf elt env3 m4).bind oneP)) items1 m3))) (items.drop i) m2 = R.ok rest m5 ∧ acc ++ rest = ds) = Pv
        refine ⟨fun i n H2 => n = items.length - i ∧ i ≤ items.length ∧ Pv i H2, ⟨items.length, by simp, Nat.zero_le _, by subst hPv; exact ⟨rho1, m1, [], ds, Lg.start R1 nD, hgo, rfl⟩⟩, ?_⟩
        rintro i n H2 ⟨rfl, hi, p⟩
        have p0 := p
        subst hPv
        obtain ⟨rho2, m2, acc, rest, L, hg, hds⟩ := p
        have gq := hG _ _ m2 H2 (fun a o h => L.ext.at (gh := D :: gh) a o (sub_at nD a o h)) L.ext.pre L.rel (lcCat_ck hg)
        by_cases hlt : i < items.length
        · refine .inr ⟨wk.goes i H2 hlt gq, _, fun H' p' => ⟨items.length - (i + 1), by omega, rfl, hlt, p'⟩, fun x H3 y => ?_⟩
          obtain ⟨d, hd, x3, R3, r3⟩ := hY i rho2 (D :: gh) H2 x H3 m2 hlt (fun a o h => L.ext.at (gh := D :: gh) a o (sub_at nD a o h)) L.ext.pre L.rel (lcCat_ck hg) (wk.yields i H2 x H3 hlt gq y)
          rw [drop_cons hd] at hg
          obtain ⟨o, m3, ds', hf, hg', rfl⟩ := lcCat_cons hg
          have L3 := L.ext1 x3 R3
          have eo : EOk K rho2 (D :: gh) H3 (wipeE env own) (L2.wipe sg own) := (EOk.mv (gh1 := D :: gh) (x1.pre.trans L3.ext.pre) (fun a o h => L3.ext.at (gh := D :: gh) a o (sub_at nD a o (x1.at (gh := gh) a o h))) S.env).wipe own
          cases hb : bindT tg d (wipeE env own) with
          | none => rw [hb] at hf; cases hf
          | some env2 =>
            rw [hb] at hf
            simp only at hf
            refine ⟨rho2, D :: gh, m2, wipeE env own, d, env2, L3.rel, eo, r3, hb, fun sg2 eo2 on => ⟨?_, ?_⟩⟩
            · rw [on.wipe fun i hi => by
                have z := List.all_eq_true.mp hsl i hi
                simpa using z, wipe_idem]
            unfold tYes
            simp only [if_true]
            refine ⟨rho2, D :: gh, env2, m2, ⟨L3.rel, eo2⟩, ?_⟩
            unfold WPi
            cases e1 : ev cf it1 env2 m2 with
            | exc c fs m => rw [e1] at hf; cases hf
            | bad => rw [e1] at hf; cases hf
            | ok ys m4 =>
              rw [e1] at hf
              simp only [bind_ok] at hf
              cases q1 : iterD ik1 ys m4 with
              | none => rw [q1] at hf; cases hf
              | some p1 =>
                obtain ⟨items1, ck1⟩ := p1
                rw [q1] at hf
                simp only [q1] at hf ⊢
                intro rho4 H4 J1 x4 R4 hJ1
                have L4 := L3.ext1 x4 R4
                obtain ⟨Gp1, Y1, wk1, hG1, hY1⟩ := hJ1.ex
                have eo4 := eo2.ext x4
                generalize hPv1 : (fun (j : Nat) (H5 : Hp) => ∃ rho5 m5 acc1 rest1, Lg K gh D rho1 H1 rho5 m5 H5 (acc ++ acc1) ∧ rho4 <+: rho5 ∧ (∀ a u, At (rho4 ++ D :: gh) H4 a u → At (rho5 ++ D :: gh) H5 a u) ∧ lcGo ck1 (fun d1 m4 => (match bindT tg1 d1 (wipeE env2 own1) with
                  | none => .bad
                  | some env3 => (ev cf elt env3 m4).bind oneP)) (items1.drop j) m5 = R.ok rest1 m3 ∧ acc1 ++ rest1 = o) = Pv1
                refine ⟨fun j n H5 => n = items1.length - j ∧ j ≤ items1.length ∧ Pv1 j H5, ⟨items1.length, by simp, Nat.zero_le _, by subst hPv1; exact ⟨rho4, m4, [], o, by simpa using L4, List.prefix_refl _, fun _ _ h => h, hf, rfl⟩⟩, ?_⟩
                rintro j n H5 ⟨rfl, hj, pv⟩
                have pv0 := pv
                rw [← hPv1] at pv
                obtain ⟨rho5, m5', acc1, rest1, L5, p5, x5, hg5, ho⟩ := pv
                have gq5 := hG1 _ _ m5' H5 x5 p5 L5.rel (lcGo_ck hg5)
                by_cases hlj : j < items1.length
                · refine .inr ⟨wk1.goes j H5 hlj gq5, Pv1 (j + 1), fun H' p' => ⟨items1.length - (j + 1), by omega, rfl, hlj, p'⟩, fun x' H6 y6 => ?_⟩
                  obtain ⟨d1, hd1, x6, R6, r6⟩ := hY1 j rho5 (D :: gh) H5 x' H6 m5' hlj x5 p5 L5.rel (lcGo_ck hg5) (wk1.yields j H5 x' H6 hlj gq5 y6)
                  rw [drop_cons hd1] at hg5
                  obtain ⟨o1, m6, ds1, hf1, hg6, rfl⟩ := lcGo_cons hg5
                  have L6 := L5.ext1 x6 R6
                  have eo6 : EOk K rho5 (D :: gh) H6 (wipeE env2 own1) (L2.wipe sg2 own1) := (EOk.mv (p5.trans x6.pre) (fun a u h => x6.at (gh := D :: gh) a u (x5 a u h)) eo4).wipe own1
                  have hl : (acc ++ acc1).length ≤ 100000 := by
                    rw [← hds, ← ho] at hlen
                    simp at hlen ⊢
                    omega
                  have tn := lc_turn (hasIf := false) (tst := .nilA) (rest := 0) (tt := tYes) (Nx := Pv1 (j + 1)) nD L6 hsl1 eo6 r6 hf1 rfl hl fun rho7 H7 L7 p7 x7 => by
                    rw [← hPv1]
                    exact ⟨rho7, m6, acc1 ++ o1.toList, ds1, by rw [← List.append_assoc]; exact L7, p5.trans (x6.pre.trans p7), fun a u h => x7 a u (x6.at (gh := D :: gh) a u (x5 a u h)), hg6, by rw [List.append_assoc]; exact ho⟩
                  unfold tYes at tn
                  simp only [if_true] at tn
                  exact tn
                · have e : j = items1.length := by omega
                  subst e
                  refine .inl ⟨wk1.stops H5 gq5, ?_⟩
                  rw [List.drop_length] at hg5
                  simp only [lcGo, lcGo_ck hg5, if_true, R.ok.injEq] at hg5
                  obtain ⟨rfl, rfl⟩ := hg5
                  rw [List.append_nil] at ho
                  subst ho
                  exact ⟨rho5, m5', acc ++ acc1, ds', L5, hg', by rw [List.append_assoc]; exact hds⟩
        · have e : i = items.length := by omega
          subst e
          refine .inl ⟨wk.stops H2 gq, ?_⟩
          rw [List.drop_length] at hg
          simp only [lcCat, lcCat_ck hg, if_true, R.ok.injEq] at hg
          obtain ⟨rfl, rfl⟩ := hg
          rw [List.append_nil] at hds
          subst hds
          exact lg_end (rho0 := rho) (H0 := H) nD ng L w
      · exact w.elim
end
end M
namespace M
open PySem PySem.Spec PyProof.Rows L2
def Isg (kvs : List (Str × Str)) : It :=
  ⟨fun i _ => i < kvs.length, fun i H v H' => ∃ (T : Addr) (k y : Str), kvs[i]? = some (k, y) ∧ v = .ref T ∧ H T = none ∧ H' = L2.upd H T (.tup [.str k, .str y]), fun i _ => kvs.length ≤ i⟩
theorem kd_raw {K : PySem.W.Frag} {w : World} {d : Addr} {es : Array DictEntry} {n : Nat} {h : Heap} (D : KDict K w d es n) (I : K.In h) : h.DictRaw d es n := ⟨_, I _ _ D.at_, ⟨rfl, rfl, rfl⟩, rfl⟩
theorem turn_sg {P : Program} {w : World} {K : PySem.W.Frag} {kvs : List (Str × Str)} {d : Addr} {es : Array DictEntry} {n : Nat} {elts : List Expr} {kk : Nat} {tpos : Pos} (it : Addr) (D : KDict K w d es n) (G : SgEnt es kvs) :
    Turn P w K (.Tuple elts kk tpos) (Isg kvs) [it] it (fun i h => ∃ ok ov, IsItemIter h it d i es.size n ok ov) where
  mem := List.mem_singleton.mpr rfl
  obj := fun i h st b hb => by
    rw [List.mem_singleton.mp hb]
    obtain ⟨ok, ov, e⟩ := st
    exact ⟨_, e, fun v z => by cases z⟩
  keep := fun i h h' st k => by
    obtain ⟨ok, ov, e⟩ := st
    exact ⟨ok, ov, k it (List.mem_singleton.mpr rfl) _ e⟩
  item := fun X hP hw hK hc i pins s sg H E I hf st hg => by
    subst hP hw hK
    have hr := kd_raw D I.kIn
    obtain ⟨⟨k, y⟩, hkv⟩ : ∃ p, kvs[i]? = some p := ⟨_, List.getElem?_eq_getElem hg⟩
    obtain ⟨hi, ⟨t1, ek⟩, t2, ev⟩ := G.2 i k y hkv
    obtain ⟨ok, ov, he⟩ := st
    have lt := Heap.lt_size he
    have fp := hf it (List.mem_singleton.mpr rfl)
    refine wpAny_pyNext_items_item_raw he hr hi fun g1 ho hT hz hk => ⟨_, rfl, ?_⟩
    refine wpAny_letOwnedTupleGo_items (s := { s with heap := g1 }) ho fun g2 ho2 sb => ?_
    have tup : g2.get? s.heap.objs.size = some { cls := .type "tuple", data := .seq #[es[i].key, es[i].val] } := (sb.2 _ (Nat.ne_of_gt lt)).trans hT
    have ok2 : ObjOk X.prog X.w (L2.upd H s.heap.objs.size (.tup [.str k, .str y])) g2 s.heap.objs.size (.tup [.str k, .str y]) :=
      ⟨by show 2 ≤ sizeLine; decide, [es[i].key, es[i].val], .cons ⟨t1, ek⟩ (.cons ⟨t2, ev⟩ .nil), ⟨_, tup, rfl, _, rfl⟩⟩
    have J : L2.Inv X pins sg (L2.upd H s.heap.objs.size (.tup [.str k, .str y])) { s with heap := g2 } := I.turnedNew (t' := s.toks) (ch := [it]) (fun b ob hb e => (sb.2 b (by simpa using hb)).trans (hk b ob (by simpa using hb) e)) hf (Nat.le_refl _) ok2
    exact ⟨.ref s.heap.objs.size, _, J, rfl, ⟨_, k, y, hkv, rfl, I.hok.fresh (Nat.le_refl _), rfl⟩, ⟨_, _, ho2⟩, fun b hb => by
      rw [List.mem_singleton.mp hb, upd_ne (Nat.ne_of_lt lt)]
      exact fp.1⟩
  done := fun X hP hw hK hc i pins s sg H E I hf st hg => by
    subst hP hw hK
    obtain ⟨f0, f1, f2, f3, f4, f5⟩ := hf it (List.mem_singleton.mpr rfl)
    obtain ⟨ok, ov, he⟩ := st
    have hl : es.size ≤ i := by
      rw [G.1]
      exact hg
    exact wpAny_pyNext_items_end_raw (I.ok.hd hc) he (kd_raw D I.kIn) hl fun g1 eb => ⟨rfl, I.turned (t' := s.toks) (fun b ob hb e => eb b ob hb e) f0 f1 f3 f4 f5⟩
  self := fun A i s Q E st h => by
    obtain ⟨_, _, e⟩ := st
    exact PySem.W.kcp_self e h
section
variable {G : Gs} {cf : CF} {N : List Str} {sc : Scope} {E : XK} {X : Cx}
theorem pi_sg {x : Str} {elts : List Expr} {kk : Nat} {tpos p apos cpos : Pos} {d : Addr} {es : Array DictEntry} {n : Nat} {kvs : List (Str × Str)} (D : KDict X.K X.w d es n) (S : SgEnt es kvs) (he : PE X (.Name x p) (tC (.ref d))) (hline : (apos.endLine == cpos.line) = true) :
    PI X (.Tuple elts kk tpos) (.Call (.Attribute (.Name x p) "items" apos) [] [] cpos) (fun _ H R => R (Isg kvs) H) := by
  refine ⟨fun pins s sg H R I h => ?_⟩
  refine wpAny_Call_method (T := "dict") (id := "dict.items") rfl rfl hline F.plainAttrs_dict F.slot_dict_items F.type_dict_items (thn (he.run pins s sg H (fun v H1 => v = .ref d ∧ H1 = H) I ⟨rfl, rfl⟩) fun u s1 ⟨y, H1, I1, rx, ey, eH⟩ => ?_)
  subst ey eH
  cases rx
  have mo := PySem.W.mapOf_K (prog := X.prog) (w := X.w) I1.kIn D.at_ D.lit
  have hr := kd_raw D I1.kIn
  refine ⟨mo.typeIs, mo.noDict, ?_⟩
  have I2 : Inv X pins sg H1 { s1 with heap := s1.heap.push { cls := .type "dict_items", data := .fields #[.ref d] } } := I1.kept (t' := s1.toks) fun b ob q => Heap.get?_push_of_some _ q
  have hr2 := kd_raw D I2.kIn
  have fin : wpAny (model X.prog X.w) X.A (pyIter (.ref s1.heap.objs.size)) (PIE X pins sg (.Tuple elts kk tpos) R) X.xe { s1 with heap := s1.heap.push { cls := .type "dict_items", data := .fields #[.ref d] } } :=
    wpAny_pyIter_items_raw ⟨_, Heap.get?_push_size _ rfl, rfl, rfl⟩ hr2 (pi_one (tk := s1.toks) I2 _ (turn_sg _ D S) ⟨.none, .none, Heap.get?_push_size _ rfl⟩ h)
  show wpAny _ _ (callWith cpos (.builtin "dict.items") [.ref d] [] []) _ X.xe s1
  exact method_meetsIn F.slot_dict_items F.entry_dict_items rfl (PySem.evalArgs_none ⟨rfl, mo.typeIs, F.args_dict_items_1 _, _, meets_dict_items_raw d D.low, ⟨⟨es, n, hr⟩, fin⟩⟩)
theorem its_sg {K : PySem.W.Frag} {gh rho : List Addr} {H0 : Hp} {ck : MH → Bool} {kvs : List (Str × Str)} : Its K gh rho H0 (Isg kvs) (kvs.map fun p => PyData.tuple [.str p.1, .str p.2]) ck := by
  refine ⟨fun _ => True, fun i H v H' => ∃ (T : Addr) (k y : Str), kvs[i]? = some (k, y) ∧ v = .ref T ∧ H T = none ∧ H' = L2.upd H T (.tup [.str k, .str y]), ⟨fun i H hi _ => ?_, fun H _ => ?_, fun i H x H' hi _ y => y⟩, fun _ _ _ _ _ _ _ _ => trivial, fun i rho' gh' H x H' m' hi e _ R _ y => ?_⟩
  · show i < kvs.length
    simpa using hi
  · show kvs.length ≤ (kvs.map fun p => PyData.tuple [.str p.1, .str p.2]).length
    simp
  · obtain ⟨T, k, z, ek, rfl, n, eH⟩ := y
    obtain ⟨k1, k2, k3⟩ := pair_rp (d := .str k) (e := .str z) R n eH (by simp only [RP]) (by simp only [RP])
    refine ⟨_, ?_, k1, k2, k3⟩
    rw [List.getElem?_map, ek]
    rfl
theorem pi_signs (g : GX G cf N sc E X) {x : Str} {elts : List Expr} {kk : Nat} {tpos p apos cpos : Pos} {it : ME} (hx : x = nSigns) (hl : (apos.endLine == cpos.line) = true) (hs : G.sgn = true) (hg : isGl sc x = true) (s : SA X E cf it []) :
    PI X (.Tuple elts kk tpos) (.Call (.Attribute (.Name x p) "items" apos) [] [] cpos) (tI X.K E cf .signs it) := by
  subst hx
  obtain ⟨d, es, n, hm, D, S, _⟩ := g.sgn hs
  have it0 : it = .nilA := by cases it <;> first | rfl | (simp [SA] at s)
  subst it0
  refine PI.imp (pi_sg D S (pe_glob (v := .ref d) (g.gl hg) hm rfl (by decide +kernel)) hl) fun sg H Rr h => ?_
  have z := tI_tA h (Q := fun vs H1 => Rr (Isg SgnKV) H1) fun rho gh m ds items ck vs H1 e R rd k => by
    simp only [iterD, i_signs] at e
    split at e
    · simp only [Option.some.injEq, Prod.mk.injEq] at e
      obtain ⟨rfl, rfl⟩ := e
      exact k _ its_sg
    · cases e
  obtain ⟨rho, gh, env, m, S, w⟩ := z
  simp only [ev] at w
  exact w rho H [] Ext.refl S.rel rfl
end
end M
namespace M
open PySem PySem.Spec PyProof.Rows L2
section
variable {G : Gs} {cf : CF} {N : List Str} {sc : Scope} {E : XK} {X : Cx}
def tPt (K : PySem.W.Frag) (E : XK) (cf : CF) (a : ME) : TE := fun sg H Q => tE K E cf a sg H fun v H1 => (∃ y : Str, v = .str y ∧ y.length ≤ 10000 ∧ Q (.str y) H1) ∨ ∃ i : Int, v = .int i ∧ i.natAbs.log2 < 1920 ∧ (Str.ofString (toString i)).length ≤ 10000 ∧ Q (.str (toString i)) H1
def SJ (X : Cx) (E : XK) (cf : CF) : ME → List Expr → Prop
  | .nilA, es => es = []
  | .fjn a r, es => ∃ e t, es = e :: t ∧ (∃ te : TE, PE X e te ∧ ∀ sg H Q, tPt X.K E cf a sg H Q → te sg H Q) ∧ SJ X E cf r t
  | _, _ => False
def Sd (X : Cx) (E : XK) (cf : CF) (me : ME) : Md → Prop
  | .ex e => PE X e (tE X.K E cf me)
  | .te e => PT X e (tT X.K E cf me)
  | .ar es => SA X E cf me es
  | .js es => SJ X E cf me es
  | .bo false op es => ∀ pos, PE X (.BoolOp op es pos) (tE X.K E cf me)
  | .bo true op es => ∀ pos, PW X (.BoolOp op es pos) (tT X.K E cf me)
theorem rd_const {d : P} {v : V} {me : ME} (hev : ∀ env m, ev cf me env m = .ok [.p d] m) (hr : ∀ ex H, RP X.K ex H d v) (sg : L2.St) (H : Hp) (Q : VK) (h : tE X.K E cf me sg H Q) : tC v sg H Q := by
  obtain ⟨rho, gh, env, m, S, w⟩ := h
  rw [hev] at w
  obtain ⟨v', e, z⟩ := w rho H [v] Ext.refl S.rel (RDs.one (d := .p d) (hr _ _))
  cases e
  exact z
theorem rd_constD {d : M.D} {v : V} {me : ME} (hev : ∀ env m, ev cf me env m = .ok [d] m) (hr : ∀ rho gh H, RD X.K rho gh H d v) (sg : L2.St) (H : Hp) (Q : VK) (h : tE X.K E cf me sg H Q) : tC v sg H Q := by
  obtain ⟨rho, gh, env, m, S, w⟩ := h
  rw [hev] at w
  obtain ⟨v', e, z⟩ := w rho H [v] Ext.refl S.rel (RDs.one (hr _ _ _))
  cases e
  exact z
theorem sd_var (g : GX G cf N sc E X) {i : Nat} {x : Str} {pos : Pos} (h : (decide (N[i]? = some x) && vis sc x && plainNm x) = true) : PE X (.Name x pos) (tE X.K E cf (.var i)) := by
  simp only [Bool.and_eq_true, decide_eq_true_eq] at h
  obtain ⟨⟨h1, h2⟩, h3⟩ := h
  refine PE.imp (pe_var (by rw [g.hN]; exact h1) (g.vis h2) (plain_db h3).1 (plain_db h3).2) fun sg H Q h => ?_
  obtain ⟨rho, gh, env, m, S, w⟩ := h
  simp only [ev] at w
  split at w
  · rename_i d e
    obtain ⟨v, e1, r⟩ := S.env.get i d e
    obtain ⟨v', e2, z⟩ := w rho H [v] Ext.refl S.rel (RDs.one r)
    cases e2
    exact ⟨v, e1, z⟩
  · exact w.elim
theorem wpD {K : PySem.W.Frag} {rho gh : List Addr} {m : MH} {H : Hp} {Q : VK} {p : Addr} {kvs : List (P × P)} {ls : List (Key × V)} (e0 : iks kvs = some ls) (r : Rel K rho gh m H) (h : WP K gh E (R.ok [.p (.dict kvs)] m) rho H (one Q)) (n : H p = none) : Q (.ref p) (upd H p (.dK ls)) := by
  have x : Ext rho H rho (upd H p (.dK ls)) := Ext.upd n
  obtain ⟨v', e, z⟩ := h rho (upd H p (.dK ls)) [.ref p] x (r.upd n) (RDs.one (d := .p (.dict kvs)) (by
    show RP K (rho ++ gh) _ _ _
    simp only [RP]
    exact ⟨ls, e0, p, rfl, ⟨⟨upd_same, fun _ z => nomatch z⟩, r.out n⟩⟩))
  cases e
  exact z
theorem sd_dic {d : P} {ks : List (Option Expr)} {vs : List Expr} {pos : Pos} (h : isDd d ks vs = true) : PE X (.Dict ks vs pos) (tE X.K E cf (.cst d)) := by
  unfold isDd at h
  split at h
  · refine PE.imp pe_dnewK fun sg H Q h => ?_
    obtain ⟨rho, gh, env, m, S, w⟩ := h
    simp only [ev] at w
    exact fun p n => wpD rfl S.rel w n
  · rename_i i j i2 k1 p1 j2 k2 p2
    simp only [Bool.and_eq_true, decide_eq_true_eq] at h
    obtain ⟨rfl, rfl⟩ := h
    refine PE.imp (pe_disp (pps_cons pe_int pe_int pps_nil) rfl rfl (by simp) (by simp)) fun sg H Q h => ?_
    obtain ⟨rho, gh, env, m, S, w⟩ := h
    simp only [ev] at w
    refine fun p n => ⟨upd_same, [(.inl i, .int j)], rfl, by simp, ?_⟩
    rw [upd_twice]
    exact wpD (ls := [(.inl i, .int j)]) rfl S.rel w n
  · cases h
theorem sd_cst {d : P} {c : Const} {pos : Pos} {kk : Nat} (h : constIs d c = true) : PE X (.Constant c kk pos) (tE X.K E cf (.cst d)) := by
  unfold constIs at h
  split at h
  · exact PE.imp pe_non (rd_const (fun _ _ => rfl) fun _ _ => by simp only [RP])
  · simp only [beq_iff_eq] at h
    subst h
    exact PE.imp pe_bl (rd_const (fun _ _ => rfl) fun _ _ => by simp only [RP])
  · simp only [decide_eq_true_eq] at h
    subst h
    exact PE.imp pe_int (rd_const (fun _ _ => rfl) fun _ _ => by simp only [RP])
  · simp only [decide_eq_true_eq] at h
    subst h
    exact PE.imp pe_str (rd_const (fun _ _ => rfl) fun _ _ => by simp only [RP])
  · cases h
theorem sd_gl (g : GX G cf N sc E X) {x y : Str} {d : P} {pos : Pos} (h : (decide (x = y) && isGl sc x && plainNm x && G.vals.any fun p => decide (p.1 = x) && beqP p.2 d) = true) : PE X (.Name y pos) (tE X.K E cf (.gl x d)) := by
  simp only [Bool.and_eq_true, decide_eq_true_eq, List.any_eq_true] at h
  obtain ⟨⟨⟨rfl, h2⟩, h3⟩, ⟨p, hp, h4, h5⟩⟩ := h
  have e := beqP_eq _ _ h5
  obtain ⟨u, v, m1, rv, rp⟩ := g.vals p hp
  rw [h4] at m1
  rw [e] at rp
  exact PE.imp (pe_glob (g.gl h2) m1 rv (plain_db h3).1) (rd_constD (fun _ _ => rfl) rp)
theorem SA.lenE : ∀ {a : ME} {es : List Expr} {env : Ev} {m m1 : MH} {ds : List D}, SA X E cf a es → ev cf a env m = .ok ds m1 → ds.length = es.length
  | .nilA, es, env, m, m1, ds, s, h => by
    have s : es = [] := s
    subst s
    simp only [ev, R.ok.injEq] at h
    obtain ⟨rfl, _⟩ := h
    rfl
  | .consA a r, es, env, m, m1, ds, s, h => by
    obtain ⟨e, t, rfl, _, _, s2⟩ := s
    simp only [ev] at h
    obtain ⟨x, m2, e1, h⟩ := bind_ok_of h
    split at h
    · obtain ⟨y, m3, e2, h⟩ := bind_ok_of h
      simp only [R.ok.injEq] at h
      rw [← h.1, List.length_cons, List.length_cons, SA.lenE s2 e2]
    · cases h
theorem sd_tup {a : ME} {es : List Expr} {x1 : Nat} {pos : Pos} (hz : es.length ≤ sizeLine) (s : SA X E cf a es) : PE X (.Tuple es x1 pos) (tE X.K E cf (.tup a)) := by
  refine PE.imp (pe_tup (SA.pa s).1) fun sg H Q h => ?_
  obtain ⟨rho, gh, env, m, S, w⟩ := h
  simp only [ev] at w
  refine ⟨rho, gh, env, m, S, WP.bind w fun ds m1 rho1 H1 vs e x R rds w => ?_⟩
  split at w
  · rename_i ps q
    refine ⟨by rw [rds.len, s.lenE e]; exact hz, fun p n => wpT R w (pures_ok q rds) n⟩
  · exact w.elim
theorem sd_lst {k : Bool} {a : ME} {es : List Expr} {pos : Pos} (hz : es.length ≤ sizeLine) (s : SA X E cf a es) : PE X (.List es pos) (tE X.K E cf (.lst k a)) := by
  refine PE.imp (pe_lst (SA.pa s).1) fun sg H Q h => ?_
  obtain ⟨rho, gh, env, m, S, w⟩ := h
  simp only [ev] at w
  refine ⟨rho, gh, env, m, S, WP.bind w fun ds m1 rho1 H1 vs e x R rds w => ?_⟩
  split at w
  · rename_i ps q
    refine ⟨by rw [rds.len, s.lenE e]; exact hz, fun p n => wpL R w (pures_ok q rds) n⟩
  · exact w.elim
theorem base_of {o : Expr} {nm : Str} {env : Env} {w : Sem Value} (h : notSup o = true) : attributeBase o nm env w = w := by
  unfold attributeBase
  split
  · simp [notSup] at h
  · rfl
theorem back_all {pos : Pos} {env : Env} : ∀ {es : List Expr}, noStar es = true → (backTo pos (starEach es env)).all (fun x => !x.1) = true
  | [], _ => rfl
  | e :: es, h => by
    simp only [noStar, Bool.and_eq_true] at h
    rw [star_of h.1]
    have q := back_all (pos := pos) (env := env) h.2
    show (true && (backTo pos (starEach es env)).all (fun x => !x.1)) = true
    rw [q]
    rfl
theorem sd_meth (g : GX G cf N sc E X) {o : Op} {a r : ME} {n y : Str} {x e : Expr} {es : List Expr} {ap cp : Pos} (hm : methNm o = some y)
    (h : (decide (n = y) && notSup x && (ap.endLine == cp.line) && decide ((e :: es).length < 20)) = true) (hx : PE X x (tE X.K E cf a)) (s : SA X E cf r (e :: es)) : PE X (.Call (.Attribute x n ap) (e :: es) [] cp) (tE X.K E cf (.meth o a r)) := by
  simp only [Bool.and_eq_true, decide_eq_true_eq] at h
  obtain ⟨⟨⟨rfl, h2⟩, h3⟩, h4⟩ := h
  obtain ⟨p, ns⟩ := SA.pa s
  have ns2 := ns
  simp only [noStar, Bool.and_eq_true] at ns
  have few : ((backTo cp (starEach (e :: es) X.env)).all (fun x => !x.1) && (backToKw cp (keywordEach [] X.env)).all (fun x => x.1.isSome)
      && decide ((e :: es).length + ([] : List Keyword).length + (if ([] : List Keyword).isEmpty then 0 else 1) < 30)) = true := by
    rw [back_all ns2]
    have z : decide ((e :: es).length + ([] : List Keyword).length + (if ([] : List Keyword).isEmpty then 0 else 1) < 30) = true := by
      simp only [List.length_nil, List.isEmpty_nil, if_true, decide_eq_true_eq, List.length_cons] at h4 ⊢
      omega
    rw [z]
    rfl
  cases o <;> simp only [methNm, reduceCtorEq, Option.some.injEq] at hm
  · subst hm
    exact PE.imp (pe_bm PySem.F.plainAttrs_list PySem.F.slot_list_append PySem.F.type_list_append (rM_append (E := E)) hx p (base_of h2) few h3 (star_of ns.1) (star_none ns.2)) (opm fun R rd c => isLst_ty R rd c)
  · subst hm
    exact PE.imp (pe_bm PySem.F.plainAttrs_list PySem.F.slot_list_extend PySem.F.type_list_extend (rM_extend (E := E)) hx p (base_of h2) few h3 (star_of ns.1) (star_none ns.2)) (opm fun R rd c => isLst_ty R rd c)
  · subst hm
    exact PE.imp (pe_bm PySem.F.plainAttrs_list PySem.F.slot_list_index PySem.F.type_list_index (rM_index (E := E) g.un) hx p (base_of h2) few h3 (star_of ns.1) (star_none ns.2)) (opm fun R rd c => isLst_ty R rd c)
  · subst hm
    exact PE.imp (pe_bm PySem.F.plainAttrs_list PySem.F.slot_list_count PySem.F.type_list_count (rM_count (E := E) g.un) hx p (base_of h2) few h3 (star_of ns.1) (star_none ns.2)) (opm fun R rd c => isLst_ty R rd c)
  · subst hm
    exact PE.imp (pe_bm PySem.F.plainAttrs_list PySem.F.slot_list_insert PySem.F.type_list_insert (rM_insert (E := E)) hx p (base_of h2) few h3 (star_of ns.1) (star_none ns.2)) (opm fun R rd c => isLst_ty R rd c)
  · subst hm
    exact PE.imp (pe_bm PySem.F.plainAttrs_list PySem.F.slot_list_remove PySem.F.type_list_remove (rM_remove (E := E) g.un) hx p (base_of h2) few h3 (star_of ns.1) (star_none ns.2)) (opm fun R rd c => isLst_ty R rd c)
  · subst hm
    exact PE.imp (pe_bm PySem.F.plainAttrs_str PySem.F.slot_str_join PySem.F.type_str_join (rM_join (E := E)) hx p (base_of h2) few h3 (star_of ns.1) (star_none ns.2)) (opm fun R rd c => isTxt_ty R rd c)
  · subst hm
    exact PE.imp (pe_bm PySem.F.plainAttrs_str PySem.F.slot_str_split PySem.F.type_str_split (rM_split (E := E)) hx p (base_of h2) few h3 (star_of ns.1) (star_none ns.2)) (opm fun R rd c => isTxt_ty R rd c)
theorem sd_sl3 {k : Bool} {a b c : ME} {x y z : Expr} {p pos : Pos} (ha : PE X x (tE X.K E cf a)) (hb : PE X y (tE X.K E cf b)) (hc : PE X z (tE X.K E cf c)) : PE X (.Subscript x (.Slice (some y) (some z) none p) pos) (tE X.K E cf (.sl3 k a b c)) := by
  refine PE.imp (pe_slice (sl_list.or (sl_tupA.or sl_str)) ha (po_some hb) (po_some hc)) fun sg H Q h => ?_
  obtain ⟨rho, gh, env, m, S, w⟩ := h
  simp only [ev] at w
  refine wp_step S (k := fun d m1 => (ev cf b env m1).bind fun y m2 => (match y with
      | [.p (.int i)] => (ev cf c env m2).bind fun z m3 => (match z with
        | [.p (.int j)] => slice k d (some i) (some j) m3
        | _ => .bad)
      | _ => .bad)) w fun d v m1 rho1 H1 x1 S1 rd1 w => ?_
  refine ⟨rho1, gh, env, m1, S1, WP.bind w fun ds m2 rho2 H2 vs e x2 R2 rd2 w => ?_⟩
  split at w
  · rename_i i
    obtain ⟨v2, rfl, _⟩ := RDs.one_of rd2
    refine ⟨v2, rfl, i, rd_int (one_rd rd2), rho2, gh, env, m2, S1.ext x2 R2, WP.bind w fun ds m3 rho3 H3 vs e x3 R3 rd3 w => ?_⟩
    split at w
    · rename_i j
      obtain ⟨v3, rfl, _⟩ := RDs.one_of rd3
      exact ⟨v3, rfl, j, rd_int (one_rd rd3), rS_sl R3 (x3.rd (x2.rd rd1)) w⟩
    · exact w.elim
  · exact w.elim
theorem cmp_or (g : GX G cf N sc E X) {o : Op} {p : CmpOp} (h : cmpIs o p = true) : OpR X (compareOp p) (fun x y H Q => rOn X.K E o [x, y] H Q) ∧ ∀ e, behindInMarks p e = false := by
  have hu : X.A.units + 64 < cLine := by have := g.un; omega
  unfold cmpIs at h
  split at h
  · exact ⟨rO_lt hu, fun e => nobehind _ (by decide) (by decide)⟩
  · exact ⟨rO_le hu, fun e => nobehind _ (by decide) (by decide)⟩
  · exact ⟨rO_gt hu, fun e => nobehind _ (by decide) (by decide)⟩
  · exact ⟨rO_ge hu, fun e => nobehind _ (by decide) (by decide)⟩
  · exact ⟨rO_eq hu, fun e => nobehind _ (by decide) (by decide)⟩
  · exact ⟨rO_ne hu, fun e => nobehind _ (by decide) (by decide)⟩
  · cases h
theorem rd_chn {o1 o2 : Op} {a b c : ME} (sg : L2.St) (H : Hp) (Q : VK) (h : tE X.K E cf (.chn o1 o2 a b c) sg H Q) : tChain (fun x y H Q => rOn X.K E o1 [x, y] H Q) (fun x y H Q => rOn X.K E o2 [x, y] H Q) (tE X.K E cf a) (tE X.K E cf b) (tE X.K E cf c) sg H Q := by
  obtain ⟨rho, gh, env, m, S, w⟩ := h
  simp only [ev] at w
  refine ⟨rho, gh, env, m, S, WP.bind w fun ds m1 rho1 H1 vs e x1 R1 rd1 w => ?_⟩
  split at w
  · rename_i d1
    obtain ⟨v1, rfl, r1⟩ := RDs.one_of rd1
    have S1 := S.ext x1 R1
    refine ⟨v1, rfl, rho1, gh, env, m1, S1, WP.bind w fun ds m2 rho2 H2 vs e x2 R2 rd2 w => ?_⟩
    split at w
    · rename_i d2
      obtain ⟨v2, rfl, r2⟩ := RDs.one_of rd2
      have S2 := S1.ext x2 R2
      refine ⟨v2, rfl, rho2, gh, m2, [d1, d2], R2, ⟨v1, [v2], rfl, x2.rd r1, RDs.one r2⟩, WP.bind w fun ds m3 rho3 H3 vs e x3 R3 rd3 w => ?_⟩
      have S3 := S2.ext x3 R3
      unfold truth at w
      split at w <;> rename_i q
      · split at q
        · simp only [Option.some.injEq] at q
          subst q
          obtain ⟨v3, rfl, r3⟩ := RDs.one_of rd3
          refine ⟨v3, rfl, true, rd_bl r3, ?_⟩
          rw [if_pos rfl]
          refine ⟨rho3, gh, env, m3, S3, WP.bind w fun ds m4 rho4 H4 vs e x4 R4 rd4 w => ?_⟩
          split at w
          · rename_i d4
            obtain ⟨v4, rfl, r4⟩ := RDs.one_of rd4
            exact ⟨v4, rfl, rho4, gh, m4, [d2, d4], R4, ⟨v2, [v4], rfl, x4.rd (x3.rd r2), RDs.one r4⟩, w⟩
          · exact w.elim
        · cases q
      · split at q
        · simp only [Option.some.injEq] at q
          subst q
          obtain ⟨v3, rfl, r3⟩ := RDs.one_of rd3
          refine ⟨v3, rfl, false, rd_bl r3, ?_⟩
          rw [if_neg (by simp)]
          exact wp1 R3 w rfl
        · cases q
      · exact w.elim
    · exact w.elim
  · exact w.elim
theorem mk_chn (g : GX G cf N sc E X) {o1 o2 : Op} {a b c : ME} {x y z : Expr} {p q : CmpOp} {pos : Pos} (h1 : cmpIs o1 p = true) (h2 : cmpIs o2 q = true) (ha : PE X x (tE X.K E cf a)) (hb : PE X y (tE X.K E cf b)) (hc : PE X z (tE X.K E cf c)) :
    PE X (.Compare x [p, q] [y, z] pos) (tE X.K E cf (.chn o1 o2 a b c)) ∧ PT X (.Compare x [p, q] [y, z] pos) (tT X.K E cf (.chn o1 o2 a b c)) := by
  have hm : lastMarks [p, q] [y, z] = false := (cmp_or g h2).2 z
  exact ⟨PE.imp (pe_chain (cmp_or g h1).1 (cmp_or g h2).1 ha hb hc hm) rd_chn, PT.imp (pt_chain (cmp_or g h1).1 (cmp_or g h2).1 ha hb hc hm) fun sg H Q h => rd_chn sg H _ (tT_of h)⟩
theorem tr_of {xs : List M.D} {c : Bool} (h : truth xs = some c) : xs = [.p (.bool c)] := by
  unfold truth at h
  split at h
  · simp only [Option.some.injEq] at h
    rw [h]
  · cases h
theorem rd_bop {a r : ME} {b : Bool} (sg : L2.St) (H : Hp) (Q : VK) (h : tE X.K E cf (.bop b a r) sg H Q) : tE X.K E cf a sg H fun x H1 => ∃ c, x = .bl c ∧ if c = b then tE X.K E cf r sg H1 Q else Q (.bl c) H1 := by
  obtain ⟨rho, gh, env, m, S, w⟩ := h
  simp only [ev] at w
  refine ⟨rho, gh, env, m, S, WP.bind w fun ds m1 rho1 H1 vs e x1 R1 rd1 w => ?_⟩
  split at w
  · rename_i c q
    have q2 := tr_of q
    subst q2
    obtain ⟨v1, rfl, r1⟩ := RDs.one_of rd1
    refine ⟨v1, rfl, c, rd_bl r1, ?_⟩
    split at w
    · rename_i z
      have z : c = b := by simpa using z
      rw [if_pos z]
      exact ⟨rho1, gh, env, m1, S.ext x1 R1, w⟩
    · rename_i z
      have z : ¬ c = b := by simpa using z
      rw [if_neg z]
      exact wp1 R1 w rfl
  · exact w.elim
theorem rd_bopT {a r : ME} {b : Bool} (sg : L2.St) (H : Hp) (Q : Bool → Hp → Prop) (h : tT X.K E cf (.bop b a r) sg H Q) : tT X.K E cf a sg H fun c H1 => if c = b then tT X.K E cf r sg H1 Q else Q c H1 := by
  have z := rd_bop sg H _ (tT_of h)
  refine tE_imp z fun v H1 ⟨c, e, q⟩ => ⟨c, e, ?_⟩
  by_cases hc : c = b
  · rw [if_pos hc] at q ⊢
    exact q
  · rw [if_neg hc] at q ⊢
    obtain ⟨c', e', q⟩ := q
    cases e'
    exact q
theorem rd_not {a : ME} (sg : L2.St) (H : Hp) (Q : VK) (h : tE X.K E cf (.nt a) sg H Q) : tE X.K E cf a sg H fun x H1 => ∃ c, x = .bl c ∧ Q (.bl (!c)) H1 := by
  obtain ⟨rho, gh, env, m, S, w⟩ := h
  simp only [ev] at w
  refine ⟨rho, gh, env, m, S, WP.bind w fun ds m1 rho1 H1 vs e x1 R1 rd1 w => ?_⟩
  split at w
  · rename_i c q
    have q2 := tr_of q
    subst q2
    obtain ⟨v1, rfl, r1⟩ := RDs.one_of rd1
    exact ⟨v1, rfl, c, rd_bl r1, wp1 R1 w rfl⟩
  · exact w.elim
theorem rd_ife {c a b : ME} (sg : L2.St) (H : Hp) (Q : VK) (h : tE X.K E cf (.ife c a b) sg H Q) : tIf (tT X.K E cf c) (tE X.K E cf a) (tE X.K E cf b) sg H Q := by
  obtain ⟨rho, gh, env, m, S, w⟩ := h
  simp only [ev] at w
  refine ⟨rho, gh, env, m, S, WP.bind w fun ds m1 rho1 H1 vs e x1 R1 rd1 w => ?_⟩
  split at w <;> rename_i q
  · have q2 := tr_of q
    subst q2
    obtain ⟨v1, rfl, r1⟩ := RDs.one_of rd1
    refine ⟨v1, rfl, true, rd_bl r1, ?_⟩
    simp only [if_true]
    exact ⟨rho1, gh, env, m1, S.ext x1 R1, w⟩
  · have q2 := tr_of q
    subst q2
    obtain ⟨v1, rfl, r1⟩ := RDs.one_of rd1
    refine ⟨v1, rfl, false, rd_bl r1, ?_⟩
    simp only [Bool.false_eq_true, if_false]
    exact ⟨rho1, gh, env, m1, S.ext x1 R1, w⟩
  · exact w.elim
theorem fn_at {f : Nat} {x : Str} (h : fnAt G f x = true) : G.fns[f]? = some x ∧ G.mths.contains f = false := by
  unfold fnAt at h
  simp only [Bool.and_eq_true, decide_eq_true_eq, Bool.not_eq_true'] at h
  exact h
theorem mt_at {f : Nat} {x : Str} (h : mtAt G f x = true) : G.fns[f]? = some x ∧ G.mths.contains f = true := by
  unfold mtAt at h
  simp only [Bool.and_eq_true, decide_eq_true_eq] at h
  exact h
theorem sd_call (g : GX G cf N sc E X) {k : Bool} {f : Nat} {a : ME} {x : Str} {es : List Expr} {p pos : Pos} (h : (fnAt G f x && isGl sc x && plainNm x) = true) (s : SA X E cf a es) :
    PE X (.Call (.Name x p) es [] pos) (tE X.K E cf (.call k f a)) ∧ PT X (.Call (.Name x p) es [] pos) (tT X.K E cf (.call k f a)) := by
  simp only [Bool.and_eq_true, decide_eq_true_eq] at h
  obtain ⟨⟨h1, h2⟩, h3⟩ := h
  obtain ⟨h1, h1n⟩ := fn_at h1
  obtain ⟨ad, fd, ps, kk, m1, _, kin, bnd, _, room, F⟩ := g.fns k f x h1
  have m1 := m1 h1n
  have room := room.mono (Nat.le_add_right _ _)
  obtain ⟨pa, ns⟩ := SA.pa s
  have rd : ∀ sg H Q, tE X.K E cf (.call k f a) sg H Q → tCall (spM X.K cf k f) [] E (tA X.K E cf a) sg H Q := fun sg H Q h => by
    obtain ⟨rho, gh, env, m, S, w⟩ := h
    simp only [ev] at w
    refine ⟨rho, gh, env, m, S, WP.bind w fun ds m1 rho1 H1 vs e x1 R1 rd1 w => ?_⟩
    rw [List.append_nil]
    exact ⟨rho1, gh, m1, ds, R1, rd1, w⟩
  cases es with
  | nil =>
    have z : a = .nilA := by
      cases a with
      | nilA => rfl
      | consA _ _ => obtain ⟨_, _, z, _⟩ := s; cases z
      | _ => exact s.elim
    subst z
    exact both (PE.imp (pe_callG0 F room g.gd (g.gl h2) m1 kin bnd g.pass (plain_db h3).1) fun sg H Q h => by
      have z := rd sg H Q h
      obtain ⟨rho, gh, env, m, S, w⟩ := z
      exact w rho H [] Ext.refl S.rel rfl) rfl
  | cons e es =>
    simp only [noStar, Bool.and_eq_true] at ns
    exact both (PE.imp (pe_callG F room g.gd (g.gl h2) m1 kin bnd g.pass pa (plain_db h3).1 (star_of ns.1) (star_none ns.2)) rd) rfl
theorem SA.pk : ∀ {a : ME} {kws : List Keyword} {ns : List Str} {es : List Expr}, kwsOf kws = some (ns, es) → SA X E cf a es → PK X kws (tA X.K E cf a)
  | .nilA, kws, ns, es, hk, h => by
    have h : es = [] := h
    subst h
    cases kws with
    | nil => exact ⟨fun pos pins s sg H Q I ⟨rho, gh, env, m, S, w⟩ => pk_nil.run pos pins s sg H Q I (w rho H [] Ext.refl S.rel rfl)⟩
    | cons kw kws =>
      obtain ⟨nm, e, kp⟩ := kw
      cases nm <;> simp only [kwsOf, reduceCtorEq] at hk
      split at hk <;> simp at hk
  | .consA a r, kws, ns, es, hk, h => by
    obtain ⟨e, t, rfl, h1, h2, h3⟩ := h
    cases kws with
    | nil => simp [kwsOf] at hk
    | cons kw kws =>
      obtain ⟨nm, e', kp⟩ := kw
      cases nm <;> simp only [kwsOf, reduceCtorEq] at hk
      split at hk
      · rename_i ns' es' q
        simp only [Option.some.injEq, Prod.mk.injEq, List.cons.injEq] at hk
        obtain ⟨_, rfl, rfl⟩ := hk
        have p := SA.pk q h3
        refine ⟨fun pos pins s sg H Q I hh => (pk_cons h2 p).run pos pins s sg H Q I ?_⟩
        obtain ⟨rho, gh, env, m, S, w⟩ := hh
        have w2 : WP X.K gh E ((ev cf (.consA a r) env m).bind fun ds m => .ok ds m) rho H Q := by rw [ok_bind]; exact w
        refine wp_arg S w2 fun d v m1 rho1 H1 x S1 rd w => ⟨rho1, gh, env, m1, S1, ?_⟩
        refine WP.bind w fun ds m2 rho2 H2 vs e2 x2 R2 rds w => ?_
        exact w rho2 H2 (v :: vs) Ext.refl R2 ⟨v, vs, rfl, x2.rd rd, rds⟩
      · cases hk
theorem kws_some {pos : Pos} {env : Env} : ∀ {kws : List Keyword} {ns : List Str} {es : List Expr}, kwsOf kws = some (ns, es) →
    (backToKw pos (keywordEach kws env)).all (·.1.isSome) = true ∧ (backToKw pos (keywordEach kws env)).filterMap (·.1) = ns ∧ (backToKw pos (keywordEach kws env)).any (·.1.isNone) = false ∧ es.length = ns.length
  | [], ns, es, h => by
    simp only [kwsOf, Option.some.injEq, Prod.mk.injEq] at h
    obtain ⟨rfl, rfl⟩ := h
    exact ⟨rfl, rfl, rfl, rfl⟩
  | ⟨none, e, kp⟩ :: r, ns, es, h => by simp [kwsOf] at h
  | ⟨some n, e, kp⟩ :: r, ns, es, h => by
    simp only [kwsOf] at h
    split at h
    · rename_i ns' es' q
      simp only [Option.some.injEq, Prod.mk.injEq] at h
      obtain ⟨rfl, rfl⟩ := h
      obtain ⟨h1, h2, h3, h4⟩ := kws_some (pos := pos) (env := env) q
      refine ⟨?_, ?_, ?_, by simp [h4]⟩
      · show (true && (backToKw pos (keywordEach r env)).all (·.1.isSome)) = true
        rw [h1]
        rfl
      · show n :: (backToKw pos (keywordEach r env)).filterMap (·.1) = n :: ns'
        rw [h2]
      · show (false || (backToKw pos (keywordEach r env)).any (·.1.isNone)) = false
        rw [h3]
        rfl
    · cases h
theorem permD_rd {K : PySem.W.Frag} {rho gh : List Addr} {H : Hp} {ds : List M.D} {vs : List V} (h : RDs K rho gh H ds vs) : ∀ {perm : List Nat} {ds' : List M.D}, permD perm ds = some ds' → RDs K rho gh H ds' (permL perm vs)
  | [], ds', e => by
    simp only [permD, Option.some.injEq] at e
    subst e
    rfl
  | i :: r, ds', e => by
    simp only [permD] at e
    split at e
    · rename_i d l e1 e2
      simp only [Option.some.injEq] at e
      subst e
      have ih := permD_rd h e2
      have key : ∀ (ds : List M.D) (vs : List V) (i : Nat) (d : M.D), RDs K rho gh H ds vs → ds[i]? = some d → ∃ v, vs[i]? = some v ∧ RD K rho gh H d v := by
        intro ds
        induction ds with
        | nil => intro vs i d _ e; simp at e
        | cons d0 ds ih =>
          intro vs i d h e
          obtain ⟨v, t, rfl, h1, h2⟩ := h
          cases i with
          | zero => simp at e; subst e; exact ⟨v, rfl, h1⟩
          | succ i => exact ih t i d h2 (by simpa using e)
      obtain ⟨v, ev, rv⟩ := key ds vs i d h e1
      refine ⟨v, permL r vs, ?_, rv, ih⟩
      unfold permL
      rw [List.filterMap_cons_some ev]
    · cases e
theorem vals_perm {zs : List V} {ws : List Value} (r : Vals zs ws) : ∀ perm : List Nat, Vals (permL perm zs) (permL perm ws)
  | [] => .nil
  | i :: t => by
    have ih := vals_perm r t
    unfold permL at ih ⊢
    cases e : zs[i]? with
    | some v =>
      obtain ⟨u, e2, r2⟩ := r.get e
      rw [List.filterMap_cons_some e, List.filterMap_cons_some e2]
      exact .cons r2 ih
    | none =>
      have hl := r.length
      have e2 : ws[i]? = none := by
        rw [List.getElem?_eq_none_iff] at e ⊢
        omega
      rw [List.filterMap_cons_none e, List.filterMap_cons_none e2]
      exact ih
theorem pe_kw0 {C : CXT} {k : Nat} {f : Addr} {fd : FuncData} {ps ks : List Str} {sp : Sp} {perm : List Nat} {es : List Expr} {kws : List Keyword} {x : Str} {p pos : Pos} {tk : TA} (F : FnG X.prog X.w X.K X.mg X.base C k f fd ps sp) (hr : Room k X.A) (gd : X.A.guards = some []) (hg : Gl X x) (hm : X.mg x = some (.ref f)) (hk : PySem.W.keepIn X.K (.ref f) = true)
    (hb : KBk false fd ps ks perm) (hx : Passes C X E) (hkw : PK X kws tk) (hks : kwsOf kws = some (ks, es)) (hdb : (x == ("__debug__" : Str)) = false) :
    PE X (.Call (.Name x p) [] kws pos) (fun sg H Q => tk sg H fun zs H1 => zs.length = ks.length ∧ sp (permL perm zs) H1 Q E) := by
  obtain ⟨h1, h2, h3, h4⟩ := kws_some (pos := pos) (env := X.env) hks
  refine ⟨fun pins s sg H Q I h => wpAny_Call_Name_kw (ld_glob I hg hm ?_ hdb)⟩
  refine PySem.W.callWith_KW0 (h₀ := X.base) I.ok.mod.kin hk h1 (thn (hkw.run pos pins s sg H _ I h) fun ws s2 ⟨zs, H2, I2, rz, hl, q2⟩ => ⟨I2.kIn, ?_⟩) (by
    show (false || (backToKw pos (keywordEach kws X.env)).any (·.1.isNone)) = false
    rw [h3]
    rfl)
  rw [h2]
  have r2 := vals_perm rz perm
  exact run_g (args := ⟨[], ks.zip ws⟩) F hr gd hx I2 (hb .none s2 ws (by rw [← rz.length]; exact hl)) r2 q2
theorem sd_callk (g : GX G cf N sc E X) {k : Bool} {f : Nat} {perm : List Nat} {a : ME} {x : Str} {ns : List Str} {es : List Expr} {kws : List Keyword} {p pos : Pos} (h : (fnAt G f x && isGl sc x && plainNm x) = true) (hks : kwsOf kws = some (ns, es)) (hm : (f, ns, perm) ∈ G.kws) (s : SA X E cf a es) :
    PE X (.Call (.Name x p) [] kws pos) (tE X.K E cf (.callk k f perm a)) := by
  simp only [Bool.and_eq_true, decide_eq_true_eq] at h
  obtain ⟨⟨h1, h2⟩, h3⟩ := h
  obtain ⟨h1, h1n⟩ := fn_at h1
  obtain ⟨ad, fd, ps, kk, m1, _, kin, bnd, kb, room, F⟩ := g.fns k f x h1
  have m1 := m1 h1n
  have room := room.mono (Nat.le_add_right _ _)
  refine PE.imp (pe_kw0 F room g.gd (g.gl h2) m1 kin (by have z := kb ns perm hm; rw [h1n] at z; exact z) g.pass (SA.pk hks s) hks (plain_db h3).1) fun sg H Q h => ?_
  obtain ⟨rho, gh, env, m, S, w⟩ := h
  simp only [ev] at w
  refine ⟨rho, gh, env, m, S, WP.bind w fun ds m1 rho1 H1 vs e x1 R1 rd1 w => ?_⟩
  split at w
  · rename_i ds' q
    refine ⟨?_, rho1, gh, m1, ds', R1, permD_rd rd1 q, w⟩
    rw [RDs.len rd1, s.lenE e]
    exact (kws_some (pos := pos) (env := X.env) hks).2.2.2
  · exact w.elim
theorem lookup_lab {f : Str × NameKind → NameKind} {x : Str} : ∀ {names : List (Str × NameKind)}, (names.map fun p => (p.1, f p)).lookup x = (match names.lookup x with | some k => some (f (x, k)) | none => none)
  | [] => rfl
  | (n, k) :: r => by
    have ih := lookup_lab (f := f) (x := x) (names := r)
    simp only [List.map_cons, List.lookup_cons]
    by_cases hx : x = n
    · subst hx
      simp
    · rw [beq_eq_false_iff_ne.mpr hx]
      exact ih
theorem lookup_re {scope : Scope} {env : Env} {x : Str} : (relabel scope env).names.lookup x = (match scope.names.lookup x with
    | some k => some (if (k == .free && env.scope.kind == .function && env.kindOf x == some .cell) then .cell else k)
    | none => none) := by
  have e : (relabel scope env).names = scope.names.map fun p => (p.1, if (p.2 == .free && env.scope.kind == .function && env.kindOf p.1 == some .cell) then .cell else p.2) := by
    unfold relabel
    show scope.names.map _ = _
    congr 1
    funext p
    obtain ⟨n, k⟩ := p
    show (if _ then _ else _) = _
    split <;> rfl
  rw [e, lookup_lab]
theorem GX.inner (g : GX G cf N sc E X) {scope : Scope} (s : Shared) (H : Hp) (C : Addr) (cl : List (Str × Addr)) (fp : List Addr) : GX G cf N scope EN (X.blk s H scope (compEnvC scope cl C X.env) fp) := by
  refine ⟨⟨fun x h => ?_, fun x h => ?_, fun x h => ⟨?_, ?_⟩, fun x h => ?_⟩, g.hN, g.nd, g.calm, g.un, g.gd, g.vals, g.blts, g.fns, passL, g.lam, g.sm, g.tbl, g.sgn, g.nbl⟩
  · show (relabel scope X.env).names.lookup x = _
    rw [lookup_re, h]
    rfl
  · show (relabel scope X.env).names.lookup x = _
    rw [lookup_re, h]
    rfl
  · show (relabel scope X.env).names.lookup x = _
    rw [lookup_re, h]
    rfl
  · show (scope.names.lookup x == some .cell) = true
    rw [h]
    rfl
  · show (relabel scope X.env).names.lookup x = _ ∨ (relabel scope X.env).names.lookup x = _
    rw [lookup_re, h]
    show some (if _ then _ else _) = _ ∨ some (if _ then _ else _) = _
    split
    · exact .inl rfl
    · exact .inr rfl
theorem blk_of (g : GX G cf N sc E X) {scope : Scope} {own : List (Str × Nat)} (h : BlkOk N sc scope own) : BlkOk X.N X.env.scope scope own := by
  rw [g.hN]
  refine ⟨h.kind, h.uniq, h.ix, fun y hy e => ?_, h.own⟩
  rcases h.free y hy e with z | z
  · exact .inl (g.hsc.cel _ z).1
  · exact g.hsc.fre _ z
theorem sd_it (g : GX G cf N sc E X) {ik : Itk} {t i : Expr} {it : ME} {es : List Expr} (h : spI G sc ik t i = some es) (s : SA X E cf it es) : PI X t i (tI X.K E cf ik it) := by
  unfold spI at h
  split at h
  · split at h
    · simp only [Option.some.injEq] at h
      subst h
      exact pi_val s
    · cases h
  · split at h
    · rename_i c
      simp only [Option.some.injEq] at h
      subst h
      exact pi_r1 g c s
    · cases h
  · split at h
    · rename_i c
      simp only [Option.some.injEq] at h
      subst h
      exact pi_r2 g c s
    · cases h
  · split at h
    · rename_i c
      simp only [Bool.and_eq_true] at c
      simp only [Option.some.injEq] at h
      subst h
      cases t <;> simp only [isTupT, Bool.false_eq_true, and_false] at c
      exact pi_en g c.1 s
    · cases h
  · split at h
    · rename_i c
      simp only [Bool.and_eq_true] at c
      simp only [Option.some.injEq] at h
      subst h
      cases t <;> simp only [isTupT, Bool.false_eq_true, and_false] at c
      exact pi_zp g c.1 s
    · cases h
  · split at h
    · simp only [Option.some.injEq] at h
      subst h
      exact pi_chars s
    · cases h
  · split at h
    · rename_i c
      simp only [Bool.and_eq_true, decide_eq_true_eq] at c
      obtain ⟨⟨⟨⟨⟨rfl, rfl⟩, c3⟩, c4⟩, c5⟩, c6⟩ := c
      simp only [Option.some.injEq] at h
      subst h
      cases t <;> simp only [isTupT, Bool.false_eq_true] at c6
      exact pi_signs g rfl c3 c4 c5 s
    · cases h
  · cases h
theorem spI_set {ik : Itk} {t i : Expr} {es : List Expr} (h : spI G sc ik t i = some es) : notSet i = true := by
  unfold spI at h
  split at h
  · split at h
    · rename_i c
      simp only [Bool.and_eq_true] at c
      exact c.2
    · cases h
  all_goals first
    | rfl
    | cases h
    | (split at h
       · rename_i c
         simp only [Bool.and_eq_true] at c
         exact c.2
       · cases h)
theorem tg_in (g : GX G cf N sc E X) {mt : MT} {e : Expr} (h : chkT N sc mt e = true) : PG X e (tG X.K mt) := (pg_tgt g.hsc g.hN g.nd g.calm mt).1 e h
end
end M
namespace M
open PySem PySem.Spec PyProof.Rows L2
def kw : Nat → Str
  | 1 => "board" | 2 => "pins" | 3 => "pin" | 4 => "look" | 5 => "number" | 6 => "stand" | 7 => "row" | 8 => "laid" | 9 => "deed" | 10 => "text" | 11 => "line" | _ => "few"
def kwAll : List Str := ["board", "pins", "pin", "look", "number", "stand", "row", "laid", "deed", "text", "line", "few"]
def DxOk (dx : Option Addr) (H : Hp) : Prop := ∀ d, dx = some d → ∃ fs, H d = some (.xd fs)
def DxA (dx : Option Addr) (ex : List Addr) (H : Hp) : Prop := ∀ d, dx = some d → ∃ fs, At ex H d (.xd fs)
theorem DxA.ok {dx : Option Addr} {ex : List Addr} {H : Hp} (h : DxA dx ex H) : DxOk dx H := fun d e => let ⟨fs, z⟩ := h d e; ⟨fs, z.1.1⟩
theorem DxA.ext {dx : Option Addr} {rho rho1 gh : List Addr} {H H1 : Hp} (x : Ext rho H rho1 H1) (h : DxA dx (rho ++ gh) H) : DxA dx (rho1 ++ gh) H1 := fun d e => let ⟨fs, z⟩ := h d e; ⟨fs, x.at _ _ z⟩
structure InHand (X : Cx) (a D : Addr) (dx : Option Addr) (oe : Obj) : Prop where
  pn : (a, oe) ∈ X.pn
  z : Zc (.ref D) dx oe
  f : ∃ vs, oe.data = .fields vs
  c : ExcC X.K D
section
variable {X : Cx} {a D : Addr} {dx : Option Addr} {oe : Obj}
theorem call_isP (h : InHand X a D dx oe) : CallR X (.builtin "isinstance") (fun vs H Q => DxOk dx H ∧ rIsE X.K D a vs H Q) := by
  intro pins s sg H xs us Q I r q
  obtain ⟨dk, t, cv, b, rfl, hcv, e, q⟩ := q
  match us, r with
  | [u1, u2], .cons ra (.cons rt .nil) =>
    have et := hcv u2 rt
    subst et
    have ea : u1 = Value.ref a := ra
    subst ea
    have g0 := (I.pin (a, oe) (List.mem_append_left _ h.pn)).1
    obtain ⟨vs, hv⟩ := h.f
    have J : ∃ od, PySem.W.InstAt s.heap a oe D od := by
      obtain ⟨z1, z2⟩ := h.z
      cases hd : dx with
      | none => exact ⟨none, g0, z1, by unfold PySem.W.notCls; rw [hv] <;> rfl, by rw [z2, hd]; trivial⟩
      | some d =>
        obtain ⟨fs, ed⟩ := dk d hd
        have hx : ObjOk X.prog X.w H s.heap d (.xd fs) := I.hok d _ ed
        obtain ⟨mA, hns, hr⟩ := hx
        obtain ⟨od, ho, hl⟩ := lookIn_ns hns
        exact ⟨some od, g0, z1, by unfold PySem.W.notCls; rw [hv] <;> rfl, by rw [z2, hd]; exact ho⟩
    obtain ⟨od, J⟩ := J
    have hcl : (PySem.W.clsIn X.K D).isSome = true := by
      obtain ⟨cd, hc, _⟩ := PySem.W.any_some h.c.hd
      rw [hc]
      rfl
    exact PySem.W.kia_one (PySem.W.kitx_exc hcl h.c.hg h.c.hk h.c.hs h.c.ha h.c.hn h.c.ht h.c.hm) I.kIn J e (fun z => nomatch z) fun tk => ⟨.bl b, H, I.kept (t' := tk) (fun _ _ z => z), rfl, q⟩
def tHas (dx : Option Addr) (a : Addr) (b : Bool) : TE := fun sg H Q => (sg[0]? = some (some (.ref a)) ∧ DxOk dx H) ∧ Q (.bl b) H
theorem pe_isa (h : InHand X a D dx oe) {p : Nat → Pos} {i : Nat} {y : Str} {D2 : Addr} {b : Bool} (hg : Gl X "isinstance") (hm : X.mg "isinstance" = none) (n0 : X.N[0]? = some ("_law_e" : Str)) (v0 : Vis X.env.scope "_law_e") (gy : Gl X y) (my : X.mg y = some (.ref D2)) (dy : (y == ("__debug__" : Str)) = false)
    (hk : PySem.W.kitOne X.K (.ref D) (.ref D2) = some b) : PE X (isaE p i y) (tHas dx a b) := by
  refine PE.imp (pe_callB (call_isP h) hg hm (by decide +kernel) (pa_cons (pe_var n0 v0) (pa_cons (pe_glob (v := .ref D2) gy my rfl dy) pa_nil)) (by decide +kernel) (by decide +kernel)) fun sg H Q q => ?_
  exact ⟨.ref a, q.1.1, q.1.2, .ref D2, .ref D2, b, rfl, fun u r => r, hk, q.2⟩
theorem pe_isaV (h : InHand X a D dx oe) {p : Nat → Pos} {i : Nat} {b : Bool} (hg : Gl X "isinstance") (hm : X.mg "isinstance" = none) (n0 : X.N[0]? = some ("_law_e" : Str)) (v0 : Vis X.env.scope "_law_e") (gy : Gl X "ValueError") (my : X.mg "ValueError" = none)
    (hk : PySem.W.kitOne X.K (.ref D) (.type "ValueError") = some b) : PE X (isaE p i "ValueError") (tHas dx a b) := by
  refine PE.imp (pe_callB (call_isP h) hg hm (by decide +kernel) (pa_cons (pe_var n0 v0) (pa_cons (pe_bltn (v := .ty "ValueError") (u := .type "ValueError") gy my (by decide +kernel) rfl (by decide +kernel) (by decide +kernel)) pa_nil)) (by decide +kernel) (by decide +kernel)) fun sg H Q q => ?_
  exact ⟨.ref a, q.1.1, q.1.2, .ty "ValueError", .type "ValueError", b, rfl, fun u r => r, hk, q.2⟩
structure Has (K : PySem.W.Frag) (rho0 gh : List Addr) (m : MH) (H0 : Hp) (dx : Option Addr) (a : Addr) (ds : List P) (sg : L2.St) (H : Hp) : Prop where
  e : sg[0]? = some (some (.ref a))
  l : 3 = sg.length
  d : DxA dx (rho0 ++ gh) H0
  at_ : ∃ rho v, Ext rho0 H0 rho H ∧ Rel K rho gh m H ∧ sg[1]? = some (some v) ∧ RP K (rho ++ gh) H (.list ds) v ∧ ∀ u, sg[2]? = some (some u) → RP K (rho ++ gh) H (.list (kwAll.map PyData.str)) u
variable {K : PySem.W.Frag} {rho0 gh : List Addr} {m : MH} {H0 : Hp}
theorem bls_rps {ex : List Addr} {H : Hp} : ∀ bs : List Bool, RPs K ex H (bs.map PyData.bool) (bs.map V.bl)
  | [] => by simp [RPs]
  | b :: r => by
    simp only [List.map_cons, RPs]
    exact ⟨_, _, rfl, by simp only [RP], bls_rps r⟩
theorem strs_rps {ex : List Addr} {H : Hp} : ∀ bs : List Str, RPs K ex H (bs.map PyData.str) (bs.map V.str)
  | [] => by simp [RPs]
  | b :: r => by
    simp only [List.map_cons, RPs]
    exact ⟨_, _, rfl, by simp only [RP], strs_rps r⟩
def tFour (dx : Option Addr) (a : Addr) (b1 b2 b3 b4 : Bool) : TE := tLst (tCons (tHas dx a b1) (tCons (tHas dx a b2) (tCons (tHas dx a b3) (tCons (tHas dx a b4) tNil))))
theorem four_new {sg : L2.St} {H : Hp} {Q : VK} {rho : List Addr} {b1 b2 b3 b4 : Bool} (h0 : sg[0]? = some (some (.ref a))) (dk : DxOk dx H) (R : Rel K rho gh m H)
    (k : ∀ v H1, Ext rho H rho H1 → Rel K rho gh m H1 → RP K (rho ++ gh) H1 (.list ([b1, b2, b3, b4].map PyData.bool)) v → Q v H1) : tFour dx a b1 b2 b3 b4 sg H Q := by
  refine ⟨⟨h0, dk⟩, ⟨h0, dk⟩, ⟨h0, dk⟩, ⟨h0, dk⟩, line_sz (by show 4 ≤ 100000; decide), fun L hL => k _ _ (Ext.upd hL) (R.upd hL) ?_⟩
  simp only [RP]
  exact ⟨L, _, rfl, ⟨nt_lst upd_same, R.out hL⟩, bls_rps [b1, b2, b3, b4]⟩
theorem set_len {sg : L2.St} {i : Nat} {v : Option V} (h : 3 = sg.length) : 3 = (sg.set i v).length := by rw [List.length_set]; exact h
theorem kind1 {D : Ends} {sg : L2.St} {b1 b2 b3 b4 : Bool} (h0 : sg[0]? = some (some (.ref a))) (hl : 3 = sg.length) (h2 : sg[2]? = some none) (dd : DxA dx (rho0 ++ gh) H0) (R : Rel K rho0 gh m H0)
    (k : ∀ sg1 H1, Has K rho0 gh m H0 dx a ([b1, b2, b3, b4].map PyData.bool) sg1 H1 → D.nx sg1 H1) : tAsg (tFour dx a b1 b2 b3 b4) (gName 1) D sg H0 :=
  four_new h0 dd.ok R fun v H1 x R1 r => k _ _ ⟨by rw [List.getElem?_set_ne (by decide)]; exact h0, set_len hl, dd, rho0, v, x, R1, by rw [List.getElem?_set_self (by omega)], r, fun u e => by rw [List.getElem?_set_ne (by decide), h2] at e; cases e⟩
theorem kind2 {D : Ends} {sg : L2.St} {H : Hp} {ds : List P} {b1 b2 b3 b4 : Bool} (h : Has K rho0 gh m H0 dx a ds sg H) (hd : ds.length ≤ 1000)
    (k : ∀ sg1 H1, Has K rho0 gh m H0 dx a (ds ++ [b1, b2, b3, b4].map PyData.bool) sg1 H1 → D.nx sg1 H1) :
    tAsg (tOp (fun x y H Q => rOn K EN (.addL false) [x, y] H Q) (tVar 1) (tFour dx a b1 b2 b3 b4)) (gName 1) D sg H := by
  obtain ⟨h0, hl, dd, rho, v, x, R, h1, r, hw⟩ := h
  refine ⟨v, h1, four_new h0 (dd.ext x).ok R fun u H1 x1 R1 r1 => ⟨rho, gh, m, [.p (.list ds), .p (.list ([b1, b2, b3, b4].map PyData.bool))], R1, ⟨v, _, rfl, x1.rp r, u, [], rfl, r1, rfl⟩, ?_⟩⟩
  have e : opD (.addL false) [.p (.list ds), .p (.list ([b1, b2, b3, b4].map PyData.bool))] m = .ok [.p (.list (ds ++ [b1, b2, b3, b4].map PyData.bool))] m := by
    have : ds.length + 4 ≤ 100000 := by omega
    simp only [opD, d_addL, lstD, List.length_map, List.length_cons, List.length_nil, Nat.zero_add, this, if_true, mkL]
  rw [e]
  intro rho2 H2 vs x2 R2 rd
  obtain ⟨u2, rfl, r2⟩ := RDs.one_of rd
  exact ⟨u2, rfl, k _ _ ⟨by rw [List.getElem?_set_ne (by decide)]; exact h0, set_len hl, dd, rho2, u2, x.trans (x1.trans x2), R2, by rw [List.getElem?_set_self (by omega)], r2, fun z e => by
    rw [List.getElem?_set_ne (by decide)] at e
    exact x2.rp (x1.rp (hw z e))⟩⟩
def four (c i : Nat) : List P := [decide (c = i), decide (c = i + 1), decide (c = i + 2), decide (c = i + 3)].map PyData.bool
def marks (c : Nat) : List P := four c 1 ++ four c 5 ++ four c 9
theorem c_cases {c : Nat} (h1 : 1 ≤ c) (h2 : c < 13) : c = 1 ∨ c = 2 ∨ c = 3 ∨ c = 4 ∨ c = 5 ∨ c = 6 ∨ c = 7 ∨ c = 8 ∨ c = 9 ∨ c = 10 ∨ c = 11 ∨ c = 12 := by omega
theorem marks_count {c : Nat} (h1 : 1 ≤ c) (h2 : c < 13) : opD .count [.p (.list (marks c)), .p (.bool true)] m = .ok [.p (.int 1)] m := by
  rcases c_cases h1 h2 with rfl | rfl | rfl | rfl | rfl | rfl | rfl | rfl | rfl | rfl | rfl | rfl <;> kernel_rfl
theorem marks_index {c : Nat} (h1 : 1 ≤ c) (h2 : c < 13) : opD .index [.p (.list (marks c)), .p (.bool true)] m = .ok [.p (.int ((c : Int) - 1))] m := by
  rcases c_cases h1 h2 with rfl | rfl | rfl | rfl | rfl | rfl | rfl | rfl | rfl | rfl | rfl | rfl <;> kernel_rfl
theorem kw_at {c : Nat} (h1 : 1 ≤ c) (h2 : c < 13) : atI (kwAll.map V.str) ((c : Int) - 1) = some (.str (kw c)) := by
  rcases c_cases h1 h2 with rfl | rfl | rfl | rfl | rfl | rfl | rfl | rfl | rfl | rfl | rfl | rfl <;> kernel_rfl
theorem strs_ofS {ex : List Addr} {H : Hp} : ∀ {ws : List Str} {xs : List V}, RPs K ex H (ws.map PyData.str) xs → xs = ws.map V.str
  | [], xs, h => by simpa [RPs] using h
  | w :: ws, xs, h => by
    simp only [List.map_cons, RPs] at h
    obtain ⟨v, r, rfl, h1, h2⟩ := h
    simp only [RP] at h1
    subst h1
    rw [strs_ofS h2]
    rfl
theorem rp_bl {ex : List Addr} {H : Hp} {b : Bool} : RP K ex H (.bool b) (.bl b) := by simp only [RP]
theorem rp_int {ex : List Addr} {H : Hp} {i : Int} : RP K ex H (.int i) (.int i) := by simp only [RP]
theorem rp_str {ex : List Addr} {H : Hp} {i : Str} : RP K ex H (.str i) (.str i) := by simp only [RP]
theorem ty_list {ex : List Addr} {H : Hp} {ds : List P} {v : V} (r : RP K ex H (.list ds) v) : tyV K "list" v H := by
  simp only [RP] at r
  obtain ⟨L, xs, rfl, q, z⟩ := r
  exact .inl ⟨rfl, xs, q.sq⟩
theorem met_marks {o : Op} {sg : L2.St} {H : Hp} {Q : VK} {ds : List P} {n : Int} (h : Has K rho0 gh m H0 dx a ds sg H) (e : opD o [.p (.list ds), .p (.bool true)] m = .ok [.p (.int n)] m)
    (k : ∀ H1, Has K rho0 gh m H0 dx a ds sg H1 → Q (.int n) H1) :
    tBM K "list" (fun x vs H Q => rOn K EN o (x :: vs) H Q) (tVar 1) (tCons (tC (.bl true)) tNil) sg H Q := by
  obtain ⟨h0, hl, dd, rho, v, x, R, h1, r, hw⟩ := h
  refine ⟨v, h1, ty_list r, rho, gh, m, [.p (.list ds), .p (.bool true)], R, ⟨v, _, rfl, r, .bl true, [], rfl, rp_bl (K := K) (ex := rho ++ gh) (H := H), rfl⟩, ?_⟩
  rw [e]
  intro rho2 H2 vs x2 R2 rd
  obtain ⟨u2, rfl, r2⟩ := RDs.one_of rd
  have r2 : RP K (rho2 ++ gh) H2 (.int n) u2 := r2
  simp only [RP] at r2
  subst r2
  exact ⟨_, rfl, k H2 ⟨h0, hl, dd, rho2, v, x.trans x2, R2, h1, x2.rp r, fun u e => x2.rp (hw u e)⟩⟩
def tWords : TE := tLst (kwAll.foldr (fun w t => tCons (tC (.str w)) t) tNil)
theorem kind3 {D : Ends} {sg : L2.St} {H : Hp} {ds : List P} (h : Has K rho0 gh m H0 dx a ds sg H) (k : ∀ sg1 H1, Has K rho0 gh m H0 dx a ds sg1 H1 → (∃ u, sg1[2]? = some (some u)) → D.nx sg1 H1) : tAsg tWords (gName 2) D sg H := by
  obtain ⟨h0, hl, dd, rho, v, x, R, h1, r, hw⟩ := h
  refine ⟨line_sz (by show 12 ≤ 100000; decide), fun L hL => k _ _ ⟨by rw [List.getElem?_set_ne (by decide)]; exact h0, set_len hl, dd, rho, v, x.trans (Ext.upd hL), R.upd hL, by rw [List.getElem?_set_ne (by decide)]; exact h1, (Ext.upd hL).rp r, fun u e => ?_⟩ ⟨_, List.getElem?_set_self (by omega)⟩⟩
  rw [List.getElem?_set_self (by omega)] at e
  cases e
  simp only [RP]
  exact ⟨L, _, rfl, ⟨nt_lst upd_same, R.out hL⟩, strs_rps kwAll⟩
theorem kind4 {D : Ends} {sg : L2.St} {H : Hp} {c : Nat} (h1 : 1 ≤ c) (h2 : c < 13) {t u : TS} (h : Has K rho0 gh m H0 dx a (marks c) sg H) (k : ∀ H1, Has K rho0 gh m H0 dx a (marks c) sg H1 → u D sg H1) :
    tIfS (tOr (tTest (tOp (fun x y H Q => rOn K EN .ne [x, y] H Q) (tBM K "list" (fun x vs H Q => rOn K EN .count (x :: vs) H Q) (tVar 1) (tCons (tC (.bl true)) tNil)) (tC (.int 1)))) (tNot (tB (tHas dx a true)))) t u D sg H := by
  refine met_marks h (marks_count h1 h2) fun H1 hh => ?_
  obtain ⟨h0, hl, dd, rho, v, x, R, e1, r, hw⟩ := hh
  refine ⟨rho, gh, m, [.p (.int 1), .p (.int 1)], R, ⟨.int 1, _, rfl, rp_int (K := K) (ex := rho ++ gh) (H := H1), .int 1, [], rfl, rp_int (K := K) (ex := rho ++ gh) (H := H1), rfl⟩, ?_⟩
  have e : opD .ne [.p (.int 1), .p (.int 1)] m = .ok [.p (.bool false)] m := by kernel_rfl
  rw [e]
  intro rho2 H2 vs x2 R2 rd
  obtain ⟨u2, rfl, r2⟩ := RDs.one_of rd
  have r2 : RP K (rho2 ++ gh) H2 (.bool false) u2 := r2
  simp only [RP] at r2
  subst r2
  refine ⟨_, rfl, false, rfl, ?_⟩
  simp only [Bool.false_eq_true, if_false]
  exact ⟨⟨h0, (dd.ext (x.trans x2)).ok⟩, true, rfl, k H2 ⟨h0, hl, dd, rho2, v, x.trans x2, R2, e1, x2.rp r, fun u e => x2.rp (hw u e)⟩⟩
theorem kind5 {D : Ends} {sg : L2.St} {H : Hp} {c : Nat} (h1 : 1 ≤ c) (h2 : c < 13) (h : Has K rho0 gh m H0 dx a (marks c) sg H) (hu : ∃ u, sg[2]? = some (some u)) (k : ∀ rho H1, Ext rho0 H0 rho H1 → Rel K rho gh m H1 → D.rt (.str (kw c)) H1) :
    tRet (tOp (rIx K) (tVar 2) (tBM K "list" (fun x vs H Q => rOn K EN .index (x :: vs) H Q) (tVar 1) (tCons (tC (.bl true)) tNil))) D sg H := by
  obtain ⟨u, hu⟩ := hu
  refine ⟨u, hu, met_marks h (marks_index h1 h2) fun H1 hh => ?_⟩
  obtain ⟨h0, hl, dd, rho, v, x, R, e1, r, hw⟩ := hh
  have w := hw u hu
  simp only [RP] at w
  obtain ⟨L, xs, rfl, q, z⟩ := w
  have ex : xs = kwAll.map V.str := strs_ofS z
  subst ex
  exact .inl ⟨L, _, _, _, rfl, rfl, q.sq, kw_at h1 h2, k rho H1 x R⟩
end
end M
namespace M
open PySem PySem.Spec PyProof.Rows L2
section
variable {X : Cx} {a : Addr} {dx : Option Addr} {oe : Obj} {c : Nat}
theorem pe_never {X : Cx} {e : Expr} : PE X e (fun _ _ _ => False) := ⟨fun _ _ _ _ _ _ h => h.elim⟩
theorem pss_never {X : Cx} {e : List Stmt} : PSs X e (fun _ _ _ => False) := ⟨fun _ _ _ _ _ _ h => h.elim⟩
def tKind (K : PySem.W.Frag) (dx : Option Addr) (a : Addr) (c : Nat) : TS := fun D sg H => sg[0]? = some (some (.ref a)) ∧ 3 = sg.length ∧ sg[2]? = some none ∧ ∃ rho gh m, DxA dx (rho ++ gh) H ∧ Rel K rho gh m H ∧ ∀ rho1 H1, Ext rho H rho1 H1 → Rel K rho1 gh m H1 → D.rt (.str (kw c)) H1
theorem met_pe {p : Nat → Pos} {i : Nat} {f : Str} {o : Op} {id : String} (n1 : X.N[1]? = some ("_law_marks" : Str)) (v1 : Vis X.env.scope "_law_marks") (sl : Slot "list" f id) (ty : typeOf (.builtin id) = pure (.type "method_descriptor"))
    (hm : MtR X id (fun x vs H Q => rOn X.K EN o (x :: vs) H Q)) (hl : ((p (i + 1)).endLine == (p (i + 3)).line) = true) : PE X (metE p i f) (tBM X.K "list" (fun x vs H Q => rOn X.K EN o (x :: vs) H Q) (tVar 1) (tCons (tC (.bl true)) tNil)) := by
  have few : ((backTo (p (i + 3)) (starEach [Expr.Constant (.bool true) 0 (p (i + 2))] X.env)).all (fun x => !x.1) && (backToKw (p (i + 3)) (keywordEach [] X.env)).all (fun x => x.1.isSome)
      && decide (([Expr.Constant (.bool true) 0 (p (i + 2))] : List Expr).length + ([] : List Keyword).length + (if ([] : List Keyword).isEmpty then 0 else 1) < 30)) = true := by
    rw [back_all (es := [Expr.Constant (.bool true) 0 (p (i + 2))]) rfl]
    rfl
  exact pe_bm PySem.F.plainAttrs_list sl ty hm (pe_var n1 v1) (pa_cons pe_bl pa_nil) rfl few hl rfl rfl
theorem kind_ps {p : Nat → Pos} {w : Str} (so : ∀ j, 1 ≤ j → j < 13 → X.mg (excN j) = some (.ref (He.ga X.K (excN j)))) (hh : InHand X a (He.ga X.K (excN c)) dx oe) (T : ExcT X.K c) (h1 : 1 ≤ c) (h2 : c < 13) (un : X.A.units + 100 < cLine) (hN : X.N = kindN w) (nd : X.N.Nodup)
    (gi : Gl X "isinstance") (mi : X.mg "isinstance" = none) (gv : Gl X "ValueError") (mv : X.mg "ValueError" = none) (ge : ∀ j, 1 ≤ j → j < 13 → Gl X (excN j)) (l0 : X.env.scope.names.lookup ("_law_e" : Str) = some .local) (l1 : X.env.scope.names.lookup ("_law_marks" : Str) = some .local) (l2 : X.env.scope.names.lookup w = some .local)
    (d1 : (w == ("__debug__" : Str)) = false) (d2 : (w == ("__classdict__" : Str)) = false) (q1 : ((p 77).endLine == (p 79).line) = true) (q2 : ((p 93).endLine == (p 95).line) = true) : PSs X (kindBody p w) (tKind X.K dx a c) := by
  have n0 : X.N[0]? = some ("_law_e" : Str) := by rw [hN]; rfl
  have n1 : X.N[1]? = some ("_law_marks" : Str) := by rw [hN]; rfl
  have n2 : X.N[2]? = some w := by rw [hN]; rfl
  have is : ∀ (i j : Nat), 1 ≤ j → j < 13 → PE X (isaE p i (excN j)) (tHas dx a (decide (c = j))) := fun i j a1 a2 => by
    refine pe_isa hh gi mi n0 (.inl l0) (ge j a1 a2) (so j a1 a2) ?_ (T.one j a1 a2)
    rcases c_cases a1 a2 with rfl | rfl | rfl | rfl | rfl | rfl | rfl | rfl | rfl | rfl | rfl | rfl <;> decide +kernel
  have li : ∀ (i j : Nat) (q : Pos), 1 ≤ j → j + 3 < 13 → PE X (.List [isaE p i (excN j), isaE p (i + 4) (excN (j + 1)), isaE p (i + 8) (excN (j + 2)), isaE p (i + 12) (excN (j + 3))] q) (tFour dx a (decide (c = j)) (decide (c = j + 1)) (decide (c = j + 2)) (decide (c = j + 3))) := fun i j q a1 a2 =>
    pe_lst (pa_cons (is i j a1 (by omega)) (pa_cons (is _ _ (by omega) (by omega)) (pa_cons (is _ _ (by omega) (by omega)) (pa_cons (is _ _ (by omega) (by omega)) pa_nil))))
  have g1 : ∀ q : Pos, PG X (.Name ("_law_marks" : Str) q) (gName 1) := fun q => pg_name nd n1 (.inl l1) (.inr l1)
  have s1 := ps_asg (pos := p 18) (li 1 1 (p 17) (by decide) (by decide)) (g1 (p 0))
  have s2 := ps_asg (pos := p 39) (pe_op (pos := p 38) (rO_addL (E := EN) (k := false)) (pe_var (pos := p 20) n1 (.inl l1)) (li 21 5 (p 37) (by decide) (by decide))) (g1 (p 19))
  have s3 := ps_asg (pos := p 60) (pe_op (pos := p 59) (rO_addL (E := EN) (k := false)) (pe_var (pos := p 41) n1 (.inl l1)) (li 42 9 (p 58) (by decide) (by decide))) (g1 (p 40))
  have s4 : PS X (.Assign [nmE p 61 w] (.List [strE p 62 "board", strE p 63 "pins", strE p 64 "pin", strE p 65 "look", strE p 66 "number", strE p 67 "stand", strE p 68 "row", strE p 69 "laid", strE p 70 "deed", strE p 71 "text", strE p 72 "line", strE p 73 "few"] (p 74)) (p 75)) (tAsg tWords (gName 2)) :=
    ps_asg (pe_lst (pa_cons pe_str (pa_cons pe_str (pa_cons pe_str (pa_cons pe_str (pa_cons pe_str (pa_cons pe_str (pa_cons pe_str (pa_cons pe_str (pa_cons pe_str (pa_cons pe_str (pa_cons pe_str (pa_cons pe_str pa_nil)))))))))))))  (pg_name nd n2 (.inl l2) (.inr l2))
  have mc := met_pe (p := p) (i := 76) (o := .count) n1 (.inl l1) PySem.F.slot_list_count PySem.F.type_list_count (rM_count (E := EN) un) q1
  have mx := met_pe (p := p) (i := 92) (o := .index) n1 (.inl l1) PySem.F.slot_list_index PySem.F.type_list_index (rM_index (E := EN) un) q2
  have hu : X.A.units + 64 < cLine := by omega
  have s5 := ps_if (pos := p 90) (a := [.Return (some (strE p 88 "other")) (p 89)]) (b := []) (u := tNext) (PW.pt (pw_or (pos := p 87) (pt_cmpR (pos := p 81) (rO_ne (E := EN) hu) mc (pe_int (i := 1) (j := 0) (pos := p 80)) (nobehind _ (by decide) (by decide)))
    (pw_or1 (pt_not (pos := p 86) (pt_val (pe_isaV (p := p) (i := 82) hh gi mi n0 (.inl l0) gv mv T.val)))))) pss_never pss_nil
  have s6 := ps_ret (pos := p 97) (pe_ix (pos := p 96) ix_seq (pe_var (pos := p 91) n2 (.inl l2) d1 d2) mx fun _ _ => rfl)
  refine ⟨fun pins s sg H D I h => (pss_cons s1 (pss_cons s2 (pss_cons s3 (pss_cons s4 (pss_cons s5 (pss_one s6)))))).run pins s sg H D I ?_⟩
  obtain ⟨h0, hl, h2', rho, gh, m, dd, R, k⟩ := h
  refine kind1 h0 hl h2' dd R fun sg1 H1 a1 => ?_
  refine kind2 a1 (by simp) fun sg2 H2 a2 => ?_
  refine kind2 a2 (by simp) fun sg3 H3 a3 => ?_
  refine kind3 a3 fun sg4 H4 a4 hu4 => ?_
  show tSeq _ _ D sg4 H4
  unfold tSeq
  dsimp only
  refine kind4 h1 h2 a4 fun H5 a5 => ?_
  exact kind5 h1 h2 a5 hu4 k
theorem pe_kind {p1 p2 p3 : Pos} (so : SaidOk X.K X.mg) (hh : InHand X a (He.ga X.K (excN c)) dx oe) (h1 : 1 ≤ c) (h2 : c < 13) (rm : L2H.RoomH 2 X.A) (gk : Gl X "_law_kind") (n1 : X.N[1]? = some ("_law_e" : Str)) (v1 : Vis X.env.scope "_law_e") :
    PE X (.Call (.Name "_law_kind" p1) [.Name "_law_e" p2] [] p3) (fun sg H Q => sg[1]? = some (some (.ref a)) ∧ ∃ rho gh m, DxA dx (rho ++ gh) H ∧ Rel X.K rho gh m H ∧ ∀ rho1 H1, Ext rho H rho1 H1 → Rel X.K rho1 gh m H1 → Q (.str (kw c)) H1) := by
  refine ⟨fun pins s sg H Q I h => ?_⟩
  obtain ⟨h0, hR⟩ := h
  obtain ⟨g, fd, pg, sc, p, w, F, mk, hb, S, g1, g2, g3, l0, l1, l2, d1, d2, q1, q2⟩ := so.kind
  obtain ⟨oc, od, dV, kV, doc, pm, an, cd, ct, osl, rfl, lk, hcd, _, _⟩ := F.ex
  refine wpAny_Call_Name_kw (ld_glob I gk mk ?_ (by decide +kernel))
  refine PySem.W.callWith_K (h₀ := X.base) I.ok.mod.kin F.kp (thn ((pa_cons (pe_var (pos := p2) n1 v1) pa_nil).run p3 pins s sg H (fun vs H1 => vs = [V.ref a] ∧ H1 = H) I ⟨_, h0, rfl, rfl⟩) fun us s1 hq => ?_) (by rfl) (by rfl)
  obtain ⟨vs, H1, I1, r, e1, e2⟩ := hq
  subst e1 e2
  refine ⟨I1.kIn, ?_⟩
  have hl : us.length = 1 := by rw [← r.length]; rfl
  have bt := hb s1 us I1.kIn (by rw [List.append_nil]; exact hl)
  rw [List.append_nil] at bt
  have P1 := I1.pin (a, oe) (List.mem_append_left _ hh.pn)
  have hpin : L2H.PinOk X.stack H1 s1 (a, oe) := ⟨P1.1, P1.2.1, fun hm => (List.mem_cons.mp (I1.stkSub a hm)).elim P1.2.2.1 P1.2.2.2.1, P1.2.2.2.2⟩
  have e0 := I1.env0
  have kin : X.K.In s1.heap := e0.mod.kin.keeps fun b o z => (e0.bs b o z).1
  have nol : s1.heap.NoLimit := e0.mod.nolimit.keeps fun b o z => (e0.bs b o z).1
  have kinds : ∀ y ∈ (["_law_e"] : List Str).zip us, sc.names.lookup y.1 = some .local ∨ sc.names.lookup y.1 = some .cell ∧ ((cellsFrom (s1.heap.objs.size + 1) sc.names []).lookup y.1).isSome = true := by
    rintro ⟨n, v⟩ hy
    exact (S.par n (List.of_mem_zip hy).1).imp id fun q => ⟨q, PySem.W.cellsFrom_some _ _ _ (.inl q)⟩
  have run : codeAny (model X.prog X.w) X.A (.call (.ref g) ⟨us, []⟩) (CR C8.CX0 X.stack X.prog X.w H1 s1 Q C8.E0) s1 := by
    refine codeAny_call_function rm.depth (kin _ _ lk) rfl S.co S.gen rfl (PySem.W.codeRec_of kin hcd) (bt _ _ _ _ (wpAny_newFunctionEnv_cells S.kind kinds fun env he s2 st => ?_))
    subst he
    refine ⟨nol.keeps st.toInCall.keep, codeAny_func ?_⟩
    have J := L2H.inv_startH (CX := C8.CX0) (E := C8.E0) (w := X.w) S hpin e0 rfl r st
    have un : (X.A.deeper (envOfC "_law_kind" sc s1.heap.objs.size g cd)).units + 100 < cLine := by
      have := (rm.deeper (envOfC "_law_kind" sc s1.heap.objs.size g cd)).un
      omega
    have ps := kind_ps (X := L2H.cxH C8.CX0 X.prog X.w X.K X.mg X.base (kindN w) "_law_kind" sc g cd X.A X.stack s1 H1 C8.E0 (a, oe)) (a := a) (dx := dx) (oe := oe) (c := c) (p := p) (w := w)
      (fun j a1 a2 => so.exc j a2) ⟨List.mem_singleton.mpr rfl, hh.z, hh.f, hh.c⟩ (so.tel c h1 h2) h1 h2 un rfl S.nd g1 so.isa g2 so.val g3 l0 l1 l2 d1 d2 q1 q2
    refine wpAny_mono (ps.run [] s2 _ H1 { nx := fun _ H' => Q .non H', rt := Q } J ⟨rfl, rfl, rfl, hR⟩) (fun fl s3 hs => ?_) fun e s3 z => ?_
    · cases fl with
      | ret u =>
        obtain ⟨v, sg3, H3, J3, rv, qq⟩ := hs
        exact ⟨v, H3, J3.os, J3.bare, J3.base, J3.hok, rv, qq⟩
      | next =>
        obtain ⟨sg3, H3, J3, qq⟩ := hs
        exact ⟨.non, H3, J3.os, J3.bare, J3.base, J3.hok, rfl, qq⟩
      | brk =>
        obtain ⟨_, _, _, no⟩ := hs
        exact no.elim
      | cont =>
        obtain ⟨_, _, _, no⟩ := hs
        exact no.elim
    · exact z
  refine wpAny_call (codeAny_mono run fun res s3 hq => ?_)
  match res, hq with
  | .error e, hq => exact (show False from hq).elim
  | .ok (.ret u), hq => exact I1.after hq
  | .ok .next, hq => exact hq.elim
  | .ok .brk, hq => exact hq.elim
  | .ok .cont, hq => exact hq.elim
end
end M
namespace M
open PySem PySem.Spec PyProof.Rows L2
section
variable {K : PySem.W.Frag} {rho gh : List Addr} {m : MH} {H : Hp} {Q : VK}
theorem rOn2 {o : Op} {x y : Str} {d : P} {v : V} (R : Rel K rho gh m H) (e : opD o [.p (.str x), .p (.str y)] m = .ok [.p d] m) (hv : ∀ ex H u, RP K ex H d u → u = v) (k : ∀ rho2 H2, Ext rho H rho2 H2 → Rel K rho2 gh m H2 → Q v H2) : rOn K EN o [.str x, .str y] H Q := by
  refine ⟨rho, gh, m, [.p (.str x), .p (.str y)], R, ⟨_, _, rfl, rp_str (K := K) (ex := rho ++ gh) (H := H), _, [], rfl, rp_str (K := K) (ex := rho ++ gh) (H := H), rfl⟩, ?_⟩
  rw [e]
  intro rho2 H2 vs x2 R2 rd
  obtain ⟨u, rfl, r⟩ := RDs.one_of rd
  have eu := hv _ _ _ (show RP K (rho2 ++ gh) H2 d u from r)
  subst eu
  exact ⟨_, rfl, k rho2 H2 x2 R2⟩
theorem rOn1 {o : Op} {x : Int} {d : P} {v : V} (R : Rel K rho gh m H) (e : opD o [.p (.int x)] m = .ok [.p d] m) (hv : ∀ ex H u, RP K ex H d u → u = v) (k : ∀ rho2 H2, Ext rho H rho2 H2 → Rel K rho2 gh m H2 → Q v H2) : rOn K EN o [.int x] H Q := by
  refine ⟨rho, gh, m, [.p (.int x)], R, ⟨_, _, rfl, rp_int (K := K) (ex := rho ++ gh) (H := H), rfl⟩, ?_⟩
  rw [e]
  intro rho2 H2 vs x2 R2 rd
  obtain ⟨u, rfl, r⟩ := RDs.one_of rd
  have eu := hv _ _ _ (show RP K (rho2 ++ gh) H2 d u from r)
  subst eu
  exact ⟨_, rfl, k rho2 H2 x2 R2⟩
theorem rp_str_eq {z : Str} : ∀ ex H u, RP K ex H (.str z) u → u = .str z := fun ex H u r => by simpa only [RP] using r
theorem rp_bl_eq {z : Bool} : ∀ ex H u, RP K ex H (.bool z) u → u = .bl z := fun ex H u r => by simpa only [RP] using r
end
def Told (K : PySem.W.Frag) (Q : VK) (cls : Value) (dx : Option Addr) (H : Hp) : Prop :=
  ∃ c fs w, wordX c fs = some w ∧ ∃ rho gh m, Rel K rho gh m H ∧ ExcOk K c fs cls dx (rho ++ gh) H ∧ ∀ rho2 H2, Ext rho H rho2 H2 → Rel K rho2 gh m H2 → Q (.str w) H2
theorem word_le {c : Nat} {w : Str} (h : wordX c [] = some w) : 1 ≤ c ∧ c < 12 := by
  unfold wordX at h
  simp only at h
  split at h <;> first
    | omega
    | cases h
theorem word_few {c : Nat} {i j : Int} {w : Str} (h : wordX c [.int i, .int j] = some w) : w = fewW i j ∧ i.natAbs.log2 < 1920 ∧ j.natAbs.log2 < 1920 ∧ (fewW i j).length ≤ 100000 := by
  unfold wordX at h
  simp only at h
  split at h
  · rename_i z
    simp only [Bool.and_eq_true, decide_eq_true_eq] at z
    simp only [Option.some.injEq] at h
    exact ⟨h.symm, z.1.1.2, z.1.2, z.2⟩
  · cases h
theorem app_len (a b : Str) : (a ++ b).length = a.length + b.length := by
  show (a.cps ++ b.cps).size = _
  simp [Str.length]
theorem o_addSt {x y : Str} {m : MH} (h : x.length + y.length ≤ 100000) : opD .add [.p (.str x), .p (.str y)] m = .ok [.p (.str (x ++ y))] m := by
  simp only [opD, d_add, addP, h, if_true, ok1]
theorem o_strI {i : Int} {m : MH} (h : i.natAbs.log2 < 1920) : opD .str [.p (.int i)] m = .ok [.p (.str (Str.ofString (toString i)))] m := by
  simp only [opD, d_str, decide_eq_true h, if_true, ok1]
def TTsaid (K : PySem.W.Frag) : (XK → Hp → VK → Prop) → Hp → VK → Prop := fun tl H Q => tl (Told K Q) H (fun v H1 => rOn K EN .repr [v] H1 Q)
def wd (c : Nat) : Str := "! " ++ kw c
theorem wd_add {c : Nat} {m : MH} (h1 : 1 ≤ c) (h2 : c < 12) : opD .add [.p (.str "! "), .p (.str (kw c))] m = .ok [.p (.str (wd c))] m := by
  rcases c_cases h1 (by omega) with rfl | rfl | rfl | rfl | rfl | rfl | rfl | rfl | rfl | rfl | rfl | rfl <;> kernel_rfl
theorem wd_end {c : Nat} {m : MH} {w : Str} (h1 : 1 ≤ c) (h2 : c < 12) (e : wordX c [] = some w) : opD .add [.p (.str (wd c)), .p (.str "")] m = .ok [.p (.str w)] m := by
  rcases c_cases h1 (by omega) with rfl | rfl | rfl | rfl | rfl | rfl | rfl | rfl | rfl | rfl | rfl | rfl <;> first
    | omega
    | (cases e; kernel_rfl)
theorem wd_few {c : Nat} {m : MH} (h1 : 1 ≤ c) (h2 : c < 12) : opD .eq [.p (.str (kw c)), .p (.str "few")] m = .ok [.p (.bool false)] m := by
  rcases c_cases h1 (by omega) with rfl | rfl | rfl | rfl | rfl | rfl | rfl | rfl | rfl | rfl | rfl | rfl <;> first
    | omega
    | kernel_rfl
section
variable {X : Cx}
def tHand (K : PySem.W.Frag) (a : Addr) (cls : Value) (dx : Option Addr) : TS := fun D sg H => (1 < sg.length → sg[1]? = some (some (.ref a))) ∧ Told K D.rt cls dx H
theorem said_gives (sm : SmB X.base) (so : SaidOk X.K X.mg) {g : Addr} {cd : Value} {sc : Scope} {p : Nat → Pos} {q : Str} (S : FnScope saidN ["_law_call"] sc) (gr : glob sc "repr") (gp : glob sc "PinError") (gk : glob sc "_law_kind") (gs : glob sc "str") (l1 : loc1 sc "_law_e") (l2 : loc1 sc "_law_label") (gd : X.A.guards = some []) (rm : Room 4 X.A) :
    LamX.GivesTo X saidN "_law_said" sc g cd (saidBody p) "_law_call" q (TTsaid X.K) := by
  intro f c' s H Q tl act hc h
  have rm3 := rm.deeper (envOfC "_law_said" sc s.heap.objs.size g cd)
  have un : (X.A.deeper (envOfC "_law_said" sc s.heap.objs.size g cd)).units + 100 < cLine := by
    have := rm3.un
    omega
  refine ⟨_, pss_one (ps_try_as (X := (cxOf C8.CX0 X.prog X.w X.K X.mg X.base saidN "_law_said" sc g cd X.A X.stack s H C8.E0).nox) (c := .ref (He.ga X.K (excN 0))) (i := 1)
    (tb := fun W D sg H => ∃ Ech : XK, (∀ cls d sg1 H1, Ech cls d H1 → W cls d sg1 H1) ∧ sg[0]? = some (some (.ref f)) ∧ H c' = some (LamX.CodeO c' q) ∧ tl Ech H (fun v H1 => rOn X.K EN .repr [v] H1 D.rt))
    (ts := tHand X.K) rfl rfl S.nd rfl l1 ⟨gp, by decide +kernel, .inl (so.exc 0 (by decide))⟩ LamX.takes0 (fun W pn xe tk _ => ?_) (fun a oe cls d pn hz hf => ?_)), ?_⟩
  · refine ⟨fun pins s1 sg H1 D I h1 => ?_⟩
    obtain ⟨Ech, hW, k1, k2, k3⟩ := h1
    have hp := act W pn xe Ech (p 1) (p 2) tk hW
    have rr := rC_repr (X := (cxOf C8.CX0 X.prog X.w X.K X.mg X.base saidN "_law_said" sc g cd X.A X.stack s H C8.E0).tr pn xe) (E := EN) sm gd un
    exact (pss_one (ps_ret (pos := p 4) (pe_callB (p := p 0) (pos := p 3) rr gr so.repr (by decide +kernel) (pa_cons hp pa_nil) (by decide +kernel) (by decide +kernel)))).run pins s1 sg H1 D I ⟨k1, k2, k3⟩
  · refine ⟨fun pins s1 sg H1 D I h1 => ?_⟩
    obtain ⟨hs, c, fs, w, ew, rho, gh, m, R, ek, k⟩ := h1
    obtain ⟨rfl, ek⟩ := ek
    have hl : sg.length = 3 := I.len
    have cb : 1 ≤ c ∧ c < 13 := by
      rcases ek with ⟨rfl, _⟩ | ⟨rfl, _⟩
      · have := word_le ew
        omega
      · omega
    obtain ⟨c1, c2⟩ := cb
    have dd : DxA d (rho ++ gh) H1 := by
      rcases ek with ⟨_, rfl⟩ | ⟨_, i, j, d0, _, rfl, z⟩
      · exact fun _ e => nomatch e
      · intro d1 e
        cases e
        exact ⟨_, z⟩
    have hh : InHand (Cx.suite (cxOf C8.CX0 X.prog X.w X.K X.mg X.base saidN "_law_said" sc g cd X.A X.stack s H C8.E0).nox a ((a, oe) :: pn)) a (He.ga X.K (excN c)) d oe := ⟨List.mem_cons_self, hz, hf, (so.tel c c1 (by omega)).cl⟩
    have e1 := pe_kind (X := Cx.suite (cxOf C8.CX0 X.prog X.w X.K X.mg X.base saidN "_law_said" sc g cd X.A X.stack s H C8.E0).nox a ((a, oe) :: pn)) (a := a) (dx := d) (oe := oe) (c := c) (p1 := p 7) (p2 := p 8) (p3 := p 9) so hh c1 (by omega) ⟨(rm3.mono (j := 2) (by decide)).dp, (rm3.mono (j := 2) (by decide)).un⟩ gk rfl (.inl l1)
    have s1 := ps_asg (pos := p 10) e1 (pg_name (X := Cx.suite (cxOf C8.CX0 X.prog X.w X.K X.mg X.base saidN "_law_said" sc g cd X.A X.stack s H C8.E0).nox a ((a, oe) :: pn)) (i := 2) (x := ("_law_label" : Str)) (pos := p 6) S.nd rfl (.inl l2) (.inr l2))
    have v2 := fun q0 : Pos => pe_var (X := Cx.suite (cxOf C8.CX0 X.prog X.w X.K X.mg X.base saidN "_law_said" sc g cd X.A X.stack s H C8.E0).nox a ((a, oe) :: pn)) (i := 2) (x := ("_law_label" : Str)) (pos := q0) rfl (.inl l2)
    have hu : (Cx.suite (cxOf C8.CX0 X.prog X.w X.K X.mg X.base saidN "_law_said" sc g cd X.A X.stack s H C8.E0).nox a ((a, oe) :: pn)).A.units + 64 < cLine := by
      have : (X.A.deeper (envOfC "_law_said" sc s.heap.objs.size g cd)).units + 64 < cLine := by omega
      exact this
    have es : (sg.set 2 (some (V.str (kw c))))[2]? = some (some (V.str (kw c))) := List.getElem?_set_self (by omega)
    have h1e : sg[1]? = some (some (.ref a)) := hs (by omega)
    rcases ek with ⟨rfl, _⟩ | ⟨rfl, i, j, d0, rfl, rfl, atd⟩
    · have c3 := (word_le ew).2
      have s2 := ps_ret (pos := p 33) (pe_op (pos := p 32) (rO_add (E := EN)) (pe_op (pos := p 13) (rO_add (E := EN)) (pe_str (j := 0) (pos := p 11) (x := ("! " : Str))) (v2 (p 12)))
        (pe_ifExp (pos := p 31) (pt_cmpR (pos := p 16) (rO_eq (E := EN) hu) (v2 (p 14)) (pe_str (j := 0) (pos := p 15) (x := ("few" : Str))) (nobehind _ (by decide) (by decide)))
          (pe_never (e := addE p 29 (addE p 24 (addE p 22 (strE p 17 " ") (fldE p 18 "many")) (strE p 23 " ")) (fldE p 25 "least"))) (pe_str (j := 0) (pos := p 30) (x := ("" : Str)))))
      refine (pss_cons s1 (pss_one s2)).run pins _ sg H1 D I ⟨h1e, rho, gh, m, dd, R, fun rho1 H2 x1 R1 => ?_⟩
      refine ⟨_, es, rOn2 R1 (wd_add c1 c3) rp_str_eq fun rho2 H3 x2 R2 => ?_⟩
      refine ⟨_, es, rOn2 R2 (wd_few c1 c3) rp_bl_eq fun rho3 H4 x3 R3 => ⟨false, rfl, ?_⟩⟩
      simp only [Bool.false_eq_true, if_false]
      exact rOn2 R3 (wd_end c1 c3 ew) rp_str_eq fun rho4 H5 x4 R4 => k rho4 H5 (x1.trans (x2.trans (x3.trans x4))) R4
    · obtain ⟨rfl, b1, b2, b3⟩ := word_few ew
      have ec := (so.tel 12 (by decide) (by decide)).cl
      have T : XfC X.K (He.ga X.K (excN 12)) := ⟨ec.hg, ec.hk, ec.hs, ec.hd⟩
      have fe := fun (i : Nat) (f : Str) (hno : PySem.W.findIn X.K (.ref (He.ga X.K (excN 12))) f = some none) => pe_callTy (X := Cx.suite (cxOf C8.CX0 X.prog X.w X.K X.mg X.base saidN "_law_said" sc g cd X.A X.stack s H C8.E0).nox a ((a, oe) :: pn)) (p := p i) (pos := p (i + 3)) (rC_str (E := EN)) gs so.str (show bootBuiltins ("str" : Str) = some (.type "str") by decide +kernel)
        (pa_cons (pe_xf (X := (cxOf C8.CX0 X.prog X.w X.K X.mg X.base saidN "_law_said" sc g cd X.A X.stack s H C8.E0).nox) (pos := p (i + 2)) T hno hz hf (pe_var (pos := p (i + 1)) (i := 1) (x := ("_law_e" : Str)) rfl (.inl l1))) pa_nil) (by decide +kernel) (by decide +kernel)
      have s2 := ps_ret (pos := p 33) (pe_op (pos := p 32) (rO_add (E := EN)) (pe_op (pos := p 13) (rO_add (E := EN)) (pe_str (j := 0) (pos := p 11) (x := ("! " : Str))) (v2 (p 12)))
        (pe_ifExp (pos := p 31) (pt_cmpR (pos := p 16) (rO_eq (E := EN) hu) (v2 (p 14)) (pe_str (j := 0) (pos := p 15) (x := ("few" : Str))) (nobehind _ (by decide) (by decide)))
          (pe_op (pos := p 29) (rO_add (E := EN)) (pe_op (pos := p 24) (rO_add (E := EN)) (pe_op (pos := p 22) (rO_add (E := EN)) (pe_str (j := 0) (pos := p 17) (x := (" " : Str))) (fe 18 "many" so.no1)) (pe_str (j := 0) (pos := p 23) (x := (" " : Str)))) (fe 25 "least" so.no2)) (pe_str (j := 0) (pos := p 30) (x := ("" : Str)))))
      refine (pss_cons s1 (pss_one s2)).run pins _ sg H1 D I ⟨h1e, rho, gh, m, dd, R, fun rho1 H2 x1 R1 => ?_⟩
      have e1s : (sg.set 2 (some (V.str (kw 12))))[1]? = some (some (V.ref a)) := by rw [List.getElem?_set_ne (by decide)]; exact h1e
      have k12 : opD .eq [.p (.str (kw 12)), .p (.str "few")] m = .ok [.p (.bool true)] m := by kernel_rfl
      have hw : fewW i j = wd 12 ++ (((Str.ofString " " ++ Str.ofString (toString i)) ++ Str.ofString " ") ++ Str.ofString (toString j)) := rfl
      have lw := b3
      rw [hw, app_len, app_len, app_len, app_len] at lw
      have n1 : (Str.ofString " ").length = 1 := by decide +kernel
      have a0 : opD .add [.p (.str "! "), .p (.str (kw 12))] m = .ok [.p (.str (wd 12))] m := by kernel_rfl
      have a1 : opD .add [.p (.str (Str.ofString " ")), .p (.str (Str.ofString (toString i)))] m = .ok [.p (.str (Str.ofString " " ++ Str.ofString (toString i)))] m := o_addSt (by omega)
      have a2 : opD .add [.p (.str (Str.ofString " " ++ Str.ofString (toString i))), .p (.str (Str.ofString " "))] m = .ok [.p (.str ((Str.ofString " " ++ Str.ofString (toString i)) ++ Str.ofString " "))] m := o_addSt (by rw [app_len]; omega)
      have a3 : opD .add [.p (.str ((Str.ofString " " ++ Str.ofString (toString i)) ++ Str.ofString " ")), .p (.str (Str.ofString (toString j)))] m = .ok [.p (.str (((Str.ofString " " ++ Str.ofString (toString i)) ++ Str.ofString " ") ++ Str.ofString (toString j)))] m := o_addSt (by rw [app_len, app_len]; omega)
      have a4 : opD .add [.p (.str (wd 12)), .p (.str (((Str.ofString " " ++ Str.ofString (toString i)) ++ Str.ofString " ") ++ Str.ofString (toString j)))] m = .ok [.p (.str (fewW i j))] m := by rw [o_addSt (by rw [app_len, app_len, app_len]; omega), hw]
      have at0 := fun {rho2 H2} (x : Ext rho H1 rho2 H2) => (x.at (gh := gh) _ _ atd).1.1
      refine ⟨_, es, rOn2 R1 a0 rp_str_eq fun rho2 H3 x2 R2 => ?_⟩
      refine ⟨_, es, rOn2 R2 k12 rp_bl_eq fun rho3 H4 x3 R3 => ⟨true, rfl, ?_⟩⟩
      simp only [if_true]
      refine ⟨_, e1s, rfl, rfl, d0, _, _, rfl, at0 (x1.trans (x2.trans x3)), (show (fewF i j).lookup ("many" : Str) = some (.int i) from by kernel_rfl), ?_⟩
      refine rOn1 R3 (o_strI b1) rp_str_eq fun rho4 H5 x4 R4 => ?_
      refine rOn2 R4 a1 rp_str_eq fun rho5 H6 x5 R5 => ?_
      refine rOn2 R5 a2 rp_str_eq fun rho6 H7 x6 R6 => ?_
      refine ⟨_, e1s, rfl, rfl, d0, _, _, rfl, at0 (x1.trans (x2.trans (x3.trans (x4.trans (x5.trans x6))))), (show (fewF i j).lookup ("least" : Str) = some (.int j) from by kernel_rfl), ?_⟩
      refine rOn1 R6 (o_strI b2) rp_str_eq fun rho7 H8 x7 R7 => ?_
      refine rOn2 R7 a3 rp_str_eq fun rho8 H9 x8 R8 => ?_
      exact rOn2 R8 a4 rp_str_eq fun rho9 H10 x9 R9 => k rho9 H10 (x1.trans (x2.trans (x3.trans (x4.trans (x5.trans (x6.trans (x7.trans (x8.trans x9)))))))) R9
  · refine ⟨Told X.K Q, fun cls d sg1 H1 hT => ?_, rfl, hc, h⟩
    obtain ⟨c, fs, w, ew, rho, gh, m, R, ⟨rfl, ek⟩, hR⟩ := hT
    have cb : 1 ≤ c ∧ c < 13 := by
      rcases ek with ⟨rfl, _⟩ | ⟨rfl, _⟩
      · have := word_le ew
        omega
      · omega
    exact ⟨true, (so.tel c cb.1 cb.2).pin, fun _ a na => ⟨fun hl => List.getElem?_set_self (by simpa using hl), c, fs, w, ew, rho, gh, m, R, ⟨rfl, ek⟩, hR⟩, fun z => nomatch z⟩
end
end M
namespace M
open PySem PySem.Spec PyProof.Rows L2
section
variable {G : Gs} {cf : CF} {N : List Str} {sc : Scope} {E : XK} {X : Cx}
theorem d_repr_noexc {xs : List D} {m : MH} {c : Nat} {fs : List P} {m1 : MH} : d_repr xs m ≠ .exc c fs m1 := fun h => by
  unfold d_repr at h
  split at h
  · cases h
  · split at h
    · split at h
      · cases h
      · unfold reprT at h
        split at h <;> cases h
    · cases h
  · cases h
theorem d_repr_one {xs : List D} {m : MH} {ys : List D} {m1 : MH} (h : d_repr xs m = .ok ys m1) : ∃ d, xs = [d] := by
  unfold d_repr at h
  split at h
  · exact ⟨_, rfl⟩
  · exact ⟨_, rfl⟩
  · cases h
theorem lam_s (g : GX G cf N sc E X) {scope : Scope} (h : LamX.lamSB sc scope = true) : LamX.LamS X.env.scope scope := by
  have L := LamX.lamS_by h
  refine ⟨L.kind, L.co, L.gen, L.own, fun y hy e => ?_⟩
  rcases L.free y hy e with z | z
  · exact .inl (g.hsc.cel _ z).1
  · exact g.hsc.fre _ z
theorem GX.lamb (g : GX G cf N sc E X) (hs : G.said = true) {scope : Scope} (L : LamX.LamS X.env.scope scope) {A : Around} {outer : List Env} {s : Shared} {H : Hp} {E1 : XK} {f c' : Addr} (gd : A.guards = some []) (rm : ∀ k, Room (k + 2) X.A → Room k (A.deeper (LamX.lamEnv X scope s.heap.objs.size f c')))
    (un : (A.deeper (LamX.lamEnv X scope s.heap.objs.size f c')).units + 100 < cLine) : GX G.low cf N scope E1 (LamX.lamCx X A outer s H E1 scope f c') := by
  refine ⟨⟨fun x h => h, fun x h => h, fun x h => ?_, fun x h => .inr h⟩, g.hN, g.nd, rfl, un, gd, g.vals, g.blts, fun keep f2 x hf => ?_, passes_call (takes_of rfl rfl rfl rfl) fun _ _ _ _ h => h, fun z => (nomatch z), g.sm, g.tbl, g.sgn, fun _ z => nomatch z⟩
  · exact absurd rfl (L.own _ (PySem.mem_of_lookup h)).2
  · obtain ⟨a, fd, ps, k, m1, m2, kin, bnd, kb, room, F⟩ := g.fns keep f2 x hf
    have e : roomS G = 2 := by unfold roomS; rw [hs]; rfl
    rw [e] at room
    exact ⟨a, fd, ps, k, m1, m2, kin, bnd, kb, rm k room, F⟩
theorem lam_act {qg : Str} {sg : Scope} {ga f c' : Addr} {cdg pm ctv : Value} {params : Arguments} {body : Expr} {scope : Scope} {k : Nat} {pn : List (Addr × Obj)} {xe : Value → Shared → Prop} {W : WX} {E1 : XK} {tb : TE} {p1 p2 : Pos} {pins : List (Addr × Obj)} {sg0 : L2.St} {H : Hp} {s : Shared}
    (I : L2.Inv X pins sg0 H s) (L : LamX.LamS X.env.scope scope) (ef : s.heap.get? f = some (PySem.W.kla_obj "<lambda>" (X.env.qual ++ "<lambda>") params body scope (cloFrom X.env.cells scope.names []) pm c' ctv)) (nf : H f = none) (sf : f ∉ frs X.stack)
    (bnd : bindArgs (PySem.W.kla_fn "<lambda>" (X.env.qual ++ "<lambda>") params body scope (cloFrom X.env.cells scope.names []) pm (.ref c') ctv) ⟨[], []⟩ = pure []) (v0 : Vis sg "_law_call")
    (tk : Takes ((cxOf C8.CX0 X.prog X.w X.K X.mg X.base saidN qg sg ga cdg X.A X.stack s H C8.E0).tr pn xe) W) (hW : ∀ cls d s1 H1, E1 cls d H1 → W cls d s1 H1) (rm : Room (k + 1) (X.A.deeper (envOfC qg sg s.heap.objs.size ga cdg)))
    (hb : ∀ (outer : List Env) (s1 : Shared) (H1 : Hp), PE (LamX.lamCx X (X.A.deeper (envOfC qg sg s.heap.objs.size ga cdg)) outer s1 H1 E1 scope f c') body tb) :
    PE ((cxOf C8.CX0 X.prog X.w X.K X.mg X.base saidN qg sg ga cdg X.A X.stack s H C8.E0).tr pn xe) (.Call (.Name "_law_call" p1) [] [] p2)
      (fun sz Hz Q => sz[0]? = some (some (.ref f)) ∧ Hz c' = some (LamX.CodeO c' (X.env.qual ++ "<lambda>")) ∧ tb sg0 Hz Q) := by
  refine ⟨fun pz s1 sz Hz Q J h => ?_⟩
  obtain ⟨k1, k2, k3⟩ := h
  refine wpAny_Call_Name_kw (thn ((pe_var (pos := p1) (i := 0) (x := ("_law_call" : Str)) rfl v0).run pz s1 sz Hz (fun v H1 => v = .ref f ∧ H1 = Hz) J ⟨.ref f, k1, rfl, rfl⟩) fun u s2 hq => ?_)
  obtain ⟨v, H2, J2, rv, ev, eh⟩ := hq
  subst ev eh
  have eu : u = Value.ref f := rv
  subst eu
  have o2 : s2.heap.get? f = some (PySem.W.kla_obj "<lambda>" (X.env.qual ++ "<lambda>") params body scope (cloFrom X.env.cells scope.names []) pm c' ctv) := J2.base.keep f _ ef nf sf fun z => nomatch (show f ∈ ([] : List Addr) from z)
  refine PySem.W.callWith_F0 ⟨_, _, _, _, o2⟩ ?_
  obtain ⟨⟨oc, vs, t, oe1, oe2, oe3⟩, _, _⟩ := J2.hok c' _ k2
  have run : codeAny (model X.prog X.w) (X.A.deeper (envOfC qg sg s.heap.objs.size ga cdg)) (.call (.ref f) ⟨[], []⟩) (CR (L2.CX X.prog X.w) (envOfC qg sg s.heap.objs.size ga cdg :: X.stack) X.prog X.w H2 s2 Q E1) s2 := by
    refine PySem.W.kla_callFunE rm.depth o2 rfl L.co L.gen rfl ⟨c', oc, vs, t, rfl, oe1, oe2, oe3⟩ ?_
    rw [bnd]
    refine wpAny_pure (wpAny_newFunctionEnv (fun y hy => (L.own y hy).2) (fun y hy => absurd hy (by simp)) (fun h1 ns bt => ⟨J2.nolimit.fresh _ bt, ?_⟩) L.kind)
    show codeAny _ _ (.expr body (LamX.lamEnv X scope s2.heap.objs.size f c')) _ _
    have kp : ∀ b o, s2.heap.get? b = some o → h1.get? b = some o := fun b o e => bt.extBut b o (Nat.ne_of_lt (Heap.lt_size e)) (Heap.get?_push_of_some _ e)
    have J3 : L2.Inv (LamX.lamCx X (X.A.deeper (envOfC qg sg s.heap.objs.size ga cdg)) (envOfC qg sg s.heap.objs.size ga cdg :: X.stack) s2 H2 E1 scope f c') [] sg0 H2 { s2 with heap := h1, toks := s2.toks + ([] : List (Str × Value)).length } :=
      LamX.lam_start2 I L J2.env0 rm.hd J2.base ns kp
    refine PySem.W.kla_codeExpr (wpAny_mono ((hb _ s2 H2).run [] _ _ H2 Q J3 k3) (fun v s3 hq => ?_) fun _ _ z => z)
    obtain ⟨w1, H3, J4, rv, q⟩ := hq
    exact ⟨w1, H3, J4.os, J4.bare, J4.base, J4.hok, rv, q⟩
  have hx : Passes (L2.CX X.prog X.w) ((cxOf C8.CX0 X.prog X.w X.K X.mg X.base saidN qg sg ga cdg X.A X.stack s H C8.E0).tr pn xe) E1 := passes_call tk hW
  refine wpAny_call (codeAny_mono run fun res s3 hq => ?_)
  match res, hq with
  | .error e, hq => exact hx pz sz H2 s2 e s3 J2 hq
  | .ok (.ret u), hq => exact J2.after hq
  | .ok .next, hq => exact hq.elim
  | .ok .brk, hq => exact hq.elim
  | .ok .cont, hq => exact hq.elim
theorem no_ps {ps : Arguments} (h : noPs ps = true) : ps = ⟨[], [], none, [], [], none, []⟩ := by
  unfold noPs at h
  split at h
  · rfl
  · cases h
theorem sd_said (g : GX G cf N sc E X) {a : ME} {ps : Arguments} {body : Expr} {scope : Scope} {p lpos pos : Pos} (hs : G.said = true) (hgl : isGl sc nSaid = true) (hp : noPs ps = true) (hl : LamX.lamSB sc scope = true)
    (ih : ∀ (E1 : XK) (X1 : Cx), GX G.low cf N scope E1 X1 → PE X1 body (tE X1.K E1 cf a)) : PE X (.Call (.Name nSaid p) [.Lambda ps body scope lpos] [] pos) (tE X.K E cf (.said a)) := by
  have ep := no_ps hp
  subst ep
  obtain ⟨⟨c, P, hcode, TB, hmT, hu, rm⟩, so⟩ := g.lam hs
  obtain ⟨ga, fd, pg, sg, pp, F, mk, hb, S, gr, gp, gk, gs, l1, l2⟩ := so.said
  obtain ⟨oc, od, dV, kV, doc, pm, an, cd, ct, osl, rfl, lk, hcd, _, _⟩ := F.ex
  have L := lam_s g hl
  refine ⟨fun pins s sg0 H Q I h => ?_⟩
  obtain ⟨rho, gh, env, m, St, w⟩ := h
  refine wpAny_Call_Name_kw (ld_glob I (g.gl hgl) mk ?_ (by decide +kernel))
  refine PySem.W.callWith_K (h₀ := X.base) I.ok.mod.kin F.kp ?_ (by rfl) (by rfl)
  show wpAny _ _ (spliced ((false, eval (.Lambda ⟨[], [], none, [], [], none, []⟩ body scope lpos) X.env) :: backTo pos (starEach [] X.env))) _ _ s
  refine Calls.spliced_cons (LamX.lam_make2 I TB hcode hmT hu St.rel.tabs rfl (L.has I.ok) fun f c' pm1 ctv H1 s1 I1 eN T1 hf hfn hfr hco => ?_)
  refine Calls.spliced_nil ⟨I1.kIn, ?_⟩
  have R1 := St.rel.extN eN T1
  have x1 : Ext rho H rho H1 := Ext.ofN eN
  have St1 := St.ext x1 R1
  have run : codeAny (model X.prog X.w) X.A (.call (.ref ga) ⟨[.ref f], []⟩) (CR C8.CX0 X.stack X.prog X.w H1 s1 Q C8.E0) s1 := by
    refine LamX.run_ofS (N := saidN) (ps := ["_law_call"]) (us := [.ref f]) (vs := [.ref f]) lk hcd S (rm.mono (j := 5) (by decide)) I1.env0 (hb s1 [.ref f] I1.kIn rfl) (.cons rfl .nil) rfl fun hr => ?_
    have un2 : ∀ (z : Nat), ((X.A.deeper (envOfC "_law_said" sg s1.heap.objs.size ga cd)).deeper (LamX.lamEnv X scope z f c')).units + 100 < cLine := fun z => by
      have := ((rm.deeper (envOfC "_law_said" sg s1.heap.objs.size ga cd)).deeper (LamX.lamEnv X scope z f c')).un
      omega
    obtain ⟨t, ht, q⟩ := said_gives (g := ga) (cd := cd) (p := pp) (q := X.env.qual ++ "<lambda>") g.sm so S gr gp gk gs l1 l2 g.gd (rm.mono (j := 4) (by decide)) f c' s1 H1 Q (fun E1 Hz Q1 => tE X.K E1 cf a sg0 Hz Q1)
      (fun W pn xe E1 p1 p2 tk hW => lam_act (k := 2) I1 L hf hfn hfr rfl (by
          rcases S.par "_law_call" (List.mem_singleton.mpr rfl) with z | z
          · exact .inl z
          · exact .inr (.inl z)) tk hW (rm.deeper _ |>.mono (j := 3) (by decide)) fun outer s2 H2 => ih E1 _ (g.lamb hs L g.gd (fun k r => (r.deeper _).deeper _) (un2 _))) hco (by
        show tE X.K (Told X.K Q) cf a sg0 H1 _
        refine ⟨rho, gh, env, m, St1, ?_⟩
        have w := WP.ext x1 w
        simp only [ev] at w
        cases r : ev cf a env m with
        | bad =>
          rw [r] at w
          exact w.elim
        | exc c0 fs m1 =>
          rw [r] at w
          intro rho2 H2 u dx x2 R2 ek
          unfold saidR at w
          simp only at w
          split at w
          · rename_i wo ew
            refine ⟨c0, fs, wo, ew, rho2, gh, m1, R2, ek, fun rho3 H3 x3 R3 => ?_⟩
            obtain ⟨v', e, z⟩ := w rho3 H3 [.str wo] (x2.trans x3) R3 (RDs.one (d := .p (.str wo)) (rp_str (K := X.K) (ex := rho3 ++ gh) (H := H3)))
            cases e
            exact z
          · exact w.elim
        | ok xs m1 =>
          rw [r] at w
          intro rho2 H2 vs x2 R2 rd
          unfold saidR at w
          simp only at w
          cases q0 : d_repr xs m1 with
          | bad =>
            rw [q0] at w
            exact w.elim
          | exc _ _ _ => exact (d_repr_noexc q0).elim
          | ok ys m2 =>
            obtain ⟨d, rfl⟩ := d_repr_one q0
            obtain ⟨v, rfl, _⟩ := RDs.one_of rd
            refine ⟨v, rfl, rho2, gh, m1, [d], R2, rd, ?_⟩
            have w2 := WP.ext x2 w
            show WP X.K gh EN (d_repr [d] m1) rho2 H2 (one Q)
            rw [q0] at w2 ⊢
            exact w2)
    exact ⟨t, ht.nox, q⟩
  refine wpAny_call (codeAny_mono run fun res s2 hq => ?_)
  match res, hq with
  | .error e, hq => exact (show False from hq).elim
  | .ok (.ret u), hq => exact I1.after hq
  | .ok .next, hq => exact hq.elim
  | .ok .brk, hq => exact hq.elim
  | .ok .cont, hq => exact hq.elim
end
end M
namespace M
open PySem PySem.Spec PyProof.Rows L2
section
variable {X : Cx} {E : XK} {CX : CXT} {k : Nat} {C f : Addr} {fd : FuncData} {ps : List Str} {sp : Sp} {m x : Str} {o e : Expr} {es : List Expr} {ta : TE} {t : TA} {p apos pos : Pos}
theorem Cls.ne {K : PySem.W.Frag} {n : Str} (hm : Meth K C m f) (hn : NoAttr K C n) : m ≠ n := fun e => by
  subst e
  have h1 := hm.at_
  rw [show PySem.W.findIn K (.ref C) m = some none from hn] at h1
  cases h1
theorem pe_methG (he : PE X o ta) (c : Cls X.K C) (hm : Meth X.K C m f) (F : FnG X.prog X.w X.K X.mg X.base CX k f fd ps sp) (hr : Room k X.A) (gd : X.A.guards = some []) (hb : Binds X.K fd ps []) (hx : Passes CX X E) (ha : PA X (e :: es) t)
    (hbase : attributeBase o m X.env (eval o X.env) = eval o X.env)
    (hfew : ((backTo pos (starEach (e :: es) X.env)).all (fun x => !x.1) && (backToKw pos (keywordEach [] X.env)).all (fun x => x.1.isSome)
      && decide ((e :: es).length + ([] : List Keyword).length + (if ([] : List Keyword).isEmpty then 0 else 1) < 30)) = true)
    (hline : (apos.endLine == pos.line) = true) (hst : starEach (e :: es) X.env = (false, eval e X.env) :: starEach es X.env) (hpl : (backTo pos (starEach es X.env)).any (·.1) = false) :
    PE X (.Call (.Attribute o m apos) (e :: es) [] pos) (tMethR C m sp E ta t) := by
  refine ⟨fun pins s σ H Q I h => ?_⟩
  rw [arm_eval_Call, hbase]
  have hform : methodCallForm ((e :: es).length + ([] : List Keyword).length) (backTo pos (starEach (e :: es) X.env)) (backToKw pos (keywordEach [] X.env)) = true := hfew
  have hpos : methodCallPos true o X.env apos pos = pure pos := by unfold methodCallPos; simp [hline]
  refine wpAny_bind (thn (he.run pins s σ H _ I h) fun u s1 ⟨x, H1, I1, rx, a, dx, fs, ex, ea, l, q⟩ => ?_)
  subst ex
  obtain rfl : u = Value.ref a := rx
  refine wpAny_bind (wpAny_standAt ?_)
  unfold methodCall
  rw [hform]
  refine wpAny_bind (wpAny_holding (getmeth_ok I1 ea c hm l ?_))
  refine wpAny_bind (wpAny_of_eq hpos ?_)
  refine PySem.W.callWith_K (first := [.ref a]) (h₀ := X.base) I.ok.mod.kin hm.kp (thn (ha.run pos pins s1 σ H1 _ I1 q) fun us s2 ⟨vs, H2, I2, r, q2⟩ => ⟨I2.kIn, ?_⟩) hst hpl
  have r2 : Vals (V.ref a :: vs) (Value.ref a :: us) := .cons rfl r
  have hl : (Value.ref a :: us).length = ps.length := by rw [← r2.length]; exact F.len _ _ _ _ q2
  have bt := hb s2 (.ref a :: us) I2.kIn (by rw [List.append_nil]; exact hl)
  rw [List.append_nil] at bt
  exact run_g (args := ⟨.ref a :: us, []⟩) F hr gd hx I2 bt r2 q2
theorem pe_methG0 (he : PE X o ta) (c : Cls X.K C) (hm : Meth X.K C m f) (F : FnG X.prog X.w X.K X.mg X.base CX k f fd ps sp) (hr : Room k X.A) (gd : X.A.guards = some []) (hb : Binds X.K fd ps []) (hx : Passes CX X E)
    (hbase : attributeBase o m X.env (eval o X.env) = eval o X.env) (hline : (apos.endLine == pos.line) = true) :
    PE X (.Call (.Attribute o m apos) [] [] pos) (tMethR C m sp E ta tNil) := by
  refine ⟨fun pins s σ H Q I h => ?_⟩
  rw [arm_eval_Call, hbase]
  have hform : methodCallForm (([] : List Expr).length + ([] : List Keyword).length) (backTo pos (starEach [] X.env)) (backToKw pos (keywordEach [] X.env)) = true := rfl
  have hpos : methodCallPos true o X.env apos pos = pure pos := by unfold methodCallPos; simp [hline]
  refine wpAny_bind (thn (he.run pins s σ H _ I h) fun u s1 ⟨x, H1, I1, rx, a, dx, fs, ex, ea, l, q⟩ => ?_)
  subst ex
  obtain rfl : u = Value.ref a := rx
  refine wpAny_bind (wpAny_standAt ?_)
  unfold methodCall
  rw [hform]
  refine wpAny_bind (wpAny_holding (getmeth_ok I1 ea c hm l ?_))
  refine wpAny_bind (wpAny_of_eq hpos ?_)
  have q2 : sp [.ref a] H1 Q E := q
  have r2 : Vals [V.ref a] [Value.ref a] := .cons rfl .nil
  have hl : [Value.ref a].length = ps.length := by rw [← r2.length]; exact F.len _ _ _ _ q2
  have bt := hb s1 [.ref a] I1.kIn (by rw [List.append_nil]; exact hl)
  rw [List.append_nil] at bt
  exact PySem.W.callWith_K0 (first := [.ref a]) I1.kIn hm.kp (run_g (args := ⟨[.ref a], []⟩) F hr gd hx I1 bt r2 q2)
theorem pe_methKw {ks : List Str} {perm : List Nat} {kws : List Keyword} {tk : TA} (he : PE X o ta) (c : Cls X.K C) (hm : Meth X.K C m f) (F : FnG X.prog X.w X.K X.mg X.base CX k f fd ps sp) (hr : Room k X.A) (gd : X.A.guards = some []) (hb : KBk true fd ps ks perm) (hx : Passes CX X E) (hkw : PK X kws tk) (hks : kwsOf kws = some (ks, es))
    (hbase : attributeBase o m X.env (eval o X.env) = eval o X.env) (hfew : kws.length < 20) (hline : (apos.endLine == pos.line) = true) :
    PE X (.Call (.Attribute o m apos) [] kws pos) (fun sg H Q => ta sg H fun x H1 => ∃ a dx fs, x = .ref a ∧ H1 a = some (.ins C dx fs) ∧ fs.lookup m = none ∧ tk sg H1 fun zs H2 => zs.length = ks.length ∧ sp (.ref a :: permL perm zs) H2 Q E) := by
  obtain ⟨h1, h2, h3, h4⟩ := kws_some (pos := pos) (env := X.env) hks
  refine ⟨fun pins s σ H Q I h => ?_⟩
  rw [arm_eval_Call, hbase]
  have hform : methodCallForm (([] : List Expr).length + kws.length) (backTo pos (starEach [] X.env)) (backToKw pos (keywordEach kws X.env)) = true := by
    show (true && (backToKw pos (keywordEach kws X.env)).all (fun x => x.1.isSome) && decide (([] : List Expr).length + kws.length + (if (backToKw pos (keywordEach kws X.env)).isEmpty then 0 else 1) < 30)) = true
    rw [h1]
    simp only [Bool.and_self, Bool.true_and, decide_eq_true_eq, List.length_nil]
    split <;> omega
  have hpos : methodCallPos true o X.env apos pos = pure pos := by unfold methodCallPos; simp [hline]
  refine wpAny_bind (thn (he.run pins s σ H _ I h) fun u s1 ⟨x, H1, I1, rx, a, dx, fs, ex, ea, l, q⟩ => ?_)
  subst ex
  obtain rfl : u = Value.ref a := rx
  refine wpAny_bind (wpAny_standAt ?_)
  unfold methodCall
  rw [hform]
  refine wpAny_bind (wpAny_holding (getmeth_ok I1 ea c hm l ?_))
  refine wpAny_bind (wpAny_of_eq hpos ?_)
  refine PySem.W.callWith_KW0 (first := [.ref a]) (h₀ := X.base) I1.ok.mod.kin hm.kp h1 (thn (hkw.run pos pins s1 σ H1 _ I1 q) fun ws s2 ⟨zs, H2, I2, rz, hl, q2⟩ => ⟨I2.kIn, ?_⟩) (by
    show (false || (backToKw pos (keywordEach kws X.env)).any (·.1.isNone)) = false
    rw [h3]
    rfl)
  rw [h2]
  have r2 : Vals (V.ref a :: permL perm zs) (Value.ref a :: permL perm ws) := .cons rfl (vals_perm rz perm)
  exact run_g (args := ⟨[.ref a], ks.zip ws⟩) F hr gd hx I2 (hb (.ref a) s2 ws (by rw [← rz.length]; exact hl)) r2 q2
theorem pe_makeG (M : Mk X.K C f) (F : FnG X.prog X.w X.K X.mg X.base CX k f fd ps sp) (hr : Room (k + 1) X.A) (gd : X.A.guards = some []) (hb : Binds X.K fd ps []) (hg : Gl X x) (hm : X.mg x = some (.ref C)) (hx : Passes CX X E) (ha : PA X (e :: es) t) (hdb : (x == ("__debug__" : Str)) = false)
    (he : starEach (e :: es) X.env = (false, eval e X.env) :: starEach es X.env) (hpl : (backTo pos (starEach es X.env)).any (·.1) = false) : PE X (.Call (.Name x p) (e :: es) [] pos) (StX.tMakeR C sp E t) := by
  refine ⟨fun pins s σ H Q I h => ?_⟩
  refine wpAny_Call_Name_kw (ld_glob I hg hm ?_ hdb)
  refine PySem.W.callWith_K (h₀ := X.base) I.ok.mod.kin M.kp (thn (ha.run pos pins s σ H _ I h) fun us s1 ⟨vs, H1, I1, r, q⟩ => ⟨I1.kIn, ?_⟩) he hpl
  have hq := q (s1.heap.objs.size + 1) s1.heap.objs.size (I1.hok.fresh (Nat.le_succ _)) (I1.hok.fresh (Nat.le_refl _)) (Nat.ne_of_lt (Nat.lt_succ_self _))
  have I2 := Inv.made (C := C) I1
  have r2 : Vals (V.ref (s1.heap.objs.size + 1) :: vs) (Value.ref (s1.heap.objs.size + 1) :: us) := .cons rfl r
  have hl : (Value.ref (s1.heap.objs.size + 1) :: us).length = ps.length := by rw [← r2.length]; exact F.len _ _ _ _ hq
  refine wpAny_call (make_map (f := f) I1.kIn M.makes M.init (beq_iff_eq.mp M.fn) (codeAny_mono (F.run (args := ⟨Value.ref (s1.heap.objs.size + 1) :: us, []⟩) (us := Value.ref (s1.heap.objs.size + 1) :: us) (hr.make C us []) gd (I2.env0.make C us []) ?_ r2 hq) fun r s' hq' => ?_))
  · have bt := hb _ (.ref (s1.heap.objs.size + 1) :: us) I2.kIn (by rw [List.append_nil]; exact hl)
    rw [List.append_nil] at bt
    exact bt
  · cases r with
    | error e => exact hx pins σ _ _ e s' I2 hq'
    | ok fl =>
      cases fl with
      | ret u =>
        obtain ⟨v, H', I3, rv, ev, q3⟩ := I2.after hq'
        subst ev
        exact ⟨rv, ⟨V.ref (s1.heap.objs.size + 1), H', I3, rfl, q3⟩⟩
      | next => exact False.elim hq'
      | brk => exact False.elim hq'
      | cont => exact False.elim hq'
theorem pe_makeKw {ks : List Str} {perm : List Nat} {kws : List Keyword} {tk : TA} (M : Mk X.K C f) (F : FnG X.prog X.w X.K X.mg X.base CX k f fd ps sp) (hr : Room (k + 1) X.A) (gd : X.A.guards = some []) (hb : KBk true fd ps ks perm) (hg : Gl X x) (hm : X.mg x = some (.ref C)) (hx : Passes CX X E) (hkw : PK X kws tk) (hks : kwsOf kws = some (ks, es)) (hdb : (x == ("__debug__" : Str)) = false) :
    PE X (.Call (.Name x p) [] kws pos) (fun sg H Q => tk sg H fun zs H1 => zs.length = ks.length ∧ ∀ x dx, H1 x = none → H1 dx = none → dx ≠ x → sp (.ref x :: permL perm zs) (upd (upd H1 dx (.own x)) x (.ins C dx [])) (fun v H2 => v = .non ∧ Q (.ref x) H2) E) := by
  obtain ⟨h1, h2, h3, h4⟩ := kws_some (pos := pos) (env := X.env) hks
  refine ⟨fun pins s σ H Q I h => wpAny_Call_Name_kw (ld_glob I hg hm ?_ hdb)⟩
  refine PySem.W.callWith_KW0 (h₀ := X.base) I.ok.mod.kin M.kp h1 (thn (hkw.run pos pins s σ H _ I h) fun us s1 ⟨vs, H1, I1, r, hl, q⟩ => ⟨I1.kIn, ?_⟩) (by
    show (false || (backToKw pos (keywordEach kws X.env)).any (·.1.isNone)) = false
    rw [h3]
    rfl)
  rw [h2]
  have hq := q (s1.heap.objs.size + 1) s1.heap.objs.size (I1.hok.fresh (Nat.le_succ _)) (I1.hok.fresh (Nat.le_refl _)) (Nat.ne_of_lt (Nat.lt_succ_self _))
  have I2 := Inv.made (C := C) I1
  have r2 : Vals (V.ref (s1.heap.objs.size + 1) :: permL perm vs) (Value.ref (s1.heap.objs.size + 1) :: permL perm us) := .cons rfl (vals_perm r perm)
  refine wpAny_call (make_map (f := f) I1.kIn M.makes M.init (beq_iff_eq.mp M.fn) (codeAny_mono (F.run (args := ⟨[Value.ref (s1.heap.objs.size + 1)], ks.zip us⟩) (us := Value.ref (s1.heap.objs.size + 1) :: permL perm us) (hr.make C _ _) gd (I2.env0.make C _ _) (hb (.ref (s1.heap.objs.size + 1)) _ us (by rw [← r.length]; exact hl)) r2 hq) fun r s' hq' => ?_))
  cases r with
  | error e => exact hx pins σ _ _ e s' I2 hq'
  | ok fl =>
    cases fl with
    | ret u =>
      obtain ⟨v, H', I3, rv, ev, q3⟩ := I2.after hq'
      subst ev
      exact ⟨rv, ⟨V.ref (s1.heap.objs.size + 1), H', I3, rfl, q3⟩⟩
    | next => exact False.elim hq'
    | brk => exact False.elim hq'
    | cont => exact False.elim hq'
section
variable {g : Addr} {fd' : FuncData}
theorem ins_inst {pins : List (Addr × Obj)} {sg : L2.St} {H : Hp} {s : Shared} {a dx : Addr} {fs : List (Str × V)} (I : L2.Inv X pins sg H s) (e : H a = some (.ins C dx fs)) : ∃ od, PySem.W.InstAt s.heap a (PySem.W.instObj C dx) C (some od) := by
  obtain ⟨mA, O, _, _, _, _⟩ := ins_get I.hok e
  obtain ⟨od, J, _⟩ := O.look
  exact ⟨od, J⟩
theorem run_g1 {A' : Around} {pins : List (Addr × Obj)} {sg : L2.St} {H : Hp} {s : Shared} {Q : VK} {us : List Value} {vs : List V} (F : FnG X.prog X.w X.K X.mg X.base CX k g fd ps sp) (hA : A' = X.A.in1) (hr : Room (k + 1) X.A) (gd : X.A.guards = some []) (hx : Passes CX X E) (hb : Binds X.K fd ps [])
    (I : L2.Inv X pins sg H s) (r : Vals vs us) (h : sp vs H Q E) : wpAny (model X.prog X.w) A' (call (.ref g) us) (EP X pins sg Q) X.xe s := by
  subst hA
  have hl : us.length = ps.length := by rw [← r.length]; exact F.len _ _ _ _ h
  have bt := hb s us I.kIn (by rw [List.append_nil]; exact hl)
  rw [List.append_nil] at bt
  refine wpAny_call (codeAny_mono (F.run (A := X.A.in1) (args := ⟨us, []⟩) hr.in1 gd I.env0.in1 bt r h) fun res s1 hq => ?_)
  match res, hq with
  | .error e, hq => exact hx pins sg H s e s1 I hq
  | .ok (.ret u), hq => exact I.after hq
  | .ok .next, hq => exact hq.elim
  | .ok .brk, hq => exact hq.elim
  | .ok .cont, hq => exact hq.elim
def rLenO (C : Addr) (sp : Sp) (E : XK) : List V → Hp → VK → Prop := fun xs H Q => ∃ a dx fs, xs = [V.ref a] ∧ H a = some (.ins C dx fs) ∧ sp [.ref a] H (fun v H' => ∃ i : Int, v = .int i ∧ 0 ≤ i ∧ i < 2 ^ 63 ∧ Q (.int i) H') E
theorem call_lenO (hm : Meth X.K C "__len__" g) (F : FnG X.prog X.w X.K X.mg X.base CX k g fd ps sp) (hr : Room (k + 1) X.A) (gd : X.A.guards = some []) (hb : Binds X.K fd ps []) (hx : Passes CX X E) : CallR X (.builtin "len") (rLenO C sp E) := by
  intro pins s sg H xs us Q I r h
  obtain ⟨a, dx, fs, rfl, ea, q⟩ := h
  obtain ⟨u, rfl, ru⟩ := r.one
  cases (show u = Value.ref a from ru)
  obtain ⟨od, J⟩ := ins_inst I ea
  refine Calls.call_function_entry kind_len plain_len entry_len (args_len1 _) ?_
  unfold Builtin.«len»
  refine wpAny_bind (m := oneArg "len" _) (wpAny_pure ?_)
  refine wpAny_bind (m := callSpecial? (.ref a) (Str.ofString "__len__")) (PySem.W.special_fn I.kIn J hm.at_ (beq_iff_eq.mp hm.fn) (wpAny_mono (run_g1 (us := [.ref a]) (vs := [.ref a]) F rfl hr gd hx hb I (.cons rfl .nil) q) (fun w s' z => ?_) fun _ _ x => x))
  obtain ⟨v, H', I', rz, i, ei, h0, h1, qz⟩ := z
  subst ei
  obtain ⟨t, e⟩ := (show ∃ t, w = Value.int i t from rz)
  subst e
  refine wpAny_bind (wpAny_holding (wpAny_pure ?_))
  refine wpAny_bind (wpAny_letGo ?_)
  show wpAny _ _ (if i < 0 then _ else _) _ _ _
  rw [if_neg (by omega)]
  show wpAny _ _ (if i ≥ 2 ^ 63 then _ else _) _ _ _
  rw [if_neg (by omega)]
  exact wpAny_bind (wpAny_mkInt (wpAny_pure ⟨_, rfl, .int i, H', I'.tok _, ⟨_, rfl⟩, qz⟩))
def rReprO (C : Addr) (sp : Sp) (E : XK) : List V → Hp → VK → Prop := fun xs H Q => ∃ a dx fs, xs = [V.ref a] ∧ H a = some (.ins C dx fs) ∧ sp [.ref a] H (fun v H' => ∃ z : Str, v = .str z ∧ Q (.str z) H') E
theorem call_reprO (hm : Meth X.K C "__repr__" g) (F : FnG X.prog X.w X.K X.mg X.base CX k g fd ps sp) (hr : Room (k + 1) X.A) (gd : X.A.guards = some []) (hu : X.A.units + 100 < cLine) (hb : Binds X.K fd ps []) (hx : Passes CX X E) : CallR X (.builtin "repr") (rReprO C sp E) := by
  intro pins s sg H xs us Q I r h
  obtain ⟨a, dx, fs, rfl, ea, q⟩ := h
  obtain ⟨u, rfl, ru⟩ := r.one
  cases (show u = Value.ref a from ru)
  obtain ⟨od, J⟩ := ins_inst I ea
  refine Calls.call_function_entry PySem.F.kind_repr PySem.F.plain_repr PySem.F.entry_repr (PySem.F.args_repr1 _) ?_
  unfold Builtin.«repr»
  refine wpAny_bind (m := oneArg "repr" _) (wpAny_pure ?_)
  refine wpAny_bind (m := cRoomFor _ _) (wpAny_cRoomFor (by show X.A.units + 1 < cLine; omega) ?_)
  refine wpAny_bind (m := specialOf (.ref a) (Str.ofString "__repr__")) ?_
  unfold specialOf
  refine wpAny_bind (J.type.here ((PySem.W.looks_findIn I.kIn hm.at_).here ?_))
  refine wpAny_bind (m := callSpecialIfBound? (.ref a) (Str.ofString "__repr__")) (PySem.W.ifBound_K I.kIn J hm.at_ hm.fn (wpAny_mono (run_g1 (us := [.ref a]) (vs := [.ref a]) F rfl hr gd hx hb I (.cons rfl .nil) q) (fun w s' z => ?_) fun _ _ x => x))
  obtain ⟨v, H', I', rz, i, ei, qz⟩ := z
  subst ei
  obtain ⟨t, e⟩ := (show ∃ t, w = Value.str i t from rz)
  subst e
  exact wpAny_bind (wpAny_isInstance (T := "str") (b := true) (typeIs_str _ _ _) isSubtype_str_str (wpAny_pure ⟨_, rfl, .str i, H', I', ⟨t, rfl⟩, qz⟩))
def rEqO (C : Addr) (sp : Sp) (E : XK) : R2 := fun x y H Q => ∃ a dx fs b dy gs, x = .ref a ∧ y = .ref b ∧ H a = some (.ins C dx fs) ∧ H b = some (.ins C dy gs) ∧ sp [x, y] H Q E
theorem op_eqO (hm : Meth X.K C "__eq__" g) (F : FnG X.prog X.w X.K X.mg X.base CX k g fd ps sp) (hr : Room k X.A) (gd : X.A.guards = some []) (hb : Binds X.K fd ps []) (hx : Passes CX X E) : OpR X (compareOp .Eq) (rEqO C sp E) := by
  intro pins s sg H x y v u Q I rx ry h
  obtain ⟨a, dx, fs, b, dy, gs, rfl, rfl, ha, hb2, q⟩ := h
  cases (show v = Value.ref a from rx)
  cases (show u = Value.ref b from ry)
  obtain ⟨od, J⟩ := ins_inst I ha
  obtain ⟨od', J'⟩ := ins_inst I hb2
  obtain ⟨m, hF⟩ := I.fr
  show wpAny _ _ (richCompare .Eq _ _) _ _ _
  refine PySem.W.cmp_K (op := .Eq) (tb := .ref C) hr.units0 hF I.ok.mod.kin J J'.type (by unfold PySem.W.notFirst; simp) hm.at_ hm.fn ?_
  have hl : [Value.ref a, Value.ref b].length = ps.length := F.len _ _ _ _ q
  have bt := hb s [.ref a, .ref b] I.kIn (by rw [List.append_nil]; exact hl)
  rw [List.append_nil] at bt
  refine wpAny_mono (run_g (args := ⟨[.ref a, .ref b], []⟩) F hr gd hx I bt (.cons (show L2.RelV (.ref a) (.ref a) from rfl) (.cons (show L2.RelV (.ref b) (.ref b) from rfl) .nil)) q) (fun w s' z => ?_) fun _ _ x => x
  obtain ⟨z', H', I', rz, qz⟩ := z
  exact SlX.cmpback rz ⟨z', H', I', rz, qz⟩
end
end
section
variable {G : Gs} {cf : CF} {N : List Str} {sc : Scope} {E : XK} {X : Cx}
theorem wp_post {K : PySem.W.Frag} {gh rho : List Addr} {H : Hp} {c : R D} {K' : D → MH → R (List D)} {Q Q' : VK} (w : WP K gh E (c.bind K') rho H (one Q))
    (q : ∀ d m rho' H' v, Ext rho H rho' H' → Rel K rho' gh m H' → RD K rho' gh H' d v → WP K gh E (K' d m) rho' H' (one Q) → Q' v H') : WP K gh E (c.bind fun d m => .ok [d] m) rho H (one Q') := by
  cases c with
  | ok d m =>
    intro rho' H' vs x R rds
    obtain ⟨v, rfl, rd⟩ := RDs.one_of rds
    exact ⟨v, rfl, q d m rho' H' v x R rd (WP.ext x w)⟩
  | exc c fs m => exact w
  | bad => exact w
theorem tab_of {K : PySem.W.Frag} {rho gh : List Addr} {m : MH} {H : Hp} {d : D} {v : V} (R : Rel K rho gh m H) (rd : RD K rho gh H d v) (h : isTab d m = true) : ∃ n a now dx v' l, d = .ref n ∧ v = .ref a ∧ rho[n]? = some a ∧ m[n]? = some (.tab now) ∧ prv rho n = some l ∧ H a = some (.ins (tabC K) dx (tabF v' l)) ∧ RP K (rho ++ gh) H now v' := by
  unfold isTab at h
  split at h
  · rename_i n
    split at h
    · rename_i now em
      obtain ⟨a, rfl, ea⟩ := rd
      obtain ⟨dx, v', l, h1, h2, h3⟩ := R.cell n a _ ea em
      exact ⟨n, a, now, dx, v', l, rfl, rfl, ea, em, h1, h2, h3⟩
    · cases h
  · cases h
theorem tab_at {K : PySem.W.Frag} {rho gh : List Addr} {m : MH} {H : Hp} {n : Nat} {now : P} {v : V} (R : Rel K rho gh m H) (rd : RD K rho gh H (.ref n) v) (em : m[n]? = some (.tab now)) : ∃ a dx v' l, v = .ref a ∧ rho[n]? = some a ∧ prv rho n = some l ∧ H a = some (.ins (tabC K) dx (tabF v' l)) ∧ RP K (rho ++ gh) H now v' := by
  obtain ⟨a, rfl, ea⟩ := rd
  obtain ⟨dx, v', l, h1, h2, h3⟩ := R.cell n a _ ea em
  exact ⟨a, dx, v', l, rfl, ea, h1, h2, h3⟩
theorem sd_fldN (t : TabK X.K X.mg) {x : Expr} {a : ME} {pos : Pos} (ns : notSup x = true) (hx : PE X x (tE X.K E cf a)) : PE X (.Attribute x "now" pos) (tE X.K E cf (.fldN a)) := by
  refine PE.imp (pe_fld hx (base_of ns)) fun sg H Q h => ?_
  obtain ⟨rho, gh, env, m, S, w⟩ := h
  simp only [ev] at w
  refine ⟨rho, gh, env, m, S, WP.bind w fun ds m1 rho1 H1 vs e x1 R1 rd1 w => ?_⟩
  split at w
  · rename_i n
    obtain ⟨v, rfl, rd⟩ := RDs.one_of rd1
    split at w
    · rename_i now em
      obtain ⟨a2, dx, v', l, rfl, ea, h1, h2, h3⟩ := tab_at R1 rd em
      exact ⟨_, rfl, a2, _, dx, _, v', rfl, h2, t.cls, t.n1, rfl, wp1 R1 w h3⟩
    · exact w.elim
  · exact w.elim
theorem sd_fldP (t : TabK X.K X.mg) {x : Expr} {a : ME} {pos : Pos} (ns : notSup x = true) (hx : PE X x (tE X.K E cf a)) : PE X (.Attribute x "past" pos) (tE X.K E cf (.fldP a)) := by
  refine PE.imp (pe_fld hx (base_of ns)) fun sg H Q h => ?_
  obtain ⟨rho, gh, env, m, S, w⟩ := h
  simp only [ev] at w
  refine ⟨rho, gh, env, m, S, WP.bind w fun ds m1 rho1 H1 vs e x1 R1 rd1 w => ?_⟩
  split at w
  · rename_i n
    obtain ⟨v, rfl, rd⟩ := RDs.one_of rd1
    split at w
    · rename_i now em
      obtain ⟨a2, dx, v', l, rfl, ea, h1, h2, h3⟩ := tab_at R1 rd em
      obtain ⟨v2, e2, z⟩ := w rho1 H1 [.ref l] Ext.refl R1 (RDs.one (d := .ref n) ⟨l, rfl, h1⟩)
      cases e2
      exact ⟨_, rfl, a2, _, dx, _, .ref l, rfl, h2, t.cls, t.n2, rfl, z⟩
    · exact w.elim
  · exact w.elim
theorem sd_pop {x : Expr} {a : ME} {ap cp : Pos} (h : (notSup x && (ap.endLine == cp.line)) = true) (hx : PE X x (tE X.K E cf a)) : PE X (.Call (.Attribute x "pop" ap) [] [] cp) (tE X.K E cf (.pop a)) := by
  simp only [Bool.and_eq_true] at h
  refine PE.imp (pe_bm0 PySem.F.plainAttrs_list PySem.F.slot_list_pop PySem.F.type_list_pop mt_pop hx (base_of h.1) h.2) fun sg H Q hh => ?_
  obtain ⟨rho, gh, env, m, S, w⟩ := hh
  simp only [ev] at w
  refine ⟨rho, gh, env, m, S, WP.bind w fun ds m1 rho1 H1 vs e x1 R1 rd1 w => ?_⟩
  split at w
  · rename_i n
    obtain ⟨v, rfl, rd⟩ := RDs.one_of rd1
    split at w
    · rename_i xs em
      split at w
      · rename_i d ed
        obtain ⟨a2, rfl, ea⟩ := rd
        obtain ⟨ys, ey, ry⟩ := R1.cell n a2 _ ea em
        obtain ⟨y, e3, r3⟩ := RPs.get ry ed
        have ly := RPs.len ry
        have ry2 := ry.take (xs.length - 1)
        rw [← List.dropLast_eq_take, ← ly, ← List.dropLast_eq_take] at ry2
        obtain ⟨R2, x2⟩ := R1.set ea ry2
        refine ⟨_, rfl, isLst_ty R1 (d := .ref n) ⟨a2, rfl, ea⟩ (by unfold isLst; simp only [em]), a2, ys, y, rfl, rfl, ey, by rw [ly]; exact e3, ?_⟩
        obtain ⟨v', e, z⟩ := w rho1 _ [y] x2 R2 (RDs.one (d := .p d) (x2.rp r3))
        cases e
        exact z
      · exact w.elim
    · exact w.elim
  · exact w.elim
theorem sd_mcall (g : GX G cf N sc E X) {k : Bool} {f : Nat} {o a : ME} {x : Expr} {n : Str} {es : List Expr} {ap pos : Pos} (h : mtAt G f n = true) (ht : G.tb = true) (hn : (notSup x && (ap.endLine == pos.line) && decide (es.length < 20)) = true) (hx : PE X x (tE X.K E cf o)) (s : SA X E cf a es) :
    PE X (.Call (.Attribute x n ap) es [] pos) (tE X.K E cf (.mcall k f o a)) := by
  simp only [Bool.and_eq_true, decide_eq_true_eq] at hn
  obtain ⟨⟨h2, h3⟩, h4⟩ := hn
  have t := g.tbl ht
  obtain ⟨h1, h1m⟩ := mt_at h
  obtain ⟨ad, fd, ps, kk, _, m2, kin, bnd, _, room, F⟩ := g.fns k f n h1
  have m2 := m2 h1m
  have room := room.mono (Nat.le_add_right _ _)
  obtain ⟨pa, ns⟩ := SA.pa s
  have rd : ∀ sg H Q, tE X.K E cf (.mcall k f o a) sg H Q → tMethR (tabC X.K) n (spM X.K cf k f) E (tE X.K E cf o) (tA X.K E cf a) sg H Q := fun sg H Q h => by
    obtain ⟨rho, gh, env, m, S, w⟩ := h
    simp only [ev] at w
    refine ⟨rho, gh, env, m, S, WP.bind w fun ds m1 rho1 H1 vs e x1 R1 rd1 w => ?_⟩
    split at w
    · rename_i d
      obtain ⟨v, rfl, rdd⟩ := RDs.one_of rd1
      split at w
      · rename_i ht
        obtain ⟨n1, a1, now, dx, v', l, rfl, rfl, ea, em, q1, q2, q3⟩ := tab_of R1 rdd ht
        refine ⟨_, rfl, a1, dx, _, rfl, q2, ?_, rho1, gh, env, m1, S.ext x1 R1, WP.bind w fun ds2 m2 rho2 H2 vs2 e2 x2 R2 rd2 w => ?_⟩
        · have c1 := Cls.ne m2 t.n1
          have c2 := Cls.ne m2 t.n2
          have c3 : (n == ("now" : Str)) = false := by simpa using c1
          have c4 : (n == ("past" : Str)) = false := by simpa using c2
          show (tabF v' l).lookup n = none
          unfold tabF
          simp only [List.lookup, c3, c4]
        · exact ⟨rho2, gh, m2, M.D.ref n1 :: ds2, R2, ⟨_, _, rfl, x2.rd rdd, rd2⟩, w⟩
      · exact w.elim
    · exact w.elim
  cases es with
  | nil =>
    have z : a = .nilA := by
      cases a with
      | nilA => rfl
      | consA _ _ => obtain ⟨_, _, z, _⟩ := s; cases z
      | _ => exact s.elim
    subst z
    refine PE.imp (pe_methG0 hx t.cls m2 F room g.gd bnd g.pass (base_of h2) h3) fun sg H Q h => ?_
    obtain ⟨rho, gh, env, m, S, w⟩ := rd sg H Q h
    refine ⟨rho, gh, env, m, S, WP.imp (fun vs H1 z => ?_) w⟩
    obtain ⟨v, rfl, a1, dx, fs, e1, e2, e3, rho2, gh2, env2, m2, S2, w2⟩ := z
    exact ⟨v, rfl, a1, dx, fs, e1, e2, e3, w2 rho2 H1 [] Ext.refl S2.rel rfl⟩
  | cons e es =>
    have ns2 := ns
    simp only [noStar, Bool.and_eq_true] at ns
    have few : ((backTo pos (starEach (e :: es) X.env)).all (fun x => !x.1) && (backToKw pos (keywordEach [] X.env)).all (fun x => x.1.isSome)
        && decide ((e :: es).length + ([] : List Keyword).length + (if ([] : List Keyword).isEmpty then 0 else 1) < 30)) = true := by
      rw [back_all ns2]
      have z : decide ((e :: es).length + ([] : List Keyword).length + (if ([] : List Keyword).isEmpty then 0 else 1) < 30) = true := by
        simp only [List.length_nil, List.isEmpty_nil, if_true, decide_eq_true_eq, List.length_cons] at h4 ⊢
        omega
      rw [z]
      rfl
    exact PE.imp (pe_methG hx t.cls m2 F room g.gd bnd g.pass pa (base_of h2) few h3 (star_of ns.1) (star_none ns.2)) rd
theorem sd_newT (g : GX G cf N sc E X) {f : Nat} {a : ME} {e : Expr} {p pos : Pos} (hg : isGl sc "Table" = true) (ht : G.tb = true) (hn : G.nb = some f) (ns : notSt e = true) (hx : PE X e (tE X.K E cf a)) : PE X (.Call (.Name "Table" p) [e] [] pos) (tE X.K E cf (.newT f a)) := by
  have t := g.tbl ht
  obtain ⟨fI, fd, k, M, hb, _, room, F⟩ := g.nbl f hn
  have pa : PA X [e] (tCons (tE X.K E cf a) tNil) := pa_cons hx pa_nil (star_of ns)
  refine PE.imp (pe_makeG M F room g.gd hb (g.gl hg) t.mgT g.pass pa (by decide +kernel) (star_of ns) rfl) fun sg H Q h => ?_
  obtain ⟨rho, gh, env, m, S, w⟩ := h
  simp only [ev] at w
  refine ⟨rho, gh, env, m, S, WP.bind w fun ds m1 rho1 H1 vs e2 x1 R1 rd1 w => ?_⟩
  split at w
  · rename_i d
    obtain ⟨v, rfl, rdd⟩ := RDs.one_of rd1
    refine ⟨v, rfl, fun x dx n1 n2 ne => ⟨x, dx, v, rho1, gh, m1, d, H1, rfl, rfl, n1, n2, ne, R1, rdd, WP.imp (fun ws H' z e3 => ?_) w⟩⟩
    obtain ⟨v', e4, q⟩ := z
    rw [e3] at e4
    simp only [List.cons.injEq, and_true] at e4
    exact ⟨rfl, by rw [← e4] at q; exact q⟩
  · exact w.elim
theorem sd_newTk (g : GX G cf N sc E X) {f : Nat} {a : ME} {e : Expr} {p kp pos : Pos} (hg : isGl sc "Table" = true) (ht : G.tb = true) (hn : G.nb = some f) (hx : PE X e (tE X.K E cf a)) : PE X (.Call (.Name "Table" p) [] [⟨some "board", e, kp⟩] pos) (tE X.K E cf (.newT f a)) := by
  have t := g.tbl ht
  obtain ⟨fI, fd, k, M, hb, hk, room, F⟩ := g.nbl f hn
  refine PE.imp (pe_makeKw (es := [e]) M F room g.gd hk (g.gl hg) t.mgT g.pass (pk_cons hx pk_nil) rfl (by decide +kernel)) fun sg H Q h => ?_
  obtain ⟨rho, gh, env, m, S, w⟩ := h
  simp only [ev] at w
  refine ⟨rho, gh, env, m, S, WP.bind w fun ds m1 rho1 H1 vs e2 x1 R1 rd1 w => ?_⟩
  split at w
  · rename_i d
    obtain ⟨v, rfl, rdd⟩ := RDs.one_of rd1
    refine ⟨v, rfl, rfl, fun x dx n1 n2 ne => ⟨x, dx, v, rho1, gh, m1, d, H1, rfl, rfl, n1, n2, ne, R1, rdd, WP.imp (fun ws H' z e3 => ?_) w⟩⟩
    obtain ⟨v', e4, q⟩ := z
    rw [e3] at e4
    simp only [List.cons.injEq, and_true] at e4
    exact ⟨rfl, by rw [← e4] at q; exact q⟩
  · exact w.elim
theorem sd_mcallk (g : GX G cf N sc E X) {k : Bool} {f : Nat} {perm : List Nat} {o a : ME} {x : Expr} {n : Str} {ns : List Str} {es : List Expr} {kws : List Keyword} {ap pos : Pos} (h : mtAt G f n = true) (ht : G.tb = true) (hn : (notSup x && (ap.endLine == pos.line) && decide (kws.length < 20)) = true) (hx : PE X x (tE X.K E cf o))
    (hks : kwsOf kws = some (ns, es)) (hm : (f, ns, perm) ∈ G.kws) (s : SA X E cf a es) : PE X (.Call (.Attribute x n ap) [] kws pos) (tE X.K E cf (.mcallk k f perm o a)) := by
  simp only [Bool.and_eq_true, decide_eq_true_eq] at hn
  obtain ⟨⟨h2, h3⟩, h4⟩ := hn
  have t := g.tbl ht
  obtain ⟨h1, h1m⟩ := mt_at h
  obtain ⟨ad, fd, ps, kk, _, m2, kin, bnd, kb, room, F⟩ := g.fns k f n h1
  have m2 := m2 h1m
  have room := room.mono (Nat.le_add_right _ _)
  refine PE.imp (pe_methKw hx t.cls m2 F room g.gd (by have z := kb ns perm hm; rw [h1m] at z; exact z) g.pass (SA.pk hks s) hks (base_of h2) h4 h3) fun sg H Q h => ?_
  obtain ⟨rho, gh, env, m, S, w⟩ := h
  simp only [ev] at w
  refine ⟨rho, gh, env, m, S, WP.bind w fun ds m1 rho1 H1 vs e x1 R1 rd1 w => ?_⟩
  split at w
  · rename_i d
    obtain ⟨v, rfl, rdd⟩ := RDs.one_of rd1
    split at w
    · rename_i ht
      obtain ⟨n1, a1, now, dx, v', l, rfl, rfl, ea, em, q1, q2, q3⟩ := tab_of R1 rdd ht
      refine ⟨_, rfl, a1, dx, _, rfl, q2, ?_, rho1, gh, env, m1, S.ext x1 R1, WP.bind w fun ds2 m2 rho2 H2 vs2 e2 x2 R2 rd2 w => ?_⟩
      · have c1 := Cls.ne m2 t.n1
        have c2 := Cls.ne m2 t.n2
        have c3 : (n == ("now" : Str)) = false := by simpa using c1
        have c4 : (n == ("past" : Str)) = false := by simpa using c2
        show (tabF v' l).lookup n = none
        unfold tabF
        simp only [List.lookup, c3, c4]
      · split at w
        · rename_i ds' q
          refine ⟨?_, rho2, gh, m2, M.D.ref n1 :: ds', R2, ⟨_, _, rfl, x2.rd rdd, permD_rd rd2 q⟩, w⟩
          rw [RDs.len rd2, s.lenE e2]
          exact (kws_some (pos := pos) (env := X.env) hks).2.2.2
        · exact w.elim
    · exact w.elim
  · exact w.elim
theorem sd_isTb (g : GX G cf N sc E X) {o : ME} {e : Expr} {x : Str} {p p2 pos : Pos} (hb : bl G sc x nIsa = true) (hg : isGl sc "Table" = true) (ht : G.tb = true) (ns : notSt e = true) (hx : PE X e (tE X.K E cf o)) : PE X (.Call (.Name x p) [e, .Name "Table" p2] [] pos) (tE X.K E cf (.isTb o)) := by
  have t := g.tbl ht
  obtain ⟨rfl, g1, g2⟩ := g.bl hb
  have pn : PE X (.Name "Table" p2) (tC (.ref (tabC X.K))) := pe_glob (g.gl hg) t.mgT (show RelV (.ref (tabC X.K)) (.ref (tabC X.K)) from rfl) (by decide +kernel)
  refine PE.imp (pe_callB (C8.call_isC t.ins) g1 g2 (by decide +kernel) (pa_cons hx (pa_cons pn pa_nil) (star_of ns)) (by decide +kernel) (by decide +kernel) (star_of ns) (star_none (es := [.Name "Table" p2]) rfl)) fun sg H Q h => ?_
  obtain ⟨rho, gh, env, m, S, w⟩ := h
  simp only [ev] at w
  refine ⟨rho, gh, env, m, S, WP.bind w fun ds m1 rho1 H1 vs e2 x1 R1 rd1 w => ?_⟩
  split at w
  · rename_i d
    obtain ⟨v, rfl, rdd⟩ := RDs.one_of rd1
    split at w
    · rename_i ht
      obtain ⟨n1, a1, now, dx, v', l, rfl, rfl, ea, em, q1, q2, q3⟩ := tab_of R1 rdd ht
      exact ⟨_, rfl, a1, dx, _, rfl, q2, wp1 R1 w (by simp only [RP])⟩
    · exact w.elim
  · exact w.elim
theorem sd_lenT (g : GX G cf N sc E X) {f : Nat} {o : ME} {x : Str} {e : Expr} {p pos : Pos} (hb : bl G sc x nLen = true) (hm : mtAt G f "__len__" = true) (ht : G.tb = true) (hr : roomS G = 2) (ns : notSt e = true) (hx : PE X e (tE X.K E cf o)) : PE X (.Call (.Name x p) [e] [] pos) (tE X.K E cf (.lenT f o)) := by
  have t := g.tbl ht
  obtain ⟨rfl, g1, g2⟩ := g.bl hb
  obtain ⟨h1, h1m⟩ := mt_at hm
  obtain ⟨ad, fd, ps, kk, _, m2, kin, bnd, _, room, F⟩ := g.fns false f "__len__" h1
  rw [hr] at room
  refine PE.imp (pe_callB (call_lenO (m2 h1m) F (room.mono (by omega)) g.gd bnd g.pass) g1 g2 (by decide +kernel) (pa_cons hx pa_nil (star_of ns)) (by decide +kernel) (by decide +kernel) (star_of ns) rfl) fun sg H Q h => ?_
  obtain ⟨rho, gh, env, m, S, w⟩ := h
  simp only [ev] at w
  refine ⟨rho, gh, env, m, S, WP.bind w fun ds m1 rho1 H1 vs e2 x1 R1 rd1 w => ?_⟩
  split at w
  · rename_i d
    obtain ⟨v, rfl, rdd⟩ := RDs.one_of rd1
    split at w
    · rename_i ht
      obtain ⟨n1, a1, now, dx, v', l, rfl, rfl, ea, em, q1, q2, q3⟩ := tab_of R1 rdd ht
      refine ⟨_, rfl, a1, dx, _, rfl, q2, rho1, gh, m1, _, R1, rd1, wp_post w fun d m2 rho2 H2 v x2 R2 rd2 w => ?_⟩
      split at w
      · rename_i i
        split at w
        · rename_i c
          simp only [Bool.and_eq_true, decide_eq_true_eq] at c
          exact ⟨i, rd_int rd2, c.1, by omega, wp1 R2 w (by simp only [RP])⟩
        · exact w.elim
      · exact w.elim
    · exact w.elim
  · exact w.elim
theorem sd_reprT (g : GX G cf N sc E X) {f : Nat} {o : ME} {x : Str} {e : Expr} {p pos : Pos} (hb : bl G sc x nRepr = true) (hm : mtAt G f "__repr__" = true) (ht : G.tb = true) (hr : roomS G = 2) (ns : notSt e = true) (hx : PE X e (tE X.K E cf o)) : PE X (.Call (.Name x p) [e] [] pos) (tE X.K E cf (.reprT f o)) := by
  have t := g.tbl ht
  obtain ⟨rfl, g1, g2⟩ := g.bl hb
  obtain ⟨h1, h1m⟩ := mt_at hm
  obtain ⟨ad, fd, ps, kk, _, m2, kin, bnd, _, room, F⟩ := g.fns false f "__repr__" h1
  rw [hr] at room
  refine PE.imp (pe_callB (call_reprO (m2 h1m) F (room.mono (by omega)) g.gd g.un bnd g.pass) g1 g2 (by decide +kernel) (pa_cons hx pa_nil (star_of ns)) (by decide +kernel) (by decide +kernel) (star_of ns) rfl) fun sg H Q h => ?_
  obtain ⟨rho, gh, env, m, S, w⟩ := h
  simp only [ev] at w
  refine ⟨rho, gh, env, m, S, WP.bind w fun ds m1 rho1 H1 vs e2 x1 R1 rd1 w => ?_⟩
  split at w
  · rename_i d
    obtain ⟨v, rfl, rdd⟩ := RDs.one_of rd1
    split at w
    · rename_i ht
      obtain ⟨n1, a1, now, dx, v', l, rfl, rfl, ea, em, q1, q2, q3⟩ := tab_of R1 rdd ht
      refine ⟨_, rfl, a1, dx, _, rfl, q2, rho1, gh, m1, _, R1, rd1, wp_post w fun d m2 rho2 H2 v x2 R2 rd2 w => ?_⟩
      split at w
      · rename_i z
        split at w
        · exact ⟨z, rd_str rd2, wp1 R2 w (by simp only [RP])⟩
        · exact w.elim
      · exact w.elim
    · exact w.elim
  · exact w.elim
theorem sd_eqT (g : GX G cf N sc E X) {f : Nat} {o u : ME} {x y : Expr} {pos : Pos} (hm : mtAt G f "__eq__" = true) (ht : G.tb = true) (hr : roomS G = 2) (hx : PE X x (tE X.K E cf o)) (hy : PE X y (tE X.K E cf u)) : PE X (.Compare x [.Eq] [y] pos) (tE X.K E cf (.eqT f o u)) ∧ PT X (.Compare x [.Eq] [y] pos) (tT X.K E cf (.eqT f o u)) := by
  have t := g.tbl ht
  obtain ⟨h1, h1m⟩ := mt_at hm
  obtain ⟨ad, fd, ps, kk, _, m2, kin, bnd, _, room, F⟩ := g.fns false f "__eq__" h1
  have room := room.mono (Nat.le_add_right _ _)
  have key : ∀ sg H Q, tE X.K E cf (.eqT f o u) sg H Q → tOp (rEqO (tabC X.K) (spM X.K cf false f) E) (tE X.K E cf o) (tE X.K E cf u) sg H Q := ?_
  · exact ⟨PE.imp (pe_cmpR (op_eqO (m2 h1m) F room g.gd bnd g.pass) hx hy (nobehind _ (by decide) (by decide))) key, PT.imp (pt_cmpR (op_eqO (m2 h1m) F room g.gd bnd g.pass) hx hy (nobehind _ (by decide) (by decide))) fun sg H Q q => key sg H _ (tT_of q)⟩
  intro sg H Q h
  obtain ⟨rho, gh, env, m, S, w⟩ := h
  simp only [ev] at w
  refine ⟨rho, gh, env, m, S, WP.bind w fun ds m1 rho1 H1 vs e2 x1 R1 rd1 w => ?_⟩
  split at w
  · rename_i d
    obtain ⟨v, rfl, rdd⟩ := RDs.one_of rd1
    refine ⟨v, rfl, rho1, gh, env, m1, S.ext x1 R1, WP.bind w fun ds m2 rho2 H2 vs e3 x2 R2 rd2 w => ?_⟩
    split at w
    · rename_i d2
      obtain ⟨v2, rfl, rdd2⟩ := RDs.one_of rd2
      refine ⟨v2, rfl, ?_⟩
      split at w
      · rename_i ht
        simp only [Bool.and_eq_true] at ht
        have rdd := x2.rd rdd
        obtain ⟨n1, a1, now, dx, v', l, rfl, rfl, ea, em, q1, q2, q3⟩ := tab_of R2 rdd ht.1
        obtain ⟨n3, a3, now3, dx3, v3, l3, rfl, rfl, ea3, em3, q13, q23, q33⟩ := tab_of R2 rdd2 ht.2
        refine ⟨a1, dx, _, a3, dx3, _, rfl, rfl, q2, q23, rho2, gh, m2, [M.D.ref n1, M.D.ref n3], R2, ⟨_, _, rfl, rdd, rd2⟩, wp_post w fun d m3 rho3 H3 v x3 R3 rd3 w => ?_⟩
        split at w
        · rename_i b
          have e4 := rd_bl rd3
          subst e4
          exact wp1 R3 w (by simp only [RP])
        · exact w.elim
      · exact w.elim
    · exact w.elim
  · exact w.elim
theorem txt_len (x y : Str) : (x ++ y).length = x.length + y.length := by
  show (x.cps ++ y.cps).size = _
  simp [Str.length]
theorem tE_mono {K : PySem.W.Frag} {a : ME} {sg : L2.St} {H : Hp} {Q Q' : VK} (k : ∀ v H, Q v H → Q' v H) (h : tE K E cf a sg H Q) : tE K E cf a sg H Q' := by
  obtain ⟨rho, gh, env, m, S, w⟩ := h
  exact ⟨rho, gh, env, m, S, WP.imp (fun vs H1 ⟨v, e, q⟩ => ⟨v, e, k v H1 q⟩) w⟩
theorem sj_fmt {a : ME} {x : Expr} {pos : Pos} (hx : PE X x (tE X.K E cf a)) : ∃ te : TE, PE X (.FormattedValue x (-1) none pos) te ∧ ∀ sg H Q, tPt X.K E cf a sg H Q → te sg H Q := by
  refine ⟨_, pe_fmt hx, fun sg H Q h => tE_mono (fun v H1 q => ?_) h⟩
  rcases q with ⟨y, e, l, q⟩ | ⟨i, e, l, _, q⟩
  · exact .inl ⟨y, e, Nat.le_trans l (line_sz (by omega)), q⟩
  · exact .inr ⟨i, e, l, q⟩
theorem sj_str {s : Str} {k : Nat} {p : Pos} : ∃ te : TE, PE X (.Constant (.str s) k p) te ∧ ∀ sg H Q, tPt X.K E cf (.cst (.str s)) sg H Q → te sg H Q := by
  refine ⟨_, pe_str, fun sg H Q h => ?_⟩
  obtain ⟨rho, gh, env, m, S, w⟩ := h
  simp only [ev] at w
  have z := wp1 S.rel w (v := .str s) (by simp only [RP])
  rcases z with ⟨y, e, l, q⟩ | ⟨i, e, l, _, q⟩
  · cases e; exact q
  · cases e
theorem pj_of : ∀ (r : ME) (es : List Expr), SJ X E cf r es → ∃ ts, PJ X es ts ∧ ∀ (acc : Str) (sg : L2.St) (H : Hp) (Q : VK) (rho gh : List Addr) (env : Ev) (m : MH), StOk X.K rho gh env m sg H → acc.length + 10000 * es.length ≤ 100000 →
    WP X.K gh E ((ev cf r env m).bind fun xs m1 => (match catD acc xs with | some s => ok1 (.str s) m1 | none => .bad)) rho H (one Q) → tJs ts acc sg H (fun out H1 => Q (.str out) H1)
  | .nilA, es, h => by
    have h : es = [] := h
    subst h
    refine ⟨[], .nil, fun acc sg H Q rho gh env m S l w => ?_⟩
    simp only [ev, bind_ok, catD] at w
    exact wp1 S.rel w (by simp only [RP])
  | .fjn a r, es, h => by
    obtain ⟨e, t, rfl, ⟨te, pe, im⟩, h2⟩ := h
    obtain ⟨ts, pj, k⟩ := pj_of r t h2
    refine ⟨te :: ts, .cons pe pj, fun acc sg H Q rho gh env m S l w => ?_⟩
    refine im sg H _ ?_
    simp only [ev, bind_assoc] at w
    refine ⟨rho, gh, env, m, S, WP.bind w fun ds m1 rho1 H1 vs e2 x1 R1 rd1 w => ?_⟩
    split at w
    · rename_i d
      obtain ⟨v, rfl, rdd⟩ := RDs.one_of rd1
      refine ⟨v, rfl, ?_⟩
      split at w
      · rename_i s es
        rw [List.length_cons] at l
        rw [bind_assoc] at w
        have w2 : WP X.K gh E ((ev cf r env m1).bind fun xs m1 => (match catD (acc ++ s) xs with | some s => ok1 (.str s) m1 | none => .bad)) rho1 H1 (one Q) := w
        unfold fmtD at es
        split at es
        · rename_i x
          split at es
          · rename_i lx
            simp only [Option.some.injEq] at es
            subst es
            refine .inl ⟨x, rd_str rdd, lx, x, rfl, Nat.le_trans (by rw [txt_len]; omega) (line_sz (Nat.le_refl 100000)), ?_⟩
            exact k _ sg H1 Q rho1 gh env m1 (S.ext x1 R1) (by rw [txt_len]; omega) w2
          · cases es
        · rename_i i
          split at es
          · rename_i c
            simp only [Bool.and_eq_true, decide_eq_true_eq] at c
            simp only [Option.some.injEq] at es
            subst es
            refine .inr ⟨i, rd_int rdd, c.1, c.2, Str.ofString (toString i), rfl, Nat.le_trans (by rw [txt_len]; omega) (line_sz (Nat.le_refl 100000)), ?_⟩
            exact k _ sg H1 Q rho1 gh env m1 (S.ext x1 R1) (by rw [txt_len]; omega) w2
          · cases es
        · cases es
      · exact w.elim
    · exact w.elim
theorem sd_fstr {r : ME} {x y : Expr} {es : List Expr} {pos : Pos} (hl : es.length ≤ 6) (h : SJ X E cf r (x :: y :: es)) : PE X (.JoinedStr (x :: y :: es) pos) (tE X.K E cf (.fstr r)) := by
  obtain ⟨ts, pj, k⟩ := pj_of r _ h
  refine PE.imp (pe_joined pj) fun sg H Q hh => ?_
  obtain ⟨rho, gh, env, m, S, w⟩ := hh
  simp only [ev] at w
  exact k Str.empty sg H Q rho gh env m S (by show 0 + _ ≤ _; simp only [List.length_cons]; omega) w
end
end M
namespace M
open PySem PySem.Spec PyProof.Rows L2
section
variable {G : Gs} {cf : CF} {N : List Str} {sc : Scope} {E : XK} {X : Cx}
theorem pts_of {hasIf : Bool} {ifs : List Expr} {tst : ME} {scope : Scope} (hif : (match hasIf, ifs with
        | false, [] => true
        | true, [c] => chk G N tst scope (.te c)
        | _, _ => false) = true) (ih : ∀ c, chk G N tst scope (.te c) = true → ∀ (s : Shared) (H : Hp) (C : Addr) (cl : List (Str × Addr)) (fp : List Addr), PT (X.blk s H scope (compEnvC scope cl C X.env) fp) c (tT X.K EN cf tst))
    (s : Shared) (H : Hp) (C : Addr) (cl : List (Str × Addr)) (fp : List Addr) : PTs (X.blk s H scope (compEnvC scope cl C X.env) fp) ifs (ttOf X.K cf tst hasIf) := by
  split at hif
  · exact pts_nil
  · exact pts_one (ih _ hif s H C cl fp)
  · cases hif
theorem sd_bop {a r : ME} {b : Bool} {op : BoolOp} {e f : Expr} {es : List Expr} {pos : Pos} (h : bopIs b op = true) (ha : PE X e (tE X.K E cf a)) (hr : PE X (.BoolOp op (f :: es) pos) (tE X.K E cf r)) : PE X (.BoolOp op (e :: f :: es) pos) (tE X.K E cf (.bop b a r)) := by
  unfold bopIs at h
  split at h
  · refine PE.imp (pe_and ha hr) fun sg H Q h => tE_imp (rd_bop sg H Q h) fun v H1 ⟨c, e, q⟩ => ⟨c, e, ?_⟩
    cases c <;> simpa using q
  · refine PE.imp (pe_or ha hr) fun sg H Q h => tE_imp (rd_bop sg H Q h) fun v H1 ⟨c, e, q⟩ => ⟨c, e, ?_⟩
    cases c <;> simpa using q
  · cases h
theorem sd_bopT {a r : ME} {b : Bool} {op : BoolOp} {e f : Expr} {es : List Expr} {pos : Pos} (h : bopIs b op = true) (ha : PT X e (tT X.K E cf a)) (hr : PW X (.BoolOp op (f :: es) pos) (tT X.K E cf r)) : PW X (.BoolOp op (e :: f :: es) pos) (tT X.K E cf (.bop b a r)) := by
  unfold bopIs at h
  split at h
  · refine PW.imp (pw_and ha hr) fun sg H Q h => tE_imp (tT_of (rd_bopT sg H Q h)) fun v H1 ⟨c, e, q⟩ => ⟨c, e, ?_⟩
    cases c <;> simpa using q
  · refine PW.imp (pw_or ha hr) fun sg H Q h => tE_imp (tT_of (rd_bopT sg H Q h)) fun v H1 ⟨c, e, q⟩ => ⟨c, e, ?_⟩
    cases c <;> simpa using q
  · cases h
theorem rd_orv {a r : ME} (sg : L2.St) (H : Hp) (Q : VK) (h : tE X.K E cf (.orv a r) sg H Q) : tOrT X.K (tE X.K E cf a) (tE X.K E cf r) sg H Q := by
  obtain ⟨rho, gh, env, m, S, w⟩ := h
  simp only [ev] at w
  refine ⟨rho, gh, env, m, S, WP.bind w fun ds m1 rho1 H1 vs e x1 R1 rd1 w => ?_⟩
  split at w
  · rename_i ls
    obtain ⟨v1, rfl, r1⟩ := RDs.one_of rd1
    have r2 : RP X.K (rho1 ++ gh) H1 (.list ls) v1 := r1
    simp only [RP] at r2
    obtain ⟨p, xs, rfl, q, z⟩ := r2
    have hl := RPs.len z
    refine ⟨_, rfl, !xs.isEmpty, .inl ⟨xs, q.sq, rfl⟩, ?_⟩
    have he : xs.isEmpty = ls.isEmpty := by cases xs <;> cases ls <;> simp at hl ⊢
    rw [he]
    split at w
    · rename_i c
      rw [c]
      exact ⟨rho1, gh, env, m1, S.ext x1 R1, w⟩
    · rename_i c
      have c : ls.isEmpty = false := by simpa using c
      rw [c]
      exact wp1 R1 w r1
  · exact w.elim
theorem sd : ∀ (me : ME) (G : Gs) (sc : Scope) (E : XK) (X : Cx), GX G cf N sc E X → ∀ md : Md, chk G N me sc md = true → Sd X E cf me md := by
  intro me
  induction me with
  | var i =>
    intro G sc E X g md h
    cases md with
    | ex e => cases e <;> simp only [chk, Bool.false_eq_true] at h; exact sd_var g h
    | te e => cases e <;> simp only [chk, Bool.false_eq_true] at h; exact pt_of (sd_var g h) rfl
    | ar es => simp [chk] at h
    | bo t op es => simp [chk] at h
    | js es => simp [chk] at h
  | cst d =>
    intro G sc E X g md h
    cases md with
    | ex e =>
      cases e with
      | Constant c k p => simp only [chk] at h; exact sd_cst h
      | Dict ks vs p => simp only [chk] at h; exact sd_dic h
      | _ => simp only [chk, Bool.false_eq_true] at h
    | te e => cases e <;> simp only [chk, Bool.false_eq_true] at h; exact pt_of (sd_cst h) rfl
    | ar es => simp [chk] at h
    | bo t op es => simp [chk] at h
    | js es => simp [chk] at h
  | gl x d =>
    intro G sc E X g md h
    cases md with
    | ex e => cases e <;> simp only [chk, Bool.false_eq_true] at h; exact sd_gl g h
    | te e => simp [chk] at h
    | ar es => simp [chk] at h
    | bo t op es => simp [chk] at h
    | js es => simp [chk] at h
  | nilA =>
    intro G sc E X g md h
    cases md with
    | ex e => simp [chk] at h
    | te e => simp [chk] at h
    | ar es => cases es with
      | nil => rfl
      | cons e es => simp [chk] at h
    | bo t op es => simp [chk] at h
    | js es => cases es with
      | nil => rfl
      | cons e es => simp [chk] at h
  | consA a r iha ihr =>
    intro G sc E X g md h
    cases md with
    | ex e => simp [chk] at h
    | te e => simp [chk] at h
    | ar es => cases es with
      | nil => simp [chk] at h
      | cons e es =>
        simp only [chk, Bool.and_eq_true] at h
        exact ⟨e, es, rfl, h.1.1, iha G sc E X g (.ex e) h.1.2, ihr G sc E X g (.ar es) h.2⟩
    | bo t op es => simp [chk] at h
    | js es => simp [chk] at h
  | tup a iha =>
    intro G sc E X g md h
    cases md with
    | ex e =>
      cases e <;> simp only [chk, Bool.false_eq_true, Bool.and_eq_true, decide_eq_true_eq] at h
      exact sd_tup (line_sz (Nat.le_of_lt h.1)) (iha G sc E X g (.ar _) h.2)
    | te e => simp [chk] at h
    | ar es => simp [chk] at h
    | bo t op es => simp [chk] at h
    | js es => simp [chk] at h
  | lst k a iha =>
    intro G sc E X g md h
    cases md with
    | ex e =>
      cases e <;> simp only [chk, Bool.false_eq_true, Bool.and_eq_true, decide_eq_true_eq] at h
      exact sd_lst (line_sz (Nat.le_of_lt h.1)) (iha G sc E X g (.ar _) h.2)
    | te e => simp [chk] at h
    | ar es => simp [chk] at h
    | bo t op es => simp [chk] at h
    | js es => simp [chk] at h
  | op o a iha =>
    intro G sc E X g md h
    cases md with
    | ex e =>
      simp only [chk] at h
      split at h
      · rename_i es q
        exact (op_snd g q (iha G sc E X g (.ar es) h)).1
      · cases h
    | te e =>
      simp only [chk] at h
      split at h
      · rename_i es q
        exact (op_snd g q (iha G sc E X g (.ar es) h)).2
      · cases h
    | ar es => simp [chk] at h
    | bo t op es => simp [chk] at h
    | js es => simp [chk] at h
  | meth o a r iha ihr =>
    intro G sc E X g md h
    unfold chk at h
    split at h <;> try contradiction
    rename (ME.meth _ _ _ = _) => h1
    cases h1
    split at h
    · rename_i y hm
      simp only [Bool.and_eq_true] at h
      exact sd_meth g hm (by simp only [Bool.and_eq_true]; exact h.1.1) (iha _ _ _ _ g _ h.1.2) (ihr _ _ _ _ g _ h.2)
    · cases h
  | sl3 k a b c iha ihb ihc =>
    intro G sc E X g md h
    unfold chk at h
    split at h <;> try contradiction
    rename (ME.sl3 _ _ _ _ = _) => h1
    cases h1
    simp only [Bool.and_eq_true] at h
    exact sd_sl3 (iha _ _ _ _ g _ h.1.1) (ihb _ _ _ _ g _ h.1.2) (ihc _ _ _ _ g _ h.2)
  | chn o1 o2 a b c iha ihb ihc =>
    intro G sc E X g md h
    unfold chk at h
    split at h <;> try contradiction
    · rename (ME.chn _ _ _ _ _ = _) => h1
      cases h1
      simp only [Bool.and_eq_true] at h
      exact (mk_chn g h.1.1.1.1 h.1.1.1.2 (iha _ _ _ _ g _ h.1.1.2) (ihb _ _ _ _ g _ h.1.2) (ihc _ _ _ _ g _ h.2)).1
    · rename (ME.chn _ _ _ _ _ = _) => h1
      cases h1
      simp only [Bool.and_eq_true] at h
      exact (mk_chn g h.1.1.1.1 h.1.1.1.2 (iha _ _ _ _ g _ h.1.1.2) (ihb _ _ _ _ g _ h.1.2) (ihc _ _ _ _ g _ h.2)).2
  | bop b a r iha ihr =>
    intro G sc E X g md h
    unfold chk at h
    split at h <;> try contradiction
    · rename (ME.bop _ _ _ = _) => h1
      cases h1
      simp only [Bool.and_eq_true] at h
      exact sd_bop h.1.1 (iha _ _ _ _ g _ h.1.2) (ihr _ _ _ _ g (.bo false _ _) h.2 _)
    · rename (ME.bop _ _ _ = _) => h1
      cases h1
      simp only [Bool.and_eq_true] at h
      exact (sd_bopT h.1.1 (iha _ _ _ _ g _ h.1.2) (ihr _ _ _ _ g (.bo true _ _) h.2 _)).pt
    · rename (ME.bop _ _ _ = _) => h1
      cases h1
      simp only [Bool.and_eq_true] at h
      exact fun pos => sd_bop h.1.1 (iha _ _ _ _ g _ h.1.2) (ihr _ _ _ _ g (.bo false _ _) h.2 _)
    · rename (ME.bop _ _ _ = _) => h1
      cases h1
      simp only [Bool.and_eq_true] at h
      exact fun pos => sd_bopT h.1.1 (iha _ _ _ _ g _ h.1.2) (ihr _ _ _ _ g (.bo true _ _) h.2 _)
  | bone a iha =>
    intro G sc E X g md h
    cases md with
    | ex e => simp [chk] at h
    | te e => simp [chk] at h
    | ar es => simp [chk] at h
    | js es => simp [chk] at h
    | bo tt op es =>
      cases es with
      | nil => simp [chk] at h
      | cons e es =>
        cases es with
        | cons _ _ => cases tt <;> simp [chk] at h
        | nil =>
          cases tt with
          | false =>
            simp only [chk] at h
            exact fun pos => PE.imp (pe_one (iha _ _ _ _ g (.ex _) h)) fun sg H Q h => h
          | true =>
            simp only [chk] at h
            intro pos
            cases op with
            | And => exact PW.imp (pw_and1 (iha _ _ _ _ g (.te _) h)) fun sg H Q h => h
            | Or => exact PW.imp (pw_or1 (iha _ _ _ _ g (.te _) h)) fun sg H Q h => h
  | nt a iha =>
    intro G sc E X g md h
    unfold chk at h
    split at h <;> try contradiction
    · rename (ME.nt _ = _) => h1
      cases h1
      exact PE.imp (pe_not (iha _ _ _ _ g (.ex _) h)) rd_not
    · rename (ME.nt _ = _) => h1
      cases h1
      exact PT.imp (pt_not (iha _ _ _ _ g (.te _) h)) fun sg H Q h => tE_imp (rd_not sg H _ (tT_of h)) fun v H1 ⟨c, e, d, e2, q⟩ => ⟨c, e, by cases e2; exact q⟩
  | ife c a b ihc iha ihb =>
    intro G sc E X g md h
    unfold chk at h
    split at h <;> try contradiction
    rename (ME.ife _ _ _ = _) => h1
    cases h1
    simp only [Bool.and_eq_true] at h
    exact PE.imp (pe_ifExp (ihc _ _ _ _ g (.te _) h.1.1) (iha _ _ _ _ g (.ex _) h.1.2) (ihb _ _ _ _ g (.ex _) h.2)) rd_ife
  | call k f a iha =>
    intro G sc E X g md h
    unfold chk at h
    split at h <;> try contradiction
    · rename (ME.call _ _ _ = _) => h1
      cases h1
      simp only [Bool.and_eq_true] at h
      exact (sd_call g (by simp only [Bool.and_eq_true]; exact h.1) (iha _ _ _ _ g (.ar _) h.2)).1
    · rename (ME.call _ _ _ = _) => h1
      cases h1
      simp only [Bool.and_eq_true] at h
      exact (sd_call g (by simp only [Bool.and_eq_true]; exact h.1) (iha _ _ _ _ g (.ar _) h.2)).2
  | callk k f perm a iha =>
    intro G sc E X g md h
    unfold chk at h
    split at h <;> try contradiction
    rename (ME.callk _ _ _ _ = _) => h1
    cases h1
    simp only [Bool.and_eq_true] at h
    obtain ⟨h0, h⟩ := h
    split at h
    · rename_i ns es q
      simp only [Bool.and_eq_true, decide_eq_true_eq] at h
      exact sd_callk g (by simp only [Bool.and_eq_true]; exact h0) q h.1 (iha _ _ _ _ g (.ar _) h.2)
    · cases h
  | lc k elt own tg ik it hasIf tst ihe ihi iht =>
    intro G sc E X g md h
    unfold chk at h
    split at h <;> try contradiction
    rename (ME.lc _ _ _ _ _ _ _ _ = _) => h1
    cases h1
    simp only [Bool.and_eq_true, decide_eq_true_eq] at h
    obtain ⟨⟨⟨⟨⟨⟨rfl, hb⟩, ht⟩, hs⟩, he⟩, hif⟩, hi⟩ := h
    split at hi
    · rename_i es q
      have pi := sd_it g q (ihi _ _ _ _ g (.ar _) hi)
      have ok := blkOk_by hb
      have pts := pts_of (X := X) (cf := cf) (hasIf := hasIf) hif fun c hc s H C cl fp => iht _ _ _ _ (g.inner s H C cl fp) (.te c) hc
      refine PE.imp (pe_lc (g := tG X.K tg) (te := tE X.K EN cf elt) g.calm (by rw [g.hN]; exact g.nd) pi (blk_of g ok) (fun s H C cl fp => ?_) pts (fun s H C cl fp => ihe _ _ _ _ (g.inner s H C cl fp) (.ex _) he) (set_of (spI_set q))) fun sg H Q h => ?_
      · exact tg_in (g.inner s H C cl fp) ht
      · rw [ownP_ix]
        exact rd_lc rfl hs sg H Q h
    · cases hi
  | lc2 k elt own tg ik it own1 tg1 ik1 it1 ihe ihi ihi1 =>
    intro G sc E X g md h
    unfold chk at h
    split at h <;> try contradiction
    rename (ME.lc2 _ _ _ _ _ _ _ _ _ _ = _) => h1
    cases h1
    simp only [Bool.and_eq_true, decide_eq_true_eq] at h
    obtain ⟨⟨⟨⟨⟨⟨⟨⟨⟨⟨rfl, rfl⟩, hb⟩, ht⟩, hs⟩, ht1⟩, hs1⟩, ho⟩, he⟩, hi⟩, hi1⟩ := h
    split at hi
    · rename_i es q
      split at hi1
      · rename_i es1 q1
        have pi := sd_it g q (ihi _ _ _ _ g (.ar _) hi)
        have ok := blkOk_by hb
        refine PE.imp (pe_lc2 (vs1 := own1) (te := tE X.K EN cf elt) (wi1 := tI X.K EN cf ik1 it1) g.calm (by rw [g.hN]; exact g.nd) pi (blk_of g ok) (fun i hi => by
          rw [ownP_ix]
          have z := List.all_eq_true.mp ho i hi
          simpa using z) (g := tG X.K tg) (g1 := tG X.K tg1) (fun s H C cl fp => ?_) (fun s H C cl fp => pts_nil) (fun s H C cl fp => sd_it (g.inner s H C cl fp) q1 (ihi1 _ _ _ _ (g.inner s H C cl fp) (.ar _) hi1)) (fun s H C cl fp => ?_) (fun s H C cl fp => pts_nil) (fun s H C cl fp => ihe _ _ _ _ (g.inner s H C cl fp) (.ex _) he) (set_of (spI_set q)) (fun env => set_of (spI_set q1))) fun sg H Q h => ?_
        · exact tg_in (g.inner s H C cl fp) ht
        · exact tg_in (g.inner s H C cl fp) ht1
        · rw [ownP_ix]
          exact rd_lc2 hs hs1 sg H Q h
      · cases hi1
    · cases hi
  | said a iha =>
    intro G sc E X g md h
    unfold chk at h
    split at h <;> try contradiction
    rename (ME.said _ = _) => h1
    cases h1
    simp only [Bool.and_eq_true, decide_eq_true_eq] at h
    obtain ⟨⟨⟨⟨⟨h1, rfl⟩, h3⟩, h4⟩, h5⟩, h6⟩ := h
    exact sd_said g h1 h3 h4 h5 fun E1 X1 g1 => iha G.low _ E1 X1 g1 (.ex _) h6
  | fldN a iha =>
    intro G sc E X g md h
    unfold chk at h
    split at h <;> try contradiction
    rename (ME.fldN _ = _) => h1
    cases h1
    simp only [Bool.and_eq_true, decide_eq_true_eq] at h
    obtain ⟨⟨⟨rfl, h2⟩, h3⟩, h4⟩ := h
    exact sd_fldN (g.tbl h2) h3 (iha _ _ _ _ g (.ex _) h4)
  | fldP a iha =>
    intro G sc E X g md h
    unfold chk at h
    split at h <;> try contradiction
    rename (ME.fldP _ = _) => h1
    cases h1
    simp only [Bool.and_eq_true, decide_eq_true_eq] at h
    obtain ⟨⟨⟨rfl, h2⟩, h3⟩, h4⟩ := h
    exact sd_fldP (g.tbl h2) h3 (iha _ _ _ _ g (.ex _) h4)
  | newT f a iha =>
    intro G sc E X g md h
    unfold chk at h
    split at h <;> try contradiction
    · rename (ME.newT _ _ = _) => h1
      cases h1
      simp only [Bool.and_eq_true, decide_eq_true_eq] at h
      obtain ⟨⟨⟨⟨⟨rfl, h2⟩, h3⟩, h4⟩, h5⟩, h6⟩ := h
      exact sd_newT g h2 h3 h4 h5 (iha _ _ _ _ g (.ex _) h6)
    · rename (ME.newT _ _ = _) => h1
      cases h1
      simp only [Bool.and_eq_true, decide_eq_true_eq] at h
      obtain ⟨⟨⟨⟨⟨rfl, h2⟩, h3⟩, h4⟩, rfl⟩, h6⟩ := h
      exact sd_newTk g h2 h3 h4 (iha _ _ _ _ g (.ex _) h6)
  | mcallk k f perm o a iho iha =>
    intro G sc E X g md h
    unfold chk at h
    split at h <;> try contradiction
    rename (ME.mcallk _ _ _ _ _ = _) => h1
    cases h1
    simp only [Bool.and_eq_true] at h
    obtain ⟨⟨⟨⟨h1, h2⟩, h3⟩, h4⟩, h5⟩ := h
    split at h5
    · rename_i ns es q
      simp only [Bool.and_eq_true, decide_eq_true_eq] at h5
      exact sd_mcallk g h1 h2 (by simp only [Bool.and_eq_true]; exact h3) (iho _ _ _ _ g (.ex _) h4) q h5.1 (iha _ _ _ _ g (.ar _) h5.2)
    · cases h5
  | mcall k f o a iho iha =>
    intro G sc E X g md h
    unfold chk at h
    split at h <;> try contradiction
    rename (ME.mcall _ _ _ _ = _) => h1
    cases h1
    simp only [Bool.and_eq_true] at h
    obtain ⟨⟨⟨⟨h1, h2⟩, h3⟩, h4⟩, h5⟩ := h
    exact sd_mcall g h1 h2 (by simp only [Bool.and_eq_true]; exact h3) (iho _ _ _ _ g (.ex _) h4) (iha _ _ _ _ g (.ar _) h5)
  | lenT f o iho =>
    intro G sc E X g md h
    unfold chk at h
    split at h <;> try contradiction
    rename (ME.lenT _ _ = _) => h1
    cases h1
    simp only [Bool.and_eq_true, decide_eq_true_eq] at h
    obtain ⟨⟨⟨⟨⟨h1, h2⟩, h3⟩, h4⟩, h5⟩, h6⟩ := h
    exact sd_lenT g h1 h2 h3 h4 h5 (iho _ _ _ _ g (.ex _) h6)
  | reprT f o iho =>
    intro G sc E X g md h
    unfold chk at h
    split at h <;> try contradiction
    rename (ME.reprT _ _ = _) => h1
    cases h1
    simp only [Bool.and_eq_true, decide_eq_true_eq] at h
    obtain ⟨⟨⟨⟨⟨h1, h2⟩, h3⟩, h4⟩, h5⟩, h6⟩ := h
    exact sd_reprT g h1 h2 h3 h4 h5 (iho _ _ _ _ g (.ex _) h6)
  | eqT f o u iho ihu =>
    intro G sc E X g md h
    unfold chk at h
    split at h <;> try contradiction
    · rename (ME.eqT _ _ _ = _) => h1
      cases h1
      simp only [Bool.and_eq_true, decide_eq_true_eq] at h
      obtain ⟨⟨⟨⟨h1, h2⟩, h3⟩, h4⟩, h5⟩ := h
      exact (sd_eqT g h1 h2 h3 (iho _ _ _ _ g (.ex _) h4) (ihu _ _ _ _ g (.ex _) h5)).1
    · rename (ME.eqT _ _ _ = _) => h1
      cases h1
      simp only [Bool.and_eq_true, decide_eq_true_eq] at h
      obtain ⟨⟨⟨⟨h1, h2⟩, h3⟩, h4⟩, h5⟩ := h
      exact (sd_eqT g h1 h2 h3 (iho _ _ _ _ g (.ex _) h4) (ihu _ _ _ _ g (.ex _) h5)).2
  | pop a iha =>
    intro G sc E X g md h
    unfold chk at h
    split at h <;> try contradiction
    rename (ME.pop _ = _) => h1
    cases h1
    simp only [Bool.and_eq_true, decide_eq_true_eq] at h
    obtain ⟨⟨rfl, h2⟩, h3⟩ := h
    exact sd_pop (by simp only [Bool.and_eq_true]; exact h2) (iha _ _ _ _ g (.ex _) h3)
  | isTb o iho =>
    intro G sc E X g md h
    unfold chk at h
    split at h <;> try contradiction
    rename (ME.isTb _ = _) => h1
    cases h1
    simp only [Bool.and_eq_true, decide_eq_true_eq] at h
    obtain ⟨⟨⟨⟨⟨h1, rfl⟩, h2⟩, h3⟩, h4⟩, h5⟩ := h
    exact sd_isTb g h1 h2 h3 h4 (iho _ _ _ _ g (.ex _) h5)
  | fjn a r iha ihr =>
    intro G sc E X g md h
    unfold chk at h
    split at h <;> try contradiction
    · rename (ME.fjn _ _ = _) => h1
      cases h1
      simp only [Bool.and_eq_true, decide_eq_true_eq] at h
      obtain ⟨⟨rfl, h2⟩, h3⟩ := h
      exact ⟨_, _, rfl, sj_fmt (iha _ _ _ _ g (.ex _) h2), ihr _ _ _ _ g (.js _) h3⟩
    · rename (ME.fjn _ _ = _) => h1
      cases h1
      simp only [Bool.and_eq_true, decide_eq_true_eq] at h
      obtain ⟨rfl, h3⟩ := h
      exact ⟨_, _, rfl, sj_str, ihr _ _ _ _ g (.js _) h3⟩
  | fstr r ihr =>
    intro G sc E X g md h
    unfold chk at h
    split at h <;> try contradiction
    rename (ME.fstr _ = _) => h1
    cases h1
    simp only [Bool.and_eq_true, decide_eq_true_eq] at h
    exact sd_fstr h.1 (ihr _ _ _ _ g (.js _) h.2)
  | orv a r iha ihr =>
    intro G sc E X g md h
    unfold chk at h
    split at h <;> try contradiction
    rename (ME.orv _ _ = _) => h1
    cases h1
    simp only [Bool.and_eq_true] at h
    exact PE.imp (pe_orT (iha _ _ _ _ g (.ex _) h.1) (pe_one (ihr _ _ _ _ g (.ex _) h.2))) rd_orv
end
end M
namespace M
open PySem PySem.Spec PyProof.Rows L2
inductive MS
  | nil | pass | brk | cnt | retN
  | seq (a b : MS)
  | ex (e : ME) | setv (i : Nat) (e : ME) | setLc (i : Nat) (e : ME) | asgT (t : MT) (e : ME) | par (i j : Nat) (a : ME) | par3 (i j l : Nat) (a : ME)
  | setI (o i e : ME)
  | iff (c : ME) (a b : MS) | forr (t : MT) (ik : Itk) (it : ME) (b : MS) | whil (c : ME) (b : MS)
  | ret (e : ME) | rais (c : Nat) | raisF (a : ME)
  | parN (is : List Nat) (a : ME)
  | setN (o e : ME)
  /-- the body of twin: another table, its past a list of its own -/
  | twin (f : Nat)
  /-- what is never come to -/
  | wall
  /-- if not (the def that looks at errors held as values): return False -/
  | errs
inductive RS where
  | nx (env : Ev) (m : MH)
  | rt (d : D) (m : MH)
  | bk (env : Ev) (m : MH)
  | ct (env : Ev) (m : MH)
  | exc (c : Nat) (fs : List P) (m : MH)
  | bad
def R.go {A : Type} (r : R A) (k : A → MH → RS) : RS := match r with
  | .ok a m => k a m
  | .exc c fs m => .exc c fs m
  | .bad => .bad
def RS.sq (r : RS) (k : Ev → MH → RS) : RS := match r with
  | .nx e m => k e m
  | .rt d m => .rt d m
  | .bk e m => .bk e m
  | .ct e m => .ct e m
  | .exc c fs m => .exc c fs m
  | .bad => .bad
def RS.lp (r : RS) (k : Ev → MH → RS) : RS := match r with
  | .nx e m => k e m
  | .ct e m => k e m
  | .bk e m => .nx e m
  | .rt d m => .rt d m
  | .exc c fs m => .exc c fs m
  | .bad => .bad
def forGo (ck : MH → Bool) (f : P → Ev → MH → RS) : List P → Ev → MH → RS
  | [], env, m => if ck m then .nx env m else .bad
  | d :: r, env, m => if ck m then (f d env m).lp (forGo ck f r) else .bad
def whGo (c : Ev → MH → R (List D)) (b : Ev → MH → RS) : Nat → Ev → MH → RS
  | 0, _, _ => .bad
  | n + 1, env, m => (c env m).go fun xs m1 => (match truth xs with
    | some true => (b env m1).lp (whGo c b n)
    | some false => .nx env m1
    | none => .bad)
def setAll : Ev → List Nat → List D → Ev
  | env, i :: is, d :: ds => setAll (env.set i (some d)) is ds
  | env, _, _ => env
def fewB (i j : Int) : Bool := decide (i.natAbs.log2 < 1920) && decide (j.natAbs.log2 < 1920) && decide ((Str.ofString (toString i)).length ≤ 1000) && decide ((Str.ofString (toString j)).length ≤ 1000)
def raisR : Nat → MH → RS
  | 0, _ => .bad
  | c + 1, m => .exc (c + 1) [] m
def twinE (f : Nat) : ME := .newT f (.op .ix (.consA (.fldN (.var 0)) (.consA (.cst (.int 0)) .nilA)))
def twinA : ME := .consA (.fldN (.var 0)) (.consA (.op (.list true) (.consA (.fldP (.var 0)) .nilA)) .nilA)
def twinK (l : Nat) (xs : List D) (env : Ev) (m1 : MH) : RS := match xs, env with
  | [.ref (q + 1)], some (.ref (n + 1)) :: _ :: _ => (match m1[n]?, m1[n + 1]?, m1[q + 1]? with
    | some (.lst ds), some (.tab now), some (.tab _) => if decide (l ≤ q) && decide (n + 1 < q) && decide (q + 2 = m1.length) then .rt (.ref (q + 1)) (m1.take q ++ [.lst ds, .tab now]) else .bad
    | _, _, _ => .bad)
  | _, _ => .bad
def exS (cf : CF) (fuel : Nat) : MS → Ev → MH → RS
  | .nil, env, m => .nx env m
  | .pass, env, m => .nx env m
  | .brk, env, m => .bk env m
  | .cnt, env, m => .ct env m
  | .retN, _, m => .rt (.p .none) m
  | .seq a b, env, m => (exS cf fuel a env m).sq (exS cf fuel b)
  | .ex e, env, m => (ev cf e env m).go fun xs m1 => (match xs with | [_] => .nx env m1 | _ => .bad)
  | .setv i e, env, m => (ev cf e env m).go fun xs m1 => (match xs with | [d] => .nx (env.set i (some d)) m1 | _ => .bad)
  | .setLc i e, env, m => (ev cf e env m).go fun xs m1 => (match xs with | [d] => .nx (env.set i (some d)) m1 | _ => .bad)
  | .asgT t e, env, m => (ev cf e env m).go fun xs m1 => (match xs with
    | [.p d] => (match bindT t d env with | some env2 => .nx env2 m1 | none => .bad)
    | _ => .bad)
  | .par i j a, env, m => (ev cf a env m).go fun xs m1 => (match xs with | [d, e] => .nx ((env.set i (some d)).set j (some e)) m1 | _ => .bad)
  | .par3 i j l a, env, m => (ev cf a env m).go fun xs m1 => (match xs with | [d, e, f] => .nx (((env.set i (some d)).set j (some e)).set l (some f)) m1 | _ => .bad)
  | .setI o i e, env, m => (ev cf e env m).go fun xs m1 => (match xs with
    | [.p v] => (ev cf o env m1).go fun ys m2 => (match ys with
      | [.ref n] => (ev cf i env m2).go fun zs m3 => (match zs with
        | [.p (.int k)] => (match m3[n]? with
          | some (.lst ds) => (match seqIx ds.length k with
            | some j => .nx env (m3.set n (.lst (ds.set j v)))
            | none => .bad)
          | _ => .bad)
        | _ => .bad)
      | _ => .bad)
    | _ => .bad)
  | .iff c a b, env, m => (ev cf c env m).go fun xs m1 => (match truth xs with
    | some true => exS cf fuel a env m1
    | some false => exS cf fuel b env m1
    | none => .bad)
  | .forr t ik it b, env, m => (ev cf it env m).go fun xs m1 => (match iterD ik xs m1 with
    | some (items, ck) => forGo ck (fun d env m => (match bindT t d env with | some env2 => exS cf fuel b env2 m | none => .bad)) items env m1
    | none => .bad)
  | .whil c b, env, m => whGo (ev cf c) (exS cf fuel b) fuel env m
  | .ret e, env, m => (ev cf e env m).go fun xs m1 => (match xs with | [d] => .rt d m1 | _ => .bad)
  | .rais c, _, m => raisR c m
  | .parN is a, env, m => (ev cf a env m).go fun xs m1 => if xs.length = is.length ∧ xs.length ≤ 100000 then .nx (setAll env is xs) m1 else .bad
  | .raisF a, env, m => (ev cf a env m).go fun xs m1 => (match xs with | [.p (.int i), .p (.int j)] => if fewB i j then .exc 12 [.int i, .int j] m1 else .bad | _ => .bad)
  | .setN o e, env, m => (ev cf e env m).go fun xs m1 => (match xs with
    | [.p v] => (ev cf o env m1).go fun ys m2 => (match ys with
      | [.ref n] => (match m2[n]? with
        | some (.tab _) => .nx env (m2.set n (.tab v))
        | _ => .bad)
      | _ => .bad)
    | _ => .bad)
  | .twin f, env, m => (ev cf (twinE f) env m).go fun xs m1 => twinK m.length xs env m1
  | .wall, _, _ => .bad
  | .errs, env, m => .nx env m
def WPS (K : PySem.W.Frag) (gh : List Addr) (E : XK) (D : Ends) (r : RS) (rho : List Addr) (H : Hp) : Prop := match r with
  | .nx env m => ∀ rho' H' sg', Ext rho H rho' H' → StOk K rho' gh env m sg' H' → D.nx sg' H'
  | .bk env m => ∀ rho' H' sg', Ext rho H rho' H' → StOk K rho' gh env m sg' H' → D.bk sg' H'
  | .ct env m => ∀ rho' H' sg', Ext rho H rho' H' → StOk K rho' gh env m sg' H' → D.ct sg' H'
  | .rt d m => ∀ rho' H' v, Ext rho H rho' H' → Rel K rho' gh m H' → RD K rho' gh H' d v → D.rt v H'
  | .exc c fs m => ∀ rho' H' u dx, Ext rho H rho' H' → Rel K rho' gh m H' → ExcOk K c fs u dx (rho' ++ gh) H' → E u dx H'
  | .bad => False
theorem WPS.ext {K : PySem.W.Frag} {gh rho rho1 : List Addr} {H H1 : Hp} {E : XK} {D : Ends} {r : RS} (x : Ext rho H rho1 H1) (h : WPS K gh E D r rho H) : WPS K gh E D r rho1 H1 := by
  cases r with
  | nx env m => exact fun rho' H' sg y => h rho' H' sg (x.trans y)
  | bk env m => exact fun rho' H' sg y => h rho' H' sg (x.trans y)
  | ct env m => exact fun rho' H' sg y => h rho' H' sg (x.trans y)
  | rt d m => exact fun rho' H' v y => h rho' H' v (x.trans y)
  | exc c fs m => exact fun rho' H' u dx y => h rho' H' u dx (x.trans y)
  | bad => exact h
def tMS (K : PySem.W.Frag) (E : XK) (cf : CF) (fuel : Nat) (ms : MS) : TS := fun D sg H => ∃ rho gh env m, StOk K rho gh env m sg H ∧ WPS K gh E D (exS cf fuel ms env m) rho H
theorem PS.imp {X : Cx} {e : Stmt} {t t' : TS} (h : PS X e t) (k : ∀ D sg H, t' D sg H → t D sg H) : PS X e t' := ⟨fun pins s sg H D I q => h.run pins s sg H D I (k D sg H q)⟩
theorem PSs.imp {X : Cx} {e : List Stmt} {t t' : TS} (h : PSs X e t) (k : ∀ D sg H, t' D sg H → t D sg H) : PSs X e t' := ⟨fun pins s sg H D I q => h.run pins s sg H D I (k D sg H q)⟩
section
variable {G : Gs} {cf : CF} {N : List Str} {sc : Scope} {E : XK} {X : Cx} {fuel : Nat}
theorem WPS.go {K : PySem.W.Frag} {gh rho : List Addr} {H : Hp} {D : Ends} {r : R (List M.D)} {k : List M.D → MH → RS} {Q' : List V → Hp → Prop} (h : WPS K gh E D (r.go k) rho H)
    (q : ∀ ds m rho' H' vs, r = .ok ds m → Ext rho H rho' H' → Rel K rho' gh m H' → RDs K rho' gh H' ds vs → WPS K gh E D (k ds m) rho' H' → Q' vs H') : WP K gh E r rho H Q' := by
  cases r with
  | ok ds m => exact fun rho' H' vs x y z => q ds m rho' H' vs rfl x y z (WPS.ext x h)
  | exc c fs m => exact h
  | bad => exact h
theorem ms_one {D : Ends} {K : PySem.W.Frag} {e : ME} {rho gh : List Addr} {env : Ev} {m : MH} {sg : L2.St} {H : Hp} {k : List M.D → MH → RS} {Q' : VK} (S : StOk K rho gh env m sg H) (w : WPS K gh E D ((ev cf e env m).go k) rho H)
    (hk : ∀ ds m, (∀ d, ds ≠ [d]) → k ds m = .bad)
    (q : ∀ d v m1 rho1 H1, Ext rho H rho1 H1 → StOk K rho1 gh env m1 sg H1 → RD K rho1 gh H1 d v → WPS K gh E D (k [d] m1) rho1 H1 → Q' v H1) : tE K E cf e sg H Q' := by
  refine ⟨rho, gh, env, m, S, WPS.go w fun ds m1 rho1 H1 vs e x R rd w => ?_⟩
  by_cases h : ∃ d, ds = [d]
  · obtain ⟨d, rfl⟩ := h
    obtain ⟨v, rfl, r⟩ := RDs.one_of rd
    exact ⟨v, rfl, q d v m1 rho1 H1 x (S.ext x R) r w⟩
  · rw [hk ds m1 fun d e => h ⟨d, e⟩] at w
    exact w.elim
theorem rd_seq {a b : MS} (D : Ends) (sg : L2.St) (H : Hp) (h : tMS X.K E cf fuel (.seq a b) D sg H) : tSeq (tMS X.K E cf fuel a) (tMS X.K E cf fuel b) D sg H := by
  obtain ⟨rho, gh, env, m, S, w⟩ := h
  refine ⟨rho, gh, env, m, S, ?_⟩
  simp only [exS] at w
  cases e : exS cf fuel a env m with
  | nx env1 m1 =>
    rw [e] at w
    exact fun rho' H' sg' x S' => ⟨rho', gh, env1, m1, S', WPS.ext x w⟩
  | rt d m => rw [e] at w; exact w
  | bk d m => rw [e] at w; exact w
  | ct d m => rw [e] at w; exact w
  | exc c fs m => rw [e] at w; exact w
  | bad => rw [e] at w; exact w
theorem rd_nil (D : Ends) (sg : L2.St) (H : Hp) (h : tMS X.K E cf fuel .nil D sg H) : tNext D sg H := by
  obtain ⟨rho, gh, env, m, S, w⟩ := h
  exact w rho H sg Ext.refl S
theorem rd_pass (D : Ends) (sg : L2.St) (H : Hp) (h : tMS X.K E cf fuel .pass D sg H) : tNext D sg H := by
  obtain ⟨rho, gh, env, m, S, w⟩ := h
  exact w rho H sg Ext.refl S
theorem rd_brk (D : Ends) (sg : L2.St) (H : Hp) (h : tMS X.K E cf fuel .brk D sg H) : tBreak D sg H := by
  obtain ⟨rho, gh, env, m, S, w⟩ := h
  exact w rho H sg Ext.refl S
theorem rd_cnt (D : Ends) (sg : L2.St) (H : Hp) (h : tMS X.K E cf fuel .cnt D sg H) : tCont D sg H := by
  obtain ⟨rho, gh, env, m, S, w⟩ := h
  exact w rho H sg Ext.refl S
theorem rd_retN (D : Ends) (sg : L2.St) (H : Hp) (h : tMS X.K E cf fuel .retN D sg H) : tRetN D sg H := by
  obtain ⟨rho, gh, env, m, S, w⟩ := h
  exact w rho H .non Ext.refl S.rel (by show RP _ _ _ _ _; simp only [RP])
theorem rd_ex {e : ME} (D : Ends) (sg : L2.St) (H : Hp) (h : tMS X.K E cf fuel (.ex e) D sg H) : tDrop (tE X.K E cf e) D sg H := by
  obtain ⟨rho, gh, env, m, S, w⟩ := h
  simp only [exS] at w
  refine ms_one S w (fun ds m h => ?_) fun d v m1 rho1 H1 x S1 r w => w rho1 H1 sg Ext.refl S1
  split
  · rename_i d
    exact (h d rfl).elim
  · rfl
theorem rd_ret {e : ME} (D : Ends) (sg : L2.St) (H : Hp) (h : tMS X.K E cf fuel (.ret e) D sg H) : tRet (tE X.K E cf e) D sg H := by
  obtain ⟨rho, gh, env, m, S, w⟩ := h
  simp only [exS] at w
  refine ms_one S w (fun ds m h => ?_) fun d v m1 rho1 H1 x S1 r w => w rho1 H1 v Ext.refl S1.rel r
  split
  · rename_i d
    exact (h d rfl).elim
  · rfl
theorem StOk.set {K : PySem.W.Frag} {rho gh : List Addr} {env : Ev} {m : MH} {sg : L2.St} {H : Hp} (S : StOk K rho gh env m sg H) {i : Nat} {d : M.D} {v : V} (r : RD K rho gh H d v) : StOk K rho gh (env.set i (some d)) m (sg.set i (some v)) H := ⟨S.rel, S.env.set r⟩
theorem rd_setv {i : Nat} {e : ME} (D : Ends) (sg : L2.St) (H : Hp) (h : tMS X.K E cf fuel (.setv i e) D sg H) : tAsg (tE X.K E cf e) (gName i) D sg H := by
  obtain ⟨rho, gh, env, m, S, w⟩ := h
  simp only [exS] at w
  refine ms_one S w (fun ds m h => ?_) fun d v m1 rho1 H1 x S1 r w => w rho1 H1 _ Ext.refl (S1.set r)
  split
  · rename_i d
    exact (h d rfl).elim
  · rfl
theorem rd_setLc {i : Nat} {e : ME} (D : Ends) (sg : L2.St) (H : Hp) (h : tMS X.K E cf fuel (.setLc i e) D sg H) : tAsg (tE X.K E cf e) (gName i) D sg H := by
  obtain ⟨rho, gh, env, m, S, w⟩ := h
  simp only [exS] at w
  refine ms_one S w (fun ds m h => ?_) fun d v m1 rho1 H1 x S1 r w => w rho1 H1 _ Ext.refl (S1.set r)
  split
  · rename_i d
    exact (h d rfl).elim
  · rfl
theorem rd_asgT {t : MT} {e : ME} (D : Ends) (sg : L2.St) (H : Hp) (h : tMS X.K E cf fuel (.asgT t e) D sg H) : tAsg (tE X.K E cf e) (tG X.K t) D sg H := by
  obtain ⟨rho, gh, env, m, S, w⟩ := h
  simp only [exS] at w
  refine ms_one S w (fun ds m h => ?_) fun d v m1 rho1 H1 x S1 r w => ?_
  · split
    · rename_i d
      exact (h _ rfl).elim
    · rfl
  · cases d with
    | p d =>
      simp only at w
      split at w
      · rename_i env2 q
        exact ⟨rho1, gh, m1, env, d, env2, S1.rel, S1.env, r, q, fun sg2 e2 _ => w rho1 H1 sg2 Ext.refl ⟨S1.rel, e2⟩⟩
      · exact w.elim
    | ref n => exact w.elim
    | ro ds => exact w.elim
    | kt ds => exact w.elim
    | st n => exact w.elim
theorem rd_par {i j : Nat} {a : ME} (D : Ends) (sg : L2.St) (H : Hp) (h : tMS X.K E cf fuel (.par i j a) D sg H) : tPar i j (tA X.K E cf a) D sg H := by
  obtain ⟨rho, gh, env, m, S, w⟩ := h
  simp only [exS] at w
  refine ⟨rho, gh, env, m, S, WPS.go w fun ds m1 rho1 H1 vs e x R rd w => ?_⟩
  split at w
  · obtain ⟨v, u, rfl, r1, r2⟩ := RDs.two_of rd
    exact ⟨v, u, rfl, w rho1 H1 _ Ext.refl (((S.ext x R).set r1).set r2)⟩
  · exact w.elim
theorem RDs.three_of {K : PySem.W.Frag} {rho gh : List Addr} {H : Hp} {d e f : M.D} {vs : List V} (h : RDs K rho gh H [d, e, f] vs) : ∃ v w u, vs = [v, w, u] ∧ RD K rho gh H d v ∧ RD K rho gh H e w ∧ RD K rho gh H f u := by
  obtain ⟨v, r, rfl, h1, h2⟩ := h
  obtain ⟨w, u, rfl, h3, h4⟩ := RDs.two_of h2
  exact ⟨v, w, u, rfl, h1, h3, h4⟩
theorem rd_par3 {i j l : Nat} {a : ME} (D : Ends) (sg : L2.St) (H : Hp) (h : tMS X.K E cf fuel (.par3 i j l a) D sg H) : tPar3 i j l (tA X.K E cf a) D sg H := by
  obtain ⟨rho, gh, env, m, S, w⟩ := h
  simp only [exS] at w
  refine ⟨rho, gh, env, m, S, WPS.go w fun ds m1 rho1 H1 vs e x R rd w => ?_⟩
  split at w
  · obtain ⟨v, u, t, rfl, r1, r2, r3⟩ := RDs.three_of rd
    exact ⟨v, u, t, rfl, w rho1 H1 _ Ext.refl ((((S.ext x R).set r1).set r2).set r3)⟩
  · exact w.elim
def gNms : List Nat → TGs
  | [] => gNil
  | i :: r => gCons (gName i) (gNms r)
def setAllV : L2.St → List Nat → List V → L2.St
  | sg, i :: is, v :: vs => setAllV (sg.set i (some v)) is vs
  | sg, _, _ => sg
theorem gNms_of : ∀ (is : List Nat) (vs : List V) (sg : L2.St) (H : Hp) (Q : L2.St → Hp → Prop), vs.length = is.length → Q (setAllV sg is vs) H → gNms is vs sg H Q
  | [], [], sg, H, Q, _, q => ⟨rfl, q⟩
  | [], _ :: _, sg, H, Q, h, _ => by simp at h
  | _ :: _, [], sg, H, Q, h, _ => by simp at h
  | i :: is, v :: vs, sg, H, Q, h, q => ⟨v, vs, rfl, gNms_of is vs _ H Q (by simpa using h) q⟩
theorem eok_all {K : PySem.W.Frag} {rho gh : List Addr} {H : Hp} : ∀ (is : List Nat) {ds : List M.D} {vs : List V} {env : Ev} {sg : L2.St}, EOk K rho gh H env sg → RDs K rho gh H ds vs → EOk K rho gh H (setAll env is ds) (setAllV sg is vs)
  | [], ds, vs, env, sg, h, _ => h
  | i :: is, [], vs, env, sg, h, r => by
    have e : vs = [] := r
    subst e
    exact h
  | i :: is, d :: ds, vs, env, sg, h, r => by
    obtain ⟨v, t, rfl, h1, h2⟩ := r
    exact eok_all is (h.set h1) h2
theorem rd_parN {is : List Nat} {a : ME} (D : Ends) (sg : L2.St) (H : Hp) (h : tMS X.K E cf fuel (.parN is a) D sg H) : tAsg (tTup (tA X.K E cf a)) (gTup X.K is.length (gNms is)) D sg H := by
  obtain ⟨rho, gh, env, m, S, w⟩ := h
  simp only [exS] at w
  refine ⟨rho, gh, env, m, S, WPS.go w fun ds m1 rho1 H1 vs e x R rd w => ?_⟩
  split at w
  · rename_i c
    have hl := RDs.len rd
    refine ⟨line_sz (by omega), fun T hT => ⟨T, vs, rfl, SqT.of upd_same, by omega, ?_⟩⟩
    refine gNms_of is vs sg _ _ (by omega) ?_
    have x2 : Ext rho1 H1 rho1 (upd H1 T (.tup vs)) := Ext.upd hT
    have S1 := S.ext x R
    exact w rho1 _ _ x2 ⟨R.upd hT, eok_all is (S1.env.ext x2) (x2.rds rd)⟩
  · exact w.elim
theorem rd_iff {c : ME} {a b : MS} (D : Ends) (sg : L2.St) (H : Hp) (h : tMS X.K E cf fuel (.iff c a b) D sg H) : tIfS (tT X.K E cf c) (tMS X.K E cf fuel a) (tMS X.K E cf fuel b) D sg H := by
  obtain ⟨rho, gh, env, m, S, w⟩ := h
  simp only [exS] at w
  refine ⟨rho, gh, env, m, S, WPS.go w fun ds m1 rho1 H1 vs e x R rd w => ?_⟩
  split at w <;> rename_i q
  · have q2 := tr_of q
    subst q2
    obtain ⟨v1, rfl, r1⟩ := RDs.one_of rd
    refine ⟨v1, rfl, true, rd_bl r1, ?_⟩
    simp only [if_true]
    exact ⟨rho1, gh, env, m1, S.ext x R, w⟩
  · have q2 := tr_of q
    subst q2
    obtain ⟨v1, rfl, r1⟩ := RDs.one_of rd
    refine ⟨v1, rfl, false, rd_bl r1, ?_⟩
    simp only [Bool.false_eq_true, if_false]
    exact ⟨rho1, gh, env, m1, S.ext x R, w⟩
  · exact w.elim
theorem RPs.setI {K : PySem.W.Frag} {ex : List Addr} {H : Hp} {d : P} {v : V} (r : RP K ex H d v) : ∀ {ds : List P} {xs : List V} (j : Nat), RPs K ex H ds xs → RPs K ex H (ds.set j d) (xs.set j v)
  | [], xs, j, h => by simp only [RPs] at h; subst h; simp [RPs]
  | e :: ds, xs, j, h => by
    simp only [RPs] at h
    obtain ⟨u, t, rfl, h1, h2⟩ := h
    cases j with
    | zero => simp only [List.set_cons_zero, RPs]; exact ⟨v, t, rfl, r, h2⟩
    | succ j => simp only [List.set_cons_succ, RPs]; exact ⟨u, _, rfl, h1, RPs.setI r j h2⟩
theorem rd_setN {o e : ME} (t : TabK X.K X.mg) (D : Ends) (sg : L2.St) (H : Hp) (h : tMS X.K E cf fuel (.setN o e) D sg H) : sFld X.K (tE X.K E cf o) (tE X.K E cf e) "now" D sg H := by
  obtain ⟨rho, gh, env, m, S, w⟩ := h
  simp only [exS] at w
  refine ⟨rho, gh, env, m, S, WPS.go w fun ds m1 rho1 H1 vs e1 x1 R1 rd1 w => ?_⟩
  split at w
  · rename_i v
    obtain ⟨y1, rfl, r1⟩ := RDs.one_of rd1
    have S1 := S.ext x1 R1
    refine ⟨y1, rfl, rho1, gh, env, m1, S1, WPS.go w fun ds m2 rho2 H2 vs e2 x2 R2 rd2 w => ?_⟩
    split at w
    · rename_i n
      obtain ⟨y2, rfl, r2⟩ := RDs.one_of rd2
      have S2 := S1.ext x2 R2
      split at w
      · rename_i d0 em
        obtain ⟨a, dx, v', l, rfl, ea, q1, q2, q3⟩ := tab_at R2 r2 em
        have rv : RP X.K (rho2 ++ gh) H2 v y1 := x2.rd (d := .p v) r1
        obtain ⟨R3, x3⟩ := R2.setT ea em q2 rv
        have ep : putF "now" y1 (tabF v' l) = tabF y1 l := by unfold tabF putF; simp
        refine ⟨_, rfl, a, _, dx, _, rfl, q2, t.cls, t.n1, by unfold tabF; simp, ?_⟩
        rw [ep]
        exact w rho2 _ sg x3 (S2.ext x3 R3)
      · exact w.elim
    · exact w.elim
  · exact w.elim
theorem rd_setI {o i e : ME} (D : Ends) (sg : L2.St) (H : Hp) (h : tMS X.K E cf fuel (.setI o i e) D sg H) : tAsg (tE X.K E cf e) (gSub (tE X.K E cf o) (tE X.K E cf i) rSetL) D sg H := by
  obtain ⟨rho, gh, env, m, S, w⟩ := h
  simp only [exS] at w
  refine ⟨rho, gh, env, m, S, WPS.go w fun ds m1 rho1 H1 vs e1 x1 R1 rd1 w => ?_⟩
  split at w
  · rename_i v
    obtain ⟨y1, rfl, r1⟩ := RDs.one_of rd1
    have S1 := S.ext x1 R1
    refine ⟨y1, rfl, rho1, gh, env, m1, S1, WPS.go w fun ds m2 rho2 H2 vs e2 x2 R2 rd2 w => ?_⟩
    split at w
    · rename_i n
      obtain ⟨y2, rfl, r2⟩ := RDs.one_of rd2
      have S2 := S1.ext x2 R2
      refine ⟨y2, rfl, rho2, gh, env, m2, S2, WPS.go w fun ds m3 rho3 H3 vs e3 x3 R3 rd3 w => ?_⟩
      split at w
      · rename_i k
        obtain ⟨y3, rfl, r3⟩ := RDs.one_of rd3
        have S3 := S2.ext x3 R3
        split at w
        · rename_i ls q
          split at w
          · rename_i j hj
            obtain ⟨a, rfl, e4⟩ := x3.rd r2
            obtain ⟨xs, e5, z⟩ := R3.cell n a _ e4 q
            cases rd_int r3
            refine ⟨_, rfl, a, xs, k, j, rfl, rfl, e5, by rw [RPs.len z]; exact hj, ?_⟩
            have rv : RP X.K (rho3 ++ gh) H3 v y1 := x3.rd (d := .p v) (x2.rd (d := .p v) r1)
            obtain ⟨R4, x4⟩ := R3.set e4 (RPs.setI rv j z)
            exact w rho3 _ sg x4 ⟨R4, S3.env.ext x4⟩
          · exact w.elim
        · exact w.elim
      · exact w.elim
    · exact w.elim
  · exact w.elim
theorem rd_for {t : MT} {ik : Itk} {it : ME} {b : MS} (D : Ends) (sg : L2.St) (H : Hp) (h : tMS X.K E cf fuel (.forr t ik it b) D sg H) : tFor (tI X.K E cf ik it) (tG X.K t) (tMS X.K E cf fuel b) D sg H := by
  obtain ⟨rho, gh, env, m, S, w⟩ := h
  simp only [exS] at w
  refine ⟨rho, gh, env, m, S, ?_⟩
  unfold WPi
  cases e : ev cf it env m with
  | exc c fs m1 => rw [e] at w; exact w
  | bad => rw [e] at w; exact w
  | ok xs m1 =>
    rw [e] at w
    simp only [R.go] at w ⊢
    split at w
    · rename_i items ck q
      try simp only [q]
      intro rho1 H1 J x1 R1 hJ
      obtain ⟨Gp, Y, wk, hG, hY⟩ := hJ.ex
      have S1 := S.ext x1 R1
      have w1 := WPS.ext x1 w
      generalize hf : (fun d env m => (match bindT t d env with | some env2 => exS cf fuel b env2 m | none => RS.bad)) = f at w1
      have ckOf : ∀ {l : List P} {env2 : Ev} {m2 : MH} {rho2 : List Addr} {H2 : Hp}, WPS X.K gh E D (forGo ck f l env2 m2) rho2 H2 → ck m2 = true := fun {l env2 m2 rho2 H2} h => by
        cases l <;> simp only [forGo] at h <;> split at h <;> first
          | assumption
          | exact h.elim
      refine for_it wk (fun i sg2 H2 => ∃ rho2 env2 m2, StOk X.K rho2 gh env2 m2 sg2 H2 ∧ Ext rho1 H1 rho2 H2 ∧ WPS X.K gh E D (forGo ck f (items.drop i) env2 m2) rho2 H2) ⟨rho1, env, m1, S1, Ext.refl, w1⟩
        (fun i sg2 H2 _ ⟨rho2, env2, m2, S2, x2, w2⟩ => hG rho2 gh m2 H2 (x2.at (gh := gh)) x2.pre S2.rel (ckOf w2)) (fun i x sg2 H2 H3 hi ⟨rho2, env2, m2, S2, x2, w2⟩ y => ?_) (fun sg2 H2 ⟨rho2, env2, m2, S2, x2, w2⟩ => ?_)
      · obtain ⟨d, hd, x3, R3, r3⟩ := hY i rho2 gh H2 x H3 m2 hi (x2.at (gh := gh)) x2.pre S2.rel (ckOf w2) y
        have ck2 := ckOf w2
        rw [drop_cons hd] at w2
        simp only [forGo, ck2, if_true] at w2
        have w3 := WPS.ext x3 w2
        cases hb : bindT t d env2 with
        | none =>
          rw [← hf] at w3
          simp only [hb] at w3
          exact w3.elim
        | some env3 =>
          refine ⟨rho2, gh, m2, env2, d, env3, R3, S2.env.ext x3, r3, hb, fun sg3 eo3 _ => ⟨rho2, gh, env3, m2, ⟨R3, eo3⟩, ?_⟩⟩
          have fe : f d env2 m2 = exS cf fuel b env3 m2 := by rw [← hf]; simp only [hb]
          rw [fe] at w3
          cases hr : exS cf fuel b env3 m2 with
          | nx env4 m4 =>
            rw [hr] at w3
            exact fun rho' H' sg' x' S' => ⟨rho', env4, m4, S', x2.trans (x3.trans x'), WPS.ext x' w3⟩
          | ct env4 m4 =>
            rw [hr] at w3
            exact fun rho' H' sg' x' S' => ⟨rho', env4, m4, S', x2.trans (x3.trans x'), WPS.ext x' w3⟩
          | bk env4 m4 =>
            rw [hr] at w3
            exact w3
          | rt d m4 => rw [hr] at w3; exact w3
          | exc c fs m4 => rw [hr] at w3; exact w3
          | bad => rw [hr] at w3; exact w3
      · have ck2 := ckOf w2
        rw [List.drop_length] at w2
        simp only [forGo, ck2, if_true] at w2
        exact w2 rho2 H2 sg2 Ext.refl S2
    · exact w.elim
theorem rd_whil {c : ME} {b : MS} (D : Ends) (sg : L2.St) (H : Hp) (h : tMS X.K E cf fuel (.whil c b) D sg H) : tWhile (tT X.K E cf c) (tMS X.K E cf fuel b) D sg H := by
  obtain ⟨rho, gh, env, m, S, w⟩ := h
  simp only [exS] at w
  refine ⟨fun n sg2 H2 => ∃ rho2 env2 m2, StOk X.K rho2 gh env2 m2 sg2 H2 ∧ WPS X.K gh E D (whGo (ev cf c) (exS cf fuel b) n env2 m2) rho2 H2, ⟨fuel, rho, env, m, S, w⟩, ?_⟩
  rintro n sg2 H2 ⟨rho2, env2, m2, S2, w2⟩
  cases n with
  | zero => exact w2.elim
  | succ n =>
    simp only [whGo] at w2
    refine ⟨rho2, gh, env2, m2, S2, WPS.go w2 fun ds m3 rho3 H3 vs e3 x3 R3 rd3 w3 => ?_⟩
    split at w3 <;> rename_i q
    · have q2 := tr_of q
      subst q2
      obtain ⟨v1, rfl, r1⟩ := RDs.one_of rd3
      refine ⟨v1, rfl, true, rd_bl r1, ?_⟩
      simp only [if_true]
      refine ⟨fun sg2 H2 => ∃ rho2 env2 m2, StOk X.K rho2 gh env2 m2 sg2 H2 ∧ WPS X.K gh E D (whGo (ev cf c) (exS cf fuel b) n env2 m2) rho2 H2, fun sg' H' p => ⟨n, by omega, p⟩, rho3, gh, env2, m3, S2.ext x3 R3, ?_⟩
      cases hr : exS cf fuel b env2 m3 with
      | nx env4 m4 =>
        rw [hr] at w3
        exact fun rho' H' sg' x' S' => ⟨rho', env4, m4, S', WPS.ext x' w3⟩
      | ct env4 m4 =>
        rw [hr] at w3
        exact fun rho' H' sg' x' S' => ⟨rho', env4, m4, S', WPS.ext x' w3⟩
      | bk env4 m4 =>
        rw [hr] at w3
        exact w3
      | rt d m4 => rw [hr] at w3; exact w3
      | exc c fs m4 => rw [hr] at w3; exact w3
      | bad => rw [hr] at w3; exact w3
    · have q2 := tr_of q
      subst q2
      obtain ⟨v1, rfl, r1⟩ := RDs.one_of rd3
      refine ⟨v1, rfl, false, rd_bl r1, ?_⟩
      simp only [Bool.false_eq_true, if_false]
      exact w3 rho3 H3 sg2 Ext.refl (S2.ext x3 R3)
    · exact w3.elim
end
end M
namespace M
open PySem PySem.Spec PyProof.Rows L2
def initBody (p : Nat → Pos) : List Stmt :=
  [.Expr (.Call (.Attribute (.Name "PinError" (p 0)) "__init__" (p 1)) [.Name "self" (p 2), .JoinedStr [.FormattedValue (.Name "many" (p 3)) (-1) none (p 4), .Constant (.str " where ") 0 (p 5), .FormattedValue (.Name "least" (p 6)) (-1) none (p 7), .Constant (.str " must be") 0 (p 8)] (p 9)] [] (p 10)) (p 11),
   .Assign [.Attribute (.Name "self" (p 12)) "many" (p 13)] (.Name "many" (p 14)) (p 15),
   .Assign [.Attribute (.Name "self" (p 16)) "least" (p 17)] (.Name "least" (p 18)) (p 19)]
def initN : List Str := ["self", "many", "least"]
structure FewOk (K : PySem.W.Frag) (mg : Str → Option Value) : Prop where
  mgT : mg "TooFew" = some (.ref (He.ga K "TooFew"))
  mgP : mg "PinError" = some (.ref (He.ga K "PinError"))
  oex : OexC K (He.ga K "TooFew")
  init : PySem.W.findIn K (.ref (He.ga K "TooFew")) "__init__" = some (some (.ref (He.ma K (He.ga K "TooFew") "__init__")))
  fty : PySem.W.typeIn K (.ref (He.ma K (He.ga K "TooFew") "__init__")) = some (.type "function")
  no1 : PySem.W.findIn K (.ref (He.ga K "TooFew")) "many" = some none
  no2 : PySem.W.findIn K (.ref (He.ga K "TooFew")) "least" = some none
  gaP : PySem.W.specialIn K (.ref (He.ga K "PinError")) "__getattribute__" = some (some (.builtin "type.__getattribute__"))
  rdP : PySem.W.readsIn K (He.ga K "PinError") (.type "type") = true
  inP : PySem.W.findCls K (.ref (He.ga K "PinError")) (.type "type") "__init__" = some (.val (.builtin "ValueError.__init__"))
  def_ : ∃ (fd : FuncData) (pg : Arguments) (sc : Scope) (p : Nat → Pos), FunD K "__init__" "TooFew.__init__" pg (initBody p) sc [] [] (He.ma K (He.ga K "TooFew") "__init__") fd ∧ Binds K fd initN [] ∧ FnScope initN initN sc ∧
    glob sc "PinError" ∧ loc1 sc "self" ∧ loc1 sc "many" ∧ loc1 sc "least" ∧ ((p 1).endLine == (p 10).line) = true ∧ ((p 11).line == (p 11).line) = true
section
variable {X : Cx} {e : Expr} {es : List Expr} {ta : TA} {p1 p2 pos : Pos}
theorem pe_pinit {x : Str} {C : Addr} (hg : Gl X x) (hm : X.mg x = some (.ref C)) (hdb : (x == ("__debug__" : Str)) = false) (ga : PySem.W.specialIn X.K (.ref C) "__getattribute__" = some (some (.builtin "type.__getattribute__"))) (rd : PySem.W.readsIn X.K C (.type "type") = true)
    (vV : PySem.W.findCls X.K (.ref C) (.type "type") "__init__" = some (.val (.builtin "ValueError.__init__"))) (ha : PA X (e :: es) ta)
    (hfew : ((backTo pos (starEach (e :: es) X.env)).all (fun x => !x.1) && (backToKw pos (keywordEach [] X.env)).all (fun x => x.1.isSome)
      && decide ((e :: es).length + ([] : List Keyword).length + (if ([] : List Keyword).isEmpty then 0 else 1) < 30)) = true)
    (hline : (p2.endLine == pos.line) = true)
    (he : starEach (e :: es) X.env = (false, eval e X.env) :: starEach es X.env := by rfl) (hpl : (backTo pos (starEach es X.env)).any (·.1) = false := by rfl) :
    PE X (.Call (.Attribute (.Name x p1) "__init__" p2) (e :: es) [] pos) (tVeI X.K ta) := by
  refine ⟨fun pins s σ H Q I h => ?_⟩
  have hb : attributeBase (.Name x p1) "__init__" X.env (eval (.Name x p1) X.env) = eval (.Name x p1) X.env := rfl
  rw [arm_eval_Call, hb]
  refine wpAny_bind (ld_glob I hg hm ?_ hdb)
  refine wpAny_bind (wpAny_standAt ?_)
  have hform : methodCallForm ((e :: es).length + ([] : List Keyword).length) (backTo pos (starEach (e :: es) X.env)) (backToKw pos (keywordEach [] X.env)) = true := hfew
  have hpos : methodCallPos true (.Name x p1) X.env p2 pos = pure pos := by unfold methodCallPos; simp [hline]
  unfold methodCall
  rw [hform]
  refine wpAny_bind (wpAny_holding (PySem.W.method_cls I.kIn ga (PySem.W.cls_value I.kIn rd vV (by decide +kernel) ?_)))
  refine wpAny_bind (wpAny_of_eq hpos ?_)
  show wpAny _ _ (callWith pos (Value.builtin "ValueError.__init__") [] (backTo pos (starEach (e :: es) X.env)) []) _ _ _
  refine PyProof.Rows.callWith_method1 (thn (ha.run pos pins _ σ H _ (I.tok _) h) fun ys s2 z => ?_) he hpl
  obtain ⟨xs, H2, I2, rel, b, D, more, e1, few, oc, eb, q⟩ := z
  subst e1
  cases rel with
  | @cons _ y0 _ yr r0 rr =>
    have ey : y0 = Value.ref b := r0
    subst ey
    have le : yr.length ≤ sizeLine := by
      have e2 := Paired.length rr
      have e3 := sizeLine_eq
      omega
    exact oinit_ok oc I2 eb le fun _ J => ⟨.non, H2, J, rfl, q⟩
end
def spInit (K : PySem.W.Frag) : Sp := fun vs H Q _ => ∃ (a : Addr) (i j : Int), vs = [.ref a, .int i, .int j] ∧ fewB i j = true ∧ H a = some (exo a (He.ga K "TooFew") none) ∧
  ∀ dx, H dx = none → dx ≠ a → Q .non (upd (upd (upd H dx (exd dx [("many", .int i)])) a (exo a (He.ga K "TooFew") (some dx))) dx (exd dx [("least", .int j), ("many", .int i)]))
section
variable {P : Program} {w : World} {K : PySem.W.Frag} {mg : Str → Option Value} {base : Heap}
theorem few_len (x y : Str) : (x ++ y).length = x.length + y.length := by
  show (x.cps ++ y.cps).size = _
  simp [Str.length]
theorem init_okF {CX : CXT} (F : FewOk K mg) : ∃ fd, (∃ pg sc b, FunD K "__init__" "TooFew.__init__" pg b sc [] [] (He.ma K (He.ga K "TooFew") "__init__") fd) ∧ Binds K fd initN [] ∧ FnOk P w K mg base CX 2 (He.ma K (He.ga K "TooFew") "__init__") fd initN (spInit K) := by
  obtain ⟨fd, pg, sc, p, F1, hb, S, gp, l0, l1, l2, hli, _⟩ := F.def_
  refine ⟨fd, ⟨pg, sc, _, F1⟩, hb, F1.ok S (fun vs H Q E ⟨a, i, j, e, _⟩ => by rw [e]; rfl) fun cdv A outer s H vs Q E hr h => ?_⟩
  obtain ⟨a, i, j, rfl, fb, ea, k⟩ := h
  generalize hX : cxOf CX P w K mg base initN "TooFew.__init__" sc (He.ma K (He.ga K "TooFew") "__init__") cdv A outer s H E = X
  have eK : X.K = K := by subst hX; rfl
  have eM : X.mg = mg := by subst hX; rfl
  have eN : X.N = initN := by subst hX; rfl
  have eS : X.env.scope = sc := by subst hX; rfl
  have v0 := fun q : Pos => pe_var (X := X) (i := 0) (x := ("self" : Str)) (pos := q) (by rw [eN]; rfl) (.inl (by rw [eS]; exact l0))
  have v1 := fun q : Pos => pe_var (X := X) (i := 1) (x := ("many" : Str)) (pos := q) (by rw [eN]; rfl) (.inl (by rw [eS]; exact l1))
  have v2 := fun q : Pos => pe_var (X := X) (i := 2) (x := ("least" : Str)) (pos := q) (by rw [eN]; rfl) (.inl (by rw [eS]; exact l2))
  have jo := pe_joined (X := X) (pos := p 9) (.cons (pe_fmt (pos := p 4) (v1 (p 3))) (.cons (pe_str (j := 0) (pos := p 5) (x := (" where " : Str))) (.cons (pe_fmt (pos := p 7) (v2 (p 6))) (.cons (pe_str (j := 0) (pos := p 8) (x := (" must be" : Str))) .nil))))
  have gl : Gl X "PinError" := by show X.env.scope.names.lookup _ = _; rw [eS]; exact gp
  have few : ((backTo (p 10) (starEach [Expr.Name "self" (p 2), Expr.JoinedStr [.FormattedValue (.Name "many" (p 3)) (-1) none (p 4), .Constant (.str " where ") 0 (p 5), .FormattedValue (.Name "least" (p 6)) (-1) none (p 7), .Constant (.str " must be") 0 (p 8)] (p 9)] X.env)).all (fun x => !x.1) && (backToKw (p 10) (keywordEach [] X.env)).all (fun x => x.1.isSome)
      && decide (([Expr.Name "self" (p 2), Expr.JoinedStr [.FormattedValue (.Name "many" (p 3)) (-1) none (p 4), .Constant (.str " where ") 0 (p 5), .FormattedValue (.Name "least" (p 6)) (-1) none (p 7), .Constant (.str " must be") 0 (p 8)] (p 9)] : List Expr).length + ([] : List Keyword).length + (if ([] : List Keyword).isEmpty then 0 else 1) < 30)) = true := by
    rw [back_all (es := [Expr.Name "self" (p 2), Expr.JoinedStr [.FormattedValue (.Name "many" (p 3)) (-1) none (p 4), .Constant (.str " where ") 0 (p 5), .FormattedValue (.Name "least" (p 6)) (-1) none (p 7), .Constant (.str " must be") 0 (p 8)] (p 9)]) rfl]
    rfl
  have c1 := pe_pinit (X := X) (p1 := p 0) (p2 := p 1) (pos := p 10) gl (by rw [eM]; exact F.mgP) (by decide +kernel) (by rw [eK]; exact F.gaP) (by rw [eK]; exact F.rdP) (by rw [eK]; exact F.inP) (pa_cons (v0 (p 2)) (pa_cons jo pa_nil)) few hli
  have s1 := ps_expr (pos := p 11) c1
  have s2 := ps_ost (p' := p 13) (pos := p 15) (f := ("many" : Str)) (v0 (p 12)) (v1 (p 14))
  have s3 := ps_ost (p' := p 17) (pos := p 19) (f := ("least" : Str)) (v0 (p 16)) (v2 (p 18))
  refine ⟨_, pss_cons s1 (pss_cons s2 (pss_one s3)), ?_⟩
  unfold fewB at fb
  simp only [Bool.and_eq_true, decide_eq_true_eq] at fb
  obtain ⟨⟨⟨b1, b2⟩, b3⟩, b4⟩ := fb
  have l1 : (Str.ofString " where ").length = 7 := by decide +kernel
  have l2 : (Str.ofString " must be").length = 8 := by decide +kernel
  have l0 : Str.empty.length = 0 := rfl
  have big : (100000 : Nat) ≤ sizeLine := line_sz (Nat.le_refl _)
  have nh : (upd H a (exo a (He.ga K "TooFew") none)) = H := by
    funext b
    by_cases hb : b = a
    · rw [hb, upd_same, ea]
    · rw [upd_ne hb]
  have q1 : (Str.empty ++ Str.ofString (toString i)).length ≤ sizeLine := by rw [few_len, l0]; omega
  have q2 : ((Str.empty ++ Str.ofString (toString i)) ++ Str.ofString " where ").length ≤ sizeLine := by rw [few_len, few_len, l0, l1]; omega
  have q3 : (((Str.empty ++ Str.ofString (toString i)) ++ Str.ofString " where ") ++ Str.ofString (toString j)).length ≤ sizeLine := by rw [few_len, few_len, few_len, l0, l1]; omega
  have q4 : ((((Str.empty ++ Str.ofString (toString i)) ++ Str.ofString " where ") ++ Str.ofString (toString j)) ++ Str.ofString " must be").length ≤ sizeLine := by rw [few_len, few_len, few_len, few_len, l0, l1, l2]; omega
  refine ⟨.ref a, rfl, .int i, rfl, .inr ⟨i, rfl, b1, Str.ofString (toString i), rfl, q1, ?_⟩⟩
  refine ⟨_, rfl, q2, .int j, rfl, .inr ⟨j, rfl, b2, Str.ofString (toString j), rfl, q3, ?_⟩⟩
  refine ⟨_, rfl, q4, ?_⟩
  refine ⟨a, He.ga K "TooFew", [.str _], rfl, by simp, by rw [eK]; exact F.oex, ea, ?_⟩
  refine ⟨.int i, rfl, .ref a, rfl, a, He.ga K "TooFew", rfl, by rw [eK]; exact F.oex, by rw [eK]; exact F.no1, .inl ⟨ea, fun dx n ne => ?_⟩⟩
  refine ⟨.int j, rfl, .ref a, rfl, a, He.ga K "TooFew", rfl, by rw [eK]; exact F.oex, by rw [eK]; exact F.no2, .inr ⟨dx, [("many", .int i)], upd_same, ?_, by simp, ?_⟩⟩
  · rw [upd_ne ne, upd_same]
  · exact k dx n ne
theorem init_ok {CX : CXT} (F : FewOk K mg) : ∃ fd, Binds K fd initN [] ∧ FnOk P w K mg base CX 2 (He.ma K (He.ga K "TooFew") "__init__") fd initN (spInit K) := by
  obtain ⟨fd, _, h⟩ := init_okF (P := P) (w := w) (base := base) (CX := CX) F
  exact ⟨fd, h⟩
end
end M
namespace PySem
namespace OEX
open PySem.W PySem.Calls PyProof.Rows PySem.HandSPX
section
variable {M : Model} {A : Around} {E : Value → Shared → Prop} {h : Heap} {g : Array GenState} {d : Drawn} {t : Nat} {os : OsState}
variable {nm q : Str} {C N : Addr} {bs bm bmB : List Value} {hdct : Bool} {sn : List Str} {sub : List Value} {ab : Bool} {col : Option Bool} {dd : Option Addr} {k0 k1 k2 k3 k5 : Option Value} {B newId initId : String} {u v : Value}
abbrev kw2 (u v : Value) : List (Str × Value) := [(("least" : Str), u), (("many" : Str), v)]
theorem e_chkNew (F : ExcBaseFacts B newId initId bmB) (hT : ∀ X : String, bm.contains (.type X) = bmB.contains (.type X)) {Q : Unit → Shared → Prop}
    (hC : h.get? C = some (excClassObj nm q C N bs bm hdct sn sub ab col dd k0 k1 k2 k3 k5 newId)) (hq : Q () ⟨h, g, d, t, os⟩) : wpAny M A (checkBuiltinCall newId ⟨[.ref C], kw2 u v⟩) Q E ⟨h, g, d, t, os⟩ := by
  have c1 : (Value.ref C :: bm).contains (.type B) = true := by rw [List.contains_cons, hT, F.hasB, Bool.or_true]
  have c2 := F.noStar
  simp only [checkBuiltinCall, F.newKind, F.newSplit, F.newRow]
  repeat (first | refine wpAny_loadPart_at hC ?_ | (refine wpAny_isSubtype_exc hC ?_; rw [c1]) | refine wpAny_staticBase_exc hC ?_ | refine wpAny_madeBy_exc hC ?_ | simp only [bne_self_eq_false, Bool.false_eq_true, if_false] | wp_step)
  exact hq
end
section
variable {prog : Program} {w : World} {A : Around} {E : Value → Shared → Prop} {R : Result → Shared → Prop} {h : Heap} {g : Array GenState} {d : Drawn} {t : Nat} {os : OsState}
variable {nm q : Str} {C N : Addr} {bs bm bmB : List Value} {hdct : Bool} {sn : List Str} {sub : List Value} {ab : Bool} {col : Option Bool} {dd : Option Addr} {k0 k1 k2 k3 k5 : Option Value} {B newId initId : String} {u v : Value}
theorem e_chkCall {M : Model} {Q : Unit → Shared → Prop} (hC : h.get? C = some (excClassObj nm q C N bs bm hdct sn sub ab col dd k0 k1 k2 k3 k5 newId))
    (hq : Q () ⟨h, g, d, t, os⟩) : wpAny M A (checkBuiltinCall "type.__call__" ⟨[.ref C], kw2 u v⟩) Q E ⟨h, g, d, t, os⟩ := by
  have f3 := tc_sub
  have hT : (⟨h, g, d, t, os⟩ : Shared).TypeIs (.ref C) "type" := ⟨_, hC, rfl⟩
  simp only [checkBuiltinCall, tc_kind, tc_split]
  repeat (any_goals (first | assumption | with_reducible refine wpAny_loadPart_at hC ?_ | with_reducible refine wpAny_onRaise ?_ | with_reducible refine wpAny_map ?_ | wp_step))
theorem e_new (F : ExcBaseFacts B newId initId bmB) (hT : ∀ X : String, bm.contains (.type X) = bmB.contains (.type X))
    (hC : h.get? C = some (excClassObj nm q C N bs bm hdct sn sub ab col dd k0 k1 k2 k3 k5 newId))
    (hq : R (.ok (.ret (.ref (h.objs.size + 1)))) ⟨(h.push (W.kdv_tup [])).push (excO C h.objs.size), g, d, t, os⟩) :
    codeAny (model prog w) A (.builtin newId ⟨[.ref C], kw2 u v⟩) R ⟨h, g, d, t, os⟩ := by
  have hends := F.ends
  have c1 : (Value.ref C :: bm).contains (.type B) = true := by rw [List.contains_cons, hT, F.hasB, Bool.or_true]
  have c2 : (Value.ref C :: bm).contains (.type "AttributeError") = false := by rw [List.contains_cons, hT, F.noAttr]; rfl
  have c3 : (Value.ref C :: bm).contains (.type "NameError") = false := by rw [List.contains_cons, hT, F.noName]; rfl
  refine codeAny_builtinAt F.entry ?_
  unfold Builtin.«BaseException.__new__»
  refine wpAt_bind ?_
  show wpAt _ _ _ (stack >>= _) _ _ _
  refine wpAt_bind (wpAt_stack fun p below => wpAt_of_wpAny ?_)
  wp_walk
  refine wpAt_of_wpAny ?_
  rw [F.owner]
  repeat (first | with_reducible refine wpAny_madeHere_exc F.canon hC ?_ | with_reducible refine wpAny_loadPart_at hC ?_ | (with_reducible refine wpAny_isSubtype_exc hC ?_; first | rw [c1] | rw [c2] | rw [c3]) | wp_step)
  show R _ _
  rw [Heap.size_push]
  exact hq
theorem e_tcall (F : ExcBaseFacts B newId initId bmB) (hT : ∀ X : String, bm.contains (.type X) = bmB.contains (.type X)) {fI : Addr} {Q : Fin → Shared → Prop}
    (hC : h.get? C = some (excClassObj nm q C N bs bm hdct sn sub ab col dd k0 k1 k2 k3 k5 newId))
    (hi : W.Looks (model prog w) h (typeLookup (.ref C) "__init__") (some (.ref fI))) (hb : ∀ self, W.Looks (model prog w) h (bindSpecial (.ref fI) self) (.ref fI, [self]))
    (hq : codeAny (model prog w) A (.call (.ref fI) ⟨[.ref (h.objs.size + 1)], kw2 u v⟩)
      (fun r s' => match r with | .ok (.ret v) => v = .none ∧ Q (.done (.ret (.ref (h.objs.size + 1)))) s' | .ok _ => False | .error e => E e s')
      ⟨(h.push (W.kdv_tup [])).push (excO C h.objs.size), g, d, t, os⟩) :
    wpAny (model prog w) A (Builtin.«type.__call__» ⟨[.ref C], kw2 u v⟩) Q E ⟨h, g, d, t, os⟩ := by
  repeat (first | with_reducible refine wpAny_loadPart_at hC ?_ | with_reducible refine wpAny_madeBy_exc hC ?_ | wp_step)
  refine codeAny_call_builtin_code (Code.quiet_builtin _ F.quiet) (e_chkNew F hT hC ?_)
  refine e_new F hT hC ?_
  show wpAny _ _ _ _ _ _
  have k : ∀ b o, h.get? b = some o → ((h.push (W.kdv_tup [])).push (excO C h.objs.size)).get? b = some o := fun b o e => Heap.get?_push_of_some _ (Heap.get?_push_of_some _ e)
  have hC1 := k _ _ hC
  have hget : ((h.push (W.kdv_tup [])).push (excO C h.objs.size)).get? (h.objs.size + 1) = some (excO C h.objs.size) := by heap_get
  have hcC : (Value.ref C :: bm).contains (.ref C) = true := by simp
  have i1 := hi.keeps k
  have b1 := (hb (.ref (h.objs.size + 1))).keeps k
  unfold isInstance
  repeat (first | with_reducible refine wpAny_loadPart_at hget ?_ | (with_reducible refine wpAny_isSubtype_exc hC1 ?_; rw [hcC]) | wp_step)
  show wpAny _ _ (typeLookup (.ref C) _) _ _ _
  refine i1.at ?_
  refine wpAny_holding (wpAny_bind (b1.at ?_))
  refine wpAny_bind (wpAny_call (codeAny_mono hq fun r s' z => ?_))
  rcases r with e | (v | _ | _ | _) <;> first | exact z | exact z.elim | skip
  obtain ⟨rfl, z⟩ := z
  first
    | exact wpAny_pure (wpAny_pure z)
    | (wp_walk; exact z)
theorem e_call (F : ExcBaseFacts B newId initId bmB) (hT : ∀ X : String, bm.contains (.type X) = bmB.contains (.type X)) {fI : Addr}
    (hC : h.get? C = some (excClassObj nm q C N bs bm hdct sn sub ab col dd k0 k1 k2 k3 k5 newId))
    (hi : W.Looks (model prog w) h (typeLookup (.ref C) "__init__") (some (.ref fI))) (hb : ∀ self, W.Looks (model prog w) h (bindSpecial (.ref fI) self) (.ref fI, [self]))
    (hq : codeAny (model prog w) (A.under (.builtin "type.__call__" ⟨[.ref C], kw2 u v⟩)) (.call (.ref fI) ⟨[.ref (h.objs.size + 1)], kw2 u v⟩) (W.InitBack (h.objs.size + 1) R)
      ⟨(h.push (W.kdv_tup [])).push (excO C h.objs.size), g, d, t, os⟩) :
    codeAny (model prog w) A (.call (.ref C) ⟨[], kw2 u v⟩) R ⟨h, g, d, t, os⟩ := by
  have f1 := tc_lookup
  have f2 := tc_bind (.ref C)
  have hTy : (⟨h, g, d, t, os⟩ : Shared).TypeIs (.ref C) "type" := ⟨_, hC, rfl⟩
  refine codeAny_of_tree ?_
  show wpAny _ _ (callAny (.ref C) _) _ _ _
  repeat (any_goals (first | assumption | with_reducible refine wpAny_loadPart_at hC ?_ | wp_step))
  refine ⟨rfl, ?_⟩
  refine codeAny_call_builtin_at (Code.quiet_builtin _ (by decide +kernel)) entry_typeCall (e_chkCall hC (e_tcall F hT hC hi hb ?_))
  refine codeAny_mono hq fun r s' z => ?_
  rcases r with e | (v | _ | _ | _) <;> exact z
end
end OEX
end PySem
namespace M
open PySem PySem.Spec PyProof.Rows L2
def TkO (H : Hp) (C a : Addr) : Prop := H a = some (ExO (.ref C) a) ∨ ∃ d fs, H a = some (exo a C (some d)) ∧ H d = some (exd d fs)
def TkA (ex : List Addr) (H : Hp) (C a : Addr) : Prop := At ex H a (ExO (.ref C) a) ∨ ∃ d fs, At ex H a (exo a C (some d)) ∧ At ex H d (exd d fs)
theorem TkA.ok {ex : List Addr} {H : Hp} {C a : Addr} (h : TkA ex H C a) : TkO H C a := by
  rcases h with h | ⟨d, fs, h1, h2⟩
  · exact .inl h.1.1
  · exact .inr ⟨d, fs, h1.1.1, h2.1.1⟩
theorem TkA.ext {rho rho1 gh : List Addr} {H H1 : Hp} {C a : Addr} (h : TkA (rho ++ gh) H C a) (x : Ext rho H rho1 H1) : TkA (rho1 ++ gh) H1 C a := by
  rcases h with h | ⟨d, fs, h1, h2⟩
  · exact .inl (x.at _ _ h)
  · exact .inr ⟨d, fs, x.at _ _ h1, x.at _ _ h2⟩
theorem nt_ExO {C : Value} {a : Addr} : ∀ ps, ExO C a ≠ .tbl ps := fun ps z => by
  have z : HO.ext _ = HO.tbl ps := z
  cases z
theorem nt_exd {a : Addr} {fs : List (Str × V)} : ∀ ps, exd a fs ≠ .tbl ps := fun ps z => by
  have z : HO.ext _ = HO.tbl ps := z
  cases z
theorem TkO.at {H : Hp} {C a : Addr} (h : TkO H C a) : TkA [] H C a := by
  rcases h with h | ⟨d, fs, h1, h2⟩
  · exact .inl ⟨⟨h, nt_ExO⟩, by simp⟩
  · exact .inr ⟨d, fs, ⟨⟨h1, fun ps => exo_tbl⟩, by simp⟩, ⟨h2, nt_exd⟩, by simp⟩
section
variable {X : Cx} {C D a : Addr}
theorem tk_inst {pins : List (Addr × Obj)} {sg : L2.St} {H : Hp} {s : Shared} (I : L2.Inv X pins sg H s) (h : TkO H D a) : ∃ oe od, PySem.W.InstAt s.heap a oe D od := by
  rcases h with h | ⟨d, fs, h1, h2⟩
  · obtain ⟨⟨oe, vs, g0, hz, hd, _⟩, _, _⟩ := I.hok a _ h
    exact ⟨oe, none, g0, hz.1, by unfold PySem.W.notCls; rw [hd] <;> rfl, by rw [hz.2]; trivial⟩
  · obtain ⟨t1, g0⟩ := exo_at I.hok h1
    obtain ⟨mA, hns, rel⟩ := exd_at I.hok h2
    obtain ⟨od, ho, hl⟩ := lookIn_ns hns
    exact ⟨_, some od, g0, rfl, rfl, ho⟩
def rIsT (K : PySem.W.Frag) : List V → Hp → VK → Prop := fun xs H Q => ∃ (D a : Addr) (t : V) (cv : Value) (b : Bool), xs = [.ref a, t] ∧ TkO H D a ∧ ExcC K D ∧ (∀ u, RelV t u → u = cv) ∧ PySem.W.kitOne K (.ref D) cv = some b ∧ Q (.bl b) H
theorem call_isT : CallR X (.builtin "isinstance") (rIsT X.K) := by
  intro pins s sg H xs us Q I r q
  obtain ⟨D, a, t, cv, b, rfl, tk, hc, hcv, e, q⟩ := q
  match us, r with
  | [u1, u2], .cons ra (.cons rt .nil) =>
    have et := hcv u2 rt
    subst et
    have ea : u1 = Value.ref a := ra
    subst ea
    obtain ⟨oe, od, J⟩ := tk_inst I tk
    have hcl : (PySem.W.clsIn X.K D).isSome = true := by
      obtain ⟨cd, hc, _⟩ := PySem.W.any_some hc.hd
      rw [hc]
      rfl
    exact PySem.W.kia_one (PySem.W.kitx_exc hcl hc.hg hc.hk hc.hs hc.ha hc.hn hc.ht hc.hm) I.kIn J e (fun z => nomatch z) fun tk => ⟨.bl b, H, I.kept (t' := tk) (fun _ _ z => z), rfl, q⟩
def tHasT (C a : Addr) (b : Bool) : TE := fun sg H Q => (sg[0]? = some (some (.ref a)) ∧ TkO H C a) ∧ Q (.bl b) H
theorem pe_isaT (h : ExcC X.K D) {p : Nat → Pos} {i : Nat} {y : Str} {D2 : Addr} {b : Bool} (hg : Gl X "isinstance") (hm : X.mg "isinstance" = none) (n0 : X.N[0]? = some ("_law_e" : Str)) (v0 : Vis X.env.scope "_law_e") (gy : Gl X y) (my : X.mg y = some (.ref D2)) (dy : (y == ("__debug__" : Str)) = false)
    (hk : PySem.W.kitOne X.K (.ref D) (.ref D2) = some b) : PE X (isaE p i y) (tHasT D a b) := by
  refine PE.imp (pe_callB (call_isT) hg hm (by decide +kernel) (pa_cons (pe_var n0 v0) (pa_cons (pe_glob (v := .ref D2) gy my rfl dy) pa_nil)) (by decide +kernel) (by decide +kernel)) fun sg H Q q => ?_
  exact ⟨.ref a, q.1.1, D, a, .ref D2, .ref D2, b, rfl, q.1.2, h, fun u r => r, hk, q.2⟩
theorem pe_isaVT (h : ExcC X.K D) {p : Nat → Pos} {i : Nat} {b : Bool} (hg : Gl X "isinstance") (hm : X.mg "isinstance" = none) (n0 : X.N[0]? = some ("_law_e" : Str)) (v0 : Vis X.env.scope "_law_e") (gy : Gl X "ValueError") (my : X.mg "ValueError" = none)
    (hk : PySem.W.kitOne X.K (.ref D) (.type "ValueError") = some b) : PE X (isaE p i "ValueError") (tHasT D a b) := by
  refine PE.imp (pe_callB (call_isT) hg hm (by decide +kernel) (pa_cons (pe_var n0 v0) (pa_cons (pe_bltn (v := .ty "ValueError") (u := .type "ValueError") gy my (by decide +kernel) rfl (by decide +kernel) (by decide +kernel)) pa_nil)) (by decide +kernel) (by decide +kernel)) fun sg H Q q => ?_
  exact ⟨.ref a, q.1.1, D, a, .ty "ValueError", .type "ValueError", b, rfl, q.1.2, h, fun u r => r, hk, q.2⟩
structure HasT (K : PySem.W.Frag) (rho0 gh : List Addr) (m : MH) (H0 : Hp) (C a : Addr) (ds : List P) (sg : L2.St) (H : Hp) : Prop where
  e : sg[0]? = some (some (.ref a))
  l : 3 = sg.length
  d : TkA (rho0 ++ gh) H0 C a
  at_ : ∃ rho v, Ext rho0 H0 rho H ∧ Rel K rho gh m H ∧ sg[1]? = some (some v) ∧ RP K (rho ++ gh) H (.list ds) v ∧ ∀ u, sg[2]? = some (some u) → RP K (rho ++ gh) H (.list (kwAll.map PyData.str)) u
variable {K : PySem.W.Frag} {rho0 gh : List Addr} {m : MH} {H0 : Hp}
def tFourT (C a : Addr) (b1 b2 b3 b4 : Bool) : TE := tLst (tCons (tHasT C a b1) (tCons (tHasT C a b2) (tCons (tHasT C a b3) (tCons (tHasT C a b4) tNil))))
theorem four_newT {sg : L2.St} {H : Hp} {Q : VK} {rho : List Addr} {b1 b2 b3 b4 : Bool} (h0 : sg[0]? = some (some (.ref a))) (dk : TkO H C a) (R : Rel K rho gh m H)
    (k : ∀ v H1, Ext rho H rho H1 → Rel K rho gh m H1 → RP K (rho ++ gh) H1 (.list ([b1, b2, b3, b4].map PyData.bool)) v → Q v H1) : tFourT C a b1 b2 b3 b4 sg H Q := by
  refine ⟨⟨h0, dk⟩, ⟨h0, dk⟩, ⟨h0, dk⟩, ⟨h0, dk⟩, line_sz (by show 4 ≤ 100000; decide), fun L hL => k _ _ (Ext.upd hL) (R.upd hL) ?_⟩
  simp only [RP]
  exact ⟨L, _, rfl, ⟨nt_lst upd_same, R.out hL⟩, bls_rps [b1, b2, b3, b4]⟩
theorem kind1T {D : Ends} {sg : L2.St} {b1 b2 b3 b4 : Bool} (h0 : sg[0]? = some (some (.ref a))) (hl : 3 = sg.length) (h2 : sg[2]? = some none) (dd : TkA (rho0 ++ gh) H0 C a) (R : Rel K rho0 gh m H0)
    (k : ∀ sg1 H1, HasT K rho0 gh m H0 C a ([b1, b2, b3, b4].map PyData.bool) sg1 H1 → D.nx sg1 H1) : tAsg (tFourT C a b1 b2 b3 b4) (gName 1) D sg H0 :=
  four_newT h0 dd.ok R fun v H1 x R1 r => k _ _ ⟨by rw [List.getElem?_set_ne (by decide)]; exact h0, set_len hl, dd, rho0, v, x, R1, by rw [List.getElem?_set_self (by omega)], r, fun u e => by rw [List.getElem?_set_ne (by decide), h2] at e; cases e⟩
theorem kind2T {D : Ends} {sg : L2.St} {H : Hp} {ds : List P} {b1 b2 b3 b4 : Bool} (h : HasT K rho0 gh m H0 C a ds sg H) (hd : ds.length ≤ 1000)
    (k : ∀ sg1 H1, HasT K rho0 gh m H0 C a (ds ++ [b1, b2, b3, b4].map PyData.bool) sg1 H1 → D.nx sg1 H1) :
    tAsg (tOp (fun x y H Q => rOn K EN (.addL false) [x, y] H Q) (tVar 1) (tFourT C a b1 b2 b3 b4)) (gName 1) D sg H := by
  obtain ⟨h0, hl, dd, rho, v, x, R, h1, r, hw⟩ := h
  refine ⟨v, h1, four_newT h0 (dd.ext x).ok R fun u H1 x1 R1 r1 => ⟨rho, gh, m, [.p (.list ds), .p (.list ([b1, b2, b3, b4].map PyData.bool))], R1, ⟨v, _, rfl, x1.rp r, u, [], rfl, r1, rfl⟩, ?_⟩⟩
  have e : opD (.addL false) [.p (.list ds), .p (.list ([b1, b2, b3, b4].map PyData.bool))] m = .ok [.p (.list (ds ++ [b1, b2, b3, b4].map PyData.bool))] m := by
    have : ds.length + 4 ≤ 100000 := by omega
    simp only [opD, d_addL, lstD, List.length_map, List.length_cons, List.length_nil, Nat.zero_add, this, if_true, mkL]
  rw [e]
  intro rho2 H2 vs x2 R2 rd
  obtain ⟨u2, rfl, r2⟩ := RDs.one_of rd
  exact ⟨u2, rfl, k _ _ ⟨by rw [List.getElem?_set_ne (by decide)]; exact h0, set_len hl, dd, rho2, u2, x.trans (x1.trans x2), R2, by rw [List.getElem?_set_self (by omega)], r2, fun z e => by
    rw [List.getElem?_set_ne (by decide)] at e
    exact x2.rp (x1.rp (hw z e))⟩⟩
theorem met_marksT {o : Op} {sg : L2.St} {H : Hp} {Q : VK} {ds : List P} {n : Int} (h : HasT K rho0 gh m H0 C a ds sg H) (e : opD o [.p (.list ds), .p (.bool true)] m = .ok [.p (.int n)] m)
    (k : ∀ H1, HasT K rho0 gh m H0 C a ds sg H1 → Q (.int n) H1) :
    tBM K "list" (fun x vs H Q => rOn K EN o (x :: vs) H Q) (tVar 1) (tCons (tC (.bl true)) tNil) sg H Q := by
  obtain ⟨h0, hl, dd, rho, v, x, R, h1, r, hw⟩ := h
  refine ⟨v, h1, ty_list r, rho, gh, m, [.p (.list ds), .p (.bool true)], R, ⟨v, _, rfl, r, .bl true, [], rfl, rp_bl (K := K) (ex := rho ++ gh) (H := H), rfl⟩, ?_⟩
  rw [e]
  intro rho2 H2 vs x2 R2 rd
  obtain ⟨u2, rfl, r2⟩ := RDs.one_of rd
  have r2 : RP K (rho2 ++ gh) H2 (.int n) u2 := r2
  simp only [RP] at r2
  subst r2
  exact ⟨_, rfl, k H2 ⟨h0, hl, dd, rho2, v, x.trans x2, R2, h1, x2.rp r, fun u e => x2.rp (hw u e)⟩⟩
theorem kind3T {D : Ends} {sg : L2.St} {H : Hp} {ds : List P} (h : HasT K rho0 gh m H0 C a ds sg H) (k : ∀ sg1 H1, HasT K rho0 gh m H0 C a ds sg1 H1 → (∃ u, sg1[2]? = some (some u)) → D.nx sg1 H1) : tAsg tWords (gName 2) D sg H := by
  obtain ⟨h0, hl, dd, rho, v, x, R, h1, r, hw⟩ := h
  refine ⟨line_sz (by show 12 ≤ 100000; decide), fun L hL => k _ _ ⟨by rw [List.getElem?_set_ne (by decide)]; exact h0, set_len hl, dd, rho, v, x.trans (Ext.upd hL), R.upd hL, by rw [List.getElem?_set_ne (by decide)]; exact h1, (Ext.upd hL).rp r, fun u e => ?_⟩ ⟨_, List.getElem?_set_self (by omega)⟩⟩
  rw [List.getElem?_set_self (by omega)] at e
  cases e
  simp only [RP]
  exact ⟨L, _, rfl, ⟨nt_lst upd_same, R.out hL⟩, strs_rps kwAll⟩
theorem kind4T {D : Ends} {sg : L2.St} {H : Hp} {c : Nat} (h1 : 1 ≤ c) (h2 : c < 13) {t u : TS} (h : HasT K rho0 gh m H0 C a (marks c) sg H) (k : ∀ H1, HasT K rho0 gh m H0 C a (marks c) sg H1 → u D sg H1) :
    tIfS (tOr (tTest (tOp (fun x y H Q => rOn K EN .ne [x, y] H Q) (tBM K "list" (fun x vs H Q => rOn K EN .count (x :: vs) H Q) (tVar 1) (tCons (tC (.bl true)) tNil)) (tC (.int 1)))) (tNot (tB (tHasT C a true)))) t u D sg H := by
  refine met_marksT h (marks_count h1 h2) fun H1 hh => ?_
  obtain ⟨h0, hl, dd, rho, v, x, R, e1, r, hw⟩ := hh
  refine ⟨rho, gh, m, [.p (.int 1), .p (.int 1)], R, ⟨.int 1, _, rfl, rp_int (K := K) (ex := rho ++ gh) (H := H1), .int 1, [], rfl, rp_int (K := K) (ex := rho ++ gh) (H := H1), rfl⟩, ?_⟩
  have e : opD .ne [.p (.int 1), .p (.int 1)] m = .ok [.p (.bool false)] m := by kernel_rfl
  rw [e]
  intro rho2 H2 vs x2 R2 rd
  obtain ⟨u2, rfl, r2⟩ := RDs.one_of rd
  have r2 : RP K (rho2 ++ gh) H2 (.bool false) u2 := r2
  simp only [RP] at r2
  subst r2
  refine ⟨_, rfl, false, rfl, ?_⟩
  simp only [Bool.false_eq_true, if_false]
  exact ⟨⟨h0, (dd.ext (x.trans x2)).ok⟩, true, rfl, k H2 ⟨h0, hl, dd, rho2, v, x.trans x2, R2, e1, x2.rp r, fun u e => x2.rp (hw u e)⟩⟩
theorem kind5T {D : Ends} {sg : L2.St} {H : Hp} {c : Nat} (h1 : 1 ≤ c) (h2 : c < 13) (h : HasT K rho0 gh m H0 C a (marks c) sg H) (hu : ∃ u, sg[2]? = some (some u)) (k : ∀ rho H1, Ext rho0 H0 rho H1 → Rel K rho gh m H1 → D.rt (.str (kw c)) H1) :
    tRet (tOp (rIx K) (tVar 2) (tBM K "list" (fun x vs H Q => rOn K EN .index (x :: vs) H Q) (tVar 1) (tCons (tC (.bl true)) tNil))) D sg H := by
  obtain ⟨u, hu⟩ := hu
  refine ⟨u, hu, met_marksT h (marks_index h1 h2) fun H1 hh => ?_⟩
  obtain ⟨h0, hl, dd, rho, v, x, R, e1, r, hw⟩ := hh
  have w := hw u hu
  simp only [RP] at w
  obtain ⟨L, xs, rfl, q, z⟩ := w
  have ex : xs = kwAll.map V.str := strs_ofS z
  subst ex
  exact .inl ⟨L, _, _, _, rfl, rfl, q.sq, kw_at h1 h2, k rho H1 x R⟩
end
end M
namespace M
open PySem PySem.Spec PyProof.Rows L2
structure Pg (K : PySem.W.Frag) (H H1 : Hp) : Prop where
  ext : ∀ a o, Nt H a o → Nt H1 a o
  rel : Rel K [] [] [] H1
section
variable {K : PySem.W.Frag} {H H1 H2 : Hp}
theorem Pg.refl (r : Rel K [] [] [] H) : Pg K H H := ⟨fun _ _ h => h, r⟩
theorem Pg.trans (x : Pg K H H1) (y : Pg K H1 H2) : Pg K H H2 := ⟨fun a o h => y.ext a o (x.ext a o h), y.rel⟩
theorem rel0 {rho gh : List Addr} {m : MH} (r : Rel K rho gh m H) : Rel K [] [] [] H := ⟨rfl, List.nodup_nil, fun a h => (nomatch h), fun i a c e => (by simp at e), r.tabs⟩
theorem Pg.of {rho1 : List Addr} {gh : List Addr} {m : MH} (x : Ext [] H rho1 H1) (r : Rel K rho1 gh m H1) : Pg K H H1 := ⟨fun a o h => x.fr a o h (by simp), rel0 r⟩
theorem Pg.upd {p : Addr} {o : HO} (r : Rel K [] [] [] H) (n : H p = none) : Pg K H (L2.upd H p o) := ⟨fun a u h => h.upd (ne_of_none h.1 n), r.upd n⟩
theorem Pg.ex (x : Pg K H H1) : Ext [] H [] H1 := ⟨List.prefix_refl _, fun _ h => .inl h, fun a o h _ => x.ext a o h⟩
theorem TkO.pg {C a : Addr} (h : TkO H C a) (x : Pg K H H1) : TkO H1 C a := (TkA.ext (rho := []) (gh := []) h.at x.ex).ok
end
structure KindOk (K : PySem.W.Frag) (mg : Str → Option Value) : Prop where
  kind : ∃ (g : Addr) (fd : FuncData) (pg : Arguments) (sg : Scope) (p : Nat → Pos) (w : Str), FunD K "_law_kind" "_law_kind" pg (kindBody p w) sg [] [] g fd ∧ mg "_law_kind" = some (.ref g) ∧ Binds K fd ["_law_e"] [] ∧ FnScope (kindN w) ["_law_e"] sg ∧
    glob sg "isinstance" ∧ glob sg "ValueError" ∧ (∀ c, 1 ≤ c → c < 13 → glob sg (excN c)) ∧ loc1 sg "_law_e" ∧ loc1 sg "_law_marks" ∧ loc1 sg w ∧ (w == ("__debug__" : Str)) = false ∧ (w == ("__classdict__" : Str)) = false ∧ ((p 77).endLine == (p 79).line) = true ∧ ((p 93).endLine == (p 95).line) = true
  isa : mg "isinstance" = none
  val : mg "ValueError" = none
  exc : ∀ c, c < 13 → mg (excN c) = some (.ref (He.ga K (excN c)))
  tel : ∀ c, 1 ≤ c → c < 13 → ExcT K c
def spKind (K : PySem.W.Frag) : Sp := fun vs H Q _ => ∃ a c, vs = [.ref a] ∧ 1 ≤ c ∧ c < 13 ∧ TkO H (He.ga K (excN c)) a ∧ Rel K [] [] [] H ∧ ∀ H1, Pg K H H1 → Q (.str (kw c)) H1
section
variable {P : Program} {w : World} {K : PySem.W.Frag} {mg : Str → Option Value} {base : Heap}
theorem kind_fn {CX : CXT} (so : KindOk K mg) : ∃ g fd, mg "_law_kind" = some (.ref g) ∧ PySem.W.keepIn K (.ref g) = true ∧ Binds K fd ["_law_e"] [] ∧ FnOk P w K mg base CX 1 g fd ["_law_e"] (spKind K) := by
  obtain ⟨g, fd, pg, sc, p, wn, F, mk, hb, S, g1, g2, g3, l0, l1, l2, d1, d2, q1, q2⟩ := so.kind
  refine ⟨g, fd, mk, F.kp, hb, F.ok S (fun vs H Q E ⟨a, c, e, _⟩ => by rw [e]; rfl) fun cdv A outer s H vs Q E hr h => ?_⟩
  obtain ⟨a, c, rfl, h1, h2, tk, R, k⟩ := h
  generalize hX : cxOf CX P w K mg base (kindN wn) "_law_kind" sc g cdv A outer s H E = X
  have eK : X.K = K := by subst hX; rfl
  have eM : X.mg = mg := by subst hX; rfl
  have eN : X.N = kindN wn := by subst hX; rfl
  have eS : X.env.scope = sc := by subst hX; rfl
  have un : X.A.units + 100 < cLine := by have := hr.un; subst hX; show (A.deeper _).units + 100 < cLine; omega
  have n0 : X.N[0]? = some ("_law_e" : Str) := by rw [eN]; rfl
  have n1 : X.N[1]? = some ("_law_marks" : Str) := by rw [eN]; rfl
  have n2 : X.N[2]? = some wn := by rw [eN]; rfl
  have nd : X.N.Nodup := by rw [eN]; exact S.nd
  have l0 : X.env.scope.names.lookup ("_law_e" : Str) = some .local := by rw [eS]; exact l0
  have l1 : X.env.scope.names.lookup ("_law_marks" : Str) = some .local := by rw [eS]; exact l1
  have l2 : X.env.scope.names.lookup wn = some .local := by rw [eS]; exact l2
  have gi : Gl X "isinstance" := by show X.env.scope.names.lookup _ = _; rw [eS]; exact g1
  have gv : Gl X "ValueError" := by show X.env.scope.names.lookup _ = _; rw [eS]; exact g2
  have ge : ∀ j, 1 ≤ j → j < 13 → Gl X (excN j) := fun j a1 a2 => by show X.env.scope.names.lookup _ = _; rw [eS]; exact g3 j a1 a2
  have mi : X.mg "isinstance" = none := by rw [eM]; exact so.isa
  have mv : X.mg "ValueError" = none := by rw [eM]; exact so.val
  have T := so.tel c h1 h2
  have cl : ExcC X.K (He.ga K (excN c)) := by rw [eK]; exact T.cl
  have is : ∀ (i j : Nat), 1 ≤ j → j < 13 → PE X (isaE p i (excN j)) (tHasT (He.ga K (excN c)) a (decide (c = j))) := fun i j a1 a2 => by
    refine pe_isaT cl gi mi n0 (.inl l0) (ge j a1 a2) (D2 := He.ga K (excN j)) (by rw [eM]; exact so.exc j a2) ?_ (by rw [eK]; exact T.one j a1 a2)
    rcases c_cases a1 a2 with rfl | rfl | rfl | rfl | rfl | rfl | rfl | rfl | rfl | rfl | rfl | rfl <;> decide +kernel
  have li : ∀ (i j : Nat) (q : Pos), 1 ≤ j → j + 3 < 13 → PE X (.List [isaE p i (excN j), isaE p (i + 4) (excN (j + 1)), isaE p (i + 8) (excN (j + 2)), isaE p (i + 12) (excN (j + 3))] q) (tFourT (He.ga K (excN c)) a (decide (c = j)) (decide (c = j + 1)) (decide (c = j + 2)) (decide (c = j + 3))) := fun i j q a1 a2 =>
    pe_lst (pa_cons (is i j a1 (by omega)) (pa_cons (is _ _ (by omega) (by omega)) (pa_cons (is _ _ (by omega) (by omega)) (pa_cons (is _ _ (by omega) (by omega)) pa_nil))))
  have g1 : ∀ q : Pos, PG X (.Name ("_law_marks" : Str) q) (gName 1) := fun q => pg_name nd n1 (.inl l1) (.inr l1)
  have s1 := ps_asg (pos := p 18) (li 1 1 (p 17) (by decide) (by decide)) (g1 (p 0))
  have s2 := ps_asg (pos := p 39) (pe_op (pos := p 38) (rO_addL (E := EN) (k := false)) (pe_var (pos := p 20) n1 (.inl l1)) (li 21 5 (p 37) (by decide) (by decide))) (g1 (p 19))
  have s3 := ps_asg (pos := p 60) (pe_op (pos := p 59) (rO_addL (E := EN) (k := false)) (pe_var (pos := p 41) n1 (.inl l1)) (li 42 9 (p 58) (by decide) (by decide))) (g1 (p 40))
  have s4 : PS X (.Assign [nmE p 61 wn] (.List [strE p 62 "board", strE p 63 "pins", strE p 64 "pin", strE p 65 "look", strE p 66 "number", strE p 67 "stand", strE p 68 "row", strE p 69 "laid", strE p 70 "deed", strE p 71 "text", strE p 72 "line", strE p 73 "few"] (p 74)) (p 75)) (tAsg tWords (gName 2)) :=
    ps_asg (pe_lst (pa_cons pe_str (pa_cons pe_str (pa_cons pe_str (pa_cons pe_str (pa_cons pe_str (pa_cons pe_str (pa_cons pe_str (pa_cons pe_str (pa_cons pe_str (pa_cons pe_str (pa_cons pe_str (pa_cons pe_str pa_nil)))))))))))))  (pg_name nd n2 (.inl l2) (.inr l2))
  have mc := met_pe (p := p) (i := 76) (o := .count) n1 (.inl l1) PySem.F.slot_list_count PySem.F.type_list_count (rM_count (E := EN) un) q1
  have mx := met_pe (p := p) (i := 92) (o := .index) n1 (.inl l1) PySem.F.slot_list_index PySem.F.type_list_index (rM_index (E := EN) un) q2
  have hu : X.A.units + 64 < cLine := by omega
  have s5 := ps_if (pos := p 90) (a := [.Return (some (strE p 88 "other")) (p 89)]) (b := []) (u := tNext) (PW.pt (pw_or (pos := p 87) (pt_cmpR (pos := p 81) (rO_ne (E := EN) hu) mc (pe_int (i := 1) (j := 0) (pos := p 80)) (nobehind _ (by decide) (by decide)))
    (pw_or1 (pt_not (pos := p 86) (pt_val (pe_isaVT (p := p) (i := 82) (a := a) (b := true) cl gi mi n0 (.inl l0) gv mv (by rw [eK]; exact T.val))))))) pss_never pss_nil
  have s6 := ps_ret (pos := p 97) (pe_ix (pos := p 96) ix_seq (pe_var (pos := p 91) n2 (.inl l2) d1 d2) mx fun _ _ => rfl)
  refine ⟨_, pss_cons s1 (pss_cons s2 (pss_cons s3 (pss_cons s4 (pss_cons s5 (pss_one s6))))), ?_⟩
  rw [eK]
  have hs : start (kindN wn) [V.ref a] = [some (.ref a), none, none] := rfl
  rw [hs]
  refine kind1T (K := K) (rho0 := []) (gh := []) (m := []) rfl rfl rfl tk.at R fun sg1 H1 a1 => ?_
  refine kind2T a1 (by simp) fun sg2 H2 a2 => ?_
  refine kind2T a2 (by simp) fun sg3 H3 a3 => ?_
  refine kind3T a3 fun sg4 H4 a4 hu4 => ?_
  show tSeq _ _ _ sg4 H4
  unfold tSeq
  dsimp only
  refine kind4T h1 h2 a4 fun H5 a5 => ?_
  exact kind5T h1 h2 a5 hu4 fun rho H6 x R6 => k H6 (Pg.of x R6)
end
end M
namespace M
open PySem PySem.Spec PyProof.Rows L2
theorem fd_same {K : PySem.W.Frag} {x q x' q' : Str} {pa pa' : Arguments} {b b' : List Stmt} {s s' : Scope} {f : Addr} {fd fd' : FuncData} (F : FunD K x q pa b s [] [] f fd) (F' : FunD K x' q' pa' b' s' [] [] f fd') : fd = fd' := by
  obtain ⟨oc, od, dV, kV, doc, pm, an, cdv, ct, osl, rfl, lk, _⟩ := F.ex
  obtain ⟨oc', od', dV', kV', doc', pm', an', cdv', ct', osl', rfl, lk', _⟩ := F'.ex
  rw [lk] at lk'
  simp only [Option.some.injEq, Obj.mk.injEq] at lk'
  have := lk'.2.2.1
  simpa using this
structure FewKw (K : PySem.W.Frag) : Prop where
  ex : ∃ (fd : FuncData) (pg : Arguments) (sc : Scope) (b : List Stmt), FunD K "__init__" "TooFew.__init__" pg b sc [] [] (He.ma K (He.ga K "TooFew") "__init__") fd ∧ KBk true fd initN [("least" : Str), ("many" : Str)] [1, 0]
section
variable {P : Program} {w : World} {K : PySem.W.Frag} {mg : Str → Option Value} {base : Heap}
theorem init_okK {CX : CXT} (F : FewOk K mg) (Fk : FewKw K) : ∃ fd, Binds K fd initN [] ∧ KBk true fd initN [("least" : Str), ("many" : Str)] [1, 0] ∧ FnOk P w K mg base CX 2 (He.ma K (He.ga K "TooFew") "__init__") fd initN (spInit K) := by
  obtain ⟨fd, ⟨pg1, sc1, b1, F1⟩, hb, f⟩ := init_okF (P := P) (w := w) (base := base) (CX := CX) F
  obtain ⟨fd2, pg, sc, b, F2, kb⟩ := Fk.ex
  have e := fd_same F1 F2
  subst e
  exact ⟨fd, hb, kb, f⟩
end
theorem vals_two {x y : V} {us : List Value} (r : Vals [x, y] us) : ∃ u v, us = [u, v] ∧ RelV x u ∧ RelV y v := by
  match us, r with
  | [u, v], .cons ru (.cons rv .nil) => exact ⟨u, v, rfl, ru, rv⟩
section
variable {X : Cx} {e1 e2 : Expr} {p pos : Pos}
def FewAt (K : PySem.W.Frag) (H1 : Hp) (i j : Int) (Q : VK) : Prop := Rel K [] [] [] H1 ∧ fewB i j = true ∧ ∀ a d H2, Pg K H1 H2 → H2 a = some (exo a (He.ga K "TooFew") (some d)) → H2 d = some (exd d [("least", .int j), ("many", .int i)]) → Q (.ref a) H2
theorem few_end {K : PySem.W.Frag} {H1 : Hp} {i j : Int} {Q : VK} {a : Addr} (n : H1 a = none) (h : FewAt K H1 i j Q) :
    spInit K [.ref a, .int i, .int j] (L2.upd H1 a (exo a (He.ga K "TooFew") none)) (fun v H2 => v = .non ∧ Q (.ref a) H2) (fun _ _ _ => False) := by
  obtain ⟨R, fb, k⟩ := h
  refine ⟨a, i, j, rfl, fb, upd_same, fun dx nd ne => ⟨rfl, ?_⟩⟩
  have nd1 : H1 dx = none := by rw [upd_ne ne] at nd; exact nd
  have e : (L2.upd (L2.upd (L2.upd (L2.upd H1 a (exo a (He.ga K "TooFew") none)) dx (exd dx [("many", .int i)])) a (exo a (He.ga K "TooFew") (some dx))) dx (exd dx [("least", .int j), ("many", .int i)]))
      = L2.upd (L2.upd H1 a (exo a (He.ga K "TooFew") (some dx))) dx (exd dx [("least", .int j), ("many", .int i)]) := by
    funext b
    by_cases hd : b = dx
    · subst hd
      rw [upd_same, upd_same]
    · rw [upd_ne hd, upd_ne hd]
      by_cases ha : b = a
      · subst ha
        rw [upd_same, upd_same]
      · rw [upd_ne ha, upd_ne ha, upd_ne hd, upd_ne ha]
  rw [e]
  have g1 := Pg.upd R n (o := exo a (He.ga K "TooFew") (some dx))
  have g2 := Pg.upd g1.rel (p := dx) (o := exd dx [("least", .int j), ("many", .int i)]) (by rw [upd_ne ne]; exact nd1)
  exact k a dx _ (g1.trans g2) (by rw [upd_ne (Ne.symm ne), upd_same]) upd_same
theorem pe_fewV {ta : TA} (F : FewOk X.K X.mg) (Fk : FewKw X.K) (hr : Room 3 X.A) (hg : Gl X "TooFew") (ha : PA X [e1, e2] ta) (he : starEach [e1, e2] X.env = (false, eval e1 X.env) :: starEach [e2] X.env := by rfl) (hpl : (backTo pos (starEach [e2] X.env)).any (·.1) = false := by rfl) :
    PE X (.Call (.Name "TooFew" p) [e1, e2] [] pos) (fun sg H Q => ta sg H fun vs H1 => ∃ i j, vs = [.int i, .int j] ∧ FewAt X.K H1 i j Q) := by
  obtain ⟨fd, hb, _, f⟩ := init_okK (P := X.prog) (w := X.w) (base := X.base) (CX := C8.CX0) F Fk
  obtain ⟨nm, q, N, bs, bm, sn, sub, ab, col, dd, k0, k1, k2, k3, k5, hC, hbm⟩ := F.oex.cls
  refine ⟨fun pins s sg H Q I h => ?_⟩
  refine wpAny_Call_Name_kw (ld_glob I hg F.mgT ?_ (by decide +kernel))
  refine PySem.W.callWith_K (h₀ := X.base) I.ok.mod.kin F.oex.kC (thn (ha.run pos pins s sg H _ I h) fun us s1 ⟨vs, H1, I1, r1, i, j, ev, q1⟩ => ⟨I1.kIn, ?_⟩) he hpl
  subst ev
  show wpAny _ _ (call (.ref (He.ga X.K "TooFew")) us) _ _ _
  obtain ⟨hp, g, dr, tk, os⟩ := s1
  have hn : H1 (hp.objs.size + 1) = none := I1.hok.fresh (Nat.le_succ _)
  have hq := few_end hn q1
  have kk : ∀ b o, hp.get? b = some o → ((hp.push (PySem.W.kdv_tup us)).push (PySem.HandSPX.excO (He.ga X.K "TooFew") hp.objs.size)).get? b = some o := fun b o e => Heap.get?_push_of_some _ (Heap.get?_push_of_some _ e)
  have hget : ((hp.push (PySem.W.kdv_tup us)).push (PySem.HandSPX.excO (He.ga X.K "TooFew") hp.objs.size)).get? (hp.objs.size + 1) = some (PySem.HandSPX.excO (He.ga X.K "TooFew") hp.objs.size) := by heap_get
  have I2 := I1.laid (t' := tk) (a := hp.objs.size + 1) (o := exo (hp.objs.size + 1) (He.ga X.K "TooFew") none) kk (Nat.le_succ _) (exo_ok hget)
  have r2 : Vals [V.ref (hp.objs.size + 1), .int i, .int j] (Value.ref (hp.objs.size + 1) :: us) := .cons rfl r1
  have hl : us.length = 2 := by rw [← r1.length]; rfl
  refine wpAny_call (PySem.HandSPX.call_own PySem.F.excBase_ValueError (fun Y => PySem.HandSPX.refsVE_contains Y bm hbm) (I1.kIn _ _ hC) (PySem.W.looks_findIn I1.kIn F.init) (fun self => PySem.W.bind_fn I1.kIn self F.fty) (by rw [hl, sizeLine_eq]; omega)
    (codeAny_mono (f.run _ X.stack _ _ ⟨Value.ref (hp.objs.size + 1) :: us, []⟩ (Value.ref (hp.objs.size + 1) :: us) _ _ (fun _ _ _ => False) (hr.make _ us []) (I2.env0.make _ us []) (by
      have z := hb ⟨_, g, dr, tk, os⟩ (Value.ref (hp.objs.size + 1) :: us) I2.kIn (by rw [List.append_nil, List.length_cons, hl]; rfl)
      rw [List.append_nil] at z
      exact z) r2 hq) fun r s' hq' => ?_))
  cases r with
  | error er => exact (show False from hq').elim
  | ok fl =>
    cases fl with
    | ret u =>
      obtain ⟨v, H', I3, rv, ev, q3⟩ := I2.after hq'
      subst ev
      exact ⟨rv, ⟨V.ref (hp.objs.size + 1), H', I3, rfl, q3⟩⟩
    | next => exact False.elim hq'
    | brk => exact False.elim hq'
    | cont => exact False.elim hq'
theorem pe_fewK {kws : List Keyword} {es : List Expr} {tk : TA} (F : FewOk X.K X.mg) (Fk : FewKw X.K) (hr : Room 3 X.A) (hg : Gl X "TooFew") (ha : PK X kws tk) (hks : kwsOf kws = some ([("least" : Str), ("many" : Str)], es)) :
    PE X (.Call (.Name "TooFew" p) [] kws pos) (fun sg H Q => tk sg H fun vs H1 => ∃ i j, vs = [.int j, .int i] ∧ FewAt X.K H1 i j Q) := by
  obtain ⟨fd, _, hb, f⟩ := init_okK (P := X.prog) (w := X.w) (base := X.base) (CX := C8.CX0) F Fk
  obtain ⟨nm, q, N, bs, bm, sn, sub, ab, col, dd, k0, k1, k2, k3, k5, hC, hbm⟩ := F.oex.cls
  obtain ⟨h1, h2, h3, h4⟩ := kws_some (pos := pos) (env := X.env) hks
  refine ⟨fun pins s sg H Q I h => ?_⟩
  refine wpAny_Call_Name_kw (ld_glob I hg F.mgT ?_ (by decide +kernel))
  refine PySem.W.callWith_KW0 (h₀ := X.base) I.ok.mod.kin F.oex.kC h1 (thn (ha.run pos pins s sg H _ I h) fun us s1 ⟨vs, H1, I1, r1, i, j, ev, q1⟩ => ⟨I1.kIn, ?_⟩) (by
    show (false || (backToKw pos (keywordEach kws X.env)).any (·.1.isNone)) = false
    rw [h3]
    rfl)
  rw [h2]
  subst ev
  obtain ⟨u, v, rfl, ru, rv⟩ := vals_two r1
  show wpAny _ _ (call (.ref (He.ga X.K "TooFew")) [] (PySem.OEX.kw2 u v)) _ _ _
  obtain ⟨hp, g, dr, tk, os⟩ := s1
  have hn : H1 (hp.objs.size + 1) = none := I1.hok.fresh (Nat.le_succ _)
  have hq := few_end hn q1
  have kk : ∀ b o, hp.get? b = some o → ((hp.push (PySem.W.kdv_tup [])).push (PySem.HandSPX.excO (He.ga X.K "TooFew") hp.objs.size)).get? b = some o := fun b o e => Heap.get?_push_of_some _ (Heap.get?_push_of_some _ e)
  have hget : ((hp.push (PySem.W.kdv_tup [])).push (PySem.HandSPX.excO (He.ga X.K "TooFew") hp.objs.size)).get? (hp.objs.size + 1) = some (PySem.HandSPX.excO (He.ga X.K "TooFew") hp.objs.size) := by heap_get
  have I2 := I1.laid (t' := tk) (a := hp.objs.size + 1) (o := exo (hp.objs.size + 1) (He.ga X.K "TooFew") none) kk (Nat.le_succ _) (exo_ok hget)
  have r2 : Vals [V.ref (hp.objs.size + 1), .int i, .int j] [Value.ref (hp.objs.size + 1), v, u] := .cons rfl (.cons rv (.cons ru .nil))
  refine wpAny_call (PySem.OEX.e_call PySem.F.excBase_ValueError (fun Y => PySem.HandSPX.refsVE_contains Y bm hbm) (I1.kIn _ _ hC) (PySem.W.looks_findIn I1.kIn F.init) (fun self => PySem.W.bind_fn I1.kIn self F.fty)
    (codeAny_mono (f.run _ X.stack _ _ ⟨[Value.ref (hp.objs.size + 1)], PySem.OEX.kw2 u v⟩ [Value.ref (hp.objs.size + 1), v, u] _ _ (fun _ _ _ => False) (hr.make _ [] _) (I2.env0.make _ [] _) (hb (.ref (hp.objs.size + 1)) _ [u, v] rfl) r2 hq) fun r s' hq' => ?_))
  cases r with
  | error er => exact (show False from hq').elim
  | ok fl =>
    cases fl with
    | ret u =>
      obtain ⟨v, H', I3, rv, ev, q3⟩ := I2.after hq'
      subst ev
      exact ⟨rv, ⟨V.ref (hp.objs.size + 1), H', I3, rfl, q3⟩⟩
    | next => exact False.elim hq'
    | brk => exact False.elim hq'
    | cont => exact False.elim hq'
theorem pe_exV {c : Nat} {ta : TE} (F : ExcF X.K X.mg c) (hg : Gl X (excN c)) (he : PE X e1 ta) (hdb : (excN c == ("__debug__" : Str)) = false) (hs : starEach [e1] X.env = (false, eval e1 X.env) :: starEach [] X.env := by rfl) :
    PE X (.Call (.Name (excN c) p) [e1] [] pos) (fun sg H Q => ta sg H fun _ H1 => ∀ a, H1 a = none → Q (.ref a) (L2.upd H1 a (ExO (.ref (He.ga X.K (excN c))) a))) :=
  pe_exc1 PySem.F.excBase_ValueError F.exc F.mg F.keep hg he hs hdb
end
end M
namespace M
open PySem PySem.Spec PyProof.Rows L2
section
variable {K : PySem.W.Frag} {H : Hp} {sg : L2.St} {L : Addr} {xs : List V}
theorem rd_map {i j : Nat} {te : TE} {Q : VK} {ds : List P} (hi : sg[i]? = some (some (.ref L))) (hL : H L = some (.lst xs)) (hl : ds.length = xs.length) (hz : xs.length ≤ 100000) (R : Rel K [] [] [] H)
    (he : ∀ (n : Nat) (x : V) (d : P) (D : Addr) (H1 : Hp), xs[n]? = some x → ds[n]? = some d → Pg K H H1 → (∃ acc, H1 D = some (.lst acc)) → ∀ Q' : VK, (∀ y H2, Pg K H1 H2 → RP K [D] H2 d y → Q' y H2) → te ((L2.wipe sg [j]).set j (some x)) H1 Q')
    (k : ∀ D H', Pg K H H' → RP K [] H' (.list ds) (.ref D) → Q (.ref D) H') :
    tLc (iList K (tVar i)) (gName j) tYes te [j] sg H Q := by
  refine ⟨.ref L, hi, L, rfl, ⟨xs, .inl (.inl hL)⟩, fun D nD => ?_⟩
  have LD : L ≠ D := fun e => by rw [← e, hL] at nD; cases nD
  refine lc_it walk_list (fun n H2 => ∃ acc, (∀ a o, Nt H a o → Nt H2 a o) ∧ Rel K [] [] [] H2 ∧ H2 D = some (.lst acc) ∧ acc.length = n ∧ RPs K [D] H2 (ds.take n) acc)
    ⟨[], fun a o h => h.upd (ne_of_none h.1 nD), R.upd nD, upd_same, rfl, by simp [RPs]⟩ (fun n H2 _ ⟨acc, x1, _⟩ => .inl (.inl (x1 L _ (nt_lst hL)).1)) (fun n x H2 H3 hn ⟨acc, x1, R2, hD, hn2, hr⟩ y => ?_) (fun H2 ⟨acc, x1, R2, hD, hn2, hr⟩ => ?_)
  · obtain ⟨rfl, hx⟩ := y
    obtain ⟨d, hd⟩ : ∃ d, ds[n]? = some d := ⟨ds[n]'(by omega), by simp⟩
    show (fun σ2 H2 => _) _ _
    refine ⟨?_, ?_⟩
    · simp only [L2.wipe, List.set_set]
    show te _ _ _
    refine he n x d D _ hx hd ⟨x1, R2⟩ ⟨acc, hD⟩ _ fun z H4 x4 r4 => ⟨acc, (x4.ext D _ (nt_lst hD)).1, by have := line_sz (n := 100000) (Nat.le_refl _); omega, acc ++ [z], fun a o h => ?_, ?_, upd_same, by simp [hn2], ?_⟩
    · have q := x4.ext a o (x1 a o h)
      exact q.upd (ne_of_none h.1 nD)
    · have r1 : Rel K [] [D] [] H4 := ⟨rfl, List.nodup_nil, fun a h => by
        rw [List.mem_singleton] at h
        subst h
        exact ⟨⟨acc, (x4.ext a _ (nt_lst hD)).1⟩, by simp⟩, fun i a c e => (by simp at e), x4.rel.tabs⟩
      exact rel0 r1.out1
    · have up : ∀ a o, At [D] H4 a o → At [D] (L2.upd H4 D (.lst (acc ++ [z]))) a o := fun a o ⟨h, n⟩ => ⟨h.upd (by simpa using n), n⟩
      have e : ds.take (n + 1) = ds.take n ++ [d] := by
        rw [List.take_succ, hd]
        rfl
      rw [e]
      have key : ∀ {ls : List P} {vs : List V}, RPs K [D] (L2.upd H4 D (.lst (acc ++ [z]))) ls vs → RPs K [D] (L2.upd H4 D (.lst (acc ++ [z]))) (ls ++ [d]) (vs ++ [z]) := by
        intro ls
        induction ls with
        | nil =>
          intro vs h
          simp only [RPs] at h
          subst h
          simp only [List.nil_append, RPs]
          exact ⟨z, [], rfl, RP.mono up d z r4, rfl⟩
        | cons l ls ih =>
          intro vs h
          simp only [RPs] at h
          obtain ⟨v, t, rfl, h1, h2⟩ := h
          simp only [List.cons_append, RPs]
          exact ⟨v, _, rfl, h1, ih h2⟩
      exact key (RPs.mono (fun a o h => up a o ⟨x4.ext a o h.1, h.2⟩) _ _ hr)
  · have e : ds.take xs.length = ds := by rw [← hl]; exact List.take_length
    rw [e] at hr
    refine k D H2 ⟨x1, R2⟩ ?_
    simp only [RP]
    exact ⟨D, acc, rfl, ⟨nt_lst hD, by simp⟩, RPs.mono (fun a o h => ⟨h.1, by simp⟩) _ _ hr⟩
end
end M
namespace M
open PySem PySem.Spec PyProof.Rows L2
def exE (p : Nat → Pos) (i c : Nat) : Expr := .Call (.Name (excN c) (p i)) [strE p (i + 1) "a"] [] (p (i + 2))
def inE (p : Nat → Pos) (i : Nat) (n : Int) : Expr := .Constant (.int n) 0 (p i)
def fewE (p : Nat → Pos) (i : Nat) : Expr := .Call (.Name "TooFew" (p i)) [inE p (i + 1) 2, inE p (i + 2) 3] [] (p (i + 3))
def scp (l : List (Str × NameKind)) : Scope := { kind := .function, names := [((".0" : Str), NameKind.local), (("_law_each" : Str), NameKind.local)] ++ l, isGenerator := false, isCoroutine := false, more := [] }
def scA : Scope := scp [(("_law_kind" : Str), .globalImplicit)]
def scB : Scope := scp [(("isinstance" : Str), .globalImplicit), (("PinError" : Str), .globalImplicit)]
def scC : Scope := scp []
def lcE (p : Nat → Pos) (i : Nat) (elt : Expr) (over : Str) (sc : Scope) : Expr := .ListComp elt [⟨nmE p i "_law_each", nmE p (i + 1) over, [], 0⟩] sc (p (i + 2))
def wordsE (p : Nat → Pos) (i : Nat) : Expr := .List [strE p i "board", strE p (i + 1) "pins", strE p (i + 2) "pin", strE p (i + 3) "look", strE p (i + 4) "number", strE p (i + 5) "stand", strE p (i + 6) "row", strE p (i + 7) "laid", strE p (i + 8) "deed", strE p (i + 9) "text", strE p (i + 10) "line", strE p (i + 11) "few"] (p (i + 12))
def errsBody (p : Nat → Pos) : List Stmt :=
  [.Assign [nmE p 0 "_law_some"] (.List [exE p 1 1, exE p 4 2, exE p 7 3, exE p 10 4, exE p 13 5, exE p 16 6, exE p 19 7, exE p 22 8] (p 25)) (p 26),
   .Assign [nmE p 27 "_law_some"] (.BinOp (nmE p 28 "_law_some") .Add (.List [exE p 29 9, exE p 32 10, exE p 35 11, fewE p 38] (p 42)) (p 43)) (p 44),
   .Assign [nmE p 45 "_law_words"] (wordsE p 46) (p 59),
   .If (.BoolOp .Or [.Compare (lcE p 63 (.Call (.Name "_law_kind" (p 60)) [nmE p 61 "_law_each"] [] (p 62)) "_law_some" scA) [.NotEq] [nmE p 66 "_law_words"] (p 67),
       .UnaryOp .Not (.Call (.Name "all" (p 68)) [lcE p 73 (.Call (.Name "isinstance" (p 69)) [nmE p 70 "_law_each", .Name "PinError" (p 71)] [] (p 72)) "_law_some" scB] [] (p 76)) (p 77)] (p 78))
     [.Return (some (.Constant (.bool false) 0 (p 79))) (p 80)] [] (p 81),
   .Assign [nmE p 82 "_law_pair"] (.List [fewE p 83, .Call (.Name "TooFew" (p 87)) [] [⟨some "least", inE p 88 3, p 89⟩, ⟨some "many", inE p 90 2, p 91⟩] (p 92)] (p 93)) (p 94),
   .Return (some (.Compare (lcE p 100 (.Tuple [.Attribute (nmE p 95 "_law_each") "many" (p 96), .Attribute (nmE p 97 "_law_each") "least" (p 98)] 0 (p 99)) "_law_pair" scC) [.Eq]
     [.BinOp (.List [.Tuple [inE p 103 2, inE p 104 3] 0 (p 105)] (p 106)) .Mult (inE p 107 2) (p 108)] (p 109))) (p 110)]
def errsN : List Str := ["_law_some", "_law_words", "_law_pair", "_law_each"]
structure ErrsOk (K : PySem.W.Frag) (mg : Str → Option Value) : Prop where
  kind : KindOk K mg
  few : FewOk K mg
  fewk : FewKw K
  exf : ∀ c, 1 ≤ c → c < 12 → ExcF K mg c
  all : mg "all" = none
  pin : ∀ c, 1 ≤ c → c < 13 → PySem.W.kitOne K (.ref (He.ga K (excN c))) (.ref (He.ga K (excN 0))) = some true
  errs : ∃ (g : Addr) (fd : FuncData) (pg : Arguments) (sc : Scope) (p : Nat → Pos), FunD K "_law_errors_right" "_law_errors_right" pg (errsBody p) sc [] [] g fd ∧ mg "_law_errors_right" = some (.ref g) ∧ Binds K fd [] [] ∧ FnScope errsN [] sc ∧
    (∀ c, 1 ≤ c → c < 13 → glob sc (excN c)) ∧ glob sc "all" ∧ loc1 sc "_law_some" ∧ loc1 sc "_law_words" ∧ loc1 sc "_law_pair"
section
variable {K : PySem.W.Frag} {H : Hp} {sg : L2.St}
def tEx (K : PySem.W.Frag) (c : Nat) : TE := fun sg H Q => tC (.str "a") sg H fun _ H1 => ∀ a, H1 a = none → Q (.ref a) (L2.upd H1 a (ExO (.ref (He.ga K (excN c))) a))
def tFew (K : PySem.W.Frag) (ta : TA) : TE := fun sg H Q => ta sg H fun vs H1 => ∃ i j, vs = [.int i, .int j] ∧ FewAt K H1 i j Q
def tFewK (K : PySem.W.Frag) (ta : TA) : TE := fun sg H Q => ta sg H fun vs H1 => ∃ i j, vs = [.int j, .int i] ∧ FewAt K H1 i j Q
theorem ex_new {c : Nat} {Q : VK} (R : Rel K [] [] [] H) (k : ∀ a H1, Pg K H H1 → TkO H1 (He.ga K (excN c)) a → Q (.ref a) H1) : tEx K c sg H Q :=
  fun a n => k a _ (Pg.upd R n) (.inl upd_same)
theorem few_new {Q : VK} (R : Rel K [] [] [] H) (k : ∀ a d H1, Pg K H H1 → H1 a = some (exo a (He.ga K "TooFew") (some d)) → H1 d = some (exd d [("least", .int 3), ("many", .int 2)]) → Q (.ref a) H1) :
    tFew K (tCons (tC (.int 2)) (tCons (tC (.int 3)) tNil)) sg H Q :=
  ⟨2, 3, rfl, R, by decide +kernel, fun a d H1 x e1 e2 => k a d H1 x e1 e2⟩
theorem few_newK {Q : VK} (R : Rel K [] [] [] H) (k : ∀ a d H1, Pg K H H1 → H1 a = some (exo a (He.ga K "TooFew") (some d)) → H1 d = some (exd d [("least", .int 3), ("many", .int 2)]) → Q (.ref a) H1) :
    tFewK K (tCons (tC (.int 3)) (tCons (tC (.int 2)) tNil)) sg H Q :=
  ⟨2, 3, rfl, R, by decide +kernel, fun a d H1 x e1 e2 => k a d H1 x e1 e2⟩
theorem op_new {o : Op} {ds : List M.D} {vs : List V} {d : P} {Q : VK} (R : Rel K [] [] [] H) (rd : RDs K [] [] H ds vs) (e : opD o ds [] = .ok [.p d] []) (k : ∀ v H1, Pg K H H1 → RP K [] H1 d v → Q v H1) : rOn K EN o vs H Q := by
  refine ⟨[], [], [], ds, R, rd, ?_⟩
  rw [e]
  intro rho H1 us x R1 r1
  obtain ⟨u, rfl, r⟩ := RDs.one_of r1
  refine ⟨u, rfl, k u H1 (Pg.of x R1) ?_⟩
  exact RP.mono (fun a o h => ⟨h.1, by simp⟩) d u r
theorem Pg.rp {H1 : Hp} (x : Pg K H H1) {d : P} {v : V} (h : RP K [] H d v) : RP K [] H1 d v := RP.mono (fun a o h => ⟨x.ext a o h.1, by simp⟩) d v h
theorem rds_2 {d e : P} {v u : V} (h : RP K [] H d v) (h2 : RP K [] H e u) : RDs K [] [] H [.p d, .p e] [v, u] := ⟨v, _, rfl, h, u, [], rfl, h2, rfl⟩
theorem rds_1 {d : P} {v : V} (h : RP K [] H d v) : RDs K [] [] H [.p d] [v] := ⟨v, _, rfl, h, rfl⟩
def tFldT (C : Addr) (f : Str) (te : TE) : TE := fun sg H Q => te sg H fun x H1 => ∃ a d fs v, x = .ref a ∧ H1 a = some (exo a C (some d)) ∧ H1 d = some (exd d fs) ∧ fs.lookup f = some v ∧ Q v H1
theorem pe_fldT {X : Cx} {C : Addr} {e : Expr} {te : TE} {pos : Pos} {n : Str} (T : ExcC X.K C) (hno : PySem.W.findIn X.K (.ref C) n = some none) (he : PE X e te) (hb : attributeBase e n X.env (eval e X.env) = eval e X.env := by rfl) :
    PE X (.Attribute e n pos) (tFldT C n te) := by
  refine ⟨fun pins s sg H Q I h => ?_⟩
  refine attr_of hb (thn (he.run pins s sg H _ I h) fun u s1 hh => ?_)
  obtain ⟨x, H1, I1, rx, a, d, fs, v, ex, ea, ed, l, q⟩ := hh
  subst ex
  obtain rfl : u = Value.ref a := rx
  obtain ⟨t1, g0⟩ := exo_at I1.hok ea
  obtain ⟨mA, hns, hr⟩ := exd_at I1.hok ed
  obtain ⟨od, ho, hl⟩ := lookIn_ns hns
  obtain ⟨u, hu, ru⟩ := RelO.some_of (v := v) (o := mA n) (by rw [← l]; exact hr n)
  have J : PySem.W.InstAt s1.heap a _ C (some od) := ⟨g0, rfl, rfl, ho⟩
  exact HandSPX.exc_get I1.kIn J T.hg T.hk T.hs (PySem.W.findObj_own T.hd hno rfl (by rw [hl, hu])) (handed_of ru) ⟨v, H1, I1.tok _, ru, q⟩
end
end M
namespace M
open PySem PySem.Spec PyProof.Rows L2
def spErrs (K : PySem.W.Frag) : Sp := fun vs H Q _ => vs = [] ∧ Rel K [] [] [] H ∧ ∀ H1, Pg K H H1 → Q (.bl true) H1
def Held (K : PySem.W.Frag) (H : Hp) : List Nat → List V → Prop
  | [], vs => vs = []
  | c :: cs, vs => ∃ a r, vs = .ref a :: r ∧ TkO H (He.ga K (excN c)) a ∧ Held K H cs r
section
variable {K : PySem.W.Frag}
theorem Held.pg {H H1 : Hp} (x : Pg K H H1) : ∀ {cs : List Nat} {vs : List V}, Held K H cs vs → Held K H1 cs vs
  | [], vs, h => h
  | c :: cs, vs, ⟨a, r, e, t, h⟩ => ⟨a, r, e, t.pg x, Held.pg x h⟩
theorem Held.app {H : Hp} : ∀ {cs ds : List Nat} {vs us : List V}, Held K H cs vs → Held K H ds us → Held K H (cs ++ ds) (vs ++ us)
  | [], ds, vs, us, h, g => by
    have h : vs = [] := h
    subst h
    exact g
  | c :: cs, ds, vs, us, ⟨a, r, e, t, h⟩, g => ⟨a, r ++ us, by rw [e]; rfl, t, Held.app h g⟩
theorem Held.len {H : Hp} : ∀ {cs : List Nat} {vs : List V}, Held K H cs vs → vs.length = cs.length
  | [], vs, h => by
    have h : vs = [] := h
    subst h
    rfl
  | c :: cs, vs, ⟨a, r, e, t, h⟩ => by
    subst e
    simp [Held.len h]
theorem Held.get {H : Hp} : ∀ {cs : List Nat} {vs : List V} {n : Nat} {x : V}, Held K H cs vs → vs[n]? = some x → ∃ c a, cs[n]? = some c ∧ x = .ref a ∧ TkO H (He.ga K (excN c)) a
  | [], vs, n, x, h, e => by
    have h : vs = [] := h
    subst h
    simp at e
  | c :: cs, vs, 0, x, ⟨a, r, e, t, h⟩, q => by
    subst e
    simp at q
    subst q
    exact ⟨c, a, rfl, rfl, t⟩
  | c :: cs, vs, n + 1, x, ⟨a, r, e, t, h⟩, q => by
    subst e
    exact Held.get (cs := cs) (vs := r) (n := n) h (by simpa using q)
def cls8 : List Nat := [1, 2, 3, 4, 5, 6, 7, 8]
def cls4 : List Nat := [9, 10, 11, 12]
def cls12 : List Nat := cls8 ++ cls4
def tExs (K : PySem.W.Frag) : List Nat → TA
  | [] => tNil
  | c :: cs => tCons (tEx K c) (tExs K cs)
theorem exs_new {sg : L2.St} : ∀ {cs : List Nat} {H : Hp} {Q : List V → Hp → Prop}, Rel K [] [] [] H → (∀ vs H1, Pg K H H1 → Held K H1 cs vs → Q vs H1) → tExs K cs sg H Q
  | [], H, Q, R, k => k [] H (Pg.refl R) rfl
  | c :: cs, H, Q, R, k => by
    show tEx K c sg H fun x H1 => tExs K cs sg H1 fun xs H2 => Q (x :: xs) H2
    exact ex_new R fun a H1 x t => exs_new x.rel fun vs H2 x2 h => k _ H2 (x.trans x2) ⟨a, vs, rfl, t.pg x2, h⟩
end
def ws12 : List P := kwAll.map PyData.str
theorem cls_kw : (cls12.zip kwAll).all (fun p => decide (1 ≤ p.1) && decide (p.1 < 13) && decide (p.2 = kw p.1)) = true := by decide +kernel
theorem kw_cls {n c : Nat} {d : P} (e1 : cls12[n]? = some c) (e2 : ws12[n]? = some d) : 1 ≤ c ∧ c < 13 ∧ d = .str (kw c) := by
  unfold ws12 at e2
  rw [List.getElem?_map] at e2
  cases e3 : kwAll[n]? with
  | none => rw [e3] at e2; cases e2
  | some x =>
    rw [e3] at e2
    have e2 : some (PyData.str x) = some d := e2
    cases e2
    have m : (c, x) ∈ cls12.zip kwAll := List.mem_of_getElem? (i := n) (List.getElem?_zip_eq_some.mpr ⟨e1, e3⟩)
    have z := List.all_eq_true.mp cls_kw _ m
    simp only [Bool.and_eq_true, decide_eq_true_eq] at z
    exact ⟨z.1.1, z.1.2, by rw [z.2]⟩
section
variable {K : PySem.W.Frag} {H : Hp} {sg : L2.St} {D : Ends} {L : Addr} {vs : List V}
theorem e_s1 (R : Rel K [] [] [] H) (k : ∀ L vs H1, Pg K H H1 → H1 L = some (.lst vs) → Held K H1 cls8 vs → D.nx (sg.set 0 (some (.ref L))) H1) : tAsg (tLst (tExs K cls8)) (gName 0) D sg H :=
  exs_new R fun vs H1 x h => ⟨by rw [h.len]; exact line_sz (by decide), fun L hL => k L vs _ (x.trans (Pg.upd x.rel hL)) upd_same (h.pg (Pg.upd x.rel hL))⟩
theorem e_s2 (R : Rel K [] [] [] H) (h0 : sg[0]? = some (some (.ref L))) (hL : H L = some (.lst vs)) (hh : Held K H cls8 vs) (k : ∀ L vs H1, Pg K H H1 → H1 L = some (.lst vs) → Held K H1 cls12 vs → D.nx (sg.set 0 (some (.ref L))) H1) :
    tAsg (tOp rCat (tVar 0) (tLst (tCons (tEx K 9) (tCons (tEx K 10) (tCons (tEx K 11) (tCons (tFew K (tCons (tC (.int 2)) (tCons (tC (.int 3)) tNil))) tNil)))))) (gName 0) D sg H := by
  refine ⟨.ref L, h0, ?_⟩
  show tEx K 9 sg H (fun x1 H1 => tEx K 10 sg H1 (fun x2 H2 => tEx K 11 sg H2 (fun x3 H3 => tFew K (tCons (tC (.int 2)) (tCons (tC (.int 3)) tNil)) sg H3 (fun x4 H4 => [x1, x2, x3, x4].length ≤ sizeLine ∧ ∀ p, H4 p = none → rCat (.ref L) (.ref p) (L2.upd H4 p (.lst [x1, x2, x3, x4])) (fun x H5 => D.nx (sg.set 0 (some x)) H5)))))
  refine ex_new R fun a1 H1 x1 t1 => ex_new x1.rel fun a2 H2 x2 t2 => ex_new x2.rel fun a3 H3 x3 t3 => few_new x3.rel fun a4 d4 H4 x4 e1 e2 => ⟨line_sz (by decide : 4 ≤ 100000), fun Lb hLb => ?_⟩
  have y := Pg.upd x4.rel (o := HO.lst [V.ref a1, .ref a2, .ref a3, .ref a4]) hLb
  have h4 : Held K (L2.upd H4 Lb (.lst [V.ref a1, .ref a2, .ref a3, .ref a4])) cls4 [V.ref a1, .ref a2, .ref a3, .ref a4] :=
    ⟨a1, _, rfl, (((t1.pg x2).pg x3).pg x4).pg y, a2, _, rfl, ((t2.pg x3).pg x4).pg y, a3, _, rfl, (t3.pg x4).pg y, a4, _, rfl, TkO.pg (.inr ⟨d4, _, e1, e2⟩) y, rfl⟩
  have z : Pg K H (L2.upd H4 Lb (.lst [V.ref a1, .ref a2, .ref a3, .ref a4])) := x1.trans (x2.trans (x3.trans (x4.trans y)))
  refine ⟨L, Lb, vs, _, rfl, rfl, (z.ext L _ (nt_lst hL)).1, upd_same, ?_, fun p hp => ?_⟩
  · rw [hh.len]
    exact line_sz (by decide : 12 ≤ 100000)
  · have u := Pg.upd z.rel (o := HO.lst (vs ++ [V.ref a1, .ref a2, .ref a3, .ref a4])) hp
    exact k p _ _ (z.trans u) upd_same (((hh.pg z).app h4).pg u)
theorem e_s3 (R : Rel K [] [] [] H) (k : ∀ L H1, Pg K H H1 → RP K [] H1 (.list ws12) (.ref L) → D.nx (sg.set 1 (some (.ref L))) H1) : tAsg tWords (gName 1) D sg H := by
  refine ⟨line_sz (by decide : 12 ≤ 100000), fun L hL => k L _ (Pg.upd R hL) ?_⟩
  simp only [RP]
  exact ⟨L, _, rfl, ⟨nt_lst upd_same, by simp⟩, strs_rps kwAll⟩
def rKindT (K : PySem.W.Frag) : TE := tCall (spKind K) [] (fun _ _ _ => False) (tCons (tVar 3) tNil)
def rPinT (K : PySem.W.Frag) : TE := fun sg H Q => (tCons (tVar 3) (tCons (tC (.ref (He.ga K (excN 0)))) tNil)) sg H fun vs H1 => rIsT K vs H1 Q
theorem set3 {sg : L2.St} {x : V} (hl : sg.length = 4) : ((L2.wipe sg [3]).set 3 (some x))[3]? = some (some x) := by
  rw [List.getElem?_set_self (by rw [wipe_length]; omega)]
theorem e_c1 (R : Rel K [] [] [] H) (hl : sg.length = 4) (h0 : sg[0]? = some (some (.ref L))) (hL : H L = some (.lst vs)) (hh : Held K H cls12 vs) {Q : VK} (k : ∀ D H1, Pg K H H1 → RP K [] H1 (.list ws12) (.ref D) → Q (.ref D) H1) :
    tLc (iList K (tVar 0)) (gName 3) tYes (rKindT K) [3] sg H Q := by
  refine rd_map h0 hL (by rw [hh.len]; rfl) (by rw [hh.len]; decide) R (fun n x d D H1 hx hd x1 _ Q' kq => ?_) k
  obtain ⟨c, a, ec, rfl, tk⟩ := hh.get hx
  obtain ⟨c1, c2, rfl⟩ := kw_cls ec hd
  exact ⟨.ref a, set3 hl, a, c, rfl, c1, c2, tk.pg x1, x1.rel, fun H2 x2 => kq _ H2 x2 (by simp only [RP])⟩
theorem e_c2 (tel : ∀ c, 1 ≤ c → c < 13 → ExcT K c) (pin : ∀ c, 1 ≤ c → c < 13 → PySem.W.kitOne K (.ref (He.ga K (excN c))) (.ref (He.ga K (excN 0))) = some true)
    (R : Rel K [] [] [] H) (hl : sg.length = 4) (h0 : sg[0]? = some (some (.ref L))) (hL : H L = some (.lst vs)) (hh : Held K H cls12 vs) {Q : VK} (k : ∀ D H1, Pg K H H1 → RP K [] H1 (.list ((List.replicate 12 true).map PyData.bool)) (.ref D) → Q (.ref D) H1) :
    tLc (iList K (tVar 0)) (gName 3) tYes (rPinT K) [3] sg H Q := by
  refine rd_map h0 hL (by rw [hh.len]; rfl) (by rw [hh.len]; decide) R (fun n x d D H1 hx hd x1 _ Q' kq => ?_) k
  obtain ⟨c, a, ec, rfl, tk⟩ := hh.get hx
  have hn : n < 12 := by
    have := (List.getElem?_eq_some_iff.mp ec).1
    exact this
  obtain ⟨c1, c2, _⟩ := kw_cls (d := ws12[n]'(show n < 12 from hn)) ec (List.getElem?_eq_getElem _)
  have ed : d = .bool true := by
    rw [List.getElem?_map, List.getElem?_replicate, if_pos hn] at hd
    cases hd
    rfl
  subst ed
  exact ⟨.ref a, set3 hl, _, a, _, _, true, rfl, tk.pg x1, (tel c c1 c2).cl, fun u r => r, pin c c1 c2, kq _ H1 (Pg.refl x1.rel) (by simp only [RP])⟩
theorem e_s4 (tel : ∀ c, 1 ≤ c → c < 13 → ExcT K c) (pin : ∀ c, 1 ≤ c → c < 13 → PySem.W.kitOne K (.ref (He.ga K (excN c))) (.ref (He.ga K (excN 0))) = some true) {W : Addr} {t u : TS}
    (R : Rel K [] [] [] H) (hl : sg.length = 4) (h0 : sg[0]? = some (some (.ref L))) (hL : H L = some (.lst vs)) (hh : Held K H cls12 vs) (h1 : sg[1]? = some (some (.ref W))) (hW : RP K [] H (.list ws12) (.ref W)) (k : ∀ H1, Pg K H H1 → u D sg H1) :
    tIfS (tOr (tTest (tOp (fun x y H Q => rOn K EN .ne [x, y] H Q) (tLc (iList K (tVar 0)) (gName 3) tYes (rKindT K) [3]) (tVar 1)))
      (tNot (tB (fun sg H Q => (tCons (tLc (iList K (tVar 0)) (gName 3) tYes (rPinT K) [3]) tNil) sg H fun vs H1 => rOn K EN .all vs H1 Q)))) t u D sg H := by
  unfold tIfS tOr tTest tOp
  dsimp only
  refine e_c1 R hl h0 hL hh fun D1 H1 x1 r1 => ?_
  refine ⟨.ref W, h1, ?_⟩
  show rOn K EN .ne [.ref D1, .ref W] H1 _
  refine op_new x1.rel (rds_2 r1 (x1.rp hW)) (d := .bool false) (by kernel_rfl) fun v H2 x2 r2 => ?_
  simp only [RP] at r2
  subst r2
  refine ⟨false, rfl, ?_⟩
  have z := x1.trans x2
  rw [if_neg (by decide : ¬ (false = true))]
  unfold tNot tB tCons tNil
  dsimp only
  refine e_c2 tel pin x2.rel hl h0 (z.ext L _ (nt_lst hL)).1 (hh.pg z) fun D2 H3 x3 r3 => ?_
  show rOn K EN .all [.ref D2] H3 _
  refine op_new x3.rel (rds_1 r3) (d := .bool true) (by kernel_rfl) fun v H4 x4 r4 => ?_
  simp only [RP] at r4
  subst r4
  refine ⟨true, rfl, ?_⟩
  show u D sg H4
  exact k H4 (z.trans (x3.trans x4))
def FewH (K : PySem.W.Frag) (H : Hp) (x : V) : Prop := ∃ a d, x = .ref a ∧ H a = some (exo a (He.ga K "TooFew") (some d)) ∧ H d = some (exd d [("least", .int 3), ("many", .int 2)])
theorem FewH.pg {H1 : Hp} {x : V} (h : FewH K H x) (y : Pg K H H1) : FewH K H1 x := by
  obtain ⟨a, d, e, e1, e2⟩ := h
  exact ⟨a, d, e, (y.ext a _ ⟨e1, fun ps => exo_tbl⟩).1, (y.ext d _ ⟨e2, nt_exd⟩).1⟩
theorem e_s5 (R : Rel K [] [] [] H) (k : ∀ L x y H1, Pg K H H1 → H1 L = some (.lst [x, y]) → FewH K H1 x → FewH K H1 y → D.nx (sg.set 2 (some (.ref L))) H1) :
    tAsg (tLst (tCons (tFew K (tCons (tC (.int 2)) (tCons (tC (.int 3)) tNil))) (tCons (tFewK K (tCons (tC (.int 3)) (tCons (tC (.int 2)) tNil))) tNil))) (gName 2) D sg H := by
  show tFew K (tCons (tC (.int 2)) (tCons (tC (.int 3)) tNil)) sg H (fun x H1 => tFewK K (tCons (tC (.int 3)) (tCons (tC (.int 2)) tNil)) sg H1 (fun y H2 => [x, y].length ≤ sizeLine ∧ ∀ p, H2 p = none → D.nx (sg.set 2 (some (.ref p))) (L2.upd H2 p (.lst [x, y]))))
  refine few_new R fun a d H1 x1 e1 e2 => few_newK x1.rel fun b e H2 x2 e3 e4 => ⟨line_sz (by decide : 2 ≤ 100000), fun L hL => ?_⟩
  have u := Pg.upd x2.rel (o := HO.lst [V.ref a, .ref b]) hL
  exact k L _ _ _ (x1.trans (x2.trans u)) upd_same (FewH.pg (FewH.pg ⟨a, d, rfl, e1, e2⟩ x2) u) (FewH.pg ⟨b, e, rfl, e3, e4⟩ u)
def t23 : P := .tuple [.int 2, .int 3]
theorem rp_t23 {ex : List Addr} {p : Addr} (n : p ∉ ex) : RP K ex (L2.upd H p (.tup [.int 2, .int 3])) t23 (.ref p) := by
  unfold t23
  simp only [RP, RPs]
  exact ⟨p, _, rfl, ⟨⟨upd_same, fun _ z => nomatch z⟩, n⟩, _, _, rfl, rfl, _, _, rfl, rfl, rfl⟩
def rFldT (K : PySem.W.Frag) : TE := tTup (tCons (tFldT (He.ga K "TooFew") "many" (tVar 3)) (tCons (tFldT (He.ga K "TooFew") "least" (tVar 3)) tNil))
theorem e_s6 {x y : V} (R : Rel K [] [] [] H) (hl : sg.length = 4) (h2 : sg[2]? = some (some (.ref L))) (hL : H L = some (.lst [x, y])) (f1 : FewH K H x) (f2 : FewH K H y) (k : ∀ H1, Pg K H H1 → D.rt (.bl true) H1) :
    tRet (tOp (fun x y H Q => rOn K EN .eq [x, y] H Q) (tLc (iList K (tVar 2)) (gName 3) tYes (rFldT K) [3]) (tOp (fun x y H Q => rOn K EN (.mulL false) [x, y] H Q) (tLst (tCons (tTup (tCons (tC (.int 2)) (tCons (tC (.int 3)) tNil))) tNil)) (tC (.int 2)))) D sg H := by
  unfold tRet tOp
  dsimp only
  refine rd_map (ds := [t23, t23]) h2 hL rfl (by simp) R (fun n z d D H1 hx hd x1 ⟨acc, hD⟩ Q' kq => ?_) fun D1 H1 x1 r1 => ?_
  · have ez : FewH K H1 z ∧ d = t23 := by
      match n, hx, hd with
      | 0, hx, hd => cases hx; cases hd; exact ⟨f1.pg x1, rfl⟩
      | 1, hx, hd => cases hx; cases hd; exact ⟨f2.pg x1, rfl⟩
      | n + 2, hx, hd => simp at hx
    obtain ⟨⟨a, e, rfl, e1, e2⟩, rfl⟩ := ez
    refine ⟨.ref a, set3 hl, a, e, _, .int 2, rfl, e1, e2, by decide +kernel, .ref a, set3 hl, a, e, _, .int 3, rfl, e1, e2, by decide +kernel, line_sz (by decide : 2 ≤ 100000), fun p hp => kq (.ref p) _ (Pg.upd x1.rel hp) (rp_t23 ?_)⟩
    intro m
    rw [List.mem_singleton] at m
    rw [m, hD] at hp
    cases hp
  · refine ⟨line_sz (by decide : 2 ≤ 100000), fun p hp => ⟨line_sz (by decide : 1 ≤ 100000), fun q hq => ?_⟩⟩
    have y1 := Pg.upd x1.rel (o := HO.tup [.int 2, .int 3]) hp
    have y2 := Pg.upd y1.rel (o := HO.lst [V.ref p]) hq
    have rt : RP K [] (L2.upd (L2.upd H1 p (.tup [.int 2, .int 3])) q (.lst [V.ref p])) t23 (.ref p) := y2.rp (rp_t23 (by simp))
    have rl : RP K [] (L2.upd (L2.upd H1 p (.tup [.int 2, .int 3])) q (.lst [V.ref p])) (.list [t23]) (.ref q) := by
      simp only [RP, RPs]
      exact ⟨q, _, rfl, ⟨nt_lst upd_same, by simp⟩, _, _, rfl, rt, rfl⟩
    refine op_new y2.rel (rds_2 rl (e := .int 2) (u := .int 2) (by simp only [RP])) (d := .list [t23, t23]) (by kernel_rfl) fun v H2 x2 r2 => ?_
    refine op_new x2.rel (rds_2 (x2.rp (y2.rp (y1.rp r1))) r2) (d := .bool true) (by kernel_rfl) fun v H3 x3 r3 => ?_
    simp only [RP] at r3
    subst r3
    exact k H3 (x1.trans (y1.trans (y2.trans (x2.trans x3))))
end
end M
namespace M
open PySem PySem.Spec PyProof.Rows L2
section
variable {P : Program} {w : World} {K : PySem.W.Frag} {mg : Str → Option Value} {base : Heap}
theorem errs_fn {CX : CXT} (so : ErrsOk K mg) : ∃ g fd, mg "_law_errors_right" = some (.ref g) ∧ PySem.W.keepIn K (.ref g) = true ∧ Binds K fd [] [] ∧ FnOk P w K mg base CX 4 g fd [] (spErrs K) := by
  obtain ⟨g, fd, pg, sc, p, F, mk, hb, S, ge, ga, l0, l1, l2⟩ := so.errs
  refine ⟨g, fd, mk, F.kp, hb, F.ok S (fun vs H Q E ⟨e, _⟩ => by rw [e]; rfl) fun cdv A outer s H vs Q E hr h => ?_⟩
  obtain ⟨rfl, R, k⟩ := h
  obtain ⟨gk, fdk, mgk, kpk, hbk, fk⟩ := kind_fn (P := P) (w := w) (base := base) (CX := C8.CX0) so.kind
  generalize hX : cxOf CX P w K mg base errsN "_law_errors_right" sc g cdv A outer s H E = X
  have eP : X.prog = P := by subst hX; rfl
  have eW : X.w = w := by subst hX; rfl
  have eB : X.base = base := by subst hX; rfl
  have eK : X.K = K := by subst hX; rfl
  have eM : X.mg = mg := by subst hX; rfl
  have eN : X.N = errsN := by subst hX; rfl
  have eS : X.env.scope = sc := by subst hX; rfl
  have eA : Room 3 X.A := by subst hX; exact hr
  have hc : X.calm = true := by subst hX; rfl
  have un := eA.un
  have n0 : X.N[0]? = some ("_law_some" : Str) := by rw [eN]; rfl
  have n1 : X.N[1]? = some ("_law_words" : Str) := by rw [eN]; rfl
  have n2 : X.N[2]? = some ("_law_pair" : Str) := by rw [eN]; rfl
  have n3 : X.N[3]? = some ("_law_each" : Str) := by rw [eN]; rfl
  have nd : X.N.Nodup := by rw [eN]; exact S.nd
  have l0 : X.env.scope.names.lookup ("_law_some" : Str) = some .local := by rw [eS]; exact l0
  have l1 : X.env.scope.names.lookup ("_law_words" : Str) = some .local := by rw [eS]; exact l1
  have l2 : X.env.scope.names.lookup ("_law_pair" : Str) = some .local := by rw [eS]; exact l2
  have ge : ∀ j, 1 ≤ j → j < 13 → Gl X (excN j) := fun j a1 a2 => by show X.env.scope.names.lookup _ = _; rw [eS]; exact ge j a1 a2
  have ga : Gl X "all" := by show X.env.scope.names.lookup _ = _; rw [eS]; exact ga
  subst eP eW eB eK eM
  have blk : ∀ l : List (Str × NameKind), (scp l).names.all (fun y => decide ((scp l).names.lookup y.1 = some y.2) && decide (y.2 ≠ .free) && (!(decide (y.2 = .local) || decide (y.2 = .cell)) || (decide (y.1 = ("_law_each" : Str)) || !errsN.contains y.1))) = true → BlkOk X.N X.env.scope (scp l) [(("_law_each" : Str), 3)] := fun l h => by
    have z := List.all_eq_true.mp h
    refine ⟨rfl, fun y hy => ?_, fun q hq => ?_, fun y hy e => ?_, fun y hy e => ?_⟩
    · have q := z y hy
      simp only [Bool.and_eq_true, decide_eq_true_eq] at q
      exact q.1.1
    · rw [List.mem_singleton] at hq
      subst hq
      exact n3
    · have q := z y hy
      simp only [Bool.and_eq_true, decide_eq_true_eq] at q
      exact absurd e q.1.2
    · have q := z y hy
      simp only [Bool.and_eq_true, Bool.or_eq_true, Bool.not_eq_true', Bool.or_eq_false_iff, decide_eq_true_eq, decide_eq_false_iff_not] at q
      rcases q.2 with q | q
      · rcases e with e | e
        · exact absurd e q.1
        · exact absurd e q.2
      · rcases q with q | q
        · exact .inl (by rw [q]; simp)
        · refine .inr fun m => ?_
          rw [eN] at m
          rw [List.contains_iff_mem.mpr m] at q
          cases q
  have vv : ∀ {y : Str} {i : Nat} (q : Pos), X.N[i]? = some y → X.env.scope.names.lookup y = some .local → (y == ("__debug__" : Str)) = false → (y == ("__classdict__" : Str)) = false → PE X (.Name y q) (tVar i) := fun q a b d1 d2 => pe_var a (.inl b) d1 d2
  have v0 := fun q : Pos => vv q n0 l0 (by decide +kernel) (by decide +kernel)
  have v1 := fun q : Pos => vv q n1 l1 (by decide +kernel) (by decide +kernel)
  have v2 := fun q : Pos => vv q n2 l2 (by decide +kernel) (by decide +kernel)
  have g0 := fun q : Pos => pg_name (X := X) (pos := q) nd n0 (.inl l0) (.inr l0)
  have g1 := fun q : Pos => pg_name (X := X) (pos := q) nd n1 (.inl l1) (.inr l1)
  have g2 := fun q : Pos => pg_name (X := X) (pos := q) nd n2 (.inl l2) (.inr l2)
  have ex : ∀ (i c : Nat), 1 ≤ c → c < 12 → PE X (exE p i c) (tEx X.K c) := fun i c a1 a2 => pe_exV (so.exf c a1 a2) (ge c a1 (by omega)) pe_str (by
    rcases c_cases a1 (by omega : c < 13) with rfl | rfl | rfl | rfl | rfl | rfl | rfl | rfl | rfl | rfl | rfl | rfl <;> decide +kernel)
  have gT : Gl X "TooFew" := ge 12 (by decide) (by decide)
  have fw : ∀ i : Nat, PE X (fewE p i) (tFew X.K (tCons (tC (.int 2)) (tCons (tC (.int 3)) tNil))) := fun i => pe_fewV so.few so.fewk eA gT (pa_cons pe_int (pa_cons pe_int pa_nil))
  have fwk : PE X (.Call (.Name "TooFew" (p 87)) [] [⟨some "least", inE p 88 3, p 89⟩, ⟨some "many", inE p 90 2, p 91⟩] (p 92)) (tFewK X.K (tCons (tC (.int 3)) (tCons (tC (.int 2)) tNil))) := pe_fewK so.few so.fewk eA gT (pk_cons pe_int (pk_cons pe_int pk_nil)) rfl
  have s1 := ps_asg (pos := p 26) (pe_lst (pos := p 25) (pa_cons (ex 1 1 (by decide) (by decide)) (pa_cons (ex 4 2 (by decide) (by decide)) (pa_cons (ex 7 3 (by decide) (by decide)) (pa_cons (ex 10 4 (by decide) (by decide)) (pa_cons (ex 13 5 (by decide) (by decide)) (pa_cons (ex 16 6 (by decide) (by decide)) (pa_cons (ex 19 7 (by decide) (by decide)) (pa_cons (ex 22 8 (by decide) (by decide)) pa_nil))))))))) (g0 (p 0))
  have s2 := ps_asg (pos := p 44) (pe_op (pos := p 43) op_cat (v0 (p 28)) (pe_lst (pos := p 42) (pa_cons (ex 29 9 (by decide) (by decide)) (pa_cons (ex 32 10 (by decide) (by decide)) (pa_cons (ex 35 11 (by decide) (by decide)) (pa_cons (fw 38) pa_nil)))))) (g0 (p 27))
  have s3 : PS X (.Assign [nmE p 45 "_law_words"] (wordsE p 46) (p 59)) (tAsg tWords (gName 1)) :=
    ps_asg (pe_lst (pa_cons pe_str (pa_cons pe_str (pa_cons pe_str (pa_cons pe_str (pa_cons pe_str (pa_cons pe_str (pa_cons pe_str (pa_cons pe_str (pa_cons pe_str (pa_cons pe_str (pa_cons pe_str (pa_cons pe_str pa_nil)))))))))))))  (g1 (p 45))
  have lk : ∀ (l : List (Str × NameKind)) (s' : Shared) (H' : Hp) (C : Addr) (cl : List (Str × Addr)) (fp : List Addr), (X.blk s' H' (scp l) (compEnvC (scp l) cl C X.env) fp).env.scope.names.lookup ("_law_each" : Str) = some .local := fun l s' H' C cl fp => by
    show (relabel (scp l) X.env).names.lookup _ = _
    rw [lookup_re]
    rfl
  have v3 : ∀ (q : Pos) (l : List (Str × NameKind)) (s' : Shared) (H' : Hp) (C : Addr) (cl : List (Str × Addr)) (fp : List Addr), PE (X.blk s' H' (scp l) (compEnvC (scp l) cl C X.env) fp) (.Name "_law_each" q) (tVar 3) := fun q l s' H' C cl fp => pe_var (X := X.blk s' H' (scp l) (compEnvC (scp l) cl C X.env) fp) n3 (.inl (lk l s' H' C cl fp)) (by decide +kernel) (by decide +kernel)
  have g3 : ∀ (q : Pos) (l : List (Str × NameKind)) (s' : Shared) (H' : Hp) (C : Addr) (cl : List (Str × Addr)) (fp : List Addr), PG (X.blk s' H' (scp l) (compEnvC (scp l) cl C X.env) fp) (.Name "_law_each" q) (gName 3) := fun q l s' H' C cl fp => pg_name (X := X.blk s' H' (scp l) (compEnvC (scp l) cl C X.env) fp) nd n3 (.inl (lk l s' H' C cl fp)) (.inr (lk l s' H' C cl fp))
  have gl : ∀ (x : Str) (l : List (Str × NameKind)) (s' : Shared) (H' : Hp) (C : Addr) (cl : List (Str × Addr)) (fp : List Addr), (scp l).names.lookup x = some .globalImplicit → Gl (X.blk s' H' (scp l) (compEnvC (scp l) cl C X.env) fp) x := fun x l s' H' C cl fp h => by
    show (relabel (scp l) X.env).names.lookup _ = _
    rw [lookup_re, h]
    rfl
  have c1 : PE X (lcE p 63 (.Call (.Name "_law_kind" (p 60)) [nmE p 61 "_law_each"] [] (p 62)) "_law_some" scA) (tLc (iList X.K (tVar 0)) (gName 3) tYes (tCall (spKind X.K) [] (fun _ _ _ => False) (tCons (tVar 3) tNil)) [3]) :=
    pe_lc (own := [(("_law_each" : Str), 3)]) hc nd (pi_list (v0 (p 64))) (blk _ (by decide +kernel)) (fun s' H' C cl fp => g3 _ _ s' H' C cl fp) (fun s' H' C cl fp => pts_nil) (fun s' H' C cl fp =>
      pe_call (X := X.blk s' H' scA (compEnvC scA cl C X.env) fp) (ds := []) fk (eA.mono (by decide)) (gl "_law_kind" _ s' H' C cl fp (by decide +kernel)) mgk kpk hbk .nil C8.pass0 (pa_cons (v3 _ _ s' H' C cl fp) pa_nil) (by decide +kernel))
  have c2 : PE X (lcE p 73 (.Call (.Name "isinstance" (p 69)) [nmE p 70 "_law_each", .Name "PinError" (p 71)] [] (p 72)) "_law_some" scB) (tLc (iList X.K (tVar 0)) (gName 3) tYes (fun sg H Q => (tCons (tVar 3) (tCons (tC (.ref (He.ga X.K (excN 0)))) tNil)) sg H fun vs H1 => rIsT X.K vs H1 Q) [3]) :=
    pe_lc (own := [(("_law_each" : Str), 3)]) hc nd (pi_list (v0 (p 74))) (blk _ (by decide +kernel)) (fun s' H' C cl fp => g3 _ _ s' H' C cl fp) (fun s' H' C cl fp => pts_nil) (fun s' H' C cl fp =>
      pe_callB (X := X.blk s' H' scB (compEnvC scB cl C X.env) fp) call_isT (gl "isinstance" _ s' H' C cl fp (by decide +kernel)) so.kind.isa (by decide +kernel) (pa_cons (v3 _ _ s' H' C cl fp) (pa_cons (pe_glob (v := .ref (He.ga X.K (excN 0))) (gl "PinError" _ s' H' C cl fp (by decide +kernel)) (so.kind.exc 0 (by decide)) rfl (by decide +kernel)) pa_nil)) (by decide +kernel) (by decide +kernel))
  have cT : ExcC X.K (He.ga X.K "TooFew") := (so.kind.tel 12 (by decide) (by decide)).cl
  have c3 : PE X (lcE p 100 (.Tuple [.Attribute (nmE p 95 "_law_each") "many" (p 96), .Attribute (nmE p 97 "_law_each") "least" (p 98)] 0 (p 99)) "_law_pair" scC) (tLc (iList X.K (tVar 2)) (gName 3) tYes (tTup (tCons (tFldT (He.ga X.K "TooFew") "many" (tVar 3)) (tCons (tFldT (He.ga X.K "TooFew") "least" (tVar 3)) tNil))) [3]) :=
    pe_lc (own := [(("_law_each" : Str), 3)]) hc nd (pi_list (v2 (p 101))) (blk _ (by decide +kernel)) (fun s' H' C cl fp => g3 _ _ s' H' C cl fp) (fun s' H' C cl fp => pts_nil) (fun s' H' C cl fp =>
      pe_tup (X := X.blk s' H' scC (compEnvC scC cl C X.env) fp) (pa_cons (pe_fldT (X := X.blk s' H' scC (compEnvC scC cl C X.env) fp) cT so.few.no1 (v3 _ _ s' H' C cl fp)) (pa_cons (pe_fldT (X := X.blk s' H' scC (compEnvC scC cl C X.env) fp) cT so.few.no2 (v3 _ _ s' H' C cl fp)) pa_nil)))
  have hu : X.A.units + 64 < cLine := by omega
  have s4 := ps_if (pos := p 81) (a := [.Return (some (.Constant (.bool false) 0 (p 79))) (p 80)]) (b := []) (u := tNext) (PW.pt (pw_or (pos := p 78) (pt_cmpR (pos := p 67) (rO_ne (E := EN) hu) c1 (v1 (p 66)) (nobehind _ (by decide) (by decide)))
    (pw_or1 (pt_not (pos := p 77) (pt_val (pe_callB (p := p 68) (pos := p 76) (rC_all (E := EN) hc) ga so.all (by decide +kernel) (pa_cons c2 pa_nil) (by decide +kernel) (by decide +kernel))))))) pss_never pss_nil
  have s5 := ps_asg (pos := p 94) (pe_lst (pos := p 93) (pa_cons (fw 83) (pa_cons fwk pa_nil))) (g2 (p 82))
  have s6 := ps_ret (pos := p 110) (pe_cmpR (pos := p 109) (rO_eq (E := EN) hu) c3 (pe_op (pos := p 108) (rO_mulL (E := EN) (k := false)) (pe_lst (pos := p 106) (pa_cons (pe_tup (x1 := 0) (pos := p 105) (pa_cons (pe_int (i := 2) (j := 0) (pos := p 103)) (pa_cons (pe_int (i := 3) (j := 0) (pos := p 104)) pa_nil))) pa_nil)) (pe_int (i := 2) (j := 0) (pos := p 107))) (nobehind _ (by decide) (by decide)))
  refine ⟨_, pss_cons s1 (pss_cons s2 (pss_cons s3 (pss_cons s4 (pss_cons s5 (pss_one s6))))), ?_⟩
  have hs : start errsN [] = [none, none, none, none] := rfl
  rw [hs]
  show tSeq _ _ _ _ H
  unfold tSeq
  dsimp only
  refine e_s1 R fun L1 vs1 H1 x1 e1 h1 => ?_
  refine e_s2 x1.rel (by rfl) e1 h1 fun L2' vs2 H2 x2 e2 h2 => ?_
  refine e_s3 x2.rel fun W H3 x3 r3 => ?_
  dsimp only
  refine e_s4 (sg := [some (.ref L2'), some (.ref W), none, none]) so.kind.tel so.pin x3.rel (by rfl) (by rfl) (x3.ext _ _ (nt_lst e2)).1 (h2.pg x3) (by rfl) r3 fun H4 x4 => ?_
  refine e_s5 x4.rel fun L3 x y H5 x5 e5 f1 f2 => ?_
  dsimp only
  refine e_s6 (sg := [some (.ref L2'), some (.ref W), some (.ref L3), none]) x5.rel (by rfl) (by rfl) e5 f1 f2 fun H6 x6 => ?_
  exact k H6 (x1.trans (x2.trans (x3.trans (x4.trans (x5.trans x6)))))
end
end M
namespace M
open PySem PySem.Spec PyProof.Rows L2
def gFld (K : PySem.W.Frag) (to : TE) (f : Str) : TG := fun v σ H Q => to σ H fun x H1 => ∃ a C dx fs, x = .ref a ∧ H1 a = some (.ins C dx fs) ∧ Cls K C ∧ NoAttr K C f ∧ fs.length < 1000 ∧ Q σ (upd H1 a (.ins C dx (putF f v fs)))
theorem pg_fld {X : Cx} {o : Expr} {to : TE} {f : Str} {pos : Pos} (ho : PE X o to) : PG X (.Attribute o f pos) (gFld X.K to f) := by
  refine ⟨fun pins s σ H v u Q I r h => ?_⟩
  refine PySem.W.kas_attr (thn (ho.run pins s σ H _ I h) fun ov s1 ⟨x, H1, I1, rx, a, C, dx, fs, ex, ea, c, n, l, q⟩ => ?_)
  subst ex
  obtain rfl : ov = Value.ref a := rx
  exact setattr_ok I1 ea c n l r fun s2 I2 => ⟨σ, _, I2, q⟩
theorem sw_fld {x1 x2 : Expr} {n1 n2 : Str} {q1 q2 p p2 : Pos} {k k2 : Nat} {vs : List Expr} {env : Env} : swappedStores [.Tuple [.Attribute x1 n1 q1, .Attribute x2 n2 q2] k p] (.Tuple vs k2 p2) env = pure none := by
  unfold swappedStores
  simp only []
  repeat' first
    | rfl
    | split
    | contradiction
section
variable {K : PySem.W.Frag} {rho gh rho2 : List Addr} {m mm : MH} {H0 H : Hp}
theorem Rel.swapT {q : Nat} {x l2 dx l0 : Addr} {now : P} {v : V} {ds : List P} (R : Rel K rho2 gh mm H) (hl : mm.length = q + 3) (ex : rho2[q + 1]? = some x) (el : rho2[q + 2]? = some l2) (hd : mm[q + 2]? = some (.lst ds))
    (eh : H x = some (.ins (tabC K) dx (tabF v l0))) (hv : RP K (rho2 ++ gh) H now v) (X : Ext rho H0 rho2 H) (hq : rho.length ≤ q) :
    Rel K (rho2.take q ++ [l2, x]) gh (mm.take q ++ [.lst ds, .tab now]) (L2.upd H x (.ins (tabC K) dx (tabF v l2))) ∧ Ext rho H0 (rho2.take q ++ [l2, x]) (L2.upd H x (.ins (tabC K) dx (tabF v l2))) := by
  have hl2 : rho2.length = q + 3 := by rw [R.len, hl]
  have mx : x ∈ rho2 := List.mem_of_getElem? ex
  have ml : l2 ∈ rho2 := List.mem_of_getElem? el
  have idx : ∀ (i j : Nat) (a : Addr), rho2[i]? = some a → rho2[j]? = some a → i = j := fun i j a e1 e2 => by
    obtain ⟨h1, z1⟩ := List.getElem?_eq_some_iff.mp e1
    obtain ⟨h2, z2⟩ := List.getElem?_eq_some_iff.mp e2
    exact (List.getElem_inj R.nd).mp (z1.trans z2.symm)
  have lx : l2 ≠ x := fun e => by
    subst e
    have := idx _ _ _ ex el
    omega
  have sub : ∀ b ∈ rho2.take q ++ [l2, x], b ∈ rho2 := fun b hb => by
    rcases List.mem_append.mp hb with hb | hb
    · exact List.mem_of_mem_take hb
    · simp only [List.mem_cons, List.not_mem_nil, or_false] at hb
      rcases hb with rfl | rfl
      · exact ml
      · exact mx
  have tk : ∀ (i : Nat), i < q → (rho2.take q ++ [l2, x])[i]? = rho2[i]? := fun i hi => by
    rw [List.getElem?_append_left (by rw [List.length_take]; omega), List.getElem?_take_of_lt hi]
  have ltk : (rho2.take q).length = q := by rw [List.length_take]; omega
  have ltm : (mm.take q).length = q := by rw [List.length_take]; omega
  have out : ∀ (i : Nat) (b : Addr), q ≤ i → rho2[i]? = some b → b ∉ rho2.take q := fun i b hi eb h => by
    obtain ⟨j, hj, e5⟩ := List.mem_iff_getElem.mp h
    have hj2 : j < q := by rw [ltk] at hj; exact hj
    have e6 : rho2[j]? = some b := by
      rw [List.getElem_take] at e5
      rw [← e5]
      exact List.getElem?_eq_getElem _
    have := idx _ _ _ eb e6
    omega
  have at3 : ∀ b o, At (rho2 ++ gh) H b o → At (rho2.take q ++ [l2, x] ++ gh) (L2.upd H x (.ins (tabC K) dx (tabF v l2))) b o := fun b o ⟨h1, h2⟩ => by
    have nb : b ≠ x := fun e => h2 (List.mem_append_left _ (by rw [e]; exact mx))
    refine ⟨h1.upd nb, fun z => h2 ?_⟩
    rcases List.mem_append.mp z with z | z
    · exact List.mem_append_left _ (sub b z)
    · exact List.mem_append_right _ z
  have tb : LamX.Tabs (tabsOf K) (L2.upd H x (.ins (tabC K) dx (tabF v l2))) := tabs_set R.tabs eh (fun _ z => nomatch z) fun c q => ins_code c q
  refine ⟨⟨by simp [ltk, ltm], ?_, fun b h => ⟨?_, fun z => (R.gho b h).2 (sub b z)⟩, fun i b c e8 e9 => ?_, tb⟩, ⟨?_, fun b h => X.new b (sub b h), fun b o e nr => ?_⟩⟩
  · rw [List.nodup_append]
    refine ⟨R.nd.sublist (List.take_sublist _ _), by simp [lx], fun b hb c hc => ?_⟩
    simp only [List.mem_cons, List.not_mem_nil, or_false] at hc
    rintro rfl
    rcases hc with rfl | rfl
    · exact out _ _ (by omega) el hb
    · exact out _ _ (by omega) ex hb
  · obtain ⟨xs, e⟩ := (R.gho b h).1
    exact ⟨xs, by rw [upd_ne fun z => (R.gho b h).2 (by rw [z]; exact mx)]; exact e⟩
  · by_cases hi : i < q
    · rw [tk i hi] at e8
      rw [List.getElem?_append_left (by omega), List.getElem?_take_of_lt hi] at e9
      have ep : prv (rho2.take q ++ [l2, x]) i = prv rho2 i := by
        cases i with
        | zero => rfl
        | succ i => exact tk i (by omega)
      rw [ep]
      have nb : b ≠ x := fun e => by
        rw [e] at e8
        have := idx _ _ _ ex e8
        omega
      exact (R.cell i b c e8 e9).mono at3 fun o e => e.upd nb
    · have hlt : i < (rho2.take q ++ [l2, x]).length := (List.getElem?_eq_some_iff.mp e8).1
      rw [List.length_append, ltk] at hlt
      simp only [List.length_cons, List.length_nil] at hlt
      rw [List.getElem?_append_right (by omega), ltk] at e8
      rw [List.getElem?_append_right (by omega), ltm] at e9
      rcases (show i = q ∨ i = q + 1 by omega) with c0 | c0
      · subst c0
        simp at e8 e9
        subst e8 e9
        obtain ⟨xs, e4, z⟩ := R.cell _ _ _ el hd
        exact ⟨xs, by rw [upd_ne lx]; exact e4, RPs.mono at3 _ _ z⟩
      · subst c0
        simp at e8 e9
        subst e8 e9
        refine ⟨dx, v, l2, ?_, upd_same, RP.mono at3 _ _ hv⟩
        show (rho2.take q ++ [l2, x])[q]? = some l2
        rw [List.getElem?_append_right (by omega), ltk]
        simp
  · have p : rho <+: rho2.take q := List.prefix_take_iff.mpr ⟨X.pre, hq⟩
    exact p.trans ⟨_, rfl⟩
  · have nb : b ≠ x := fun z => by
      subst z
      rcases X.new b mx with h | h
      · exact nr h
      · exact e.fr0 h
    exact (X.fr b o e nr).upd nb
end
section
variable {cf : CF} {E : XK} {X : Cx} {fuel : Nat}
theorem same_rho {rho rho2 gh gh2 : List Addr} {K : PySem.W.Frag} {m : MH} {H H2 : Hp} (R : Rel K rho gh m H) (x : Ext rho H rho2 H2) (R2 : Rel K rho2 gh2 m H2) : rho2 = rho := (x.pre.eq_of_length (by rw [R.len, R2.len])).symm
theorem rd_twin {f : Nat} (t : TabK X.K X.mg) (D : Ends) (sg : L2.St) (H : Hp) (h : tMS X.K E cf fuel (.twin f) D sg H) :
    tSeq (tAsg (tE X.K E cf (twinE f)) (gName 1)) (tSeq (tAsg (tTup (tA X.K E cf twinA)) (gTup X.K 2 (gCons (gFld X.K (tE X.K E cf (.var 1)) "now") (gCons (gFld X.K (tE X.K E cf (.var 1)) "past") gNil)))) (tRet (tE X.K E cf (.var 1)))) D sg H := by
  obtain ⟨rho, gh, env, m, S, w⟩ := h
  simp only [exS] at w
  have w0 := w
  refine ⟨rho, gh, env, m, S, WPS.go w fun ds m1 rho1 H1 vs e1 x1 R1 rd1 w => ?_⟩
  unfold twinK at w
  split at w
  · rename_i q n e0 envt _
    obtain ⟨y1, rfl, r1⟩ := RDs.one_of rd1
    obtain ⟨x, rfl, ex⟩ := r1
    split at w
    · rename_i ls now d0 el en eq
      split at w
      · rename_i c
        simp only [Bool.and_eq_true, decide_eq_true_eq] at c
        obtain ⟨⟨c1, c2⟩, c3⟩ := c
        refine ⟨_, rfl, ?_⟩
        have S1 : StOk X.K rho1 gh ((some (.ref (n + 1)) :: e0 :: envt : Ev).set 1 (some (.ref (q + 1)))) m1 (sg.set 1 (some (.ref x))) H1 := ⟨R1, (S.env.ext x1).set (d := .ref (q + 1)) ⟨x, rfl, ex⟩⟩
        have v1 : ∀ mm, ev cf (.var 1) ((some (.ref (n + 1)) :: e0 :: envt : Ev).set 1 (some (.ref (q + 1)))) mm = .ok [.ref (q + 1)] mm := fun mm => by simp [ev]
        have e2 : ev cf twinA ((some (.ref (n + 1)) :: e0 :: envt : Ev).set 1 (some (.ref (q + 1)))) m1 = .ok [.p now, .ref m1.length] (m1 ++ [.lst ls]) := by
          simp [twinA, ev, en, el, opD, d_list, seqD, mkL, ok1]
        refine ⟨rho1, gh, _, m1, S1, ?_⟩
        rw [e2]
        intro rho2 H2 vs2 x2 R2 rd2
        obtain ⟨vn, vl, rfl, rn, rl⟩ := RDs.two_of rd2
        obtain ⟨l2, rfl, el2⟩ := rl
        refine ⟨line_sz (by simp), fun T hT => ⟨T, _, rfl, SqT.of upd_same, rfl, ?_⟩⟩
        have R3 := R2.upd (o := .tup [vn, .ref l2]) hT
        have x3 : Ext rho2 H2 rho2 (L2.upd H2 T (.tup [vn, .ref l2])) := Ext.upd hT
        have S3 : StOk X.K rho2 gh _ (m1 ++ [.lst ls]) _ _ := ⟨R3, S1.env.ext (x2.trans x3)⟩
        refine ⟨vn, _, rfl, rho2, gh, _, _, S3, ?_⟩
        rw [v1]
        intro rho4 H4 vs4 x4 R4 rd4
        cases same_rho R3 x4 R4
        obtain ⟨y4, rfl, r4⟩ := RDs.one_of rd4
        have hm : q + 1 < m1.length := by omega
        have eq1 : (m1 ++ [Cell.lst ls])[q + 1]? = some (.tab d0) := by rw [List.getElem?_append_left hm]; exact eq
        obtain ⟨a4, dx, v4, l4, rfl, ea4, p4, h4, _⟩ := tab_at R4 r4 eq1
        refine ⟨_, rfl, a4, _, dx, _, rfl, h4, t.cls, t.n1, by unfold tabF; simp, ?_⟩
        have rv : RP X.K (rho2 ++ gh) H4 now vn := (x3.trans x4).rd (d := .p now) rn
        obtain ⟨R5, x5⟩ := R4.setT ea4 eq1 h4 rv
        have ep : putF "now" vn (tabF v4 l4) = tabF vn l4 := by unfold tabF putF; simp
        rw [ep]
        refine ⟨_, _, rfl, rho2, gh, _, _, ⟨R5, S3.env.ext (x4.trans x5)⟩, ?_⟩
        rw [v1]
        intro rho6 H6 vs6 x6 R6 rd6
        cases same_rho R5 x6 R6
        obtain ⟨y6, rfl, r6⟩ := RDs.one_of rd6
        have eq2 : ((m1 ++ [Cell.lst ls]).set (q + 1) (.tab now))[q + 1]? = some (.tab now) := by rw [List.getElem?_set_self (by simp; omega)]
        obtain ⟨a6, dx6, v6, l6, rfl, ea6, p6, h6, rv6⟩ := tab_at R6 r6 eq2
        refine ⟨_, rfl, a6, _, dx6, _, rfl, h6, t.cls, t.n2, by unfold tabF; simp, ?_⟩
        have ep2 : putF "past" (.ref l2) (tabF v6 l6) = tabF v6 l2 := by
          show (if ("now" : Str) = "past" then [(("now" : Str), V.ref l2), (("past" : Str), V.ref l6)] else (("now" : Str), v6) :: putF "past" (.ref l2) [(("past" : Str), V.ref l6)]) = _
          rw [if_neg (by decide)]
          rfl
        rw [ep2]
        refine ⟨rfl, ?_⟩
        have X6 : Ext rho H rho2 H6 := x1.trans (x2.trans (x3.trans (x4.trans (x5.trans x6))))
        have hl3 : ((m1 ++ [Cell.lst ls]).set (q + 1) (.tab now)).length = q + 3 := by simp; omega
        have hd3 : ((m1 ++ [Cell.lst ls]).set (q + 1) (.tab now))[q + 2]? = some (.lst ls) := by
          rw [List.getElem?_set_ne (by omega), List.getElem?_append_right (by omega)]
          simp [← c3]
        obtain ⟨Rf, Xf⟩ := R6.swapT hl3 ea6 (by rw [c3]; exact el2) hd3 h6 rv6 X6 (by rw [S.rel.len]; exact c1)
        have em : ((m1 ++ [Cell.lst ls]).set (q + 1) (.tab now)).take q = m1.take q := by
          rw [List.take_set_of_le (by omega), List.take_append_of_le_length (by omega)]
        rw [em] at Rf
        have exf : (rho2.take q ++ [l2, a6])[q + 1]? = some a6 := by
          have hl2 : rho2.length = q + 3 := by rw [R6.len, hl3]
          rw [List.getElem?_append_right (by rw [List.length_take]; omega), List.length_take]
          have : q + 1 - min q rho2.length = 1 := by omega
          rw [this]
          rfl
        have ax : a6 = x := by
          have e9 : rho2[q + 1]? = some x := pre_get x2.pre ex
          rw [ea6] at e9
          exact Option.some.inj e9
        refine ⟨rho2.take q ++ [l2, a6], gh, _, _, ⟨Rf, by
          have := (S.env.ext Xf).set (i := 1) (d := .ref (q + 1)) (v := .ref a6) ⟨a6, rfl, exf⟩
          rw [ax] at this
          rw [ax]
          exact this⟩, ?_⟩
        rw [v1]
        intro rho8 H8 vs8 x8 R8 rd8
        obtain ⟨v8, rfl, r8⟩ := RDs.one_of rd8
        have e3 : twinK m.length [.ref (q + 1)] (some (.ref (n + 1)) :: e0 :: envt) m1 = .rt (.ref (q + 1)) (m1.take q ++ [Cell.lst ls, Cell.tab now]) := by
          have c4 : (decide (m.length ≤ q) && decide (n + 1 < q) && decide (q + 2 = m1.length)) = true := by simp [c1, c2, c3]
          simp only [twinK, el, en, eq, c4, if_true]
        have w1 : WPS X.K gh E D (twinK m.length [.ref (q + 1)] (some (.ref (n + 1)) :: e0 :: envt) m1) rho H := by
          have w0 : WPS X.K gh E D ((ev cf (twinE f) (some (.ref (n + 1)) :: e0 :: envt) m).go fun xs m1 => twinK m.length xs (some (.ref (n + 1)) :: e0 :: envt) m1) rho H := w0
          have e1 : ev cf (twinE f) (some (.ref (n + 1)) :: e0 :: envt) m = .ok [.ref (q + 1)] m1 := e1
          rw [e1] at w0
          exact w0
        rw [e3] at w1
        exact ⟨v8, rfl, w1 rho8 H8 v8 (Xf.trans x8) R8 r8⟩
      · exact w.elim
    · exact w.elim
  · exact w.elim
end
end M
namespace M
open PySem PySem.Spec PyProof.Rows L2
def notComp : Expr → Bool
  | .ListComp _ _ _ _ => false
  | .SetComp _ _ _ _ => false
  | .DictComp _ _ _ _ _ => false
  | _ => true
def isLo (sc : Scope) (x : Str) : Bool := match sc.names.lookup x with
  | some .local => true
  | _ => false
def swNone : Expr → Bool
  | .Tuple vs _ _ => vs.all (foldedForSure 8)
  | _ => true
def docOf : Expr → Bool
  | .Constant (.str _) _ _ => true
  | _ => false
def isCe (sc : Scope) (x : Str) : Bool := match sc.names.lookup x with
  | some .cell => true
  | _ => false
def chkN (N : List Str) (sc : Scope) : List Nat → List Expr → Bool
  | [], [] => true
  | i :: is, .Name x _ :: es => decide (N[i]? = some x) && isLoc sc x && chkN N sc is es
  | _, _ => false
def noSwap (sc : Scope) (es : List Expr) : Bool := (!decide (es.length = 2) && !decide (es.length = 3)) || es.any fun e => match e with | .Name x _ => isCe sc x | _ => false
def chkR (G : Gs) (sc : Scope) : Nat → Option Expr → Option Expr → Bool
  | 0, _, _ => true
  | c + 1, some (.Call (.Name x _) [.Constant (.str _) _ _] [] _), none => decide (x = excN (c + 1)) && isGl sc x && G.excs.contains (c + 1) && !(x == ("__debug__" : Str))
  | _, _, _ => false
def chkTw (G : Gs) (N : List Str) (sc : Scope) (f : Nat) (st1 st2 st3 : Stmt) : Bool := match st1, st2, st3 with
  | .Assign [.Name o _] v _, .Assign [.Tuple [.Attribute x1 n1 _, .Attribute x2 n2 _] _ _] (.Tuple es _ _) _, .Return (some r) _ =>
    decide (N[1]? = some o) && isLoc sc o && notComp v && chk G N (twinE f) sc (.ex v) && G.tb && decide (n1 = "now") && decide (n2 = "past") && chk G N (.var 1) sc (.ex x1) && chk G N (.var 1) sc (.ex x2) && chk G N twinA sc (.ar es) && chk G N (.var 1) sc (.ex r)
  | _, _, _ => false
def ersM (G : Gs) : Bool := G.kws.any fun q => q.1 == 1000000
mutual
def chk1 (G : Gs) (N : List Str) (sc : Scope) : MS → Stmt → Bool
  | .pass, .Pass _ => true
  | .pass, .Expr e _ => docOf e
  | .brk, .Break _ => true
  | .cnt, .Continue _ => true
  | .retN, .Return none _ => true
  | .ex e, .Expr x _ => notComp x && chk G N e sc (.ex x)
  | .setv i e, .Assign [.Name x p] v _ => (notComp v || isCe sc x || !(p.line == v.pos.line)) && decide (N[i]? = some x) && isLoc sc x && chk G N e sc (.ex v)
  | .setLc i e, .Assign [.Name x p] v _ => decide (N[i]? = some x) && isLo sc x && (match e, v with
    | .lc _ elt own tg ik it hasIf tst, .ListComp el [⟨t, it1, ifs, as⟩] scope cp => (p.line == cp.line) && !(scope.names.any fun (n, k) => n == x && (k == .local || k == .cell)) && chk G N e sc (.ex v)
    | .lc2 _ elt own tg ik it own1 tg1 ik1 it1, .ListComp el [⟨t, i1, ifs, as⟩, ⟨t1, i2, ifs1, as1⟩] scope cp => (p.line == cp.line) && !(scope.names.any fun (n, k) => n == x && (k == .local || k == .cell)) && ifs.isEmpty && ifs1.isEmpty && chk G N e sc (.ex v)
    | _, _ => false)
  | .asgT t e, .Assign [.Tuple es k p] v _ => chkT N sc t (.Tuple es k p) && notComp v && swNone v && chk G N e sc (.ex v)
  | .par i j a, .Assign [.Tuple [.Name x px, .Name y py] _ _] (.Tuple [e, f] _ _) _ => decide (N[i]? = some x) && decide (N[j]? = some y) && decide (i ≠ j) && isLo sc x && isLo sc y && decide (px.line = py.line)
      && notSt e && notSt f && !([e, f].all (foldedForSure 8)) && !([e, f].all (constantsAlone 8)) && chk G N a sc (.ar [e, f])
  | .par3 i j l a, .Assign [.Tuple [.Name x px, .Name y py, .Name z pz] _ _] (.Tuple [e, f, g] _ _) _ => decide (N[i]? = some x) && decide (N[j]? = some y) && decide (N[l]? = some z) && decide (i ≠ j) && decide (i ≠ l) && decide (j ≠ l) && isLo sc x && isLo sc y && isLo sc z && decide (px.line = py.line) && decide (px.line = pz.line)
      && notSt e && notSt f && notSt g && !([e, f, g].all (foldedForSure 8)) && !([e, f, g].all (constantsAlone 8)) && chk G N a sc (.ar [e, f, g])
  | .setI o i e, .Assign [.Subscript x y _] v _ => notSl y && notComp v && chk G N o sc (.ex x) && chk G N i sc (.ex y) && chk G N e sc (.ex v)
  | .iff c a b, .If x p q _ => chk G N c sc (.te x) && chkS G N sc a p && chkS G N sc b q
  | .forr t ik it b, .For tg i body [] _ => chkT N sc t tg && (match spI G sc ik tg i with | some es => chk G N it sc (.ar es) | none => false) && chkS G N sc b body
  | .whil c b, .While x body [] _ => chk G N c sc (.te x) && chkS G N sc b body
  | .ret e, .Return (some x) _ => chk G N e sc (.ex x)
  | .rais c, .Raise e f _ => chkR G sc c e f
  | .raisF a, .Raise (some (.Call (.Name x _) [e, f] [] _)) none _ => decide (x = excN 12) && isGl sc x && G.few && chk G N a sc (.ar [e, f])
  | .setN o e, .Assign [.Attribute x n _] v _ => decide (n = "now") && G.tb && notComp v && chk G N o sc (.ex x) && chk G N e sc (.ex v)
  | .parN is a, .Assign [.Tuple es _ _] (.Tuple vs _ _) _ => chkN N sc is es && noSwap sc es && chk G N a sc (.ar vs)
  | .errs, .If (.UnaryOp .Not (.Call (.Name x _) [] [] _) _) [.Return (some (.Constant (.bool false) _ _)) _] [] _ => decide (x = ("_law_errors_right" : Str)) && isGl sc x && ersM G
  | _, _ => false
def chkS (G : Gs) (N : List Str) (sc : Scope) : MS → List Stmt → Bool
  | .nil, [] => true
  | .seq a b, st :: rest => chk1 G N sc a st && chkS G N sc b rest
  | .twin f, [st1, st2, st3] => chkTw G N sc f st1 st2 st3
  | .wall, _ => true
  | _, _ => false
end
structure SX (G : Gs) (cf : CF) (N : List Str) (sc : Scope) (E : XK) (X : Cx) : Prop where
  g : GX G cf N sc E X
  own : PassesOwn (model X.prog X.w) X.A X.env X.xe
  kind : X.env.scope.kind = .function
  tk : Takes X (fun cls d _ H => E cls d H)
  exc : ∀ c, G.excs.contains c = true → ExcF X.K X.mg c
  few : G.few = true → FewOk X.K X.mg ∧ Room 3 X.A
  ers : ersM G = true → ErrsOk X.K X.mg ∧ Room 4 X.A
section
variable {G : Gs} {cf : CF} {N : List Str} {sc : Scope} {E : XK} {X : Cx} {fuel : Nat}
theorem rd_few {a : ME} {D : Ends} {sg : L2.St} {H : Hp} (hh : tMS X.K E cf fuel (.raisF a) D sg H) : tMkO (He.ga X.K "TooFew") (spInit X.K) [] (tA X.K E cf a) sg H fun cls d H' => E cls d H' := by
  obtain ⟨rho, gh, env, m, S, w⟩ := hh
  simp only [exS] at w
  refine ⟨rho, gh, env, m, S, WPS.go w fun ds m1 rho1 H1 vs e x R rd w => ?_⟩
  split at w
  · rename_i i j
    split at w
    · rename_i fb
      obtain ⟨v1, r1, rfl, k1, k2⟩ := rd
      obtain ⟨v2, rfl, k3⟩ := RDs.one_of k2
      have e1 : v1 = .int i := rd_int k1
      have e2 : v2 = .int j := rd_int k3
      subst e1 e2
      refine ⟨by simp, fun b hb => ⟨b, i, j, rfl, fb, upd_same, fun dx n ne => ⟨rfl, dx, [("least", .int j), ("many", .int i)], ?_, upd_same, ?_, ?_⟩⟩⟩
      · rw [upd_ne (Ne.symm ne), upd_same]
      · rw [upd_ne ne] at n
        exact n
      · rw [upd_ne ne] at n
        have eh : upd (del (upd (upd (upd (upd H1 b (exo b (He.ga X.K "TooFew") none)) dx (exd dx [("many", .int i)])) b (exo b (He.ga X.K "TooFew") (some dx))) dx (exd dx [("least", .int j), ("many", .int i)])) b) dx (.xd [("least", .int j), ("many", .int i)]) = upd H1 dx (.xd (fewF i j)) := by
          funext c
          by_cases hc : c = dx
          · rw [hc, upd_same, upd_same]
            rfl
          · rw [upd_ne hc, upd_ne hc]
            by_cases hb2 : c = b
            · rw [hb2, del_same, hb]
            · rw [del_ne hb2, upd_ne hc, upd_ne hb2, upd_ne hc, upd_ne hb2]
        rw [eh]
        exact w rho1 (upd H1 dx (.xd (fewF i j))) _ _ (Ext.upd n) (R.upd n) ⟨rfl, .inr ⟨rfl, i, j, dx, rfl, rfl, ⟨upd_same, fun _ z => nomatch z⟩, R.out n⟩⟩
    · exact w.elim
  · exact w.elim
theorem isLoc_of (g : GX G cf N sc E X) {x : Str} (h : isLoc sc x = true) : L2.Loc X.env.scope x ∧ (X.fn x = true ∨ X.env.scope.names.lookup x = some .local) := by
  unfold isLoc at h
  unfold L2.Loc
  split at h
  · have z := g.hsc.loc x (by assumption)
    exact ⟨.inl z, .inr z⟩
  · have z := g.hsc.cel x (by assumption)
    exact ⟨.inr z.1, .inl z.2⟩
  · cases h
theorem isLo_of (g : GX G cf N sc E X) {x : Str} (h : isLo sc x = true) : X.env.scope.names.lookup x = some .local := by
  unfold isLo at h
  split at h
  · exact g.hsc.loc x (by assumption)
  · cases h
theorem sw_no {v : Expr} {t : Option Expr} {l : Nat} {env : Env} (h : notComp v = true) : swapsWith v t l env = pure false := by
  cases v <;> first
    | rfl
    | (simp [notComp] at h)
theorem sw_sole {v t : Expr} {l : Nat} {env : Env} (h : notComp v = true) : swapsWithSole [t] v l env = pure false := by
  unfold swapsWithSole
  exact sw_no h
theorem sub_as {o i : Expr} {pos : Pos} {env : Env} (h : notSl i = true) (v : Value) : assign (.Subscript o i pos) env v = (do
      let ov ← holding [v] (eval o env)
      let iv ← holding [v, ov] (eval i env)
      standAt pos
      holding [v, ov, iv] (setItem ov iv v)
      release [v, ov, iv] []) := by
  cases i <;> first
    | rfl
    | cases h
theorem sw_line (g : GX G cf N sc E X) {v : Expr} {x : Str} {p : Pos} {l : Nat} (h : (notComp v || isCe sc x || !(p.line == v.pos.line)) = true) : swapsWith v (some (.Name x p)) l X.env = pure false := by
  rcases Bool.or_eq_true_iff.mp h with h | h
  · rcases Bool.or_eq_true_iff.mp h with h | h
    · exact sw_no h
    · have kx : X.env.kindOf x = some .cell := by
        unfold isCe at h
        split at h
        · exact (g.hsc.cel x (by assumption)).1
        · cases h
      have e : ((some NameKind.cell : Option NameKind) == some .local) = false := rfl
      cases hv : v <;> first
        | rfl
        | (unfold swapsWith
           simp only [kx, e, Bool.and_false, Bool.false_and])
  · have h2 : (p.line == v.pos.line) = false := by simpa using h
    cases hv : v <;> first
      | rfl
      | (rw [hv] at h2
         unfold swapsWith
         simp only [h2, Bool.and_false, Bool.false_and])
theorem sw_none {es : List Expr} {k : Nat} {p : Pos} {v : Expr} {env : Env} (h : swNone v = true) : swappedStores [.Tuple es k p] v env = pure none := by
  cases v <;> try rfl
  rename_i vs k2 p2
  unfold swNone at h
  unfold swappedStores
  simp only [h, if_true]
  repeat' first
    | rfl
    | split
theorem sw_pair {x y : Str} {px py pt : Pos} {kt k2 : Nat} {pt2 : Pos} {e f : Expr} {env : Env} (hk : env.scope.kind = .function) (hx : env.scope.names.lookup x = some .local) (hy : env.scope.names.lookup y = some .local) (ne : x ≠ y) (hl : px.line = py.line)
    (n1 : notSt e = true) (n2 : notSt f = true) (h1 : [e, f].all (foldedForSure 8) = false) (h2 : [e, f].all (constantsAlone 8) = false) :
    swappedStores [.Tuple [.Name x px, .Name y py] kt pt] (.Tuple [e, f] k2 pt2) env = pure (some [x, y]) := by
  have kx : env.kindOf x = some .local := hx
  have ky : env.kindOf y = some .local := hy
  have hb : env.blockKind = .function := by unfold Env.blockKind; rw [hk]; rfl
  have nb : (y == x) = false := by simpa using Ne.symm ne
  have key : ∀ g : Expr → Bool, (∀ e, notSt e = true → g e = false) → [e, f].any g = false := fun g hg => by
    simp only [List.any_cons, List.any_nil, hg e n1, hg f n2, Bool.or_false]
  have key2 : ∀ g : Expr → Option Str, g (.Name x px) = some x → g (.Name y py) = some y → [Expr.Name x px, Expr.Name y py].filterMap g = [x, y] := fun g h1 h2 => by
    simp [List.filterMap_cons, h1, h2]
  have ed : [x, y].eraseDups = [x, y] := by
    simp [List.eraseDups_cons, nb]
  unfold swappedStores
  simp only [hb, h1, h2]
  rw [key _ (fun e he => by
    cases e <;> first
      | rfl
      | cases he)]
  rw [key2 _ (by simp [kx, Expr.pos]) (by simp [ky, Expr.pos, hl])]
  simp only [ed]
  rfl
theorem sw_triple {x y z : Str} {px py pz pt : Pos} {kt k2 : Nat} {pt2 : Pos} {e f i : Expr} {env : Env} (hk : env.scope.kind = .function) (hx : env.scope.names.lookup x = some .local) (hy : env.scope.names.lookup y = some .local) (hz : env.scope.names.lookup z = some .local) (n1 : x ≠ y) (n2 : x ≠ z) (n3 : y ≠ z) (hl : px.line = py.line) (hl2 : px.line = pz.line)
    (s1 : notSt e = true) (s2 : notSt f = true) (s3 : notSt i = true) (h1 : [e, f, i].all (foldedForSure 8) = false) (h2 : [e, f, i].all (constantsAlone 8) = false) :
    swappedStores [.Tuple [.Name x px, .Name y py, .Name z pz] kt pt] (.Tuple [e, f, i] k2 pt2) env = pure (some [x, y, z]) := by
  have kx : env.kindOf x = some .local := hx
  have ky : env.kindOf y = some .local := hy
  have kz : env.kindOf z = some .local := hz
  have hb : env.blockKind = .function := by unfold Env.blockKind; rw [hk]; rfl
  have b1 : (y == x) = false := by simpa using Ne.symm n1
  have b2 : (z == x) = false := by simpa using Ne.symm n2
  have b3 : (z == y) = false := by simpa using Ne.symm n3
  have key : ∀ g : Expr → Bool, (∀ e, notSt e = true → g e = false) → [e, f, i].any g = false := fun g hg => by
    simp only [List.any_cons, List.any_nil, hg e s1, hg f s2, hg i s3, Bool.or_false]
  have key2 : ∀ g : Expr → Option Str, g (.Name x px) = some x → g (.Name y py) = some y → g (.Name z pz) = some z → [Expr.Name x px, Expr.Name y py, Expr.Name z pz].filterMap g = [x, y, z] := fun g h1 h2 h3 => by
    simp [List.filterMap_cons, h1, h2, h3]
  have ed : [x, y, z].eraseDups = [x, y, z] := by
    simp [List.eraseDups_cons, b1, b2, b3]
  unfold swappedStores
  simp only [hb, h1, h2]
  rw [key _ (fun e he => by
    cases e <;> first
      | rfl
      | cases he)]
  rw [key2 _ (by simp [kx, Expr.pos]) (by simp [ky, Expr.pos, hl]) (by simp [kz, Expr.pos, hl2])]
  simp only [ed]
  rfl
theorem pgs_names (g : GX G cf N sc E X) : ∀ {is : List Nat} {es : List Expr}, chkN N sc is es = true → PGs X es (gNms is) ∧ noStar es = true ∧ es.length = is.length
  | [], [], _ => ⟨pgs_nil, rfl, rfl⟩
  | [], _ :: _, h => by simp [chkN] at h
  | _ :: _, [], h => by simp [chkN] at h
  | i :: is, e :: es, h => by
    cases e <;> simp only [chkN, Bool.false_eq_true, Bool.and_eq_true, decide_eq_true_eq] at h
    rename_i x p
    obtain ⟨p1, p2, p3⟩ := pgs_names g h.2
    obtain ⟨lc, hf⟩ := isLoc_of g h.1.2
    exact ⟨pgs_cons (pg_name (by rw [g.hN]; exact g.nd) (by rw [g.hN]; exact h.1.1) lc hf) p1, by simp only [noStar, notSt, p2, Bool.and_self], by simp [p3]⟩
theorem fm_lt {A B : Type} {f : A → Option B} {a : A} : ∀ {l : List A}, a ∈ l → f a = none → (l.filterMap f).length < l.length
  | [], h, _ => nomatch h
  | x :: l, h, e => by
    have le : (l.filterMap f).length ≤ l.length := List.length_filterMap_le f l
    rcases List.mem_cons.mp h with rfl | h
    · rw [List.filterMap_cons_none e]
      simp only [List.length_cons]
      omega
    · have ih := fm_lt h e
      cases q : f x with
      | none => rw [List.filterMap_cons_none q]; simp only [List.length_cons]; omega
      | some b => rw [List.filterMap_cons_some q]; simp only [List.length_cons]; omega
theorem sw_cell (g : GX G cf N sc E X) {es vs : List Expr} {k k2 : Nat} {p p2 : Pos} (h : noSwap sc es = true) : swappedStores [.Tuple es k p] (.Tuple vs k2 p2) X.env = pure none := by
  unfold noSwap at h
  simp only [Bool.or_eq_true, Bool.and_eq_true, Bool.not_eq_true', decide_eq_false_iff_not, List.any_eq_true] at h
  unfold swappedStores
  simp only []
  split
  · rfl
  · rename_i c
    rcases h with h | ⟨e, he, hc⟩
    · exfalso
      apply c
      simp [h.1, h.2]
    · split
      · rfl
      · split
        · rfl
        · rename_i c2
          exfalso
          apply c2
          cases e <;> simp only [Bool.false_eq_true] at hc
          rename_i x px
          have kx : X.env.kindOf x = some .cell := by
            unfold isCe at hc
            split at hc
            · exact (g.hsc.cel x (by assumption)).1
            · cases hc
          have := fm_lt (f := fun t => match t with
            | .Name id pos => if X.env.kindOf id == some .local && pos.line == ((es.head?.map (·.pos.line)).getD 0) then some id else none
            | _ => none) he (by simp only [kx]; rfl)
          simp only [Bool.or_eq_true, bne_iff_ne]
          left
          intro z
          rw [← z] at this
          exact absurd this (Nat.lt_irrefl _)
theorem ss_setLc (x : SX G cf N sc E X) {k hasIf : Bool} {elt it tst : ME} {own : List Nat} {tg : MT} {ik : Itk} {i : Nat} {y : Str} {p cp pos : Pos} {el t it1 : Expr} {ifs : List Expr} {as : Int} {scope : Scope}
    (hi : N[i]? = some y) (hy : isLo sc y = true) (hl : (p.line == cp.line) = true) (ha : (scope.names.any fun (n, k) => n == y && (k == .local || k == .cell)) = false)
    (h : chk G N (.lc k elt own tg ik it hasIf tst) sc (.ex (.ListComp el [⟨t, it1, ifs, as⟩] scope cp)) = true) : PS X (.Assign [.Name y p] (.ListComp el [⟨t, it1, ifs, as⟩] scope cp) pos) (tMS X.K E cf fuel (.setLc i (.lc k elt own tg ik it hasIf tst))) := by
  have g := x.g
  simp only [chk, Bool.and_eq_true, decide_eq_true_eq] at h
  obtain ⟨⟨⟨⟨⟨⟨rfl, hb⟩, ht⟩, hs⟩, he⟩, hif⟩, hit⟩ := h
  split at hit
  · rename_i es q
    have pi := sd_it g q (sd it _ sc E X g (.ar _) hit)
    have ok := blkOk_by hb
    have pts := pts_of (X := X) (cf := cf) (hasIf := hasIf) hif fun c hc s H C cl fp => sd tst _ _ _ _ (g.inner s H C cl fp) (.te c) hc
    refine PS.imp (ps_setLc (g := tG X.K tg) (te := tE X.K EN cf elt) g.calm (by rw [g.hN]; exact g.nd) (by rw [g.hN]; exact hi) (isLo_of g hy) (sw_true x.kind (isLo_of g hy) hl ha) pi (blk_of g ok) (fun s H C cl fp => tg_in (g.inner s H C cl fp) ht) pts
      (fun s H C cl fp => sd elt _ _ _ _ (g.inner s H C cl fp) (.ex _) he) (set_of (spI_set q))) fun D sg H h => ?_
    rw [ownP_ix]
    have z := rd_setLc D sg H h
    exact rd_lc rfl hs sg H _ z
  · cases hit
theorem ss_setLc2 (x : SX G cf N sc E X) {k : Bool} {elt it it1 : ME} {own own1 : List Nat} {tg tg1 : MT} {ik ik1 : Itk} {i : Nat} {y : Str} {p cp pos : Pos} {el t t1 i1 i2 : Expr} {as as1 : Int} {scope : Scope}
    (hi : N[i]? = some y) (hy : isLo sc y = true) (hl : (p.line == cp.line) = true) (ha : (scope.names.any fun (n, k) => n == y && (k == .local || k == .cell)) = false)
    (h : chk G N (.lc2 k elt own tg ik it own1 tg1 ik1 it1) sc (.ex (.ListComp el [⟨t, i1, [], as⟩, ⟨t1, i2, [], as1⟩] scope cp)) = true) : PS X (.Assign [.Name y p] (.ListComp el [⟨t, i1, [], as⟩, ⟨t1, i2, [], as1⟩] scope cp) pos) (tMS X.K E cf fuel (.setLc i (.lc2 k elt own tg ik it own1 tg1 ik1 it1))) := by
  have g := x.g
  simp only [chk, Bool.and_eq_true, decide_eq_true_eq] at h
  obtain ⟨⟨⟨⟨⟨⟨⟨⟨⟨⟨rfl, rfl⟩, hb⟩, ht⟩, hs⟩, ht1⟩, hs1⟩, ho⟩, he⟩, hi0⟩, hi1⟩ := h
  split at hi0
  · rename_i es q
    split at hi1
    · rename_i es1 q1
      have pi := sd_it g q (sd it _ sc E X g (.ar _) hi0)
      have ok := blkOk_by hb
      refine PS.imp (ps_setLc2 (vs1 := own1) (g := tG X.K tg) (g1 := tG X.K tg1) (te := tE X.K EN cf elt) (wi1 := tI X.K EN cf ik1 it1) g.calm (by rw [g.hN]; exact g.nd) (by rw [g.hN]; exact hi) (isLo_of g hy) (sw_true x.kind (isLo_of g hy) hl ha) pi (blk_of g ok) (fun j hj => by
          rw [ownP_ix]
          have z := List.all_eq_true.mp ho j hj
          simpa using z) (fun s H C cl fp => tg_in (g.inner s H C cl fp) ht) (fun s H C cl fp => pts_nil) (fun s H C cl fp => sd_it (g.inner s H C cl fp) q1 (sd it1 _ _ _ _ (g.inner s H C cl fp) (.ar _) hi1)) (fun s H C cl fp => tg_in (g.inner s H C cl fp) ht1) (fun s H C cl fp => pts_nil)
          (fun s H C cl fp => sd elt _ _ _ _ (g.inner s H C cl fp) (.ex _) he) (set_of (spI_set q)) (fun env => set_of (spI_set q1))) fun D sg H h => ?_
      rw [ownP_ix]
      have z := rd_setLc D sg H h
      exact rd_lc2 hs hs1 sg H _ z
    · cases hi1
  · cases hi0
theorem ss_twin (x : SX G cf N sc E X) {f : Nat} {st1 st2 st3 : Stmt} (h : chkTw G N sc f st1 st2 st3 = true) : PSs X [st1, st2, st3] (tMS X.K E cf fuel (.twin f)) := by
  have g := x.g
  unfold chkTw at h
  split at h
  · simp only [Bool.and_eq_true, decide_eq_true_eq] at h
    obtain ⟨⟨⟨⟨⟨⟨⟨⟨⟨⟨h1, h2⟩, h3⟩, h4⟩, h5⟩, rfl⟩, rfl⟩, h8⟩, h9⟩, h10⟩, h11⟩ := h
    obtain ⟨l1, l2⟩ := isLoc_of g h2
    have sa := sd twinA _ sc E X g (.ar _) h10
    exact PSs.imp (pss_cons (ps_set (X := X) (by rw [g.hN]; exact g.nd) (by rw [g.hN]; exact h1) l1 (sd (twinE f) _ sc E X g (.ex _) h4) (sw_no h3) l2)
      (pss_cons (ps_asg (pe_tup (SA.pa sa).1) (pg_tup g.calm (pgs_cons (pg_fld (X := X) (f := ("now" : Str)) (sd (.var 1) _ sc E X g (.ex _) h8)) (pgs_cons (pg_fld (X := X) (f := ("past" : Str)) (sd (.var 1) _ sc E X g (.ex _) h9)) pgs_nil)) rfl rfl) rfl sw_fld)
        (pss_one (ps_ret (X := X) (sd (.var 1) _ sc E X g (.ex _) h11))))) (rd_twin (g.tbl h5))
  · cases h
theorem ss_errs {p1 p2 p3 p4 p5 p6 : Pos} {cn : Nat} (x : SX G cf N sc E X) (h2 : isGl sc "_law_errors_right" = true) (h3 : ersM G = true) :
    PS X (.If (.UnaryOp .Not (.Call (.Name "_law_errors_right" p1) [] [] p2) p3) [.Return (some (.Constant (.bool false) cn p4)) p5] [] p6) (tMS X.K E cf fuel .errs) := by
  obtain ⟨so, rm⟩ := x.ers h3
  obtain ⟨gA, fd, mk, kp, hb, F⟩ := errs_fn (P := X.prog) (w := X.w) (base := X.base) (CX := C8.CX0) so
  refine PS.imp (ps_if (pt_not (pt_val (pe_call0 F rm (x.g.gl h2) mk kp hb .nil (C8.pass0 (E := fun _ _ _ => False)) (by decide +kernel)))) pss_never pss_nil) fun D sg H hh => ?_
  obtain ⟨rho, gh, env, m, S, w⟩ := hh
  unfold tIfS tNot tB tCall tNil
  dsimp only
  refine ⟨rfl, rel0 S.rel, fun H1 x1 => ⟨true, rfl, ?_⟩⟩
  rw [if_neg (by decide : ¬ ((!true) = true))]
  have xe : Ext rho H rho H1 := ⟨List.prefix_refl _, fun _ h => .inl h, fun a o h _ => x1.ext a o h⟩
  have R1 := Rel.extN S.rel (fun b o e n => (x1.ext b o ⟨e, n⟩).1) x1.rel.tabs
  exact w rho H1 sg xe (S.ext xe R1)
theorem ss (x : SX G cf N sc E X) : ∀ ms : MS, (∀ st, chk1 G N sc ms st = true → PS X st (tMS X.K E cf fuel ms)) ∧ (∀ sts, chkS G N sc ms sts = true → PSs X sts (tMS X.K E cf fuel ms)) := by
  have g := x.g
  intro ms
  induction ms with
  | nil =>
    refine ⟨fun st h => by cases st <;> simp [chk1] at h, fun sts h => ?_⟩
    cases sts with
    | nil => exact PSs.imp pss_nil rd_nil
    | cons _ _ => simp [chkS] at h
  | seq a b iha ihb =>
    refine ⟨fun st h => by cases st <;> simp [chk1] at h, fun sts h => ?_⟩
    cases sts with
    | nil => simp [chkS] at h
    | cons st rest =>
      simp only [chkS, Bool.and_eq_true] at h
      exact PSs.imp (pss_cons (iha.1 st h.1) (ihb.2 rest h.2)) rd_seq
  | pass =>
    refine ⟨fun st h => ?_, fun sts h => by cases sts <;> simp [chkS] at h⟩
    cases st <;> simp only [chk1, Bool.false_eq_true] at h
    · rename_i e pos
      unfold docOf at h
      split at h
      · exact PS.imp ps_doc rd_pass
      · cases h
    · exact PS.imp ps_pass rd_pass
  | brk =>
    refine ⟨fun st h => ?_, fun sts h => by cases sts <;> simp [chkS] at h⟩
    cases st <;> simp only [chk1, Bool.false_eq_true] at h
    exact PS.imp ps_break rd_brk
  | cnt =>
    refine ⟨fun st h => ?_, fun sts h => by cases sts <;> simp [chkS] at h⟩
    cases st <;> simp only [chk1, Bool.false_eq_true] at h
    exact PS.imp ps_continue rd_cnt
  | retN =>
    refine ⟨fun st h => ?_, fun sts h => by cases sts <;> simp [chkS] at h⟩
    unfold chk1 at h
    split at h <;> try contradiction
    exact PS.imp ps_retN rd_retN
  | ex e =>
    refine ⟨fun st h => ?_, fun sts h => by cases sts <;> simp [chkS] at h⟩
    cases st <;> simp only [chk1, Bool.false_eq_true, Bool.and_eq_true] at h
    exact PS.imp (ps_expr (sd e _ sc E X g (.ex _) h.2) (sw_no h.1)) rd_ex
  | setv i e =>
    refine ⟨fun st h => ?_, fun sts h => by cases sts <;> simp [chkS] at h⟩
    unfold chk1 at h
    split at h <;> try contradiction
    rename (MS.setv _ _ = _) => h1
    cases h1
    simp only [Bool.and_eq_true, decide_eq_true_eq] at h
    obtain ⟨⟨⟨h1, h2⟩, h3⟩, h4⟩ := h
    obtain ⟨l1, l2⟩ := isLoc_of g h3
    exact PS.imp (ps_set (by rw [g.hN]; exact g.nd) (by rw [g.hN]; exact h2) l1 (sd e _ sc E X g (.ex _) h4) (sw_line g h1) l2) rd_setv
  | setLc i e =>
    refine ⟨fun st h => ?_, fun sts h => by cases sts <;> simp [chkS] at h⟩
    unfold chk1 at h
    split at h <;> try contradiction
    rename (MS.setLc _ _ = _) => h1
    cases h1
    simp only [Bool.and_eq_true, decide_eq_true_eq] at h
    obtain ⟨⟨h1, h2⟩, h3⟩ := h
    split at h3
    · simp only [Bool.and_eq_true, Bool.not_eq_true'] at h3
      exact ss_setLc x h1 h2 h3.1.1 h3.1.2 h3.2
    · simp only [Bool.and_eq_true, Bool.not_eq_true', List.isEmpty_iff] at h3
      obtain ⟨⟨⟨⟨q1, q2⟩, rfl⟩, rfl⟩, q3⟩ := h3
      exact ss_setLc2 x h1 h2 q1 q2 q3
    · cases h3
  | asgT t e =>
    refine ⟨fun st h => ?_, fun sts h => by cases sts <;> simp [chkS] at h⟩
    unfold chk1 at h
    split at h <;> try contradiction
    rename (MS.asgT _ _ = _) => h1
    cases h1
    simp only [Bool.and_eq_true] at h
    obtain ⟨⟨⟨h1, h2⟩, h3⟩, h4⟩ := h
    exact PS.imp (ps_asg (sd e _ sc E X g (.ex _) h4) (tg_in g h1) (sw_sole h2) (sw_none h3)) rd_asgT
  | par i j a =>
    refine ⟨fun st h => ?_, fun sts h => by cases sts <;> simp [chkS] at h⟩
    unfold chk1 at h
    split at h <;> try contradiction
    rename (MS.par _ _ _ = _) => h1
    cases h1
    simp only [Bool.and_eq_true, decide_eq_true_eq, Bool.not_eq_true'] at h
    obtain ⟨⟨⟨⟨⟨⟨⟨⟨⟨⟨hi, hj⟩, hij⟩, hx⟩, hy⟩, hl⟩, n1⟩, n2⟩, f1⟩, f2⟩, ha⟩ := h
    have sa := sd a _ sc E X g (.ar _) ha
    have ne : ∀ x y : Str, N[i]? = some x → N[j]? = some y → x ≠ y := fun x y e1 e2 e => hij (by
      subst e
      obtain ⟨z1, e1⟩ := List.getElem?_eq_some_iff.mp e1
      obtain ⟨z2, e2⟩ := List.getElem?_eq_some_iff.mp e2
      exact (List.getElem_inj g.nd).mp (e1.trans e2.symm))
    exact PS.imp (ps_par g.calm (by rw [g.hN]; exact g.nd) (by rw [g.hN]; exact hi) (by rw [g.hN]; exact hj) hij (isLo_of g hx) (isLo_of g hy) (SA.pa sa).1 (sw_pair x.kind (isLo_of g hx) (isLo_of g hy) (ne _ _ hi hj) hl n1 n2 f1 f2)) rd_par
  | par3 i j l a =>
    refine ⟨fun st h => ?_, fun sts h => by cases sts <;> simp [chkS] at h⟩
    unfold chk1 at h
    split at h <;> try contradiction
    rename (MS.par3 _ _ _ _ = _) => h1
    cases h1
    simp only [Bool.and_eq_true, decide_eq_true_eq, Bool.not_eq_true'] at h
    obtain ⟨⟨⟨⟨⟨⟨⟨⟨⟨⟨⟨⟨⟨⟨⟨⟨hi, hj⟩, hl⟩, hij⟩, hil⟩, hjl⟩, hx⟩, hy⟩, hz⟩, l1⟩, l2⟩, n1⟩, n2⟩, n3⟩, f1⟩, f2⟩, ha⟩ := h
    have sa := sd a _ sc E X g (.ar _) ha
    have ne : ∀ (i j : Nat) (x y : Str), i ≠ j → N[i]? = some x → N[j]? = some y → x ≠ y := fun i j x y hij e1 e2 e => hij (by
      subst e
      obtain ⟨z1, e1⟩ := List.getElem?_eq_some_iff.mp e1
      obtain ⟨z2, e2⟩ := List.getElem?_eq_some_iff.mp e2
      exact (List.getElem_inj g.nd).mp (e1.trans e2.symm))
    exact PS.imp (ps_par3 g.calm (by rw [g.hN]; exact g.nd) (by rw [g.hN]; exact hi) (by rw [g.hN]; exact hj) (by rw [g.hN]; exact hl) hij hil hjl (isLo_of g hx) (isLo_of g hy) (isLo_of g hz) (SA.pa sa).1
      (sw_triple x.kind (isLo_of g hx) (isLo_of g hy) (isLo_of g hz) (ne _ _ _ _ hij hi hj) (ne _ _ _ _ hil hi hl) (ne _ _ _ _ hjl hj hl) l1 l2 n1 n2 n3 f1 f2)) rd_par3
  | parN is a =>
    refine ⟨fun st h => ?_, fun sts h => by cases sts <;> simp [chkS] at h⟩
    unfold chk1 at h
    split at h <;> try contradiction
    rename (MS.parN _ _ = _) => h1
    cases h1
    simp only [Bool.and_eq_true] at h
    obtain ⟨⟨h1, h2⟩, h3⟩ := h
    obtain ⟨q1, q2, q3⟩ := pgs_names g h1
    have sa := sd a _ sc E X g (.ar _) h3
    have st := assign_st (env := X.env) q2
    exact PS.imp (ps_asg (pe_tup (SA.pa sa).1) (pg_tup g.calm q1 (by rw [st.1, q3]) st.2.1) rfl (sw_cell g h2)) rd_parN
  | setI o i e =>
    refine ⟨fun st h => ?_, fun sts h => by cases sts <;> simp [chkS] at h⟩
    unfold chk1 at h
    split at h <;> try contradiction
    rename (MS.setI _ _ _ = _) => h1
    cases h1
    simp only [Bool.and_eq_true] at h
    obtain ⟨⟨⟨⟨h0, h1⟩, h2⟩, h3⟩, h4⟩ := h
    exact PS.imp (ps_asg (sd e _ sc E X g (.ex _) h4) (pg_sub (sd o _ sc E X g (.ex _) h2) (sd i _ sc E X g (.ex _) h3) set_list (sub_as h0)) (sw_sole h1)) rd_setI
  | iff c a b iha ihb =>
    refine ⟨fun st h => ?_, fun sts h => by cases sts <;> simp [chkS] at h⟩
    cases st <;> simp only [chk1, Bool.false_eq_true, Bool.and_eq_true] at h
    exact PS.imp (ps_if (sd c _ sc E X g (.te _) h.1.1) (iha.2 _ h.1.2) (ihb.2 _ h.2)) rd_iff
  | forr t ik it b ihb =>
    refine ⟨fun st h => ?_, fun sts h => by cases sts <;> simp [chkS] at h⟩
    unfold chk1 at h
    split at h <;> try contradiction
    rename (MS.forr _ _ _ _ = _) => h1
    cases h1
    simp only [Bool.and_eq_true] at h
    obtain ⟨⟨h1, h2⟩, h3⟩ := h
    split at h2
    · rename_i es q
      exact PS.imp (ps_for x.own g.calm (sd_it g q (sd it _ sc E X g (.ar _) h2)) (tg_in g h1) (ihb.2 _ h3) (set_of (spI_set q))) rd_for
    · cases h2
  | whil c b ihb =>
    refine ⟨fun st h => ?_, fun sts h => by cases sts <;> simp [chkS] at h⟩
    unfold chk1 at h
    split at h <;> try contradiction
    rename (MS.whil _ _ = _) => h1
    cases h1
    simp only [Bool.and_eq_true] at h
    exact PS.imp (ps_while x.own (sd c _ sc E X g (.te _) h.1) (ihb.2 _ h.2)) rd_whil
  | ret e =>
    refine ⟨fun st h => ?_, fun sts h => by cases sts <;> simp [chkS] at h⟩
    unfold chk1 at h
    split at h <;> try contradiction
    rename (MS.ret _ = _) => h1
    cases h1
    exact PS.imp (ps_ret (sd e _ sc E X g (.ex _) h)) rd_ret
  | rais c =>
    refine ⟨fun st h => ?_, fun sts h => by cases sts <;> simp [chkS] at h⟩
    unfold chk1 at h
    split at h <;> try contradiction
    rename (MS.rais _ = _) => h1
    cases h1
    unfold chkR at h
    split at h
    · exact PS.imp ps_never fun D sg H ⟨rho, gh, env, m, S, w⟩ => w
    · simp only [Bool.and_eq_true, decide_eq_true_eq] at h
      obtain ⟨⟨⟨rfl, h2⟩, h3⟩, h4⟩ := h
      have F := x.exc _ h3
      refine PS.imp (ps_raise g.calm x.tk (pmk_own PySem.F.excBase_ValueError F.exc F.mg F.keep (raises_own F.sub F.ty) (g.gl h2) (by simpa using h4))) fun D sg H hh => ?_
      obtain ⟨rho, gh, env, m, S, w⟩ := hh
      exact w rho H _ none Ext.refl S.rel ⟨rfl, .inl ⟨rfl, rfl⟩⟩
    · cases h
  | raisF a =>
    refine ⟨fun st h => ?_, fun sts h => by cases sts <;> simp [chkS] at h⟩
    unfold chk1 at h
    split at h <;> try contradiction
    rename (MS.raisF _ = _) => h1
    cases h1
    simp only [Bool.and_eq_true, decide_eq_true_eq] at h
    obtain ⟨⟨⟨rfl, h2⟩, h3⟩, h4⟩ := h
    obtain ⟨F, rm⟩ := x.few h3
    have sa := sd a _ sc E X g (.ar _) h4
    obtain ⟨pa, ns⟩ := SA.pa sa
    have ns := Bool.and_eq_true_iff.mp ns
    obtain ⟨fd, hb, F1⟩ := init_ok (P := X.prog) (w := X.w) (base := X.base) (CX := L2.CX X.prog X.w) F
    refine PS.imp (ps_raise g.calm x.tk (pmk_oex F.oex F.init F.fty F1 rm hb .nil (passes_call x.tk fun _ _ _ _ h => h.elim) (g.gl h2) F.mgT pa (by decide +kernel) (star_of ns.1) (star_none ns.2))) fun D sg H hh => ?_
    exact rd_few hh
  | setN o e =>
    refine ⟨fun st h => ?_, fun sts h => by cases sts <;> simp [chkS] at h⟩
    unfold chk1 at h
    split at h <;> try contradiction
    rename (MS.setN _ _ = _) => h1
    cases h1
    simp only [Bool.and_eq_true, decide_eq_true_eq] at h
    obtain ⟨⟨⟨⟨rfl, h2⟩, h3⟩, h4⟩, h5⟩ := h
    exact PS.imp (ps_fld (sd o _ sc E X g (.ex _) h4) (sd e _ sc E X g (.ex _) h5) (sw_no h3)) (rd_setN (g.tbl h2))
  | twin f =>
    refine ⟨fun st h => by cases st <;> simp [chk1] at h, fun sts h => ?_⟩
    unfold chkS at h
    split at h <;> try contradiction
    rename (MS.twin _ = _) => h1
    cases h1
    exact ss_twin x h
  | wall =>
    refine ⟨fun st h => by cases st <;> simp [chk1] at h, fun sts _ => ⟨fun pins s sg H D I q => ?_⟩⟩
    obtain ⟨rho, gh, env, m, S, w⟩ := q
    simp only [exS] at w
    exact w.elim
  | errs =>
    refine ⟨fun st h => ?_, fun sts h => by cases sts <;> simp [chkS] at h⟩
    unfold chk1 at h
    split at h <;> try contradiction
    simp only [Bool.and_eq_true, decide_eq_true_eq] at h
    obtain ⟨⟨rfl, h2⟩, h3⟩ := h
    exact ss_errs x h2 h3
end
end M
namespace M
open PySem PySem.Spec PyProof.Rows L2
def initTB (p : Nat → Pos) : List Stmt :=
  [.Expr (.Call (.Name "need_board" (p 0)) [.Name "board" (p 1)] [] (p 2)) (p 3),
   .Assign [.Attribute (.Name "self" (p 4)) "now" (p 5)] (.Tuple [.Name "board" (p 6), .Constant .none 0 (p 7)] 0 (p 8)) (p 9),
   .Assign [.Attribute (.Name "self" (p 10)) "past" (p 11)] (.List [] (p 12)) (p 13)]
structure MakeT (K : PySem.W.Frag) (mg : Str → Option Value) : Prop where
  tab : TabK K mg
  mkT : Mk K (tabC K) (He.ma K (tabC K) "__init__")
  def_ : ∃ (fd : FuncData) (pg : Arguments) (sc : Scope) (p : Nat → Pos), FunD K "__init__" "Table.__init__" pg (initTB p) sc [] [] (He.ma K (tabC K) "__init__") fd ∧ Binds K fd initT [] ∧ KBk true fd initT ["board"] [0] ∧ FnScope initT initT sc ∧
    glob sc "need_board" ∧ loc1 sc "self" ∧ loc1 sc "board"
section
variable {P : Program} {w : World} {K : PySem.W.Frag} {mg : Str → Option Value} {base : Heap} {cf : CF}
theorem initT_ok {k nb : Nat} {a2 : Addr} {fd2 : FuncData} {ps2 : List Str} (F : MakeT K mg) (m2 : mg "need_board" = some (.ref a2)) (kin : PySem.W.keepIn K (.ref a2) = true) (b2 : Binds K fd2 ps2 []) (F2 : FnG P w K mg base (L2.CX P w) k a2 fd2 ps2 (spM K cf false nb)) :
    ∃ fd, Binds K fd initT [] ∧ KBk true fd initT ["board"] [0] ∧ FnG P w K mg base (L2.CX P w) (k + 1) (He.ma K (tabC K) "__init__") fd initT (spT K cf nb) := by
  obtain ⟨fd, pg, sc, p, F1, hb, hk, S, gp, l0, l1⟩ := F.def_
  refine ⟨fd, hb, hk, fng_of F1 S (fun vs H Q E ⟨x, dx, v, rho, gh, m, d, H0, e, _⟩ => by rw [e]; rfl) fun cdv A outer s H vs Q E hcd hr hgd h => ?_⟩
  obtain ⟨x, dx, v, rho, gh, m, d, H0, rfl, eH, nx, nd, ne, R, rd, w0⟩ := h
  generalize hX : cxOf (L2.CX P w) P w K mg base initT "Table.__init__" sc (He.ma K (tabC K) "__init__") cdv A outer s H E = X
  have eP : X.prog = P := by subst hX; rfl
  have eW : X.w = w := by subst hX; rfl
  have eK : X.K = K := by subst hX; rfl
  have eM : X.mg = mg := by subst hX; rfl
  have eN : X.N = initT := by subst hX; rfl
  have eS : X.env.scope = sc := by subst hX; rfl
  have tk : Takes X (fun cls d _ H => E cls d H) := by subst hX; exact takes_of rfl rfl rfl rfl
  have pass : Passes (L2.CX P w) X E := by subst hX; exact passes_call (takes_of rfl rfl rfl rfl) fun _ _ _ _ h => h
  have F3 : FnG X.prog X.w X.K X.mg X.base (L2.CX P w) k a2 fd2 ps2 (spM X.K cf false nb) := by subst hX; exact F2
  have rm : Room k X.A := by subst hX; exact hr
  have gd : X.A.guards = some [] := by subst hX; exact hgd
  have v0 := fun q : Pos => pe_var (X := X) (i := 0) (x := ("self" : Str)) (pos := q) (by rw [eN]; rfl) (.inl (by rw [eS]; exact l0))
  have v1 := fun q : Pos => pe_var (X := X) (i := 1) (x := ("board" : Str)) (pos := q) (by rw [eN]; rfl) (.inl (by rw [eS]; exact l1))
  have gl : Gl X "need_board" := by show X.env.scope.names.lookup _ = _; rw [eS]; exact gp
  have c1 := pe_callG (X := X) (p := p 0) (pos := p 2) F3 rm gd gl (by rw [eM]; exact m2) (by rw [eK]; exact kin) (by rw [eK]; exact b2) pass (pa_cons (v1 (p 1)) pa_nil) (by decide +kernel) rfl rfl
  have s1 := ps_expr (pos := p 3) c1
  have s2 := ps_fld (pos' := p 5) (pos := p 9) (f := ("now" : Str)) (v0 (p 4)) (pe_tup (x1 := 0) (pos := p 8) (pa_cons (v1 (p 6)) (pa_cons (pe_non (pos := p 7) (j := 0)) pa_nil))) rfl
  have s3 := ps_fld (pos' := p 11) (pos := p 13) (f := ("past" : Str)) (v0 (p 10)) (pe_lst (pos := p 12) pa_nil) rfl
  refine ⟨_, pss_cons s1 (pss_cons s2 (pss_one s3)), ?_⟩
  subst eH
  have cl : Cls X.K (tabC X.K) := by rw [eK]; exact F.tab.cls
  have nn1 : NoAttr X.K (tabC X.K) "now" := by rw [eK]; exact F.tab.n1
  have nn2 : NoAttr X.K (tabC X.K) "past" := by rw [eK]; exact F.tab.n2
  have nx1 : L2.upd H0 dx (.own x) x = none := by rw [upd_ne (Ne.symm ne)]; exact nx
  have x0 : Ext rho H0 rho (L2.upd (L2.upd H0 dx (.own x)) x (.ins (tabC K) dx [])) := (Ext.upd nd).trans (Ext.upd nx1)
  have R' : Rel K rho gh m (L2.upd (L2.upd H0 dx (.own x)) x (.ins (tabC K) dx [])) := (R.upd nd).upd nx1
  have kp0 : ∀ a o, H0 a = some o → L2.upd (L2.upd H0 dx (.own x)) x (.ins (tabC K) dx []) a = some o := fun a o e => by
    rw [upd_ne (fun z => by rw [z, nx] at e; cases e), upd_ne (fun z => by rw [z, nd] at e; cases e)]
    exact e
  have hxs : L2.upd (L2.upd H0 dx (.own x)) x (.ins (tabC K) dx []) x = some (.ins (tabC K) dx []) := upd_same
  generalize L2.upd (L2.upd H0 dx (.own x)) x (.ins (tabC K) dx []) = Hs at *
  refine ⟨v, rfl, ?_⟩
  rw [eK]
  refine ⟨rho, gh, m, [.p d], R', RDs.one (x0.rd rd), ?_⟩
  have xr : x ∉ rho := fun z => R.isS z nx
  cases hcf : cf false nb [.p d] m with
  | bad => rw [hcf] at w0; exact w0
  | exc c fs m1 =>
    rw [hcf] at w0
    exact fun rho1 H1 u dx1 y R1 ex => w0 rho1 H1 u dx1 (x0.trans y) R1 ex
  | ok d2 m2 =>
    rw [hcf] at w0
    intro rho1 H1 vs y R1 rds
    obtain ⟨v2, rfl, _⟩ := RDs.one_of rds
    refine ⟨v2, rfl, ?_⟩
    have hx1 : H1 x = some (.ins (tabC K) dx []) := (y.fr x _ ⟨hxs, fun _ z => nomatch z⟩ xr).1
    refine ⟨v, rfl, by simp; exact line_sz (by omega), fun tp ntp => ?_⟩
    have tx : tp ≠ x := fun z => by rw [z, hx1] at ntp; cases ntp
    refine ⟨.ref x, rfl, x, tabC K, dx, [], rfl, by rw [upd_ne (Ne.symm tx)]; exact hx1, F.tab.cls, F.tab.n1, by simp, ?_⟩
    refine ⟨Nat.zero_le _, fun l nl => ?_⟩
    have lx : l ≠ x := fun z => by rw [z, upd_same] at nl; cases nl
    have nl1 := nl
    rw [upd_ne lx] at nl1
    have lt : l ≠ tp := fun z => by rw [z, upd_same] at nl1; cases nl1
    rw [upd_ne lt] at nl1
    refine ⟨.ref x, rfl, x, tabC K, dx, [("now", .ref tp)], rfl, by rw [upd_ne (Ne.symm lx), upd_same]; rfl, F.tab.cls, F.tab.n2, by simp, ?_⟩
    have ef : putF "past" (.ref l) [(("now" : Str), V.ref tp)] = tabF (.ref tp) l := by
      show (if ("now" : Str) = "past" then [(("now" : Str), V.ref l)] else (("now" : Str), V.ref tp) :: [(("past" : Str), V.ref l)]) = _
      rw [if_neg (by decide)]
      rfl
    rw [ef]
    have e1 : putF "now" (.ref tp) [] = [(("now" : Str), V.ref tp)] := rfl
    rw [e1]
    generalize hF : L2.upd (L2.upd (L2.upd (L2.upd H1 tp (.tup [v, .non])) x (.ins (tabC K) dx [("now", .ref tp)])) l (.lst [])) x (.ins (tabC K) dx (tabF (.ref tp) l)) = Hf
    have gx : Hf x = some (.ins (tabC K) dx (tabF (.ref tp) l)) := by rw [← hF, upd_same]
    have gll : Hf l = some (.lst []) := by rw [← hF, upd_ne lx, upd_same]
    have gt : Hf tp = some (.tup [v, .non]) := by rw [← hF, upd_ne tx, upd_ne (Ne.symm lt), upd_ne tx, upd_same]
    have gk : ∀ a o, H1 a = some o → a ≠ x → Hf a = some o := fun a o e nx => by
      rw [← hF, upd_ne nx, upd_ne (fun z => by rw [z, nl1] at e; cases e), upd_ne nx, upd_ne (fun z => by rw [z, ntp] at e; cases e)]
      exact e
    have keep : ∀ a o, Nt H1 a o → a ≠ x → Nt Hf a o := fun a o q nx => ⟨gk a o q.1 nx, q.2⟩
    have tb : LamX.Tabs (tabsOf K) Hf := by
      have t1 := R1.tabs.upd (o := .tup [v, .non]) ntp
      have t2 := tabs_set (p := x) (o := .ins (tabC K) dx [("now", .ref tp)]) t1 (u := .ins (tabC K) dx []) (by rw [upd_ne (Ne.symm tx)]; exact hx1) (fun _ z => nomatch z) fun c q => ins_code c q
      have t3 := t2.upd (o := .lst []) nl
      have t4 := tabs_set (p := x) (o := .ins (tabC K) dx (tabF (.ref tp) l)) t3 (u := .ins (tabC K) dx [("now", .ref tp)]) (by rw [upd_ne (Ne.symm lx), upd_same]) (fun _ z => nomatch z) fun c q => ins_code c q
      rw [← hF]
      exact t4
    have nxg : x ∉ rho1 ++ gh := fun z => by
      rcases List.mem_append.mp z with z | z
      · rcases y.new x z with z | z
        · exact xr z
        · obtain ⟨ps, e⟩ := z _ hxs; cases e
      · obtain ⟨xs, e⟩ := (R.gho x z).1
        rw [nx] at e
        cases e
    -- what lay before lies there still
    have old : ∀ a o, Nt H0 a o → a ∉ rho → Nt H1 a o ∧ a ≠ x ∧ a ≠ l := fun a o q nr => by
      have q1 : Nt Hs a o := ⟨kp0 a o q.1, q.2⟩
      have q2 := y.fr a o q1 nr
      exact ⟨q2, ⟨fun z => (by have := q.1; rw [z, nx] at this; cases this), fun z => (by have := q2.1; rw [z, nl1] at this; cases this)⟩⟩
    have out : ∀ a o, Nt H0 a o → a ∉ rho → a ∉ rho1 := fun a o q nr z => by
      rcases y.new a z with z | z
      · exact nr z
      · obtain ⟨ps, e⟩ := z _ (kp0 a o q.1)
        exact q.2 ps e
    have tout : tp ∉ rho1 ++ [l, x] ++ gh := fun z => by
      simp only [List.mem_append, List.mem_cons, List.not_mem_nil, or_false] at z
      rcases z with (z | z | z) | z
      · exact R1.isS z ntp
      · exact lt z.symm
      · exact tx z
      · obtain ⟨xs, e⟩ := (R1.gho tp z).1
        rw [ntp] at e
        cases e
    have rdd : RP K (rho ++ gh) H0 d v := rd
    have hv : RP K (rho1 ++ [l, x] ++ gh) Hf (.tuple [d, .none]) (.ref tp) := by
      simp only [RP, RPs]
      refine ⟨tp, [v, .non], rfl, ⟨⟨gt, fun _ z => nomatch z⟩, tout⟩, v, [.non], rfl, RP.mono2 (fun a o _ q => ?_) d v rdd, .non, [], rfl, rfl, rfl⟩
      have nr : a ∉ rho := fun z => q.2 (List.mem_append_left _ z)
      obtain ⟨o1, o2, o3⟩ := old a o q.1 nr
      refine ⟨keep a o o1 o2, fun z => ?_⟩
      simp only [List.mem_append, List.mem_cons, List.not_mem_nil, or_false] at z
      rcases z with (z | z | z) | z
      · exact out a o q.1 nr z
      · exact o3 z
      · exact o2 z
      · exact q.2 (List.mem_append_right _ z)
    have RF := R1.pushT (now := .tuple [d, .none]) nl1 ⟨_, _, _, hx1⟩ nxg lx keep tb gll gx hv
    have XF : Ext rho H0 (rho1 ++ [l, x]) Hf := by
      refine ⟨y.pre.trans ⟨[l, x], rfl⟩, fun a ha => ?_, fun a o q nr => ?_⟩
      · have fr0 : ∀ a, (∀ o, Nt H0 a o → a ∉ rho → False) → a ∈ rho ∨ Fr0 H0 a := fun a h => by
          by_cases hr : a ∈ rho
          · exact .inl hr
          · refine .inr fun o e => ?_
            refine Classical.byContradiction fun c => h o ⟨e, fun ps z => c ⟨ps, z⟩⟩ hr
        rcases List.mem_append.mp ha with ha | ha
        · exact fr0 a fun o q nr => out a o q nr ha
        · simp only [List.mem_cons, List.not_mem_nil, or_false] at ha
          rcases ha with rfl | rfl
          · exact fr0 a fun o q nr => (old a o q nr).2.2 rfl
          · exact .inr (fr0_none nx)
      · obtain ⟨o1, o2, o3⟩ := old a o q nr
        exact keep a o o1 o2
    refine w0 (rho1 ++ [l, x]) Hf [.ref x] XF RF (RDs.one (d := .ref (m2.length + 1)) ⟨x, rfl, ?_⟩) rfl
    rw [← R1.len]
    simp
end
end M
namespace M
open PySem PySem.Spec PyProof.Rows L2
structure MFn where
  name : Str
  N : List Str
  ps : List Str
  body : MS
  /-- a method of the class of tables -/
  mth : Bool := false
def quaN (fn : MFn) : Str := if fn.mth then "Table." ++ fn.name else fn.name
def startE (N : List Str) (ds : List D) : Ev := ds.map some ++ List.replicate (N.length - ds.length) none
def backT (keep : Bool) (l n : Nat) (now : P) (m : MH) : R D := match keep, n with
  | true, q + 1 => if l ≤ q then (match m[q]? with
    | some (.lst ds) => .ok (.ref (l + 1)) (m.take l ++ [.lst ds, .tab now])
    | _ => .bad) else .bad
  | _, _ => .bad
def back (keep : Bool) (l : Nat) (d : D) (m : MH) : R D := match d with
  | .p x => .ok (.p x) (m.take l)
  | .ro ds => .ok (.ro ds) (m.take l)
  | .kt ds => .ok (.kt ds) (m.take l)
  | .st _ => .bad
  | .ref n => if n < l then .ok (.ref n) (m.take l) else (match m[n]? with
    | some (.lst ds) => (match keep with
      | false => .ok (.p (.list ds)) (m.take l)
      | true => .ok (.ref l) (m.take l ++ [.lst ds]))
    | some (.tab now) => backT keep l n now m
    | _ => .bad)
def fin (keep : Bool) (l : Nat) (r : RS) : R D := match r with
  | .nx _ m => .ok (.p .none) (m.take l)
  | .rt d m => back keep l d m
  | .exc c fs m => .exc c fs (m.take l)
  | _ => .bad
def callN (T : List MFn) (fuel : Nat) : Nat → CF
  | 0, _, _, _, _ => .bad
  | n + 1, keep, f, ds, m => (match T[f]? with
    | some fn => if ds.length = fn.ps.length then fin keep m.length (exS (callN T fuel n) fuel fn.body (startE fn.N ds) m) else .bad
    | none => .bad)
section
variable {K : PySem.W.Frag} {gh rho rho1 : List Addr} {m m1 : MH} {H H1 : Hp}
theorem back_at : ∀ a o, At (rho1 ++ gh) H a o → (∀ b ∈ rho, b ∈ rho1) → At (rho ++ gh) H a o := fun a o ⟨e, n⟩ h => ⟨e, fun z => n (by
  rcases List.mem_append.mp z with z | z
  · exact List.mem_append_left _ (h a z)
  · exact List.mem_append_right _ z)⟩
theorem Rel.back (R0 : Rel K rho gh m H) (x : Ext rho H rho1 H1) (R : Rel K rho1 gh m1 H1) : Rel K rho gh (m1.take m.length) H1 ∧ Ext rho H rho H1 ∧ rho1.take m.length = rho := by
  obtain ⟨t, ht⟩ := x.pre
  have hl : rho.length = m.length := R0.len
  have e : rho1.take m.length = rho := by rw [← ht, ← hl, List.take_left]
  have le : rho.length ≤ m1.length := by rw [← R.len, ← ht, List.length_append]; omega
  refine ⟨⟨by rw [List.length_take, ← hl]; omega, R0.nd, fun a h => ⟨(R.gho a h).1, fun z => (R0.gho a h).2 z⟩, fun i a c e1 e2 => ?_, R.tabs⟩, ⟨List.prefix_refl _, fun _ h => .inl h, x.fr⟩, e⟩
  have hi : i < rho.length := (List.getElem?_eq_some_iff.mp e1).1
  rw [List.getElem?_take_of_lt (by omega)] at e2
  rw [← prv_pre x.pre hi]
  exact (R.cell i a c (pre_get x.pre e1) e2).mono (fun a o h => back_at a o h fun b hb => x.pre.subset hb) fun o e => e
theorem wp_backT {E : XK} {Q : VK} {keep : Bool} {n : Nat} {a : Addr} {now : P} (R0 : Rel K rho gh m H) (x : Ext rho H rho1 H1) (R : Rel K rho1 gh m1 H1) (e1 : rho1[n]? = some a) (hc : m1[n]? = some (.tab now)) (hn : ¬ n < m.length) (w : WP K gh E ((backT keep m.length n now m1).bind fun d m => .ok [d] m) rho H (one Q)) : Q (.ref a) H1 := by
  obtain ⟨R2, x2, e2⟩ := R0.back x R
  unfold backT at w
  split at w
  · rename_i q
    split at w
    · rename_i hq
      split at w
      · rename_i ds hd
        simp only [bind_ok] at w
        have hl : rho.length = m.length := R0.len
        obtain ⟨dx, v, l, h1, h2, h3⟩ := R.cell (q + 1) a _ e1 hc
        have h1 : rho1[q]? = some l := h1
        obtain ⟨xs, e4, z⟩ := R.cell q l _ h1 hd
        have out : ∀ (i : Nat) (b : Addr), m.length ≤ i → rho1[i]? = some b → b ∉ rho := fun i b hi eb h => by
          obtain ⟨j, hj, e5⟩ := List.mem_iff_getElem.mp h
          have e6 : rho1[j]? = some b := pre_get x.pre (by rw [List.getElem?_eq_getElem hj, e5])
          obtain ⟨h1, z1⟩ := List.getElem?_eq_some_iff.mp eb
          obtain ⟨h2, z2⟩ := List.getElem?_eq_some_iff.mp e6
          have := (List.getElem_inj R.nd).mp (z1.trans z2.symm)
          omega
        have outg : ∀ b ∈ rho1, b ∉ gh := fun b hb h => (R.gho b h).2 hb
        have ma : a ∈ rho1 := List.mem_of_getElem? e1
        have ml : l ∈ rho1 := List.mem_of_getElem? h1
        have oa := out _ a (by omega) e1
        have ol := out _ l hq h1
        have na : Fr0 H a := (x.new a ma).elim (fun h => (oa h).elim) id
        have nl : Fr0 H l := (x.new l ml).elim (fun h => (ol h).elim) id
        have lne : l ≠ a := fun e => by
          subst e
          obtain ⟨h1', z1⟩ := List.getElem?_eq_some_iff.mp e1
          obtain ⟨h2', z2⟩ := List.getElem?_eq_some_iff.mp h1
          have := (List.getElem_inj R.nd).mp (z1.trans z2.symm)
          omega
        have x3 : Ext rho H (rho ++ [l, a]) H1 := ⟨⟨[l, a], rfl⟩, fun b h => by
          rcases List.mem_append.mp h with h | h
          · exact .inl h
          · simp only [List.mem_cons, List.not_mem_nil, or_false] at h
            rcases h with rfl | rfl
            · exact .inr nl
            · exact .inr na, x2.fr⟩
        have at3 : ∀ b o, At (rho1 ++ gh) H1 b o → At (rho ++ [l, a] ++ gh) H1 b o := fun b o h => back_at b o h fun c hc => by
          rcases List.mem_append.mp hc with hc | hc
          · exact x.pre.subset hc
          · simp only [List.mem_cons, List.not_mem_nil, or_false] at hc
            rcases hc with rfl | rfl
            · exact ml
            · exact ma
        have len2 : (m1.take m.length).length = rho.length := by rw [← R2.len]
        have R3 : Rel K (rho ++ [l, a]) gh (m1.take m.length ++ [.lst ds, .tab now]) H1 := by
          refine ⟨by simp [len2], ?_, fun b h => ⟨(R.gho b h).1, fun z => ?_⟩, fun i b c e8 e9 => ?_, R.tabs⟩
          · rw [List.nodup_append]
            refine ⟨R0.nd, by simp [lne], fun b hb c hc => ?_⟩
            simp only [List.mem_cons, List.not_mem_nil, or_false] at hc
            rintro rfl
            rcases hc with rfl | rfl
            · exact ol hb
            · exact oa hb
          · simp only [List.mem_append, List.mem_cons, List.not_mem_nil, or_false] at z
            rcases z with z | rfl | rfl
            · exact (R0.gho b h).2 z
            · exact outg _ ml h
            · exact outg _ ma h
          · have p : rho <+: rho ++ [l, a] := ⟨_, rfl⟩
            by_cases hi : i < rho.length
            · rw [List.getElem?_append_left hi] at e8
              rw [List.getElem?_append_left (by rw [len2]; exact hi)] at e9
              rw [List.getElem?_take_of_lt (by rw [← R0.len]; exact hi)] at e9
              rw [prv_pre p hi, ← prv_pre x.pre hi]
              exact (R.cell i b c (pre_get x.pre e8) e9).mono at3 fun o e => e
            · have hlt : i < (rho ++ [l, a]).length := (List.getElem?_eq_some_iff.mp e8).1
              simp at hlt
              rw [List.getElem?_append_right (by omega)] at e8
              rw [List.getElem?_append_right (by rw [len2]; omega)] at e9
              rw [len2] at e9
              rcases (show i = rho.length ∨ i = rho.length + 1 by omega) with c0 | c0
              · subst c0
                simp at e8 e9
                subst e8 e9
                exact ⟨xs, e4, RPs.mono at3 _ _ z⟩
              · subst c0
                simp at e8 e9
                subst e8 e9
                refine ⟨dx, v, l, ?_, h2, RP.mono at3 _ _ h3⟩
                show (rho ++ [l, a])[rho.length]? = some l
                simp
        obtain ⟨v', e, qq⟩ := w (rho ++ [l, a]) H1 [.ref a] x3 R3 (RDs.one (d := .ref (m.length + 1)) ⟨a, rfl, by rw [← R0.len]; simp⟩)
        cases e
        exact qq
      · exact w.elim
    · exact w.elim
  · exact w.elim
theorem wp_back {E : XK} {Q : VK} {keep : Bool} {d : M.D} {v : V} (R0 : Rel K rho gh m H) (x : Ext rho H rho1 H1) (R : Rel K rho1 gh m1 H1) (r : RD K rho1 gh H1 d v) (w : WP K gh E ((back keep m.length d m1).bind fun d m => .ok [d] m) rho H (one Q)) : Q v H1 := by
  obtain ⟨R2, x2, e2⟩ := R0.back x R
  have at2 : ∀ a o, At (rho1 ++ gh) H1 a o → At (rho ++ gh) H1 a o := fun a o h => back_at a o h fun b hb => x.pre.subset hb
  cases d with
  | p d =>
    obtain ⟨v', e, q⟩ := w rho H1 [v] x2 R2 (RDs.one (d := .p d) (RP.mono at2 _ _ r))
    cases e
    exact q
  | ro ds =>
    obtain ⟨a, xs, rfl, q1, z⟩ := r
    obtain ⟨v', e, q⟩ := w rho H1 [.ref a] x2 R2 (RDs.one (d := .ro ds) ⟨a, xs, rfl, q1.mono at2, RPs.mono at2 _ _ z⟩)
    cases e
    exact q
  | kt ds =>
    obtain ⟨a, xs, rfl, q1, z⟩ := r
    obtain ⟨v', e, q⟩ := w rho H1 [.ref a] x2 R2 (RDs.one (d := .kt ds) ⟨a, xs, rfl, q1, RPs.mono at2 _ _ z⟩)
    cases e
    exact q
  | st n => exact w.elim
  | ref n =>
    obtain ⟨a, rfl, e1⟩ := r
    unfold back at w
    by_cases hn : n < m.length
    · simp only [hn, if_true, bind_ok] at w
      have e3 : rho[n]? = some a := by rw [← e2, List.getElem?_take_of_lt hn]; exact e1
      obtain ⟨v', e, q⟩ := w rho H1 [.ref a] x2 R2 (RDs.one (d := .ref n) ⟨a, rfl, e3⟩)
      cases e
      exact q
    · simp only [hn, if_false] at w
      split at w
      · rename_i ds hc
        obtain ⟨xs, e4, z⟩ := R.cell n a _ e1 hc
        have out : a ∉ rho := fun h => by
          obtain ⟨i, hi, e5⟩ := List.mem_iff_getElem.mp h
          have e6 : rho1[i]? = some a := pre_get x.pre (by rw [List.getElem?_eq_getElem hi, e5])
          obtain ⟨h1, z1⟩ := List.getElem?_eq_some_iff.mp e1
          obtain ⟨h2, z2⟩ := List.getElem?_eq_some_iff.mp e6
          have := (List.getElem_inj R.nd).mp (z1.trans z2.symm)
          have hl : rho.length = m.length := R0.len
          omega
        have outg : a ∉ gh := fun h => (R.gho a h).2 (List.mem_of_getElem? e1)
        cases keep with
        | false =>
          simp only [bind_ok] at w
          obtain ⟨v', e, q⟩ := w rho H1 [.ref a] x2 R2 (RDs.one (d := .p (.list ds)) (by
            show RP K (rho ++ gh) _ _ _
            simp only [RP]
            exact ⟨a, xs, rfl, ⟨nt_lst e4, fun h => (List.mem_append.mp h).elim out outg⟩, RPs.mono at2 _ _ z⟩))
          cases e
          exact q
        | true =>
          simp only [bind_ok] at w
          have na : Fr0 H a := by
            rcases x.new a (List.mem_of_getElem? e1) with h | h
            · exact (out h).elim
            · exact h
          have x3 : Ext rho H (rho ++ [a]) H1 := ⟨⟨[a], rfl⟩, fun b h => (List.mem_append.mp h).elim .inl fun z => .inr (by
            have e : b = a := by simpa using z
            rw [e]; exact na), x2.fr⟩
          have at3 : ∀ b o, At (rho1 ++ gh) H1 b o → At (rho ++ [a] ++ gh) H1 b o := fun b o h => back_at b o h fun c hc => by
            rcases List.mem_append.mp hc with hc | hc
            · exact x.pre.subset hc
            · have e : c = a := by simpa using hc
              rw [e]
              exact List.mem_of_getElem? e1
          have len2 : (m1.take m.length).length = rho.length := by rw [← R2.len]
          have R3 : Rel K (rho ++ [a]) gh (m1.take m.length ++ [.lst ds]) H1 := by
            refine ⟨by simp [len2], ?_, fun b h => ⟨(R.gho b h).1, fun z => ?_⟩, fun i b c e8 e9 => ?_, R.tabs⟩
            · rw [List.nodup_append]
              refine ⟨R0.nd, by simp, fun b hb c hc => ?_⟩
              have e : c = a := by simpa using hc
              rw [e]
              rintro rfl
              exact out hb
            · rcases List.mem_append.mp z with z | z
              · exact (R0.gho b h).2 z
              · have e : b = a := by simpa using z
                rw [e] at h
                exact outg h
            · by_cases hi : i < rho.length
              · rw [List.getElem?_append_left hi] at e8
                rw [List.getElem?_append_left (by rw [len2]; exact hi)] at e9
                rw [List.getElem?_take_of_lt (by rw [← R0.len]; exact hi)] at e9
                rw [prv_pre ⟨[a], rfl⟩ hi, ← prv_pre x.pre hi]
                exact (R.cell i b c (pre_get x.pre e8) e9).mono at3 fun o e => e
              · have e3 : i < (rho ++ [a]).length := (List.getElem?_eq_some_iff.mp e8).1
                simp at e3
                have e4' : i = rho.length := by omega
                subst e4'
                rw [List.getElem?_append_right (Nat.le_refl _)] at e8
                rw [List.getElem?_append_right (by rw [len2]; exact Nat.le_refl _)] at e9
                simp [len2] at e8 e9
                subst e8 e9
                exact ⟨xs, e4, RPs.mono at3 _ _ z⟩
          obtain ⟨v', e, q⟩ := w (rho ++ [a]) H1 [.ref a] x3 R3 (RDs.one (d := .ref m.length) ⟨a, rfl, by rw [← R0.len]; simp⟩)
          cases e
          exact q
      · rename_i now hc
        exact wp_backT R0 x R e1 hc hn w
      · exact w.elim
theorem start_ok {N : List Str} : ∀ {ds : List M.D} {vs : List V}, RDs K rho gh H ds vs → ds.length ≤ N.length → EOk K rho gh H (startE N ds) (L2.start N vs) := fun {ds vs} h hl => by
  have hv := RDs.len h
  refine ⟨by simp [startE, L2.start, hv], fun i d e => ?_⟩
  unfold startE at e
  have key : ∀ (ds : List M.D) (vs : List V) (i : Nat) (d : M.D) (k j : Nat), RDs K rho gh H ds vs → (ds.map some ++ List.replicate k none)[i]? = some (some d) → ∃ v, (vs.map some ++ List.replicate j (none : Option V))[i]? = some (some v) ∧ RD K rho gh H d v := by
    intro ds
    induction ds with
    | nil =>
      intro vs i d k j h e
      simp [List.getElem?_replicate] at e
    | cons d0 ds ih =>
      intro vs i d k j h e
      obtain ⟨v, r, rfl, h1, h2⟩ := h
      cases i with
      | zero =>
        simp at e
        subst e
        exact ⟨v, by simp, h1⟩
      | succ i =>
        simp only [List.map_cons, List.cons_append, List.getElem?_cons_succ] at e ⊢
        exact ih r i d k j h2 e
  exact key ds vs i d _ _ h e
end
structure TFn (K : PySem.W.Frag) (mg : Str → Option Value) (G : Gs) (fn : MFn) (a : Addr) (fd : FuncData) : Prop where
  mg : fn.mth = false → mg fn.name = some (.ref a)
  me : fn.mth = true → Meth K (tabC K) fn.name a
  bnd : Binds K fd fn.ps []
  ad : fn.mth = false → a = He.fAd K (fn.name, none)
  txt : ∃ (params : Arguments) (body : List Stmt) (scope : Scope), FunD K fn.name (quaN fn) params body scope [] [] a fd ∧ FnScope fn.N fn.ps scope ∧ chkS (G.at fn.name) fn.N scope fn.body body = true
structure Tab (K : PySem.W.Frag) (mg : Str → Option Value) (G : Gs) (T : List MFn) : Prop where
  nm : G.fns = T.map (·.name)
  fn : ∀ (f : Nat) (fn : MFn), T[f]? = some fn → ∃ a fd, TFn K mg G fn a fd ∧ ∀ ks perm, (f, ks, perm) ∈ G.kws → KBk fn.mth fd fn.ps ks perm
  vals : ∀ p ∈ G.vals, ∃ u v, mg p.1 = some u ∧ RelV v u ∧ ∀ rho gh H, RD K rho gh H (glD p.2) v
  blts : ∀ x, G.blts.contains x = true → mg x = none
  exc : ∀ c, G.excs.contains c = true → ExcF K mg c
  few : G.few = true → FewOk K mg
  mt : ∀ (f : Nat) (fn : MFn), T[f]? = some fn → G.mths.contains f = fn.mth
  tbl : G.tb = true → TabK K mg
  nbl : ∀ nb, G.nb = some nb → MakeT K mg ∧ ∃ fn, T[nb]? = some fn ∧ fn.name = "need_board" ∧ fn.mth = false
  lmm : (T.all fun f => !(lamNames.contains f.name && f.mth)) = true
  lam : G.said = true → SaidOk K mg ∧ (∀ f ∈ T, lamNames.contains f.name = true → lamIn K f.name = true) ∧ ∀ x ∈ lamNames, ∀ y ∈ lamNames, (He.cT K (x, none)).2 = (He.cT K (y, none)).2 → lamIn K x = true → lamIn K y = true → x = y
  ers : ersM G = true → ErrsOk K mg
def TBs (K : PySem.W.Frag) (mg : Str → Option Value) (base : Heap) : Prop := ∀ n ∈ lamNames, lamIn K n = true → LamX.TabB base mg (He.cT K (n, none)).1 (He.cT K (n, none)).2
section
variable {P : Program} {w : World} {K : PySem.W.Frag} {mg : Str → Option Value} {base : Heap} {G : Gs} {T : List MFn} {fuel : Nat}
theorem sp_len {cf : CF} {keep : Bool} {f : Nat} {k : Nat} (hc : ∀ ds m, ds.length ≠ k → cf keep f ds m = .bad) : ∀ vs H Q E, spM K cf keep f vs H Q E → vs.length = k := fun vs H Q E ⟨rho, gh, m, ds, R, rd, w⟩ => by
  rw [RDs.len rd]
  by_cases h : ds.length = k
  · exact h
  · rw [hc ds m h] at w
    exact w.elim
theorem code_at {K : PySem.W.Frag} {name qual : Str} {params : Arguments} {body : List Stmt} {scope : Scope} {a c : Addr} {fd : FuncData} (F : FunD K name qual params body scope [] [] a fd) (ha : a = He.fAd K (name, none)) (e : fd.code = .ref c) : He.codeOf K (name, none) = c := by
  obtain ⟨oc, od, dV, kV, doc, pm, an, cd, ct, osl, _, lk, _, _, _⟩ := F.ex
  rw [ha] at lk
  exact He.codeOf_eq lk e
theorem fns_of {n : Nat} {A : Around} {G1 : Str} (tb : Tab K mg G T) (ih : ∀ (keep : Bool) (f : Nat) (fn : MFn) (a : Addr) (fd : FuncData), T[f]? = some fn → TFn K mg G fn a fd → FnG P w K mg base (L2.CX P w) (3 * n + 6) a fd fn.ps (spM K (callN T fuel n) keep f)) (hr : Room (3 * n + 8) A) :
    ∀ (keep : Bool) (g : Nat) (x : Str), (G.at G1).fns[g]? = some x → ∃ a fd ps k, ((G.at G1).mths.contains g = false → mg x = some (.ref a)) ∧ ((G.at G1).mths.contains g = true → Meth K (tabC K) x a) ∧ PySem.W.keepIn K (.ref a) = true ∧ Binds K fd ps [] ∧ (∀ ks perm, (g, ks, perm) ∈ (G.at G1).kws → KBk ((G.at G1).mths.contains g) fd ps ks perm) ∧ Room (k + roomS (G.at G1)) A ∧ FnG P w K mg base (L2.CX P w) k a fd ps (spM K (callN T fuel n) keep g) := by
  intro keep g x hg
  have hg : G.fns[g]? = some x := hg
  rw [tb.nm, List.getElem?_map] at hg
  cases hg2 : T[g]? with
  | none => rw [hg2] at hg; cases hg
  | some fn2 =>
    rw [hg2] at hg
    simp only [Option.map_some, Option.some.injEq] at hg
    subst hg
    obtain ⟨a2, fd2, t2, kb2⟩ := tb.fn g fn2 hg2
    obtain ⟨_, _, _, F2, _, _⟩ := t2.txt
    have em : (G.at G1).mths.contains g = fn2.mth := tb.mt g fn2 hg2
    have le : 3 * n + 6 + roomS (G.at G1) ≤ 3 * n + 8 := by
      unfold roomS
      repeat' split
      all_goals omega
    exact ⟨a2, fd2, fn2.ps, 3 * n + 6, fun z => t2.mg (em.symm.trans z), fun z => t2.me (em.symm.trans z), F2.kp, t2.bnd, fun ks perm hk => by rw [em]; exact kb2 ks perm hk, hr.mono le, ih keep g fn2 a2 fd2 hg2 t2⟩
theorem nbl_of {n : Nat} {A : Around} {G1 : Str} (tb : Tab K mg G T) (ih : ∀ (keep : Bool) (f : Nat) (fn : MFn) (a : Addr) (fd : FuncData), T[f]? = some fn → TFn K mg G fn a fd → FnG P w K mg base (L2.CX P w) (3 * n + 6) a fd fn.ps (spM K (callN T fuel n) keep f)) (hr : Room (3 * n + 8) A) :
    ∀ nb, (G.at G1).nb = some nb → ∃ fI fd k, Mk K (tabC K) fI ∧ Binds K fd initT [] ∧ KBk true fd initT ["board"] [0] ∧ Room (k + 1) A ∧ FnG P w K mg base (L2.CX P w) k fI fd initT (spT K (callN T fuel n) nb) := by
  intro nb hnb
  obtain ⟨M, fn2, h1, h2, h3⟩ := tb.nbl nb hnb
  obtain ⟨a2, fd2, t2, _⟩ := tb.fn nb fn2 h1
  obtain ⟨_, _, _, F2, _, _⟩ := t2.txt
  have m2 := t2.mg h3
  rw [h2] at m2
  obtain ⟨fd, hb, hk, F⟩ := initT_ok (P := P) (w := w) (base := base) (cf := callN T fuel n) (nb := nb) M m2 F2.kp t2.bnd (ih false nb fn2 a2 fd2 h1 t2)
  exact ⟨_, fd, 3 * n + 7, M.mkT, hb, hk, hr, F⟩
theorem fn_ok (tb : Tab K mg G T) (bt : TBs K mg base) (sm : SmB base) (sn : G.sgn = true → SgnOk w K mg) : ∀ (n : Nat) (keep : Bool) (f : Nat) (fn : MFn) (a : Addr) (fd : FuncData), T[f]? = some fn → TFn K mg G fn a fd → FnG P w K mg base (L2.CX P w) (3 * n + 6) a fd fn.ps (spM K (callN T fuel n) keep f) := by
  intro n
  induction n with
  | zero =>
    intro keep f fn a fd hf t
    have no : ∀ vs H Q E, ¬ spM K (callN T fuel 0) keep f vs H Q E := fun vs H Q E ⟨rho, gh, m, ds, R, rd, w⟩ => w
    exact ⟨fun vs H Q E h => (no _ _ _ _ h).elim, fun _ _ _ _ _ h => (no _ _ _ _ h).elim⟩
  | succ n ih =>
    intro keep f fn a fd hf t
    obtain ⟨params, body, scope, F, S, ch⟩ := t.txt
    show FnG P w K mg base (L2.CX P w) (3 * n + 8 + 1) a fd fn.ps _
    refine fng_of F S (sp_len (k := fn.ps.length) fun ds m h => ?_) fun cdv A outer s H vs Q E hcd hr hgd h => ?_
    · simp only [callN, hf, h, if_false]
    · generalize hX : cxOf (L2.CX P w) P w K mg base fn.N (quaN fn) scope a cdv A outer s H E = X
      have tk : Takes X (fun cls d _ H => E cls d H) := by subst hX; exact takes_of rfl rfl rfl rfl
      have fns : ∀ (keep : Bool) (g : Nat) (x : Str), (G.at fn.name).fns[g]? = some x → ∃ a fd ps k, ((G.at fn.name).mths.contains g = false → X.mg x = some (.ref a)) ∧ ((G.at fn.name).mths.contains g = true → Meth X.K (tabC X.K) x a) ∧ PySem.W.keepIn X.K (.ref a) = true ∧ Binds X.K fd ps [] ∧ (∀ ks perm, (g, ks, perm) ∈ (G.at fn.name).kws → KBk ((G.at fn.name).mths.contains g) fd ps ks perm) ∧ Room (k + roomS (G.at fn.name)) X.A ∧ FnG X.prog X.w X.K X.mg X.base (L2.CX X.prog X.w) k a fd ps (spM X.K (callN T fuel n) keep g) := by
        subst hX
        exact fns_of tb (fun keep g fn2 a2 fd2 h1 h2 => ih keep g fn2 a2 fd2 h1 h2) hr
      have nbl : ∀ nb, (G.at fn.name).nb = some nb → ∃ fI fd k, Mk X.K (tabC X.K) fI ∧ Binds X.K fd initT [] ∧ KBk true fd initT ["board"] [0] ∧ Room (k + 1) X.A ∧ FnG X.prog X.w X.K X.mg X.base (L2.CX X.prog X.w) k fI fd initT (spT X.K (callN T fuel n) nb) := by
        subst hX
        exact nbl_of tb (fun keep g fn2 a2 fd2 h1 h2 => ih keep g fn2 a2 fd2 h1 h2) hr
      have sx : SX (G.at fn.name) (callN T fuel n) fn.N scope E X := by
        have ps : Passes (L2.CX X.prog X.w) X E := by subst hX; exact passes_call tk fun _ _ _ _ h => h
        subst hX
        refine ⟨⟨⟨fun x h => h, fun x h => h, fun x h => ⟨h, rfl⟩, fun x h => .inr h⟩, rfl, S.nd, rfl, ?_, ?_, tb.vals, tb.blts, fns, ps, fun hs => ?_, sm, tb.tbl, sn, nbl⟩, passes_of rfl, S.kind, tk, tb.exc, fun h => ⟨tb.few h, hr.mono (by omega)⟩, fun h => ⟨tb.ers h, hr.mono (by omega)⟩⟩
        · have := hr.un
          show (A.deeper _).units + 100 < cLine
          omega
        · exact hgd
        · have hs0 : (G.said && lamNames.contains fn.name) = true := hs
          obtain ⟨hs1, hs⟩ := Bool.and_eq_true_iff.mp hs0
          have hm : fn ∈ T := List.mem_of_getElem? hf
          have hmf : fn.mth = false := by
            have z := List.all_eq_true.mp tb.lmm fn hm
            rw [hs] at z
            simpa using z
          have eq : quaN fn = fn.name := by unfold quaN; rw [hmf]; rfl
          rw [eq] at F hr ⊢
          obtain ⟨so, hin, inj⟩ := tb.lam hs1
          have hl := hin fn hm hs
          have hn : fn.name ∈ lamNames := List.contains_iff_mem.mp hs
          obtain ⟨oc, od, dV, kV, doc, pm, an, cd, ct, osl, ef, lk, hc0, _, _⟩ := F.ex
          obtain ⟨c, ec⟩ := He.codeIn_ref hc0
          have e1 : fd.code = .ref c := by rw [ef]; exact ec
          have e2 := code_at F (t.ad hmf) e1
          have e3 : (He.cT K (fn.name, none)).1 = c := e2
          have tB := bt fn.name hn hl
          rw [e3] at tB
          refine ⟨⟨c, (He.cT K (fn.name, none)).2, by rw [← hcd]; exact e1, tB, ?_, fun p hp ep => ?_, hr.mono (by omega)⟩, so⟩
          · exact List.mem_map.mpr ⟨fn.name, List.mem_filter.mpr ⟨hn, hl⟩, rfl⟩
          · obtain ⟨y, hy, rfl⟩ := List.mem_map.mp hp
            obtain ⟨hy1, hy2⟩ := List.mem_filter.mp hy
            have := inj y hy1 fn.name hn ep hy2 hl
            rw [this]
            rfl
      refine ⟨tMS K E (callN T fuel n) fuel fn.body, ?_, ?_⟩
      · have z := (ss (fuel := fuel) sx fn.body).2 body ch
        have e : X.K = K := by subst hX; rfl
        rw [e] at z
        exact z
      · obtain ⟨rho, gh, m, ds, R, rd, w⟩ := h
        simp only [callN, hf] at w
        split at w
        · rename_i hl
          have hN : ds.length ≤ fn.N.length := by
            have := congrArg List.length S.pre
            rw [List.length_take] at this
            omega
          refine ⟨rho, gh, startE fn.N ds, m, ⟨R, start_ok rd hN⟩, ?_⟩
          cases hr2 : exS (callN T fuel n) fuel fn.body (startE fn.N ds) m with
          | nx env m1 =>
            rw [hr2] at w
            intro rho1 H1 sg1 x S1
            exact wp_back (keep := keep) (d := .p .none) R x S1.rel (by show RP _ _ _ _ _; simp only [RP]) w
          | rt d m1 =>
            rw [hr2] at w
            intro rho1 H1 v x R1 r1
            exact wp_back R x R1 r1 w
          | exc c fs m1 =>
            rw [hr2] at w
            intro rho1 H1 u dx x R1 ex
            obtain ⟨R2, x2, _⟩ := R.back x R1
            exact w rho H1 u dx x2 R2 (ex.mono fun a o h => back_at a o h fun b hb => x.pre.subset hb)
          | bk _ _ => rw [hr2] at w; exact w.elim
          | ct _ _ => rw [hr2] at w; exact w.elim
          | bad => rw [hr2] at w; exact w
        · exact w.elim
def TabsAt (K : PySem.W.Frag) (h : Heap) : Prop := ∀ n ∈ lamNames, lamIn K n = true → h.get? (He.cT K (n, none)).2 = some empTab ∧ K.lookup (He.cT K (n, none)).2 = none
def lamCs (K : PySem.W.Frag) : List (Addr × Addr) := (lamNames.filter fun n => lamIn K n).map fun n => He.cT K (n, none)
theorem lamCs_of {K : PySem.W.Frag} {q : Addr × Addr} (h : q ∈ lamCs K) : ∃ n ∈ lamNames, lamIn K n = true ∧ He.cT K (n, none) = q := by
  obtain ⟨n, hn, e⟩ := List.mem_map.mp h
  obtain ⟨h1, h2⟩ := List.mem_filter.mp hn
  exact ⟨n, h1, h2, e⟩
theorem lamCs_in {K : PySem.W.Frag} {n : Str} (h : n ∈ lamNames) (h2 : lamIn K n = true) : He.cT K (n, none) ∈ lamCs K := List.mem_map.mpr ⟨n, List.mem_filter.mpr ⟨h, h2⟩, rfl⟩
theorem law_sp {f k : Nat} {H : Hp} {a : Addr} {ns : List Int} (hT : ∀ q ∈ lamCs K, H q.2 = some (.tbl #[])) (nl : ∀ xs, H a ≠ some (.lst xs)) (hS : SqL K H a (ns.map V.int)) (h : ∃ m, callN T fuel k false f [.ro (ns.map .int)] [] = .ok (.p (.bool true)) m) :
    spM K (callN T fuel k) false f [.ref a] H (fun v _ => v = .bl true) fun _ _ _ => False := by
  obtain ⟨m, h⟩ := h
  have R : Rel K [] [] [] H := ⟨rfl, List.nodup_nil, fun a h => (nomatch h), fun i a c e1 e2 => by simp at e1, fun p hp => by
    obtain ⟨n, hn, rfl⟩ := List.mem_map.mp hp
    obtain ⟨h1, h2⟩ := List.mem_filter.mp hn
    exact LamX.TabS.nil (hT _ (lamCs_in h1 h2))⟩
  have intsR : ∀ ns : List Int, RPs K [] H (ns.map .int) (ns.map V.int) := fun ns => by
    induction ns with
    | nil => simp [RPs]
    | cons n r ih => simp only [List.map_cons, RPs]; exact ⟨_, _, rfl, by simp only [RP], ih⟩
  refine ⟨[], [], [], [.ro (ns.map .int)], R, ?_, ?_⟩
  · refine RDs.one (d := .ro (ns.map .int)) ⟨a, _, rfl, ?_, intsR ns⟩
    rcases hS with (e | ⟨o, e⟩) | e
    · exact (nl _ e).elim
    · exact .inl ⟨o, ⟨e, fun _ z => nomatch z⟩, fun z => (nomatch z)⟩
    · exact .inr e
  · rw [h]
    intro rho' H' vs x R' rd
    obtain ⟨v, rfl, r⟩ := RDs.one_of rd
    exact ⟨v, rfl, r⟩
theorem cx_none {H : Hp} {s s' : Shared} {e : Value} (h : L2.CX P w [] H s (fun _ _ _ => False) e s') : False := by
  obtain ⟨_, _, _, _, _, _, _, _, _, _, _, _, z⟩ := h
  exact z
end
theorem law_end {l : PySem.W.OpenLaw} {n k : Nat} {q : Program} {loose : List Str} {XP : (Str → Option Value) → Heap → Prop} {YP : World → Heap → Prop} {d : DefRec} {x : Str} {T : List MFn} {G : Gs} {fuel f : Nat} {lw : MFn}
    (most : l.most = some n) (n63 : n ≤ 100000) (dflt : d.params.defaults = []) (room : Room (3 * k + 6) callerA) (imp : importsNone q = true) (hf : T[f]? = some lw) (hps : lw.ps = [x]) (nmd : d.name = lw.name) (nmt : lw.mth = false)
    (F : ∀ (w : World) (mg : Str → Option Value) (h : Heap), YP w h → h.Ns mainGlobals mg → ∃ K : PySem.W.Frag, K.In h ∧ Tab K mg G T ∧ TabsAt K h ∧ (G.sgn = true → SgnOk w K mg) ∧
      ∃ (a : Addr) (fd : FuncData), TFn K mg G lw a fd ∧ ∀ (s : Shared) (u : Value), BindsTo s fd ⟨[u], []⟩ [(x, u)])
    (M : ∀ ns : List Int, ns.length ≤ n → ∃ m, callN T fuel k false f [.ro (ns.map .int)] [] = .ok (.p (.bool true)) m) :
    PySem.W.WalkO q loose XP YP l.row.toRowW d [] (fun f vs => PySem.call f vs) := by
  refine Att.attach_callB most dflt fun w s0 s1 mg mb fa o pm cd doc a vs ns GG Y ho hd hcd hmg hobj hints hlen hbits hg => ?_
  obtain ⟨K, KX, tb, ta, sn, a1, fd, t, hb⟩ := F w mg _ Y GG.T.g
  have ea : a1 = fa := by
    have e1 := t.mg nmt
    rw [← nmd, hmg] at e1
    cases e1
    rfl
  subst ea
  refine law_callG (sp := spM K (callN T fuel k) false f) (cs := lamCs K) KX GG.T.g GG.T.b GG.T.builtins GG.T.nolimit hg GG.T.bmain (fun q hq => ?_) (fun q hq => ?_) (fun q hq => ?_) hobj hints (Nat.le_trans hlen (line_sz n63)) room
    (let ⟨_, nm, _⟩ := (GG.T.seer imp).mods; let ⟨o, es, n, e1, e2, _⟩ := nm; ⟨o, es, n, e1, e2⟩) (fun base _ _ hB sm => by
      have z := fn_ok (P := l.prog) (w := w) (base := base) (fuel := fuel) tb (fun n hn hl => hB _ (lamCs_in hn hl)) sm sn k false f lw a1 fd hf t
      rw [hps] at z
      exact z) hb (fun H hT nl hS => law_sp hT nl hS (M ns hlen)) fun H e s' => cx_none
  · obtain ⟨n, h1, h2, rfl⟩ := lamCs_of hq
    exact (ta n h1 h2).1
  · obtain ⟨n, h1, h2, rfl⟩ := lamCs_of hq
    exact (ta n h1 h2).2
  · obtain ⟨n, h1, h2, rfl⟩ := lamCs_of hq
    exact PySem.W.codeHd_of_K KX h2
end M
namespace M
open PySem PySem.Spec PyProof.Rows L2 He
def excCB (K : PySem.W.Frag) (D : Addr) : Bool :=
  decide (PySem.W.findIn K (.ref D) "__getattribute__" = some (some (.builtin "BaseException.__getattribute__"))) && (decide (PySem.W.findIn K (.ref D) "__getattr__" = some none) && (decide (PySem.W.subIn K (.ref D) (.type "BaseException") = some true) && (PySem.W.hasDictIn K D
  && (decide (PySem.W.findIn K (.ref D) "__class__" = some (some (.builtin "object.__class__"))) && (decide (PySem.W.specialIn K (.builtin "object.__class__") "__get__" = some (some (.builtin "getset_descriptor.__get__"))) && (decide (PySem.W.takesIn K (.builtin "object.__class__") = some true) && decide (PySem.W.mroIn K D (.type "object") = some true)))))))
theorem excCB_ok {K : PySem.W.Frag} {D : Addr} (h : excCB K D = true) : ExcC K D := by
  unfold excCB at h
  simp only [Bool.and_eq_true, decide_eq_true_eq] at h
  obtain ⟨h1, h2, h3, h4, h5, h6, h7, h8⟩ := h
  exact ⟨h1, h2, h3, h4, h5, h6, h7, h8⟩
def oneTwelve : List Nat := [1, 2, 3, 4, 5, 6, 7, 8, 9, 10, 11, 12]
def excTB (K : PySem.W.Frag) (c : Nat) : Bool :=
  decide (PySem.W.exmOne K (.ref (ga K (excN c))) (.ref (ga K (excN 0))) = some true) && (excCB K (ga K (excN c)) && (oneTwelve.all (fun j => decide (PySem.W.kitOne K (.ref (ga K (excN c))) (.ref (ga K (excN j))) = some (decide (c = j))))
  && decide (PySem.W.kitOne K (.ref (ga K (excN c))) (.type "ValueError") = some true)))
theorem in12 {j : Nat} (h1 : 1 ≤ j) (h2 : j < 13) : j ∈ oneTwelve := by
  rcases c_cases h1 h2 with rfl | rfl | rfl | rfl | rfl | rfl | rfl | rfl | rfl | rfl | rfl | rfl <;> decide
theorem excTB_ok {K : PySem.W.Frag} {c : Nat} (h : excTB K c = true) : ExcT K c := by
  unfold excTB at h
  simp only [Bool.and_eq_true, decide_eq_true_eq, List.all_eq_true] at h
  obtain ⟨h1, h2, h3, h4⟩ := h
  exact ⟨h1, excCB_ok h2, fun j a b => h3 j (in12 a b), h4⟩
def pinTB (K : PySem.W.Frag) (c : Nat) : Bool := decide (PySem.W.kitOne K (.ref (ga K (excN c))) (.ref (ga K (excN 0))) = some true)
def saidB (K : PySem.W.Frag) : Bool := oneTwelve.all (fun c => excTB K c && pinTB K c) && (0 :: oneTwelve).all fun c => (Fa.glo (excN c)).ok K
def raisB (K : PySem.W.Frag) (cs : List Nat) : Bool := cs.all fun c => (Fa.glo (excN c)).ok K && (Fa.exc (excN c)).ok K
def lamEx (tf : List Defn) (K : PySem.W.Frag) : Bool := (lamNames.all fun n => !lamIn K n || tf.any fun p => decide (p = (n, none))) && lamNames.all fun x => lamNames.all fun y => !(lamIn K x && lamIn K y && decide ((cT K (x, none)).2 = (cT K (y, none)).2)) || decide (x = y)
def oexB (K : PySem.W.Frag) (C : Addr) : Bool := (match K.lookup C with
  | some ⟨.type "type", _, .cls cd, sl⟩ => (match cd.mro, sl.toList with
    | .ref C' :: bm, [_, _, _, _, some (.builtin n), _] => C' == C && n == "ValueError.__new__" && !cd.hasDel && PySem.HandSPX.refsVE bm && cd.hasDict
    | _, _ => false)
  | _ => false) && (decide (PySem.W.findIn K (.ref C) "__setattr__" = some (some (.builtin "object.__setattr__"))) && (decide (PySem.W.subIn K (.ref C) (.type "BaseException") = some true) && (decide (PySem.W.typeIn K (.ref C) = some (.type "type")) && PySem.W.keepIn K (.ref C))))
theorem oexB_ok {K : PySem.W.Frag} {C : Addr} (h : oexB K C = true) : OexC K C := by
  unfold oexB at h
  obtain ⟨q, h⟩ := Bool.and_eq_true_iff.mp h
  simp only [Bool.and_eq_true, decide_eq_true_eq] at h
  obtain ⟨h1, h2, h3, h4⟩ := h
  refine ⟨?_, h1, h2, h3, h4⟩
  split at q
  · rename_i od c0 slots look
    split at q
    · rename_i D tl a0 a1 a2 a3 nw a5 em es
      simp only [Bool.and_eq_true, beq_iff_eq, Bool.not_eq_true'] at q
      obtain ⟨⟨⟨⟨rfl, rfl⟩, nodel⟩, ends⟩, dct⟩ := q
      obtain ⟨x1, x2, x3, x4, x5, x6, x7, x8, x9, x10, x11⟩ := c0
      dsimp only at em nodel dct
      subst em nodel dct
      have sl : slots = #[a0, a1, a2, a3, some (.builtin "ValueError.__new__"), a5] := by
        obtain ⟨ls⟩ := slots
        have es : ls = _ := es
        rw [es]
      subst sl
      exact ⟨x1, x5, x4, x2, tl, x7, x8, x9, x10, od, a0, a1, a2, a3, a5, look, ends⟩
    · cases q
  · cases q
def fewTB (K : PySem.W.Frag) : Bool := (Fa.glo "TooFew").ok K && ((Fa.glo "PinError").ok K && (oexB K (ga K "TooFew") && (decide (PySem.W.findIn K (.ref (ga K "TooFew")) "__init__" = some (some (.ref (ma K (ga K "TooFew") "__init__")))) && (decide (PySem.W.typeIn K (.ref (ma K (ga K "TooFew") "__init__")) = some (.type "function"))
  && (decide (PySem.W.findIn K (.ref (ga K "TooFew")) "many" = some none) && (decide (PySem.W.findIn K (.ref (ga K "TooFew")) "least" = some none) && (decide (PySem.W.specialIn K (.ref (ga K "PinError")) "__getattribute__" = some (some (.builtin "type.__getattribute__"))) && (PySem.W.readsIn K (ga K "PinError") (.type "type")
  && (match PySem.W.findCls K (.ref (ga K "PinError")) (.type "type") "__init__" with | some (.val v) => v == .builtin "ValueError.__init__" | _ => false)))))))))
def clsDef (s : Stmt) : Stmt := match s with
  | .ClassDef (body := b) .. => b.getD 0 (.Pass ⟨0, 0, 0, 0⟩)
  | s => s
def noFB (K : PySem.W.Frag) : Bool := decide (PySem.W.findIn K (.ref (ga K (excN 12))) "many" = some none) && decide (PySem.W.findIn K (.ref (ga K (excN 12))) "least" = some none)
def exB0 (tu : List (Str × List Dv)) (tf : List Defn) (cs : List Nat) (sd fw : Bool) (K : PySem.W.Frag) : Bool := (!fw || fewTB K) && ((tu.all fun p => tupB K p.1 p.2) && (lamEx tf K && (raisB K cs && (!sd || (saidB K && (noFB K && tf.all fun p => lamIn K p.1))))))
def insB (K : PySem.W.Frag) (C : Addr) : Bool := eqO (PySem.W.findIn K (.ref C) "__class__") (some (some (.builtin "object.__class__"))) && (decide (PySem.W.specialIn K (.builtin "object.__class__") "__get__" = some (some (.builtin "getset_descriptor.__get__")))
  && (decide (PySem.W.takesIn K (.builtin "object.__class__") = some true) && (decide (PySem.W.mroIn K C (.type "object") = some true) && decide (PySem.W.kitOne K (.ref C) (.ref C) = some true))))
def tblB (K : PySem.W.Frag) : Bool := (Fa.glo "Table").ok K && ((Fa.cls "Table").ok K && ((Fa.noat "Table" "now").ok K && ((Fa.noat "Table" "past").ok K && ((Fa.mkr "Table").ok K && insB K (tabC K)))))
def wf (w : World) (c : Bool) : World := { w with params := { w.params with followText := fun row => cond (row == "special-get-raises") c (w.params.followText row) } }
def entB : List DictEntry → List (Str × Str) → Bool
  | [], [] => true
  | e :: es, p :: ps => (match e.key, e.val with
    | .str k _, .str y _ => decide (k = p.1) && decide (y = p.2)
    | _, _ => false) && entB es ps
  | _, _ => false
def sgnE (K : PySem.W.Frag) (a : Addr) : Bool := (match K.lookup a with
    | some ⟨_, _, .dict es _, _⟩ => entB es.toList SgnKV
    | _ => false) && SgnKV.all fun p => (match PySem.W.nsIn K a p.1 with
    | some (some (.str y _)) => decide (y = p.2)
    | _ => false)
def sgnB (K : PySem.W.Frag) : Bool := (Fa.glo nSigns).ok K && sgnE K (ga K nSigns)
def sgTab : He.Tab := (fun K => ga K nSigns, SgnKV.map (·.1))
def exB (tu : List (Str × List Dv)) (tf : List Defn) (cs : List Nat) (sd fw tb sg : Bool) (K : PySem.W.Frag) : Bool := (!sg || sgnB K) && ((!tb || tblB K) && exB0 tu tf cs sd fw K)
def clsAt (s : Stmt) (i : Nat) : Stmt := match s with
  | .ClassDef (body := b) .. => b.getD i (.Pass ⟨0, 0, 0, 0⟩)
  | s => s
def seeY (g : Addr → Option Obj) (n : Nat) : PySem.W.Frag := frT g (asD g n ++ [cStatics])
def obsY (n : Nat) (fa : List Fa) (fn : List DefD) (tf : List Defn) (ex : PySem.W.Frag → Bool) (g : Addr → Option Obj) : AlX :=
  (obsT fa fn [] (seeY g n), ex (seeY g n) && tabsB g tf (seeY g n))
theorem saysY {n : Nat} {fa : List Fa} {fn : List DefD} {tf : List Defn} {ex : PySem.W.Frag → Bool} {w : World} {h : Heap} (e : obsY n fa fn tf ex h.get? = valX fn [] w) : SaysX fa fn [] tf ex w h (seeY h.get? n) := by
  have z1 : obsT fa fn [] (seeY h.get? n) = valT fn [] w := congrArg Prod.fst e
  have z2 : (ex (seeY h.get? n) && tabsB h.get? tf (seeY h.get? n)) = true := congrArg Prod.snd e
  rw [Bool.and_eq_true] at z2
  have tab : ∀ p ∈ tf, PySem.W.codeHdIn (seeY h.get? n) (cT (seeY h.get? n) p).1 (cT (seeY h.get? n) p).2 = true ∧ ∃ u, h.get? (cT (seeY h.get? n) p).2 = some u ∧ emptyTab u = true := by
    intro p hp
    have t := List.all_eq_true.mp z2.2 p hp
    rw [Bool.and_eq_true] at t
    refine ⟨t.1, ?_⟩
    have t2 := t.2
    split at t2
    · rename_i u eu
      exact ⟨u, eu, t2⟩
    · cases t2
  refine ⟨z1, z2.1, fun p hp => (tab p hp).1, fun p hp => ?_, fun p hp => ?_⟩
  · obtain ⟨_, u, eu, em⟩ := tab p hp
    exact frT_none eu em
  · obtain ⟨_, u, eu, em⟩ := tab p hp
    rw [eu, emptyTab_eq em]
def hookY (n : Nat) (fa : List Fa) (fn : List DefD) (tf : List Defn) (ex : PySem.W.Frag → Bool) : PySem.W.Hook :=
  { α := AlX, obs := fun s => obsY n fa fn tf ex s.heap.get?, val := fun w => valX fn [] w, says := fun w h => ∃ K : PySem.W.Frag, K.In h ∧ SaysX fa fn [] tf ex w h K,
    of := fun _ _ e => ⟨seeY _ n, frT_in, saysY e⟩, keeps := fun _ _ _ z k => let ⟨K, i, c⟩ := z; ⟨K, PySem.W.Frag.In.keeps i k, ⟨c.t, c.more, c.hd, c.out, fun p hp => k _ _ (c.empty p hp)⟩⟩ }
theorem obsY_eq {n : Nat} {fa : List Fa} {fn : List DefD} {tf : List Defn} {ex : PySem.W.Frag → Bool} {g : Addr → Option Obj} {s : Shared} (h : ∀ a, g a = s.heap.get? a) : obsY n fa fn tf ex g = (hookY n fa fn tf ex).obs s := by
  have e : g = s.heap.get? := funext h
  subst e
  rfl
section
variable {fa : List Fa} {fn : List DefD} {tu : List (Str × List Dv)} {tf : List Defn} {cs : List Nat} {sd fw tb sg : Bool} {ts : List He.Tab} {K : PySem.W.Frag} {mg : Str → Option Value} {h : Heap} {w : World} {G : Gs}
abbrev Says (fa : List Fa) (fn : List DefD) (ts : List He.Tab) (tu : List (Str × List Dv)) (tf : List Defn) (cs : List Nat) (sd fw tb sg : Bool) (w : World) (h : Heap) (K : PySem.W.Frag) : Prop := He.SaysX fa fn ts tf (exB tu tf cs sd fw tb sg) w h K
theorem says_d (c : Says fa fn ts tu tf cs sd fw tb sg w h K) : SaysD fa fn K := He.SaysT.d c.t
theorem says_ex (c : Says fa fn ts tu tf cs sd fw tb sg w h K) : (∀ p ∈ tu, tupB K p.1 p.2 = true) ∧ lamEx tf K = true ∧ raisB K cs = true ∧ (sd = true → saidB K = true ∧ ∀ p ∈ tf, lamIn K p.1 = true) := by
  have e := (ba (ba c.more).2).2
  unfold exB0 at e
  simp only [Bool.and_eq_true, Bool.or_eq_true, Bool.not_eq_true', List.all_eq_true] at e
  obtain ⟨_, e1, e2, e3, e4⟩ := e
  refine ⟨e1, e2, e3, fun hs => ?_⟩
  rcases e4 with z | z
  · rw [hs] at z; cases z
  · exact ⟨z.1, z.2.2⟩
theorem few_of (c : Says fa fn ts tu tf cs sd true tb sg w h K) (X : K.In h) (Ns : h.Ns mainGlobals mg)
    (d : ∃ (fd : FuncData) (pg : Arguments) (sc : Scope) (p : Nat → Pos), FunD K "__init__" "TooFew.__init__" pg (initBody p) sc [] [] (He.ma K (He.ga K "TooFew") "__init__") fd ∧ Binds K fd initN [] ∧ FnScope initN initN sc ∧
    glob sc "PinError" ∧ loc1 sc "self" ∧ loc1 sc "many" ∧ loc1 sc "least" ∧ ((p 1).endLine == (p 10).line) = true ∧ ((p 11).line == (p 11).line) = true) : FewOk K mg := by
  have e := (ba (ba c.more).2).2
  unfold exB0 at e
  have e := (Bool.and_eq_true_iff.mp e).1
  simp only [Bool.not_true, Bool.false_or] at e
  unfold fewTB at e
  simp only [Bool.and_eq_true, decide_eq_true_eq] at e
  obtain ⟨a1, a2, a3, a4, a5, a6, a7, a8, a9, a10⟩ := e
  refine ⟨glo_ok X Ns a1, glo_ok X Ns a2, oexB_ok a3, a4, a5, a6, a7, a8, a9, ?_, d⟩
  split at a10
  · rename_i v e
    rw [e, beq_iff_eq.mp a10]
  · cases a10
theorem says_tabs (c : Says fa fn ts tu tf cs sd fw tb sg w h K) : TabsAt K h := fun n hn hl => by
  have e := (says_ex c).2.1
  unfold lamEx at e
  simp only [Bool.and_eq_true] at e
  have e1 := List.all_eq_true.mp e.1 n hn
  rw [hl] at e1
  simp only [Bool.not_true, Bool.false_or, List.any_eq_true, decide_eq_true_eq] at e1
  obtain ⟨p, hp, rfl⟩ := e1
  exact ⟨c.empty _ hp, c.out _ hp⟩
theorem says_exc (c : Says fa fn ts tu tf cs sd fw tb sg w h K) (X : K.In h) (Ns : h.Ns mainGlobals mg) : ∀ j, cs.contains j = true → ExcF K mg j := fun j hj => by
  have e := List.all_eq_true.mp (says_ex c).2.2.1 j (List.contains_iff_mem.mp hj)
  simp only [Bool.and_eq_true] at e
  obtain ⟨h1, h2, h3, h4⟩ := exc_ok e.2
  exact ⟨glo_ok X Ns e.1, h1, h2, h3, h4⟩
theorem says_glo (c : Says fa fn ts tu tf cs true fw tb sg w h K) (X : K.In h) (Ns : h.Ns mainGlobals mg) : ∀ j, j < 13 → mg (excN j) = some (.ref (ga K (excN j))) := fun j hj => by
  have e := ((says_ex c).2.2.2 rfl).1
  unfold saidB at e
  simp only [Bool.and_eq_true] at e
  refine glo_ok X Ns (List.all_eq_true.mp e.2 j ?_)
  by_cases h0 : j = 0
  · rw [h0]; exact List.mem_cons_self
  · exact List.mem_cons_of_mem _ (in12 (by omega) hj)
theorem says_tel (c : Says fa fn ts tu tf cs true fw tb sg w h K) : ∀ j, 1 ≤ j → j < 13 → ExcT K j := fun j h1 h2 => by
  have e := ((says_ex c).2.2.2 rfl).1
  unfold saidB at e
  simp only [Bool.and_eq_true] at e
  exact excTB_ok (Bool.and_eq_true_iff.mp (List.all_eq_true.mp e.1 j (in12 h1 h2))).1
theorem says_pin (c : Says fa fn ts tu tf cs true fw tb sg w h K) : ∀ j, 1 ≤ j → j < 13 → PySem.W.kitOne K (.ref (ga K (excN j))) (.ref (ga K (excN 0))) = some true := fun j h1 h2 => by
  have e := ((says_ex c).2.2.2 rfl).1
  unfold saidB at e
  simp only [Bool.and_eq_true] at e
  have z := (Bool.and_eq_true_iff.mp (List.all_eq_true.mp e.1 j (in12 h1 h2))).2
  exact of_decide_eq_true z
def VOk (K : PySem.W.Frag) (mg : Str → Option Value) (p : Str × P) : Prop := ∃ u v, mg p.1 = some u ∧ RelV v u ∧ ∀ rho gh H, RD K rho gh H (glD p.2) v
theorem v_int (X : K.In h) (Ns : h.Ns mainGlobals mg) {x : Str} {i : Int} (c : (Fa.int x i).ok K = true) : VOk K mg (x, .int i) := by
  obtain ⟨t, e⟩ := int_ok X Ns c
  exact ⟨_, .int i, e, ⟨t, rfl⟩, fun rho gh H => by show RP K (rho ++ gh) H (.int i) (.int i); simp only [RP]⟩
theorem v_str (X : K.In h) (Ns : h.Ns mainGlobals mg) {x z : Str} (c : (Fa.str x z).ok K = true) : VOk K mg (x, .str z) := by
  obtain ⟨t, e⟩ := str_ok X Ns c
  exact ⟨_, .str z, e, ⟨t, rfl⟩, fun rho gh H => by show RP K (rho ++ gh) H (.str z) (.str z); simp only [RP]⟩
def flat : P → Option Dv
  | .none => some .non
  | .bool b => some (.bl b)
  | .int i => some (.int i)
  | .str x => some (.str x)
  | _ => none
def flats : List P → Option (List Dv)
  | [] => some []
  | d :: r => (match flat d, flats r with
    | some a, some l => some (a :: l)
    | _, _ => none)
theorem all_nil {A : Type} {Q : A → Prop} : ∀ p ∈ ([] : List A), Q p := fun _ h => nomatch h
theorem all_cons {A : Type} {Q : A → Prop} {a : A} {l : List A} (h : Q a) (t : ∀ p ∈ l, Q p) : ∀ p ∈ a :: l, Q p := fun p hp => (List.mem_cons.mp hp).elim (fun e => e ▸ h) (t p)
theorem no_kw {l : List (Nat × List Str × List Nat)} (k : Nat) (h : (l.all fun p => !decide (p.1 = k)) = true) (ks : List Str) (perm : List Nat) : (k, ks, perm) ∉ l := fun m => by
  have z := List.all_eq_true.mp h _ m
  simp at z
def oneOf (x : List Str × List Nat) : List (List Str × List Nat) → Prop
  | [] => False
  | m :: r => x = m ∨ oneOf x r
theorem one_of {x : List Str × List Nat} : ∀ {l : List (List Str × List Nat)}, x ∈ l → oneOf x l
  | [], h => nomatch h
  | m :: r, h => (List.mem_cons.mp h).elim .inl fun z => .inr (one_of z)
theorem kw_of {l : List (Nat × List Str × List Nat)} (k : Nat) (ms : List (List Str × List Nat)) (h : (l.all fun p => !decide (p.1 = k) || decide (p.2 ∈ ms)) = true) {ks : List Str} {perm : List Nat} (m : (k, ks, perm) ∈ l) : oneOf (ks, perm) ms := by
  have z := List.all_eq_true.mp h _ m
  simp only [decide_true, Bool.not_true, Bool.false_or, decide_eq_true_eq] at z
  exact one_of z
theorem tfn_of {fn : MFn} {params : Arguments} {body : List Stmt} {scope : Scope} {a : Addr} {fd : FuncData} (F : FunD K fn.name fn.name params body scope [] [] a fd) (ad : a = fAd K (fn.name, none)) (g : mg fn.name = some (.ref a))
    (b : ∀ (kV doc pm : Value) (an : Option Addr) (cdv ct : Value) (us : List Value), us.length = fn.ps.length → bindArgs (PySem.W.fnOf fn.name fn.name params body scope .none kV doc pm an cdv ct) ⟨us, []⟩ = pure (fn.ps.zip us))
    (s : C8.scC fn.N fn.ps scope = true) (c : chkS (G.at fn.name) fn.N scope fn.body body = true) (hm : fn.mth = false := by rfl) : TFn K mg G fn a fd :=
  ⟨fun _ => g, fun z => absurd (hm.symm.trans z) (by decide), F.bindsN b, fun _ => ad, params, body, scope, by unfold quaN; rw [hm]; exact F, C8.fnScope_by s, c⟩
theorem kbk_of {x qual : Str} {params : Arguments} {body : List Stmt} {scope : Scope} {f : Addr} {fd : FuncData} (F : FunD K x qual params body scope [] [] f fd) {ps ks : List Str} {perm : List Nat} {mt : Bool}
    (b : ∀ (kV doc pm : Value) (an : Option Addr) (cdv ct u : Value) (ws : List Value), ws.length = ks.length → bindArgs (PySem.W.fnOf x qual params body scope .none kV doc pm an cdv ct) ⟨recv mt u, ks.zip ws⟩ = pure (ps.zip (recv mt u ++ permL perm ws))) : KBk mt fd ps ks perm := by
  obtain ⟨oc, od, dV, kV, doc, pm, an, cdv, ct, osl, rfl, lk, hcd, hD, hK⟩ := F.ex
  rcases hD with ⟨_, rfl⟩ | ⟨e, _⟩
  · exact fun u s ws hl => .of_eq (b kV doc pm an cdv ct u ws hl)
  · exact absurd rfl e
theorem mt_of {T : List MFn} {ms : List Nat} (h : ((List.range T.length).all fun i => match T[i]? with | some fn => ms.contains i == fn.mth | none => true) = true) : ∀ (f : Nat) (fn : MFn), T[f]? = some fn → ms.contains f = fn.mth := fun f fn e => by
  have hf : f < T.length := (List.getElem?_eq_some_iff.mp e).1
  have z := List.all_eq_true.mp h f (List.mem_range.mpr hf)
  rw [e] at z
  exact beq_iff_eq.mp z
end
end M
namespace M
open PySem PySem.Spec PyProof.Rows L2
def cellB : MS := (.seq (.iff (.op .lt (.consA (.var 1) (.consA (.op .len (.consA (.var 0) .nilA)) .nilA))) (.seq (.ret (.op .ix (.consA (.var 0) (.consA (.var 1) .nilA)))) .nil) .nil) (.seq (.ret (.cst (.int 0))) .nil))
def penB : MS := (.seq (.ret (.lst true (.consA (.op .max2 (.consA (.cst (.int 0)) (.consA (.op .sub (.consA (.var 0) (.consA (.op .pow (.consA (.cst (.int 10)) (.consA (.cst (.int 18)) .nilA))) .nilA))) .nilA))) (.consA (.op (.addL false) (.consA (.op .mod (.consA (.var 0) (.consA (.cst (.int 2147483629)) .nilA))) (.consA (.cst (.int 1)) .nilA))) (.consA (.cst (.int 0)) .nilA))))) .nil)
def drawB : MS := (.seq (.iff (.op .gt (.consA (.op .ix (.consA (.var 0) (.consA (.cst (.int 0)) .nilA))) (.consA (.cst (.int 0)) .nilA))) (.seq (.setv 3 (.op .mod (.consA (.op .ix (.consA (.var 0) (.consA (.cst (.int 0)) .nilA))) (.consA (.var 1) .nilA)))) (.seq (.setI (.var 0) (.cst (.int 0)) (.op .fdiv (.consA (.op .ix (.consA (.var 0) (.consA (.cst (.int 0)) .nilA))) (.consA (.var 1) .nilA)))) (.seq (.ret (.var 3)) .nil))) .nil) (.seq (.setI (.var 0) (.cst (.int 2)) (.op (.addL false) (.consA (.op .ix (.consA (.var 0) (.consA (.cst (.int 2)) .nilA))) (.consA (.cst (.int 1)) .nilA)))) (.seq (.setI (.var 0) (.cst (.int 1)) (.op .mod (.consA (.op (.addL false) (.consA (.op (.addL false) (.consA (.op (.mulL false) (.consA (.op .ix (.consA (.var 0) (.consA (.cst (.int 1)) .nilA))) (.consA (.cst (.int 48271)) .nilA))) (.consA (.op (.mulL false) (.consA (.cst (.int 1009)) (.consA (.op .ix (.consA (.var 0) (.consA (.cst (.int 2)) .nilA))) .nilA))) .nilA))) (.consA (.cst (.int 7)) .nilA))) (.consA (.cst (.int 2147483647)) .nilA)))) (.seq (.setv 2 (.op .mod (.consA (.op (.addL false) (.consA (.op (.addL false) (.consA (.op (.mulL false) (.consA (.op .ix (.consA (.var 0) (.consA (.cst (.int 1)) .nilA))) (.consA (.op .ix (.consA (.var 0) (.consA (.cst (.int 1)) .nilA))) .nilA))) (.consA (.op (.mulL false) (.consA (.cst (.int 69621)) (.consA (.op .ix (.consA (.var 0) (.consA (.cst (.int 1)) .nilA))) .nilA))) .nilA))) (.consA (.cst (.int 11)) .nilA))) (.consA (.cst (.int 2147483629)) .nilA)))) (.seq (.setv 2 (.op .mod (.consA (.op (.addL false) (.consA (.op (.mulL false) (.consA (.var 2) (.consA (.var 2) .nilA))) (.consA (.op (.mulL false) (.consA (.cst (.int 40014)) (.consA (.var 2) .nilA))) .nilA))) (.consA (.cst (.int 2147483587)) .nilA)))) (.seq (.ret (.op .mod (.consA (.op .fdiv (.consA (.var 2) (.consA (.cst (.int 16)) .nilA))) (.consA (.var 1) .nilA)))) .nil))))))
theorem dlt_int (a b : Int) : PySem.W.dataLt (.int a) (.int b) = decide (a < b) := PySem.W.dataLt_int a b
section
variable {k : Bool} {m : MH} {a b : Int}
theorem o_gt : opD .gt [.p (.int a), .p (.int b)] m = .ok [.p (.bool (decide (b < a)))] m := by
  show ok1 (.bool (PySem.W.dataLt (.int b) (.int a))) m = _
  rw [dlt_int]
  rfl
theorem o_lt : opD .lt [.p (.int a), .p (.int b)] m = .ok [.p (.bool (decide (a < b)))] m := by
  show ok1 (.bool (PySem.W.dataLt (.int a) (.int b))) m = _
  rw [dlt_int]
  rfl
theorem o_add : opD (.addL k) [.p (.int a), .p (.int b)] m = .ok [.p (.int (a + b))] m := rfl
theorem o_sub : opD .sub [.p (.int a), .p (.int b)] m = .ok [.p (.int (a - b))] m := rfl
theorem o_mul (h : mulOk a b = true) : opD (.mulL k) [.p (.int a), .p (.int b)] m = .ok [.p (.int (a * b))] m := by
  show (if mulOk a b then ok1 (.int (a * b)) m else .bad) = _
  rw [if_pos h]
  rfl
theorem o_mod (h : 0 < b) : opD .mod [.p (.int a), .p (.int b)] m = .ok [.p (.int (a % b))] m := by
  show (if decide (0 < b) then ok1 (.int (a % b)) m else .bad) = _
  rw [if_pos (by simpa using h)]
  rfl
theorem o_div (h : 0 < b) (h2 : b < 2 ^ 200) : opD .fdiv [.p (.int a), .p (.int b)] m = .ok [.p (.int (a / b))] m := by
  show (if decide (0 < b) && decide (b < 2 ^ 200) then ok1 (.int (a / b)) m else .bad) = _
  rw [if_pos (by simp only [Bool.and_eq_true, decide_eq_true_eq]; exact ⟨h, h2⟩)]
  rfl
theorem o_max2 : opD .max2 [.p (.int a), .p (.int b)] m = .ok [.p (.int (if b > a then b else a))] m := rfl
theorem mul_l (h : small a = true) : mulOk a b = true := by
  unfold mulOk
  rw [h]
  rfl
theorem mul_r (h : small b = true) : mulOk a b = true := by
  unfold mulOk
  rw [h, Bool.or_true]
  rfl
theorem small_of (h1 : -(2 ^ 64) < a) (h2 : a < 2 ^ 64) : small a = true := by
  unfold small
  simp only [Bool.and_eq_true, decide_eq_true_eq]
  exact ⟨h1, h2⟩
end
structure Pen (m : MH) (p : Nat) (a b c : Int) : Prop where
  at_ : m[p]? = some (.lst [.int a, .int b, .int c])
  a0 : 0 ≤ a
  b0 : 0 ≤ b
  b1 : b < 2 ^ 32
theorem draw_ok {T : List MFn} {fuel n f : Nat} {fn : MFn} {keep : Bool} (hf : T[f]? = some fn) (hb : fn.body = drawB) (hp : fn.ps.length = 2) (hN : fn.N.length = 4) {m : MH} {p : Nat} {a b c k : Int} (h : Pen m p a b c) (k0 : 0 < k) (k1 : k < 2 ^ 200) :
    ∃ v a' b' c', callN T fuel (n + 1) keep f [.ref p, .p (.int k)] m = .ok (.p (.int v)) (m.set p (.lst [.int a', .int b', .int c'])) ∧ 0 ≤ v ∧ v < k ∧ 0 ≤ a' ∧ 0 ≤ b' ∧ b' < 2 ^ 32 := by
  have hl : p < m.length := (List.getElem?_eq_some_iff.mp h.at_).1
  have ix : ∀ (m : MH) (x y z : Int), m[p]? = some (.lst [.int x, .int y, .int z]) → opD .ix [.ref p, .p (.int 0)] m = .ok [.p (.int x)] m ∧ opD .ix [.ref p, .p (.int 1)] m = .ok [.p (.int y)] m ∧ opD .ix [.ref p, .p (.int 2)] m = .ok [.p (.int z)] m := fun m x y z e => by
    simp only [opD, d_ix, seqD, e]
    exact ⟨rfl, rfl, rfl⟩
  have ed : startE fn.N [.ref p, .p (.int k)] = [some (.ref p), some (.p (.int k)), none, none] := by
    unfold startE
    rw [hN]
    rfl
  have tk : ∀ (ds : List P), (m.set p (.lst ds)).take m.length = m.set p (.lst ds) := fun ds => List.take_of_length_le (by simp)
  have at' : ∀ ds : List P, (m.set p (.lst ds))[p]? = some (.lst ds) := fun ds => by rw [List.getElem?_set_self hl]
  have ss : ∀ ds es : List P, (m.set p (.lst ds)).set p (.lst es) = m.set p (.lst es) := fun ds es => by rw [List.set_set]
  have kz : (k == 0) = false := by simp; omega
  have q0 : ∀ x y z : P, seqIx [x, y, z].length 0 = some 0 := fun _ _ _ => rfl
  have q1 : ∀ x y z : P, seqIx [x, y, z].length 1 = some 1 := fun _ _ _ => rfl
  have q2 : ∀ x y z : P, seqIx [x, y, z].length 2 = some 2 := fun _ _ _ => rfl
  have cl : callN T fuel (n + 1) keep f [.ref p, .p (.int k)] m = fin keep m.length (exS (callN T fuel n) fuel drawB [some (.ref p), some (.p (.int k)), none, none] m) := by
    unfold callN
    simp only [hf, hp, List.length_cons, List.length_nil, if_true, hb, ed]
  by_cases ha : 0 < a
  · refine ⟨a % k, a / k, b, c, ?_, Int.emod_nonneg _ (by omega), Int.emod_lt_of_pos _ k0, Int.ediv_nonneg h.a0 (by omega), h.b0, h.b1⟩
    obtain ⟨i0, i1, i2⟩ := ix m a b c h.at_
    rw [cl]
    unfold drawB
    simp only [exS, ev, bind_ok, R.go, RS.sq, List.getElem?_cons_zero, List.getElem?_cons_succ, i0, o_gt, truth, decide_eq_true ha, o_mod k0, o_div k0 k1, List.set_cons_zero, List.set_cons_succ, h.at_, q0, q1, q2, fin, back, tk]
  · have ea : a = 0 := by have := h.a0; omega
    have hd : decide (0 < a) = false := by simp; omega
    obtain ⟨i0, i1, i2⟩ := ix m a b c h.at_
    obtain ⟨j0, j1, j2⟩ := ix _ a b (c + 1) (at' [.int a, .int b, .int (c + 1)])
    generalize hb2 : (b * 48271 + 1009 * (c + 1) + 7) % 2147483647 = b2
    have b20 : 0 ≤ b2 := by rw [← hb2]; exact Int.emod_nonneg _ (by decide)
    have b21 : b2 < 2147483647 := by rw [← hb2]; exact Int.emod_lt_of_pos _ (by decide)
    obtain ⟨l0, l1, l2⟩ := ix _ a b2 (c + 1) (at' [.int a, .int b2, .int (c + 1)])
    generalize hm1 : (b2 * b2 + 69621 * b2 + 11) % 2147483629 = m1
    have m10 : 0 ≤ m1 := by rw [← hm1]; exact Int.emod_nonneg _ (by decide)
    have m11 : m1 < 2147483629 := by rw [← hm1]; exact Int.emod_lt_of_pos _ (by decide)
    generalize hm2 : (m1 * m1 + 40014 * m1) % 2147483587 = m2
    have sb : small b2 = true := small_of (by omega) (by omega)
    have sm : small m1 = true := small_of (by omega) (by omega)
    have s1 : small 48271 = true := by decide
    have s2 : small 1009 = true := by decide
    have s3 : small 69621 = true := by decide
    have s4 : small 40014 = true := by decide
    have p1 : (0 : Int) < 2147483647 := by decide
    have p2 : (0 : Int) < 2147483629 := by decide
    have p3 : (0 : Int) < 2147483587 := by decide
    have p4 : (0 : Int) < 16 := by decide
    have p5 : (16 : Int) < 2 ^ 200 := by decide
    refine ⟨m2 / 16 % k, a, b2, c + 1, ?_, Int.emod_nonneg _ (by omega), Int.emod_lt_of_pos _ k0, h.a0, b20, by omega⟩
    rw [cl]
    unfold drawB
    simp only [exS, ev, bind_ok, R.go, RS.sq, List.getElem?_cons_zero, List.getElem?_cons_succ, i0, i1, i2, j0, j1, j2, l0, l1, l2, o_gt, truth, hd, List.set_cons_zero, List.set_cons_succ, h.at_, at', ss, q0, q1, q2, o_add, o_mul (mul_r s1), o_mul (mul_l s2), o_mul (mul_l s3), o_mul (mul_l s4), o_mul (mul_l sb), o_mul (mul_l sm), o_mod p1, o_mod p2, o_mod p3, o_div p4 p5, o_mod k0, hb2, hm1, hm2, fin, back, tk]
theorem cell_ok {T : List MFn} {fuel n f : Nat} {fn : MFn} {keep : Bool} (hf : T[f]? = some fn) (hb : fn.body = cellB) (hp : fn.ps.length = 2) (hN : fn.N.length = 2) {m : MH} {ns : List Int} {k : Int} (k0 : 0 ≤ k) :
    ∃ x : Int, callN T fuel (n + 1) keep f [.ro (ns.map .int), .p (.int k)] m = .ok (.p (.int x)) m := by
  have ed : startE fn.N [.ro (ns.map .int), .p (.int k)] = [some (.ro (ns.map .int)), some (.p (.int k))] := by
    unfold startE
    rw [hN]
    rfl
  have cl : callN T fuel (n + 1) keep f [.ro (ns.map .int), .p (.int k)] m = fin keep m.length (exS (callN T fuel n) fuel cellB [some (.ro (ns.map .int)), some (.p (.int k))] m) := by
    unfold callN
    simp only [hf, hp, List.length_cons, List.length_nil, if_true, hb, ed]
  have ln : opD .len [.ro (ns.map .int)] m = .ok [.p (.int ns.length)] m := by
    simp only [opD, d_len, seqD, List.length_map]
    rfl
  have tk : m.take m.length = m := List.take_length
  rw [cl]
  by_cases h : k < ns.length
  · have hk : seqIx (ns.map PyData.int).length k = some k.toNat := by
      unfold seqIx
      rw [if_pos k0, List.length_map, if_pos h]
    have hl : k.toNat < ns.length := by omega
    have hg : (ns.map PyData.int)[k.toNat]? = some (.int ns[k.toNat]) := by simp [hl]
    have hix : opD .ix [.ro (ns.map .int), .p (.int k)] m = .ok [.p (.int ns[k.toNat])] m := by
      simp only [opD, d_ix, seqD, hk, hg]
      rfl
    refine ⟨ns[k.toNat], ?_⟩
    unfold cellB
    simp only [exS, ev, bind_ok, R.go, RS.sq, List.getElem?_cons_zero, List.getElem?_cons_succ, ln, o_lt, truth, decide_eq_true h, hix, fin, back, tk]
  · have hd : decide (k < ns.length) = false := by simpa using h
    refine ⟨0, ?_⟩
    unfold cellB
    simp only [exS, ev, bind_ok, R.go, RS.sq, List.getElem?_cons_zero, List.getElem?_cons_succ, ln, o_lt, truth, hd, fin, back, tk]
theorem pen_ok {T : List MFn} {fuel n f : Nat} {fn : MFn} (hf : T[f]? = some fn) (hb : fn.body = penB) (hp : fn.ps.length = 1) (hN : fn.N.length = 1) {m : MH} {x : Int} :
    ∃ a b c : Int, callN T fuel (n + 1) true f [.p (.int x)] m = .ok (.ref m.length) (m ++ [.lst [.int a, .int b, .int c]]) ∧ 0 ≤ a ∧ 0 ≤ b ∧ b < 2 ^ 32 := by
  have ed : startE fn.N [.p (.int x)] = [some (.p (.int x))] := by
    unfold startE
    rw [hN]
    rfl
  have cl : callN T fuel (n + 1) true f [.p (.int x)] m = fin true m.length (exS (callN T fuel n) fuel penB [some (.p (.int x))] m) := by
    unfold callN
    simp only [hf, hp, List.length_cons, List.length_nil, if_true, hb, ed]
  have p2 : (0 : Int) < 2147483629 := by decide
  have pw : opD .pow [.p (.int 10), .p (.int 18)] m = .ok [.p (.int 1000000000000000000)] m := rfl
  have h0 := Int.emod_nonneg x (b := 2147483629) (by decide)
  have h1 := Int.emod_lt_of_pos x p2
  refine ⟨if x - 1000000000000000000 > 0 then x - 1000000000000000000 else 0, x % 2147483629 + 1, 0, ?_, ?_, by omega, by omega⟩
  · rw [cl]
    unfold penB
    have nl : ¬ m.length < m.length := Nat.lt_irrefl _
    have ga : ∀ c : Cell, (m ++ [c])[m.length]? = some c := fun c => by simp
    have tk : ∀ c : Cell, (m ++ [c]).take m.length = m := fun c => by simp
    simp only [exS, ev, bind_ok, R.go, RS.sq, List.getElem?_cons_zero, List.getElem?_cons_succ, pw, o_sub, o_max2, o_mod p2, o_add, pures, mkL, fin, back, nl, if_false, ga, tk]
  · split <;> omega
theorem for_eq {cf : CF} {fuel : Nat} {t : MT} {ik : Itk} {it : ME} {b : MS} {env : Ev} {m m1 : MH} {xs : List D} {items : List P} {ck : MH → Bool} (h1 : ev cf it env m = .ok xs m1) (h2 : iterD ik xs m1 = some (items, ck)) :
    exS cf fuel (.forr t ik it b) env m = forGo ck (fun d env m => (match bindT t d env with | some env2 => exS cf fuel b env2 m | none => .bad)) items env m1 := by
  (simp only [exS, h1, R.go, h2]) <;> rfl
end M
namespace Lw
open PySem PySem.Spec PyProof.Rows L2 M
def top (i : Nat) : Stmt := PySem.Challenge.pw_waypins_k05_a_board_by_hand_and_by_names.main.body.getD i (.Pass ⟨0, 0, 0, 0⟩)
def f0 : MFn := ⟨"is_whole", ["thing"], ["thing"], (.seq (.ret (.bop true (.op .isI (.consA (.var 0) .nilA)) (.bone (.nt (.op .isB (.consA (.var 0) .nilA)))))) .nil), false⟩
def d0 : He.DefD := ⟨("is_whole", none), "is_whole", "is_whole", defArgs (top 22), defBody (top 22), defScope (top 22), [], []⟩
def f1 : MFn := ⟨"is_within", ["thing", "least", "most"], ["thing", "least", "most"], (.seq (.ret (.bop true (.call false 0 (.consA (.var 0) .nilA)) (.bone (.chn .le .le (.var 1) (.var 0) (.var 2))))) .nil), false⟩
def d1 : He.DefD := ⟨("is_within", none), "is_within", "is_within", defArgs (top 23), defBody (top 23), defScope (top 23), [], []⟩
def f2 : MFn := ⟨"is_long", ["thing", "least", "most"], ["thing", "least", "most"], (.seq (.ret (.bop true (.op .isT (.consA (.var 0) .nilA)) (.bone (.chn .le .le (.var 1) (.op .len (.consA (.var 0) .nilA)) (.var 2))))) .nil), false⟩
def d2 : He.DefD := ⟨("is_long", none), "is_long", "is_long", defArgs (top 24), defBody (top 24), defScope (top 24), [], []⟩
def f3 : MFn := ⟨"rises", ["row", "one", "later"], ["row"], (.seq (.ret (.op .all (.consA (.lc false (.op .lt (.consA (.var 1) (.consA (.var 2) .nilA))) [1, 2] (.tup (.cons (.v 1) (.cons (.v 2) .nil))) .zip (.consA (.var 0) (.consA (.op (.slL false) (.consA (.var 0) (.consA (.cst (.int 1)) .nilA))) .nilA)) false .nilA) .nilA))) .nil), false⟩
def d3 : He.DefD := ⟨("rises", none), "rises", "rises", defArgs (top 25), defBody (top 25), defScope (top 25), [], []⟩
def f4 : MFn := ⟨"is_way", ["thing"], ["thing"], (.seq (.ret (.bop true (.op .isS (.consA (.var 0) .nilA)) (.bone (.op .inn (.consA (.var 0) (.consA (.tup (.consA (.gl "LEFT" (.str "left")) (.consA (.gl "RIGHT" (.str "right")) .nilA))) .nilA)))))) .nil), false⟩
def d4 : He.DefD := ⟨("is_way", none), "is_way", "is_way", defArgs (top 26), defBody (top 26), defScope (top 26), [], []⟩
def f5 : MFn := ⟨"other_way", ["way"], ["way"], (.seq (.ret (.ife (.op .eq (.consA (.var 0) (.consA (.gl "LEFT" (.str "left")) .nilA))) (.gl "RIGHT" (.str "right")) (.gl "LEFT" (.str "left")))) .nil), false⟩
def d5 : He.DefD := ⟨("other_way", none), "other_way", "other_way", defArgs (top 27), defBody (top 27), defScope (top 27), [], []⟩
def f6 : MFn := ⟨"is_pin_by", ["thing"], ["thing"], (.seq (.iff (.bop false (.nt (.call false 2 (.consA (.var 0) (.consA (.gl "LONG_PIN" (.int 3)) (.consA (.gl "LONG_PIN" (.int 3)) .nilA))))) (.bone (.nt (.call false 4 (.consA (.op .ix (.consA (.var 0) (.consA (.cst (.int 2)) .nilA))) .nilA))))) (.seq (.ret (.cst (.bool false))) .nil) .nil) (.seq (.ret (.bop true (.call false 1 (.consA (.op .ix (.consA (.var 0) (.consA (.cst (.int 0)) .nilA))) (.consA (.cst (.int 0)) (.consA (.gl "MOST_PLACE" (.int 99)) .nilA)))) (.bone (.call false 1 (.consA (.op .ix (.consA (.var 0) (.consA (.cst (.int 1)) .nilA))) (.consA (.cst (.int 0)) (.consA (.gl "MOST_PLACE" (.int 99)) .nilA))))))) .nil)), false⟩
def d6 : He.DefD := ⟨("is_pin_by", none), "is_pin_by", "is_pin_by", defArgs (top 28), defBody (top 28), defScope (top 28), [], []⟩
def f7 : MFn := ⟨"cross", ["one", "other"], ["one", "other"], (.seq (.ret (.op .sub (.consA (.op (.mulL false) (.consA (.op .ix (.consA (.var 0) (.consA (.cst (.int 0)) .nilA))) (.consA (.op .ix (.consA (.var 1) (.consA (.cst (.int 1)) .nilA))) .nilA))) (.consA (.op (.mulL false) (.consA (.op .ix (.consA (.var 0) (.consA (.cst (.int 1)) .nilA))) (.consA (.op .ix (.consA (.var 1) (.consA (.cst (.int 0)) .nilA))) .nilA))) .nilA)))) .nil), false⟩
def d7 : He.DefD := ⟨("cross", none), "cross", "cross", defArgs (top 29), defBody (top 29), defScope (top 29), [], []⟩
def f8 : MFn := ⟨"between", ["board", "one", "other"], ["board", "one", "other"], (.seq (.ret (.tup (.consA (.op .sub (.consA (.op .ix (.consA (.op .ix (.consA (.var 0) (.consA (.var 2) .nilA))) (.consA (.cst (.int 0)) .nilA))) (.consA (.op .ix (.consA (.op .ix (.consA (.var 0) (.consA (.var 1) .nilA))) (.consA (.cst (.int 0)) .nilA))) .nilA))) (.consA (.op .sub (.consA (.op .ix (.consA (.op .ix (.consA (.var 0) (.consA (.var 2) .nilA))) (.consA (.cst (.int 1)) .nilA))) (.consA (.op .ix (.consA (.op .ix (.consA (.var 0) (.consA (.var 1) .nilA))) (.consA (.cst (.int 1)) .nilA))) .nilA))) .nilA)))) .nil), false⟩
def d8 : He.DefD := ⟨("between", none), "between", "between", defArgs (top 30), defBody (top 30), defScope (top 30), [], []⟩
def f9 : MFn := ⟨"pairs_of", ["board", "found", "other", "one"], ["board"], (.seq (.setv 1 (.lst true .nilA)) (.seq (.forr (.v 2) .range1 (.consA (.op .len (.consA (.var 0) .nilA)) .nilA) (.seq (.ex (.meth .extend (.var 1) (.consA (.lc false (.call false 8 (.consA (.var 0) (.consA (.var 3) (.consA (.var 2) .nilA)))) [3] (.v 3) .range1 (.consA (.var 2) .nilA) false .nilA) .nilA))) .nil)) (.seq (.ret (.var 1)) .nil))), false⟩
def d9 : He.DefD := ⟨("pairs_of", none), "pairs_of", "pairs_of", defArgs (top 31), defBody (top 31), defScope (top 31), [], []⟩
def f10 : MFn := ⟨"is_board", ["thing", "some", "other", "at", "one"], ["thing"], (.seq (.iff (.bop false (.nt (.call false 2 (.consA (.var 0) (.consA (.gl "FEWEST_PINS" (.int 3)) (.consA (.gl "MOST_PINS" (.int 8)) .nilA))))) (.bone (.nt (.op .all (.consA (.lc false (.call false 6 (.consA (.var 4) .nilA)) [4] (.v 4) .val (.consA (.var 0) .nilA) false .nilA) .nilA))))) (.seq (.ret (.cst (.bool false))) .nil) .nil) (.seq (.setv 1 (.call false 9 (.consA (.var 0) .nilA))) (.seq (.ret (.op .all (.consA (.lc2 false (.op .ne (.consA (.call false 7 (.consA (.var 4) (.consA (.var 2) .nilA))) (.consA (.cst (.int 0)) .nilA))) [3, 4, 2] (.tup (.cons (.v 3) (.cons (.v 4) .nil))) .enum (.consA (.var 1) .nilA) [2] (.v 2) .val (.consA (.op (.slU false) (.consA (.var 1) (.consA (.var 3) .nilA))) .nilA)) .nilA))) .nil))), false⟩
def d10 : He.DefD := ⟨("is_board", none), "is_board", "is_board", defArgs (top 32), defBody (top 32), defScope (top 32), [], []⟩
def f11 : MFn := ⟨"need_board", ["thing"], ["thing"], (.seq (.iff (.nt (.call false 10 (.consA (.var 0) .nilA))) (.seq (.rais 1) .nil) .nil) .nil), false⟩
def d11 : He.DefD := ⟨("need_board", none), "need_board", "need_board", defArgs (top 33), defBody (top 33), defScope (top 33), [], []⟩
def f12 : MFn := ⟨"need_pin", ["board", "thing"], ["board", "thing"], (.seq (.iff (.nt (.call false 1 (.consA (.var 1) (.consA (.cst (.int 0)) (.consA (.op .sub (.consA (.op .len (.consA (.var 0) .nilA)) (.consA (.cst (.int 1)) .nilA))) .nilA))))) (.seq (.rais 3) .nil) .nil) .nil), false⟩
def d12 : He.DefD := ⟨("need_pin", none), "need_pin", "need_pin", defArgs (top 34), defBody (top 34), defScope (top 34), [], []⟩
def f13 : MFn := ⟨"need_pins", ["board", "thing", "one"], ["board", "thing"], (.seq (.iff (.bop false (.nt (.op .isT (.consA (.var 1) .nilA))) (.bone (.nt (.op .all (.consA (.lc false (.call false 1 (.consA (.var 2) (.consA (.cst (.int 0)) (.consA (.op .sub (.consA (.op .len (.consA (.var 0) .nilA)) (.consA (.cst (.int 1)) .nilA))) .nilA)))) [2] (.v 2) .val (.consA (.var 1) .nilA) false .nilA) .nilA))))) (.seq (.rais 2) .nil) .nil) (.seq (.iff (.nt (.call false 3 (.consA (.var 1) .nilA))) (.seq (.rais 2) .nil) .nil) .nil)), false⟩
def d13 : He.DefD := ⟨("need_pins", none), "need_pins", "need_pins", defArgs (top 35), defBody (top 35), defScope (top 35), [], []⟩
def f14 : MFn := ⟨"with_ways_by", ["board", "pins", "at", "x", "y", "way"], ["board", "pins"], (.seq (.ret (.op .tuple (.consA (.lc false (.tup (.consA (.var 3) (.consA (.var 4) (.consA (.ife (.op .inn (.consA (.var 2) (.consA (.var 1) .nilA))) (.call false 5 (.consA (.var 5) .nilA)) (.var 5)) .nilA)))) [2, 3, 4, 5] (.tup (.cons (.v 2) (.cons (.tup (.cons (.v 3) (.cons (.v 4) (.cons (.v 5) .nil)))) .nil))) .enum (.consA (.var 0) .nilA) false .nilA) .nilA))) .nil), false⟩
def d14 : He.DefD := ⟨("with_ways_by", none), "with_ways_by", "with_ways_by", defArgs (top 36), defBody (top 36), defScope (top 36), [], []⟩
def f15 : MFn := ⟨"with_ways", ["board", "pins"], ["board", "pins"], (.seq (.ex (.call false 11 (.consA (.var 0) .nilA))) (.seq (.ex (.call false 13 (.consA (.var 0) (.consA (.var 1) .nilA)))) (.seq (.ret (.call false 14 (.consA (.var 0) (.consA (.var 1) .nilA)))) .nil))), false⟩
def d15 : He.DefD := ⟨("with_ways", none), "with_ways", "with_ways", defArgs (top 37), defBody (top 37), defScope (top 37), [], []⟩
def f16 : MFn := ⟨"mirrored", ["board", "x", "y", "way"], ["board"], (.seq (.ex (.call false 11 (.consA (.var 0) .nilA))) (.seq (.ret (.op .tuple (.consA (.lc false (.tup (.consA (.op .sub (.consA (.gl "MOST_PLACE" (.int 99)) (.consA (.var 1) .nilA))) (.consA (.var 2) (.consA (.call false 5 (.consA (.var 3) .nilA)) .nilA)))) [1, 2, 3] (.tup (.cons (.v 1) (.cons (.v 2) (.cons (.v 3) .nil)))) .val (.consA (.var 0) .nilA) false .nilA) .nilA))) .nil)), false⟩
def d16 : He.DefD := ⟨("mirrored", none), "mirrored", "mirrored", defArgs (top 38), defBody (top 38), defScope (top 38), [], []⟩
def f17 : MFn := ⟨"without_by", ["board", "pin"], ["board", "pin"], (.seq (.ret (.op (.addL false) (.consA (.op (.slU false) (.consA (.var 0) (.consA (.var 1) .nilA))) (.consA (.op (.slL false) (.consA (.var 0) (.consA (.op (.addL false) (.consA (.var 1) (.consA (.cst (.int 1)) .nilA))) .nilA))) .nilA)))) .nil), false⟩
def d17 : He.DefD := ⟨("without_by", none), "without_by", "without_by", defArgs (top 39), defBody (top 39), defScope (top 39), [], []⟩
def f18 : MFn := ⟨"need_more", ["board", "pin"], ["board", "pin"], (.seq (.ex (.call false 11 (.consA (.var 0) .nilA))) (.seq (.ex (.call false 12 (.consA (.var 0) (.consA (.var 1) .nilA)))) (.seq (.iff (.op .eq (.consA (.op .len (.consA (.var 0) .nilA)) (.consA (.gl "FEWEST_PINS" (.int 3)) .nilA))) (.seq (.raisF (.consA (.op .sub (.consA (.op .len (.consA (.var 0) .nilA)) (.consA (.cst (.int 1)) .nilA))) (.consA (.gl "FEWEST_PINS" (.int 3)) .nilA))) .nil) .nil) .nil))), false⟩
def d18 : He.DefD := ⟨("need_more", none), "need_more", "need_more", defArgs (top 40), defBody (top 40), defScope (top 40), [], []⟩
def f19 : MFn := ⟨"without", ["board", "pin"], ["board", "pin"], (.seq (.ex (.call false 18 (.consA (.var 0) (.consA (.var 1) .nilA)))) (.seq (.ret (.call false 17 (.consA (.var 0) (.consA (.var 1) .nilA)))) .nil)), false⟩
def d19 : He.DefD := ⟨("without", none), "without", "without", defArgs (top 41), defBody (top 41), defScope (top 41), [], []⟩
def f20 : MFn := ⟨"direction", ["board", "one", "other"], ["board", "one", "other"], (.seq (.ex (.call false 11 (.consA (.var 0) .nilA))) (.seq (.ex (.call false 12 (.consA (.var 0) (.consA (.var 1) .nilA)))) (.seq (.ex (.call false 12 (.consA (.var 0) (.consA (.var 2) .nilA)))) (.seq (.iff (.op .eq (.consA (.var 1) (.consA (.var 2) .nilA))) (.seq (.rais 3) .nil) .nil) (.seq (.ret (.call false 8 (.consA (.var 0) (.consA (.var 1) (.consA (.var 2) .nilA))))) .nil))))), false⟩
def d20 : He.DefD := ⟨("direction", none), "direction", "direction", defArgs (top 42), defBody (top 42), defScope (top 42), [], []⟩
def f21 : MFn := ⟨"need_look", ["board", "thing", "one"], ["board", "thing"], (.seq (.iff (.bop false (.nt (.call false 2 (.consA (.var 1) (.consA (.gl "LONG_LOOK" (.int 2)) (.consA (.gl "LONG_LOOK" (.int 2)) .nilA))))) (.bone (.nt (.op .all (.consA (.lc false (.call false 0 (.consA (.var 2) .nilA)) [2] (.v 2) .val (.consA (.var 1) .nilA) false .nilA) .nilA))))) (.seq (.rais 4) .nil) .nil) (.seq (.iff (.nt (.op .all (.consA (.lc false (.op .ne (.consA (.call false 7 (.consA (.var 1) (.consA (.var 2) .nilA))) (.consA (.cst (.int 0)) .nilA))) [2] (.v 2) .val (.consA (.call false 9 (.consA (.var 0) .nilA)) .nilA) false .nilA) .nilA))) (.seq (.rais 4) .nil) .nil) .nil)), false⟩
def d21 : He.DefD := ⟨("need_look", none), "need_look", "need_look", defArgs (top 43), defBody (top 43), defScope (top 43), [], []⟩
def f22 : MFn := ⟨"is_counted", ["board", "own", "look", "pin", "side"], ["board", "own", "look", "pin"], (.seq (.setv 4 (.call false 7 (.consA (.var 2) (.consA (.call false 8 (.consA (.var 0) (.consA (.var 1) (.consA (.var 3) .nilA)))) .nilA)))) (.seq (.ret (.bop true (.op .ne (.consA (.var 3) (.consA (.var 1) .nilA))) (.bone (.op .eq (.consA (.op .gt (.consA (.var 4) (.consA (.cst (.int 0)) .nilA))) (.consA (.op .eq (.consA (.op .ix (.consA (.op .ix (.consA (.var 0) (.consA (.var 3) .nilA))) (.consA (.cst (.int 2)) .nilA))) (.consA (.gl "LEFT" (.str "left")) .nilA))) .nilA)))))) .nil)), false⟩
def d22 : He.DefD := ⟨("is_counted", none), "is_counted", "is_counted", defArgs (top 45), defBody (top 45), defScope (top 45), [], []⟩
def f23 : MFn := ⟨"number_at", ["board", "own", "look", "pin"], ["board", "own", "look"], (.seq (.ret (.meth .count (.lc false (.call false 22 (.consA (.var 0) (.consA (.var 1) (.consA (.var 2) (.consA (.var 3) .nilA))))) [3] (.v 3) .range1 (.consA (.op .len (.consA (.var 0) .nilA)) .nilA) false .nilA) (.consA (.cst (.bool true)) .nilA))) .nil), false⟩
def d23 : He.DefD := ⟨("number_at", none), "number_at", "number_at", defArgs (top 46), defBody (top 46), defScope (top 46), [], []⟩
def f24 : MFn := ⟨"need_seen", ["board", "look"], ["board", "look"], (.seq (.ex (.call false 11 (.consA (.var 0) .nilA))) (.seq (.ex (.call false 21 (.consA (.var 0) (.consA (.var 1) .nilA)))) .nil)), false⟩
def d24 : He.DefD := ⟨("need_seen", none), "need_seen", "need_seen", defArgs (top 47), defBody (top 47), defScope (top 47), [], []⟩
def f25 : MFn := ⟨"order_by", ["board", "look", "rows", "at", "pin", "far"], ["board", "look"], (.seq (.setv 2 (.op (.sorted false) (.consA (.lc false (.tup (.consA (.call false 7 (.consA (.var 1) (.consA (.op (.slU false) (.consA (.var 4) (.consA (.cst (.int 2)) .nilA))) .nilA))) (.consA (.var 3) .nilA))) [3, 4] (.tup (.cons (.v 3) (.cons (.v 4) .nil))) .enum (.consA (.var 0) .nilA) false .nilA) .nilA))) (.seq (.ret (.op .tuple (.consA (.lc false (.var 3) [5, 3] (.tup (.cons (.v 5) (.cons (.v 3) .nil))) .val (.consA (.op (.rev false) (.consA (.var 2) .nilA)) .nilA) false .nilA) .nilA))) .nil)), false⟩
def d25 : He.DefD := ⟨("order_by", none), "order_by", "order_by", defArgs (top 48), defBody (top 48), defScope (top 48), [], []⟩
def f26 : MFn := ⟨"order", ["board", "look"], ["board", "look"], (.seq (.ex (.call false 24 (.consA (.var 0) (.consA (.var 1) .nilA)))) (.seq (.ret (.call false 25 (.consA (.var 0) (.consA (.var 1) .nilA)))) .nil)), false⟩
def d26 : He.DefD := ⟨("order", none), "order", "order", defArgs (top 49), defBody (top 49), defScope (top 49), [], []⟩
def f27 : MFn := ⟨"numbers", ["board", "look", "pin"], ["board", "look"], (.seq (.ex (.call false 24 (.consA (.var 0) (.consA (.var 1) .nilA)))) (.seq (.ret (.op .tuple (.consA (.lc false (.call false 23 (.consA (.var 0) (.consA (.var 2) (.consA (.var 1) .nilA)))) [2] (.v 2) .range1 (.consA (.op .len (.consA (.var 0) .nilA)) .nilA) false .nilA) .nilA))) .nil)), false⟩
def d27 : He.DefD := ⟨("numbers", none), "numbers", "numbers", defArgs (top 50), defBody (top 50), defScope (top 50), [], []⟩
def f28 : MFn := ⟨"heights", ["board", "look", "found", "at", "pin"], ["board", "look"], (.seq (.ex (.call false 24 (.consA (.var 0) (.consA (.var 1) .nilA)))) (.seq (.setv 2 (.lst true (.consA (.meth .count (.lc false (.op .ix (.consA (.var 4) (.consA (.cst (.int 2)) .nilA))) [4] (.v 4) .val (.consA (.var 0) .nilA) false .nilA) (.consA (.gl "RIGHT" (.str "right")) .nilA)) .nilA))) (.seq (.forr (.v 3) .val (.consA (.call false 25 (.consA (.var 0) (.consA (.var 1) .nilA))) .nilA) (.seq (.ex (.meth .append (.var 2) (.consA (.op (.addL false) (.consA (.op .ix (.consA (.var 2) (.consA (.op .neg (.consA (.cst (.int 1)) .nilA)) .nilA))) (.consA (.ife (.op .eq (.consA (.op .ix (.consA (.op .ix (.consA (.var 0) (.consA (.var 3) .nilA))) (.consA (.cst (.int 2)) .nilA))) (.consA (.gl "LEFT" (.str "left")) .nilA))) (.cst (.int 1)) (.op .neg (.consA (.cst (.int 1)) .nilA))) .nilA))) .nilA))) .nil)) (.seq (.ret (.op .tuple (.consA (.var 2) .nilA))) .nil)))), false⟩
def d28 : He.DefD := ⟨("heights", none), "heights", "heights", defArgs (top 51), defBody (top 51), defScope (top 51), [], []⟩
def f29 : MFn := ⟨"need_number", ["thing"], ["thing"], (.seq (.iff (.bop false (.nt (.call false 0 (.consA (.var 0) .nilA))) (.bone (.op .lt (.consA (.var 0) (.consA (.cst (.int 0)) .nilA))))) (.seq (.rais 5) .nil) .nil) .nil), false⟩
def d29 : He.DefD := ⟨("need_number", none), "need_number", "need_number", defArgs (top 52), defBody (top 52), defScope (top 52), [], []⟩
def f30 : MFn := ⟨"of_number", ["board", "number", "look", "at"], ["board", "number", "look"], (.seq (.ex (.call false 11 (.consA (.var 0) .nilA))) (.seq (.ex (.call false 29 (.consA (.var 1) .nilA))) (.seq (.ex (.call false 21 (.consA (.var 0) (.consA (.var 2) .nilA)))) (.seq (.ret (.op .tuple (.consA (.lc false (.var 3) [3] (.v 3) .val (.consA (.call false 25 (.consA (.var 0) (.consA (.var 2) .nilA))) .nilA) true (.op .eq (.consA (.call false 23 (.consA (.var 0) (.consA (.var 3) (.consA (.var 2) .nilA)))) (.consA (.var 1) .nilA)))) .nilA))) .nil)))), false⟩
def d30 : He.DefD := ⟨("of_number", none), "of_number", "of_number", defArgs (top 53), defBody (top 53), defScope (top 53), [], []⟩
def f31 : MFn := ⟨"_law_cell_at", ["_law_script", "_law_k"], ["_law_script", "_law_k"], (.seq (.iff (.op .lt (.consA (.var 1) (.consA (.op .len (.consA (.var 0) .nilA)) .nilA))) (.seq (.ret (.op .ix (.consA (.var 0) (.consA (.var 1) .nilA)))) .nil) .nil) (.seq (.ret (.cst (.int 0))) .nil)), false⟩
def d31 : He.DefD := ⟨("_law_cell_at", none), "_law_cell_at", "_law_cell_at", defArgs (top 55), defBody (top 55), defScope (top 55), [], []⟩
def f32 : MFn := ⟨"_law_pen", ["_law_cell"], ["_law_cell"], (.seq (.ret (.lst true (.consA (.op .max2 (.consA (.cst (.int 0)) (.consA (.op .sub (.consA (.var 0) (.consA (.op .pow (.consA (.cst (.int 10)) (.consA (.cst (.int 18)) .nilA))) .nilA))) .nilA))) (.consA (.op (.addL false) (.consA (.op .mod (.consA (.var 0) (.consA (.cst (.int 2147483629)) .nilA))) (.consA (.cst (.int 1)) .nilA))) (.consA (.cst (.int 0)) .nilA))))) .nil), false⟩
def d32 : He.DefD := ⟨("_law_pen", none), "_law_pen", "_law_pen", defArgs (top 56), defBody (top 56), defScope (top 56), [], []⟩
def f33 : MFn := ⟨"_law_draw", ["_law_pen_here", "_law_count_own", "_law_mixed", "_law_found"], ["_law_pen_here", "_law_count_own"], (.seq (.iff (.op .gt (.consA (.op .ix (.consA (.var 0) (.consA (.cst (.int 0)) .nilA))) (.consA (.cst (.int 0)) .nilA))) (.seq (.setv 3 (.op .mod (.consA (.op .ix (.consA (.var 0) (.consA (.cst (.int 0)) .nilA))) (.consA (.var 1) .nilA)))) (.seq (.setI (.var 0) (.cst (.int 0)) (.op .fdiv (.consA (.op .ix (.consA (.var 0) (.consA (.cst (.int 0)) .nilA))) (.consA (.var 1) .nilA)))) (.seq (.ret (.var 3)) .nil))) .nil) (.seq (.setI (.var 0) (.cst (.int 2)) (.op (.addL false) (.consA (.op .ix (.consA (.var 0) (.consA (.cst (.int 2)) .nilA))) (.consA (.cst (.int 1)) .nilA)))) (.seq (.setI (.var 0) (.cst (.int 1)) (.op .mod (.consA (.op (.addL false) (.consA (.op (.addL false) (.consA (.op (.mulL false) (.consA (.op .ix (.consA (.var 0) (.consA (.cst (.int 1)) .nilA))) (.consA (.cst (.int 48271)) .nilA))) (.consA (.op (.mulL false) (.consA (.cst (.int 1009)) (.consA (.op .ix (.consA (.var 0) (.consA (.cst (.int 2)) .nilA))) .nilA))) .nilA))) (.consA (.cst (.int 7)) .nilA))) (.consA (.cst (.int 2147483647)) .nilA)))) (.seq (.setv 2 (.op .mod (.consA (.op (.addL false) (.consA (.op (.addL false) (.consA (.op (.mulL false) (.consA (.op .ix (.consA (.var 0) (.consA (.cst (.int 1)) .nilA))) (.consA (.op .ix (.consA (.var 0) (.consA (.cst (.int 1)) .nilA))) .nilA))) (.consA (.op (.mulL false) (.consA (.cst (.int 69621)) (.consA (.op .ix (.consA (.var 0) (.consA (.cst (.int 1)) .nilA))) .nilA))) .nilA))) (.consA (.cst (.int 11)) .nilA))) (.consA (.cst (.int 2147483629)) .nilA)))) (.seq (.setv 2 (.op .mod (.consA (.op (.addL false) (.consA (.op (.mulL false) (.consA (.var 2) (.consA (.var 2) .nilA))) (.consA (.op (.mulL false) (.consA (.cst (.int 40014)) (.consA (.var 2) .nilA))) .nilA))) (.consA (.cst (.int 2147483587)) .nilA)))) (.seq (.ret (.op .mod (.consA (.op .fdiv (.consA (.var 2) (.consA (.cst (.int 16)) .nilA))) (.consA (.var 1) .nilA)))) .nil)))))), false⟩
def d33 : He.DefD := ⟨("_law_draw", none), "_law_draw", "_law_draw", defArgs (top 57), defBody (top 57), defScope (top 57), [], []⟩
def f34 : MFn := ⟨"_law_other", ["_law_way"], ["_law_way"], (.seq (.ret (.ife (.op .eq (.consA (.var 0) (.consA (.cst (.str "left")) .nilA))) (.cst (.str "right")) (.cst (.str "left")))) .nil), false⟩
def d34 : He.DefD := ⟨("_law_other", none), "_law_other", "_law_other", defArgs (top 59), defBody (top 59), defScope (top 59), [], []⟩
def f35 : MFn := ⟨"_law_boards_right", ["_law_three", "_law_four", "_law_x", "_law_y", "_law_way"], ["_law_three", "_law_four"], (.seq (.iff (.bop false (.op .isnC (.consA (.callk false 10 [0] (.consA (.var 0) .nilA)) (.consA (.cst (.bool true)) .nilA))) (.bone (.op .ne (.consA (.callk false 20 [2, 1, 0] (.consA (.cst (.int 2)) (.consA (.cst (.int 1)) (.consA (.var 0) .nilA)))) (.consA (.tup (.consA (.op .neg (.consA (.cst (.int 29)) .nilA)) (.consA (.cst (.int 26)) .nilA))) .nilA))))) (.seq (.ret (.cst (.bool false))) .nil) .nil) (.seq (.iff (.op .ne (.consA (.callk false 16 [0] (.consA (.var 0) .nilA)) (.consA (.op .tuple (.consA (.lc false (.tup (.consA (.op .sub (.consA (.cst (.int 99)) (.consA (.var 2) .nilA))) (.consA (.var 3) (.consA (.call false 34 (.consA (.var 4) .nilA)) .nilA)))) [2, 3, 4] (.tup (.cons (.v 2) (.cons (.v 3) (.cons (.v 4) .nil)))) .val (.consA (.var 0) .nilA) false .nilA) .nilA)) .nilA))) (.seq (.ret (.cst (.bool false))) .nil) .nil) (.seq (.iff (.op .ne (.consA (.callk false 15 [1, 0] (.consA (.tup (.consA (.cst (.int 1)) .nilA)) (.consA (.var 0) .nilA))) (.consA (.tup (.consA (.op .ix (.consA (.var 0) (.consA (.cst (.int 0)) .nilA))) (.consA (.tup (.consA (.cst (.int 40)) (.consA (.cst (.int 3)) (.consA (.call false 34 (.consA (.op .ix (.consA (.op .ix (.consA (.var 0) (.consA (.cst (.int 1)) .nilA))) (.consA (.cst (.int 2)) .nilA))) .nilA)) .nilA)))) (.consA (.op .ix (.consA (.var 0) (.consA (.cst (.int 2)) .nilA))) .nilA)))) .nilA))) (.seq (.ret (.cst (.bool false))) .nil) .nil) (.seq (.ret (.bop true (.op .eq (.consA (.callk false 19 [1, 0] (.consA (.cst (.int 3)) (.consA (.var 1) .nilA))) (.consA (.var 0) .nilA))) (.bone (.op .eq (.consA (.callk false 19 [1, 0] (.consA (.cst (.int 0)) (.consA (.var 1) .nilA))) (.consA (.op (.slL false) (.consA (.var 1) (.consA (.cst (.int 1)) .nilA))) .nilA)))))) .nil)))), false⟩
def d35 : He.DefD := ⟨("_law_boards_right", none), "_law_boards_right", "_law_boards_right", defArgs (top 60), defBody (top 60), defScope (top 60), [], []⟩
def f36 : MFn := ⟨"_law_numbers_right", ["_law_three", "_law_signs", "_law_begin", "_law_row", "_law_owed", "_law_some", "_law_at", "_law_spot"], ["_law_three"], (.seq (.setLc 1 (.lc false (.op .ix (.consA (.lst false (.consA (.op .neg (.consA (.cst (.int 1)) .nilA)) (.consA (.cst (.int 1)) .nilA))) (.consA (.op .int (.consA (.op .eq (.consA (.op .ix (.consA (.op .ix (.consA (.var 0) (.consA (.var 6) .nilA))) (.consA (.cst (.int 2)) .nilA))) (.consA (.cst (.str "left")) .nilA))) .nilA)) .nilA))) [6] (.v 6) .val (.consA (.tup (.consA (.cst (.int 0)) (.consA (.cst (.int 2)) (.consA (.cst (.int 1)) .nilA)))) .nilA) false .nilA)) (.seq (.setv 2 (.meth .count (.var 1) (.consA (.op .neg (.consA (.cst (.int 1)) .nilA)) .nilA))) (.seq (.setv 3 (.lst false (.consA (.var 2) (.consA (.op (.addL false) (.consA (.var 2) (.consA (.op .ix (.consA (.var 1) (.consA (.cst (.int 0)) .nilA))) .nilA))) (.consA (.op (.addL false) (.consA (.op (.addL false) (.consA (.var 2) (.consA (.op .ix (.consA (.var 1) (.consA (.cst (.int 0)) .nilA))) .nilA))) (.consA (.op .ix (.consA (.var 1) (.consA (.cst (.int 1)) .nilA))) .nilA))) (.consA (.op (.addL false) (.consA (.var 2) (.consA (.op .sum (.consA (.var 1) .nilA)) .nilA))) .nilA)))))) (.seq (.iff (.bop false (.op .ne (.consA (.callk false 26 [1, 0] (.consA (.tup (.consA (.cst (.int 0)) (.consA (.cst (.int 1)) .nilA))) (.consA (.var 0) .nilA))) (.consA (.tup (.consA (.cst (.int 0)) (.consA (.cst (.int 2)) (.consA (.cst (.int 1)) .nilA)))) .nilA))) (.bone (.op .ne (.consA (.callk false 28 [1, 0] (.consA (.tup (.consA (.cst (.int 0)) (.consA (.cst (.int 1)) .nilA))) (.consA (.var 0) .nilA))) (.consA (.op .tuple (.consA (.var 3) .nilA)) .nilA))))) (.seq (.ret (.cst (.bool false))) .nil) .nil) (.seq (.setv 4 (.tup (.consA (.op .min1 (.consA (.op (.slU false) (.consA (.var 3) (.consA (.cst (.int 2)) .nilA))) .nilA)) (.consA (.op .min1 (.consA (.op (.slL false) (.consA (.var 3) (.consA (.cst (.int 2)) .nilA))) .nilA)) (.consA (.op .min1 (.consA (.sl3 false (.var 3) (.cst (.int 1)) (.cst (.int 3))) .nilA)) .nilA))))) (.seq (.iff (.op .ne (.consA (.callk false 27 [1, 0] (.consA (.tup (.consA (.cst (.int 0)) (.consA (.cst (.int 1)) .nilA))) (.consA (.var 0) .nilA))) (.consA (.var 4) .nilA))) (.seq (.ret (.cst (.bool false))) .nil) .nil) (.seq (.setv 5 (.op .tuple (.consA (.lc false (.var 7) [7] (.v 7) .val (.consA (.tup (.consA (.cst (.int 0)) (.consA (.cst (.int 2)) (.consA (.cst (.int 1)) .nilA)))) .nilA) true (.op .eq (.consA (.op .ix (.consA (.var 4) (.consA (.var 7) .nilA))) (.consA (.cst (.int 1)) .nilA)))) .nilA))) (.seq (.ret (.op .eq (.consA (.callk false 30 [2, 1, 0] (.consA (.tup (.consA (.cst (.int 0)) (.consA (.cst (.int 1)) .nilA))) (.consA (.cst (.int 1)) (.consA (.var 0) .nilA)))) (.consA (.var 5) .nilA)))) .nil)))))))), false⟩
def d36 : He.DefD := ⟨("_law_numbers_right", none), "_law_numbers_right", "_law_numbers_right", defArgs (top 61), defBody (top 61), defScope (top 61), [], []⟩
def f37 : MFn := ⟨"law", ["_law_script", "_law_k", "_law_pen_here", "_law_lap", "_law_ways", "_law_three", "_law_turn"], ["_law_script"], (.seq .errs (.seq (.forr (.v 1) .range1 (.consA (.op .max2 (.consA (.cst (.int 1)) (.consA (.op .min2 (.consA (.op .len (.consA (.var 0) .nilA)) (.consA (.cst (.int 3)) .nilA))) .nilA))) .nilA) (.seq (.setv 2 (.call true 32 (.consA (.call false 31 (.consA (.var 0) (.consA (.var 1) .nilA))) .nilA))) (.seq (.forr (.v 3) .range1 (.consA (.cst (.int 4)) .nilA) (.seq (.setLc 4 (.lc false (.op .ix (.consA (.lst false (.consA (.cst (.str "left")) (.consA (.cst (.str "right")) .nilA))) (.consA (.call false 33 (.consA (.var 2) (.consA (.cst (.int 2)) .nilA))) .nilA))) [6] (.v 6) .range1 (.consA (.cst (.int 3)) .nilA) false .nilA)) (.seq (.setv 5 (.tup (.consA (.tup (.consA (.cst (.int 0)) (.consA (.cst (.int 0)) (.consA (.op .ix (.consA (.var 4) (.consA (.cst (.int 0)) .nilA))) .nilA)))) (.consA (.tup (.consA (.cst (.int 40)) (.consA (.cst (.int 3)) (.consA (.op .ix (.consA (.var 4) (.consA (.cst (.int 1)) .nilA))) .nilA)))) (.consA (.tup (.consA (.cst (.int 11)) (.consA (.cst (.int 29)) (.consA (.op .ix (.consA (.var 4) (.consA (.cst (.int 2)) .nilA))) .nilA)))) .nilA))))) (.seq (.iff (.bop false (.nt (.call false 35 (.consA (.var 5) (.consA (.op (.addL false) (.consA (.var 5) (.consA (.tup (.consA (.tup (.consA (.cst (.int 60)) (.consA (.cst (.int 50)) (.consA (.op .ix (.consA (.var 4) (.consA (.cst (.int 0)) .nilA))) .nilA)))) .nilA)) .nilA))) .nilA)))) (.bone (.nt (.call false 36 (.consA (.var 5) .nilA))))) (.seq (.ret (.cst (.bool false))) .nil) .nil) .nil)))) .nil))) (.seq (.ret (.cst (.bool true))) .nil))), false⟩
def d37 : He.DefD := ⟨("law", none), "law", "law", defArgs (top 63), defBody (top 63), defScope (top 63), [], []⟩
def T : List MFn := [f0, f1, f2, f3, f4, f5, f6, f7, f8, f9, f10, f11, f12, f13, f14, f15, f16, f17, f18, f19, f20, f21, f22, f23, f24, f25, f26, f27, f28, f29, f30, f31, f32, f33, f34, f35, f36, f37]
def e0 : He.DefD := ⟨("_law_kind", none), "_law_kind", "_law_kind", defArgs (top 58), defBody (top 58), defScope (top 58), [], []⟩
def e1 : He.DefD := ⟨("_law_errors_right", none), "_law_errors_right", "_law_errors_right", defArgs (top 62), defBody (top 62), defScope (top 62), [], []⟩
def ifw : He.DefD := ⟨("TooFew", some "__init__"), "__init__", "TooFew.__init__", defArgs (clsDef (top 13)), defBody (clsDef (top 13)), defScope (clsDef (top 13)), [], []⟩
def fn : List He.DefD := [d0, d1, d2, d3, d4, d5, d6, d7, d8, d9, d10, d11, d12, d13, d14, d15, d16, d17, d18, d19, d20, d21, d22, d23, d24, d25, d26, d27, d28, d29, d30, d31, d32, d33, d34, d35, d36, d37, e0, e1, ifw]
def tf : List He.Defn := [("_law_boards_right", none), ("law", none)]
def cs : List Nat := [1, 2, 3, 4, 5, 6, 7, 8, 9, 10, 11]
def sd : Bool := true
def fw : Bool := true
def tb : Bool := false
def sg : Bool := false
abbrev ts : List He.Tab := []
def fa0 : List He.Fa := [.glo "is_whole", .glo "is_within", .glo "is_long", .glo "rises", .glo "is_way", .glo "other_way", .glo "is_pin_by", .glo "cross", .glo "between", .glo "pairs_of", .glo "is_board", .glo "need_board", .glo "need_pin", .glo "need_pins", .glo "with_ways_by", .glo "with_ways", .glo "mirrored", .glo "without_by"]
def fa1 : List He.Fa := [.glo "need_more", .glo "without", .glo "direction", .glo "need_look", .glo "is_counted", .glo "number_at", .glo "need_seen", .glo "order_by", .glo "order", .glo "numbers", .glo "heights", .glo "need_number", .glo "of_number", .glo "_law_cell_at", .glo "_law_pen", .glo "_law_draw", .glo "_law_other", .glo "_law_boards_right"]
def fa2 : List He.Fa := [.glo "_law_numbers_right", .glo "law", .free "range", .free "all", .free "tuple", .free "isinstance", .free "len", .free "enumerate", .free "max", .free "zip", .free "int", .free "min", .free "sorted", .free "str", .free "sum", .free "ValueError", .free "bool", .glo "_law_kind"]
def fa3 : List He.Fa := [.glo "_law_errors_right", .str "LEFT" "left", .str "RIGHT" "right", .int "LONG_PIN" 3, .int "MOST_PLACE" 99, .int "FEWEST_PINS" 3, .int "MOST_PINS" 8, .int "LONG_LOOK" 2]
def fa : List He.Fa := fa0 ++ fa1 ++ fa2 ++ fa3
def tu : List (Str × List He.Dv) := []
def vs0 : List (Str × P) := [("LEFT", (.str "left")), ("RIGHT", (.str "right")), ("LONG_PIN", (.int 3)), ("MOST_PLACE", (.int 99)), ("FEWEST_PINS", (.int 3)), ("MOST_PINS", (.int 8)), ("LONG_LOOK", (.int 2))]
def nm0 : List Str := ["is_whole", "is_within", "is_long", "rises", "is_way", "other_way", "is_pin_by", "cross", "between", "pairs_of", "is_board", "need_board", "need_pin", "need_pins", "with_ways_by", "with_ways", "mirrored", "without_by"]
def nm1 : List Str := ["need_more", "without", "direction", "need_look", "is_counted", "number_at", "need_seen", "order_by", "order", "numbers", "heights", "need_number", "of_number", "_law_cell_at", "_law_pen", "_law_draw", "_law_other", "_law_boards_right"]
def nm2 : List Str := ["_law_numbers_right", "law"]
def bs : List Str := ["range", "all", "tuple", "isinstance", "len", "enumerate", "max", "zip", "int", "min", "sorted", "str", "sum", "ValueError", "bool"]
def kw : List (Nat × List Str × List Nat) := [(20, ["other", "one", "board"], [2, 1, 0]), (10, ["thing"], [0]), (16, ["board"], [0]), (15, ["pins", "board"], [1, 0]), (19, ["pin", "board"], [1, 0]), (28, ["look", "board"], [1, 0]), (26, ["look", "board"], [1, 0]), (27, ["look", "board"], [1, 0]), (30, ["look", "number", "board"], [2, 1, 0]), (1000000, [], [])]
def G : Gs := ⟨vs0, bs, nm0 ++ nm1 ++ nm2, kw, false, cs, fw, tb, none, [], false, sg⟩
def lo0 : List Str := ["PinError", "NoBoard", "NoPins", "NoPin", "NoLook", "NoNumber", "NoStand", "NoRow", "NotLaid", "NoDeed", "NoText", "NoLine", "TooFew", "LEFT", "RIGHT", "MOST_PLACE", "FEWEST_PINS", "MOST_PINS"]
def lo1 : List Str := ["LONG_PIN", "LONG_LOOK", "is_whole", "is_within", "is_long", "rises", "is_way", "other_way", "is_pin_by", "cross", "between", "pairs_of", "is_board", "need_board", "need_pin", "need_pins", "with_ways_by", "with_ways"]
def lo2 : List Str := ["mirrored", "without_by", "need_more", "without", "direction", "need_look", "is_counted", "number_at", "need_seen", "order_by", "order", "numbers", "heights", "need_number", "of_number", "_law_cell_at", "_law_pen", "_law_draw"]
def lo3 : List Str := ["_law_kind", "_law_other", "_law_boards_right", "_law_numbers_right", "_law_errors_right"]
def loose : List Str := lo0 ++ lo1 ++ lo2 ++ lo3
abbrev Rw : PySem.W.OpenRow := PySem.W.OpenLaw.row PySem.Challenge.rw_waypins_k05_a_board_by_hand_and_by_names
abbrev hk : PySem.W.Hook := hookY 5 fa fn tf (exB tu tf cs sd fw tb sg)
def ob (s : PySem.W.SharedT) : He.AlX := obsY 5 fa fn tf (exB tu tf cs sd fw tb sg) (HandSHeadRun.getT s)
theorem ob_eq (s : PySem.W.SharedT) : ob s = hk.obs s.abs := obsY_eq (HandSHeadRun.getT_eq s)
theorem run (w : World) : HandSHeadRun.RunEq Rw (PySem.W.view Rw.prog [63]) hk ob 20000 loose w := by
  intro os
  kernel_rfl
section
variable {K : PySem.W.Frag} {mg : Str → Option Value} {h : Heap} {w : World}
theorem c0 : chkS (G.at f0.name) f0.N (defScope (top 22)) f0.body (defBody (top 22)) = true := by decide +kernel
theorem t0 (X : K.In h) (Ns : h.Ns mainGlobals mg) (c : Says fa fn ts tu tf cs sd fw tb sg w h K) : ∃ a fd, TFn K mg G f0 a fd ∧ (∀ ks perm, (0, ks, perm) ∈ G.kws → KBk f0.mth fd f0.ps ks perm) := by
  obtain ⟨fd, F⟩ := (says_d c).def_ 0 (d := d0) rfl
  refine ⟨_, fd, tfn_of F rfl (He.glo_ok X Ns ((says_d c).fact 0 (f := .glo "is_whole") rfl)) (fun _ _ _ _ _ _ us hl => match us, hl with | [_], _ => rfl) (by decide +kernel) c0, ?_⟩
  · intro ks perm hp
    exact absurd hp (no_kw 0 (by decide +kernel) ks perm)
theorem c1 : chkS (G.at f1.name) f1.N (defScope (top 23)) f1.body (defBody (top 23)) = true := by decide +kernel
theorem t1 (X : K.In h) (Ns : h.Ns mainGlobals mg) (c : Says fa fn ts tu tf cs sd fw tb sg w h K) : ∃ a fd, TFn K mg G f1 a fd ∧ (∀ ks perm, (1, ks, perm) ∈ G.kws → KBk f1.mth fd f1.ps ks perm) := by
  obtain ⟨fd, F⟩ := (says_d c).def_ 1 (d := d1) rfl
  refine ⟨_, fd, tfn_of F rfl (He.glo_ok X Ns ((says_d c).fact 1 (f := .glo "is_within") rfl)) (fun _ _ _ _ _ _ us hl => match us, hl with | [_, _, _], _ => rfl) (by decide +kernel) c1, ?_⟩
  · intro ks perm hp
    exact absurd hp (no_kw 1 (by decide +kernel) ks perm)
theorem c2 : chkS (G.at f2.name) f2.N (defScope (top 24)) f2.body (defBody (top 24)) = true := by decide +kernel
theorem t2 (X : K.In h) (Ns : h.Ns mainGlobals mg) (c : Says fa fn ts tu tf cs sd fw tb sg w h K) : ∃ a fd, TFn K mg G f2 a fd ∧ (∀ ks perm, (2, ks, perm) ∈ G.kws → KBk f2.mth fd f2.ps ks perm) := by
  obtain ⟨fd, F⟩ := (says_d c).def_ 2 (d := d2) rfl
  refine ⟨_, fd, tfn_of F rfl (He.glo_ok X Ns ((says_d c).fact 2 (f := .glo "is_long") rfl)) (fun _ _ _ _ _ _ us hl => match us, hl with | [_, _, _], _ => rfl) (by decide +kernel) c2, ?_⟩
  · intro ks perm hp
    exact absurd hp (no_kw 2 (by decide +kernel) ks perm)
theorem c3 : chkS (G.at f3.name) f3.N (defScope (top 25)) f3.body (defBody (top 25)) = true := by decide +kernel
theorem t3 (X : K.In h) (Ns : h.Ns mainGlobals mg) (c : Says fa fn ts tu tf cs sd fw tb sg w h K) : ∃ a fd, TFn K mg G f3 a fd ∧ (∀ ks perm, (3, ks, perm) ∈ G.kws → KBk f3.mth fd f3.ps ks perm) := by
  obtain ⟨fd, F⟩ := (says_d c).def_ 3 (d := d3) rfl
  refine ⟨_, fd, tfn_of F rfl (He.glo_ok X Ns ((says_d c).fact 3 (f := .glo "rises") rfl)) (fun _ _ _ _ _ _ us hl => match us, hl with | [_], _ => rfl) (by decide +kernel) c3, ?_⟩
  · intro ks perm hp
    exact absurd hp (no_kw 3 (by decide +kernel) ks perm)
theorem c4 : chkS (G.at f4.name) f4.N (defScope (top 26)) f4.body (defBody (top 26)) = true := by decide +kernel
theorem t4 (X : K.In h) (Ns : h.Ns mainGlobals mg) (c : Says fa fn ts tu tf cs sd fw tb sg w h K) : ∃ a fd, TFn K mg G f4 a fd ∧ (∀ ks perm, (4, ks, perm) ∈ G.kws → KBk f4.mth fd f4.ps ks perm) := by
  obtain ⟨fd, F⟩ := (says_d c).def_ 4 (d := d4) rfl
  refine ⟨_, fd, tfn_of F rfl (He.glo_ok X Ns ((says_d c).fact 4 (f := .glo "is_way") rfl)) (fun _ _ _ _ _ _ us hl => match us, hl with | [_], _ => rfl) (by decide +kernel) c4, ?_⟩
  · intro ks perm hp
    exact absurd hp (no_kw 4 (by decide +kernel) ks perm)
theorem c5 : chkS (G.at f5.name) f5.N (defScope (top 27)) f5.body (defBody (top 27)) = true := by decide +kernel
theorem t5 (X : K.In h) (Ns : h.Ns mainGlobals mg) (c : Says fa fn ts tu tf cs sd fw tb sg w h K) : ∃ a fd, TFn K mg G f5 a fd ∧ (∀ ks perm, (5, ks, perm) ∈ G.kws → KBk f5.mth fd f5.ps ks perm) := by
  obtain ⟨fd, F⟩ := (says_d c).def_ 5 (d := d5) rfl
  refine ⟨_, fd, tfn_of F rfl (He.glo_ok X Ns ((says_d c).fact 5 (f := .glo "other_way") rfl)) (fun _ _ _ _ _ _ us hl => match us, hl with | [_], _ => rfl) (by decide +kernel) c5, ?_⟩
  · intro ks perm hp
    exact absurd hp (no_kw 5 (by decide +kernel) ks perm)
theorem c6 : chkS (G.at f6.name) f6.N (defScope (top 28)) f6.body (defBody (top 28)) = true := by decide +kernel
theorem t6 (X : K.In h) (Ns : h.Ns mainGlobals mg) (c : Says fa fn ts tu tf cs sd fw tb sg w h K) : ∃ a fd, TFn K mg G f6 a fd ∧ (∀ ks perm, (6, ks, perm) ∈ G.kws → KBk f6.mth fd f6.ps ks perm) := by
  obtain ⟨fd, F⟩ := (says_d c).def_ 6 (d := d6) rfl
  refine ⟨_, fd, tfn_of F rfl (He.glo_ok X Ns ((says_d c).fact 6 (f := .glo "is_pin_by") rfl)) (fun _ _ _ _ _ _ us hl => match us, hl with | [_], _ => rfl) (by decide +kernel) c6, ?_⟩
  · intro ks perm hp
    exact absurd hp (no_kw 6 (by decide +kernel) ks perm)
theorem c7 : chkS (G.at f7.name) f7.N (defScope (top 29)) f7.body (defBody (top 29)) = true := by decide +kernel
theorem t7 (X : K.In h) (Ns : h.Ns mainGlobals mg) (c : Says fa fn ts tu tf cs sd fw tb sg w h K) : ∃ a fd, TFn K mg G f7 a fd ∧ (∀ ks perm, (7, ks, perm) ∈ G.kws → KBk f7.mth fd f7.ps ks perm) := by
  obtain ⟨fd, F⟩ := (says_d c).def_ 7 (d := d7) rfl
  refine ⟨_, fd, tfn_of F rfl (He.glo_ok X Ns ((says_d c).fact 7 (f := .glo "cross") rfl)) (fun _ _ _ _ _ _ us hl => match us, hl with | [_, _], _ => rfl) (by decide +kernel) c7, ?_⟩
  · intro ks perm hp
    exact absurd hp (no_kw 7 (by decide +kernel) ks perm)
theorem c8 : chkS (G.at f8.name) f8.N (defScope (top 30)) f8.body (defBody (top 30)) = true := by decide +kernel
theorem t8 (X : K.In h) (Ns : h.Ns mainGlobals mg) (c : Says fa fn ts tu tf cs sd fw tb sg w h K) : ∃ a fd, TFn K mg G f8 a fd ∧ (∀ ks perm, (8, ks, perm) ∈ G.kws → KBk f8.mth fd f8.ps ks perm) := by
  obtain ⟨fd, F⟩ := (says_d c).def_ 8 (d := d8) rfl
  refine ⟨_, fd, tfn_of F rfl (He.glo_ok X Ns ((says_d c).fact 8 (f := .glo "between") rfl)) (fun _ _ _ _ _ _ us hl => match us, hl with | [_, _, _], _ => rfl) (by decide +kernel) c8, ?_⟩
  · intro ks perm hp
    exact absurd hp (no_kw 8 (by decide +kernel) ks perm)
theorem c9 : chkS (G.at f9.name) f9.N (defScope (top 31)) f9.body (defBody (top 31)) = true := by decide +kernel
theorem t9 (X : K.In h) (Ns : h.Ns mainGlobals mg) (c : Says fa fn ts tu tf cs sd fw tb sg w h K) : ∃ a fd, TFn K mg G f9 a fd ∧ (∀ ks perm, (9, ks, perm) ∈ G.kws → KBk f9.mth fd f9.ps ks perm) := by
  obtain ⟨fd, F⟩ := (says_d c).def_ 9 (d := d9) rfl
  refine ⟨_, fd, tfn_of F rfl (He.glo_ok X Ns ((says_d c).fact 9 (f := .glo "pairs_of") rfl)) (fun _ _ _ _ _ _ us hl => match us, hl with | [_], _ => rfl) (by decide +kernel) c9, ?_⟩
  · intro ks perm hp
    exact absurd hp (no_kw 9 (by decide +kernel) ks perm)
theorem c10 : chkS (G.at f10.name) f10.N (defScope (top 32)) f10.body (defBody (top 32)) = true := by decide +kernel
theorem t10 (X : K.In h) (Ns : h.Ns mainGlobals mg) (c : Says fa fn ts tu tf cs sd fw tb sg w h K) : ∃ a fd, TFn K mg G f10 a fd ∧ (∀ ks perm, (10, ks, perm) ∈ G.kws → KBk f10.mth fd f10.ps ks perm) := by
  obtain ⟨fd, F⟩ := (says_d c).def_ 10 (d := d10) rfl
  refine ⟨_, fd, tfn_of F rfl (He.glo_ok X Ns ((says_d c).fact 10 (f := .glo "is_board") rfl)) (fun _ _ _ _ _ _ us hl => match us, hl with | [_], _ => rfl) (by decide +kernel) c10, ?_⟩
  · intro ks perm hp
    rcases (kw_of 10 [(["thing"], [0])] (by decide +kernel) hp) with e | e
    · obtain ⟨rfl, rfl⟩ := (Prod.mk.injEq _ _ _ _).mp e
      exact kbk_of F fun _ _ _ _ _ _ _ ws hl => match ws, hl with | [_], _ => rfl
    · exact e.elim
theorem c11 : chkS (G.at f11.name) f11.N (defScope (top 33)) f11.body (defBody (top 33)) = true := by decide +kernel
theorem t11 (X : K.In h) (Ns : h.Ns mainGlobals mg) (c : Says fa fn ts tu tf cs sd fw tb sg w h K) : ∃ a fd, TFn K mg G f11 a fd ∧ (∀ ks perm, (11, ks, perm) ∈ G.kws → KBk f11.mth fd f11.ps ks perm) := by
  obtain ⟨fd, F⟩ := (says_d c).def_ 11 (d := d11) rfl
  refine ⟨_, fd, tfn_of F rfl (He.glo_ok X Ns ((says_d c).fact 11 (f := .glo "need_board") rfl)) (fun _ _ _ _ _ _ us hl => match us, hl with | [_], _ => rfl) (by decide +kernel) c11, ?_⟩
  · intro ks perm hp
    exact absurd hp (no_kw 11 (by decide +kernel) ks perm)
theorem c12 : chkS (G.at f12.name) f12.N (defScope (top 34)) f12.body (defBody (top 34)) = true := by decide +kernel
theorem t12 (X : K.In h) (Ns : h.Ns mainGlobals mg) (c : Says fa fn ts tu tf cs sd fw tb sg w h K) : ∃ a fd, TFn K mg G f12 a fd ∧ (∀ ks perm, (12, ks, perm) ∈ G.kws → KBk f12.mth fd f12.ps ks perm) := by
  obtain ⟨fd, F⟩ := (says_d c).def_ 12 (d := d12) rfl
  refine ⟨_, fd, tfn_of F rfl (He.glo_ok X Ns ((says_d c).fact 12 (f := .glo "need_pin") rfl)) (fun _ _ _ _ _ _ us hl => match us, hl with | [_, _], _ => rfl) (by decide +kernel) c12, ?_⟩
  · intro ks perm hp
    exact absurd hp (no_kw 12 (by decide +kernel) ks perm)
theorem c13 : chkS (G.at f13.name) f13.N (defScope (top 35)) f13.body (defBody (top 35)) = true := by decide +kernel
theorem t13 (X : K.In h) (Ns : h.Ns mainGlobals mg) (c : Says fa fn ts tu tf cs sd fw tb sg w h K) : ∃ a fd, TFn K mg G f13 a fd ∧ (∀ ks perm, (13, ks, perm) ∈ G.kws → KBk f13.mth fd f13.ps ks perm) := by
  obtain ⟨fd, F⟩ := (says_d c).def_ 13 (d := d13) rfl
  refine ⟨_, fd, tfn_of F rfl (He.glo_ok X Ns ((says_d c).fact 13 (f := .glo "need_pins") rfl)) (fun _ _ _ _ _ _ us hl => match us, hl with | [_, _], _ => rfl) (by decide +kernel) c13, ?_⟩
  · intro ks perm hp
    exact absurd hp (no_kw 13 (by decide +kernel) ks perm)
theorem c14 : chkS (G.at f14.name) f14.N (defScope (top 36)) f14.body (defBody (top 36)) = true := by decide +kernel
theorem t14 (X : K.In h) (Ns : h.Ns mainGlobals mg) (c : Says fa fn ts tu tf cs sd fw tb sg w h K) : ∃ a fd, TFn K mg G f14 a fd ∧ (∀ ks perm, (14, ks, perm) ∈ G.kws → KBk f14.mth fd f14.ps ks perm) := by
  obtain ⟨fd, F⟩ := (says_d c).def_ 14 (d := d14) rfl
  refine ⟨_, fd, tfn_of F rfl (He.glo_ok X Ns ((says_d c).fact 14 (f := .glo "with_ways_by") rfl)) (fun _ _ _ _ _ _ us hl => match us, hl with | [_, _], _ => rfl) (by decide +kernel) c14, ?_⟩
  · intro ks perm hp
    exact absurd hp (no_kw 14 (by decide +kernel) ks perm)
theorem c15 : chkS (G.at f15.name) f15.N (defScope (top 37)) f15.body (defBody (top 37)) = true := by decide +kernel
theorem t15 (X : K.In h) (Ns : h.Ns mainGlobals mg) (c : Says fa fn ts tu tf cs sd fw tb sg w h K) : ∃ a fd, TFn K mg G f15 a fd ∧ (∀ ks perm, (15, ks, perm) ∈ G.kws → KBk f15.mth fd f15.ps ks perm) := by
  obtain ⟨fd, F⟩ := (says_d c).def_ 15 (d := d15) rfl
  refine ⟨_, fd, tfn_of F rfl (He.glo_ok X Ns ((says_d c).fact 15 (f := .glo "with_ways") rfl)) (fun _ _ _ _ _ _ us hl => match us, hl with | [_, _], _ => rfl) (by decide +kernel) c15, ?_⟩
  · intro ks perm hp
    rcases (kw_of 15 [(["pins", "board"], [1, 0])] (by decide +kernel) hp) with e | e
    · obtain ⟨rfl, rfl⟩ := (Prod.mk.injEq _ _ _ _).mp e
      exact kbk_of F fun _ _ _ _ _ _ _ ws hl => match ws, hl with | [_, _], _ => rfl
    · exact e.elim
theorem c16 : chkS (G.at f16.name) f16.N (defScope (top 38)) f16.body (defBody (top 38)) = true := by decide +kernel
theorem t16 (X : K.In h) (Ns : h.Ns mainGlobals mg) (c : Says fa fn ts tu tf cs sd fw tb sg w h K) : ∃ a fd, TFn K mg G f16 a fd ∧ (∀ ks perm, (16, ks, perm) ∈ G.kws → KBk f16.mth fd f16.ps ks perm) := by
  obtain ⟨fd, F⟩ := (says_d c).def_ 16 (d := d16) rfl
  refine ⟨_, fd, tfn_of F rfl (He.glo_ok X Ns ((says_d c).fact 16 (f := .glo "mirrored") rfl)) (fun _ _ _ _ _ _ us hl => match us, hl with | [_], _ => rfl) (by decide +kernel) c16, ?_⟩
  · intro ks perm hp
    rcases (kw_of 16 [(["board"], [0])] (by decide +kernel) hp) with e | e
    · obtain ⟨rfl, rfl⟩ := (Prod.mk.injEq _ _ _ _).mp e
      exact kbk_of F fun _ _ _ _ _ _ _ ws hl => match ws, hl with | [_], _ => rfl
    · exact e.elim
theorem c17 : chkS (G.at f17.name) f17.N (defScope (top 39)) f17.body (defBody (top 39)) = true := by decide +kernel
theorem t17 (X : K.In h) (Ns : h.Ns mainGlobals mg) (c : Says fa fn ts tu tf cs sd fw tb sg w h K) : ∃ a fd, TFn K mg G f17 a fd ∧ (∀ ks perm, (17, ks, perm) ∈ G.kws → KBk f17.mth fd f17.ps ks perm) := by
  obtain ⟨fd, F⟩ := (says_d c).def_ 17 (d := d17) rfl
  refine ⟨_, fd, tfn_of F rfl (He.glo_ok X Ns ((says_d c).fact 17 (f := .glo "without_by") rfl)) (fun _ _ _ _ _ _ us hl => match us, hl with | [_, _], _ => rfl) (by decide +kernel) c17, ?_⟩
  · intro ks perm hp
    exact absurd hp (no_kw 17 (by decide +kernel) ks perm)
theorem c18 : chkS (G.at f18.name) f18.N (defScope (top 40)) f18.body (defBody (top 40)) = true := by decide +kernel
theorem t18 (X : K.In h) (Ns : h.Ns mainGlobals mg) (c : Says fa fn ts tu tf cs sd fw tb sg w h K) : ∃ a fd, TFn K mg G f18 a fd ∧ (∀ ks perm, (18, ks, perm) ∈ G.kws → KBk f18.mth fd f18.ps ks perm) := by
  obtain ⟨fd, F⟩ := (says_d c).def_ 18 (d := d18) rfl
  refine ⟨_, fd, tfn_of F rfl (He.glo_ok X Ns ((says_d c).fact 18 (f := .glo "need_more") rfl)) (fun _ _ _ _ _ _ us hl => match us, hl with | [_, _], _ => rfl) (by decide +kernel) c18, ?_⟩
  · intro ks perm hp
    exact absurd hp (no_kw 18 (by decide +kernel) ks perm)
theorem c19 : chkS (G.at f19.name) f19.N (defScope (top 41)) f19.body (defBody (top 41)) = true := by decide +kernel
theorem t19 (X : K.In h) (Ns : h.Ns mainGlobals mg) (c : Says fa fn ts tu tf cs sd fw tb sg w h K) : ∃ a fd, TFn K mg G f19 a fd ∧ (∀ ks perm, (19, ks, perm) ∈ G.kws → KBk f19.mth fd f19.ps ks perm) := by
  obtain ⟨fd, F⟩ := (says_d c).def_ 19 (d := d19) rfl
  refine ⟨_, fd, tfn_of F rfl (He.glo_ok X Ns ((says_d c).fact 19 (f := .glo "without") rfl)) (fun _ _ _ _ _ _ us hl => match us, hl with | [_, _], _ => rfl) (by decide +kernel) c19, ?_⟩
  · intro ks perm hp
    rcases (kw_of 19 [(["pin", "board"], [1, 0])] (by decide +kernel) hp) with e | e
    · obtain ⟨rfl, rfl⟩ := (Prod.mk.injEq _ _ _ _).mp e
      exact kbk_of F fun _ _ _ _ _ _ _ ws hl => match ws, hl with | [_, _], _ => rfl
    · exact e.elim
theorem c20 : chkS (G.at f20.name) f20.N (defScope (top 42)) f20.body (defBody (top 42)) = true := by decide +kernel
theorem t20 (X : K.In h) (Ns : h.Ns mainGlobals mg) (c : Says fa fn ts tu tf cs sd fw tb sg w h K) : ∃ a fd, TFn K mg G f20 a fd ∧ (∀ ks perm, (20, ks, perm) ∈ G.kws → KBk f20.mth fd f20.ps ks perm) := by
  obtain ⟨fd, F⟩ := (says_d c).def_ 20 (d := d20) rfl
  refine ⟨_, fd, tfn_of F rfl (He.glo_ok X Ns ((says_d c).fact 20 (f := .glo "direction") rfl)) (fun _ _ _ _ _ _ us hl => match us, hl with | [_, _, _], _ => rfl) (by decide +kernel) c20, ?_⟩
  · intro ks perm hp
    rcases (kw_of 20 [(["other", "one", "board"], [2, 1, 0])] (by decide +kernel) hp) with e | e
    · obtain ⟨rfl, rfl⟩ := (Prod.mk.injEq _ _ _ _).mp e
      exact kbk_of F fun _ _ _ _ _ _ _ ws hl => match ws, hl with | [_, _, _], _ => rfl
    · exact e.elim
theorem c21 : chkS (G.at f21.name) f21.N (defScope (top 43)) f21.body (defBody (top 43)) = true := by decide +kernel
theorem t21 (X : K.In h) (Ns : h.Ns mainGlobals mg) (c : Says fa fn ts tu tf cs sd fw tb sg w h K) : ∃ a fd, TFn K mg G f21 a fd ∧ (∀ ks perm, (21, ks, perm) ∈ G.kws → KBk f21.mth fd f21.ps ks perm) := by
  obtain ⟨fd, F⟩ := (says_d c).def_ 21 (d := d21) rfl
  refine ⟨_, fd, tfn_of F rfl (He.glo_ok X Ns ((says_d c).fact 21 (f := .glo "need_look") rfl)) (fun _ _ _ _ _ _ us hl => match us, hl with | [_, _], _ => rfl) (by decide +kernel) c21, ?_⟩
  · intro ks perm hp
    exact absurd hp (no_kw 21 (by decide +kernel) ks perm)
theorem c22 : chkS (G.at f22.name) f22.N (defScope (top 45)) f22.body (defBody (top 45)) = true := by decide +kernel
theorem t22 (X : K.In h) (Ns : h.Ns mainGlobals mg) (c : Says fa fn ts tu tf cs sd fw tb sg w h K) : ∃ a fd, TFn K mg G f22 a fd ∧ (∀ ks perm, (22, ks, perm) ∈ G.kws → KBk f22.mth fd f22.ps ks perm) := by
  obtain ⟨fd, F⟩ := (says_d c).def_ 22 (d := d22) rfl
  refine ⟨_, fd, tfn_of F rfl (He.glo_ok X Ns ((says_d c).fact 22 (f := .glo "is_counted") rfl)) (fun _ _ _ _ _ _ us hl => match us, hl with | [_, _, _, _], _ => rfl) (by decide +kernel) c22, ?_⟩
  · intro ks perm hp
    exact absurd hp (no_kw 22 (by decide +kernel) ks perm)
theorem c23 : chkS (G.at f23.name) f23.N (defScope (top 46)) f23.body (defBody (top 46)) = true := by decide +kernel
theorem t23 (X : K.In h) (Ns : h.Ns mainGlobals mg) (c : Says fa fn ts tu tf cs sd fw tb sg w h K) : ∃ a fd, TFn K mg G f23 a fd ∧ (∀ ks perm, (23, ks, perm) ∈ G.kws → KBk f23.mth fd f23.ps ks perm) := by
  obtain ⟨fd, F⟩ := (says_d c).def_ 23 (d := d23) rfl
  refine ⟨_, fd, tfn_of F rfl (He.glo_ok X Ns ((says_d c).fact 23 (f := .glo "number_at") rfl)) (fun _ _ _ _ _ _ us hl => match us, hl with | [_, _, _], _ => rfl) (by decide +kernel) c23, ?_⟩
  · intro ks perm hp
    exact absurd hp (no_kw 23 (by decide +kernel) ks perm)
theorem c24 : chkS (G.at f24.name) f24.N (defScope (top 47)) f24.body (defBody (top 47)) = true := by decide +kernel
theorem t24 (X : K.In h) (Ns : h.Ns mainGlobals mg) (c : Says fa fn ts tu tf cs sd fw tb sg w h K) : ∃ a fd, TFn K mg G f24 a fd ∧ (∀ ks perm, (24, ks, perm) ∈ G.kws → KBk f24.mth fd f24.ps ks perm) := by
  obtain ⟨fd, F⟩ := (says_d c).def_ 24 (d := d24) rfl
  refine ⟨_, fd, tfn_of F rfl (He.glo_ok X Ns ((says_d c).fact 24 (f := .glo "need_seen") rfl)) (fun _ _ _ _ _ _ us hl => match us, hl with | [_, _], _ => rfl) (by decide +kernel) c24, ?_⟩
  · intro ks perm hp
    exact absurd hp (no_kw 24 (by decide +kernel) ks perm)
theorem c25 : chkS (G.at f25.name) f25.N (defScope (top 48)) f25.body (defBody (top 48)) = true := by decide +kernel
theorem t25 (X : K.In h) (Ns : h.Ns mainGlobals mg) (c : Says fa fn ts tu tf cs sd fw tb sg w h K) : ∃ a fd, TFn K mg G f25 a fd ∧ (∀ ks perm, (25, ks, perm) ∈ G.kws → KBk f25.mth fd f25.ps ks perm) := by
  obtain ⟨fd, F⟩ := (says_d c).def_ 25 (d := d25) rfl
  refine ⟨_, fd, tfn_of F rfl (He.glo_ok X Ns ((says_d c).fact 25 (f := .glo "order_by") rfl)) (fun _ _ _ _ _ _ us hl => match us, hl with | [_, _], _ => rfl) (by decide +kernel) c25, ?_⟩
  · intro ks perm hp
    exact absurd hp (no_kw 25 (by decide +kernel) ks perm)
theorem c26 : chkS (G.at f26.name) f26.N (defScope (top 49)) f26.body (defBody (top 49)) = true := by decide +kernel
theorem t26 (X : K.In h) (Ns : h.Ns mainGlobals mg) (c : Says fa fn ts tu tf cs sd fw tb sg w h K) : ∃ a fd, TFn K mg G f26 a fd ∧ (∀ ks perm, (26, ks, perm) ∈ G.kws → KBk f26.mth fd f26.ps ks perm) := by
  obtain ⟨fd, F⟩ := (says_d c).def_ 26 (d := d26) rfl
  refine ⟨_, fd, tfn_of F rfl (He.glo_ok X Ns ((says_d c).fact 26 (f := .glo "order") rfl)) (fun _ _ _ _ _ _ us hl => match us, hl with | [_, _], _ => rfl) (by decide +kernel) c26, ?_⟩
  · intro ks perm hp
    rcases (kw_of 26 [(["look", "board"], [1, 0])] (by decide +kernel) hp) with e | e
    · obtain ⟨rfl, rfl⟩ := (Prod.mk.injEq _ _ _ _).mp e
      exact kbk_of F fun _ _ _ _ _ _ _ ws hl => match ws, hl with | [_, _], _ => rfl
    · exact e.elim
theorem c27 : chkS (G.at f27.name) f27.N (defScope (top 50)) f27.body (defBody (top 50)) = true := by decide +kernel
theorem t27 (X : K.In h) (Ns : h.Ns mainGlobals mg) (c : Says fa fn ts tu tf cs sd fw tb sg w h K) : ∃ a fd, TFn K mg G f27 a fd ∧ (∀ ks perm, (27, ks, perm) ∈ G.kws → KBk f27.mth fd f27.ps ks perm) := by
  obtain ⟨fd, F⟩ := (says_d c).def_ 27 (d := d27) rfl
  refine ⟨_, fd, tfn_of F rfl (He.glo_ok X Ns ((says_d c).fact 27 (f := .glo "numbers") rfl)) (fun _ _ _ _ _ _ us hl => match us, hl with | [_, _], _ => rfl) (by decide +kernel) c27, ?_⟩
  · intro ks perm hp
    rcases (kw_of 27 [(["look", "board"], [1, 0])] (by decide +kernel) hp) with e | e
    · obtain ⟨rfl, rfl⟩ := (Prod.mk.injEq _ _ _ _).mp e
      exact kbk_of F fun _ _ _ _ _ _ _ ws hl => match ws, hl with | [_, _], _ => rfl
    · exact e.elim
theorem c28 : chkS (G.at f28.name) f28.N (defScope (top 51)) f28.body (defBody (top 51)) = true := by decide +kernel
theorem t28 (X : K.In h) (Ns : h.Ns mainGlobals mg) (c : Says fa fn ts tu tf cs sd fw tb sg w h K) : ∃ a fd, TFn K mg G f28 a fd ∧ (∀ ks perm, (28, ks, perm) ∈ G.kws → KBk f28.mth fd f28.ps ks perm) := by
  obtain ⟨fd, F⟩ := (says_d c).def_ 28 (d := d28) rfl
  refine ⟨_, fd, tfn_of F rfl (He.glo_ok X Ns ((says_d c).fact 28 (f := .glo "heights") rfl)) (fun _ _ _ _ _ _ us hl => match us, hl with | [_, _], _ => rfl) (by decide +kernel) c28, ?_⟩
  · intro ks perm hp
    rcases (kw_of 28 [(["look", "board"], [1, 0])] (by decide +kernel) hp) with e | e
    · obtain ⟨rfl, rfl⟩ := (Prod.mk.injEq _ _ _ _).mp e
      exact kbk_of F fun _ _ _ _ _ _ _ ws hl => match ws, hl with | [_, _], _ => rfl
    · exact e.elim
theorem c29 : chkS (G.at f29.name) f29.N (defScope (top 52)) f29.body (defBody (top 52)) = true := by decide +kernel
theorem t29 (X : K.In h) (Ns : h.Ns mainGlobals mg) (c : Says fa fn ts tu tf cs sd fw tb sg w h K) : ∃ a fd, TFn K mg G f29 a fd ∧ (∀ ks perm, (29, ks, perm) ∈ G.kws → KBk f29.mth fd f29.ps ks perm) := by
  obtain ⟨fd, F⟩ := (says_d c).def_ 29 (d := d29) rfl
  refine ⟨_, fd, tfn_of F rfl (He.glo_ok X Ns ((says_d c).fact 29 (f := .glo "need_number") rfl)) (fun _ _ _ _ _ _ us hl => match us, hl with | [_], _ => rfl) (by decide +kernel) c29, ?_⟩
  · intro ks perm hp
    exact absurd hp (no_kw 29 (by decide +kernel) ks perm)
theorem c30 : chkS (G.at f30.name) f30.N (defScope (top 53)) f30.body (defBody (top 53)) = true := by decide +kernel
theorem t30 (X : K.In h) (Ns : h.Ns mainGlobals mg) (c : Says fa fn ts tu tf cs sd fw tb sg w h K) : ∃ a fd, TFn K mg G f30 a fd ∧ (∀ ks perm, (30, ks, perm) ∈ G.kws → KBk f30.mth fd f30.ps ks perm) := by
  obtain ⟨fd, F⟩ := (says_d c).def_ 30 (d := d30) rfl
  refine ⟨_, fd, tfn_of F rfl (He.glo_ok X Ns ((says_d c).fact 30 (f := .glo "of_number") rfl)) (fun _ _ _ _ _ _ us hl => match us, hl with | [_, _, _], _ => rfl) (by decide +kernel) c30, ?_⟩
  · intro ks perm hp
    rcases (kw_of 30 [(["look", "number", "board"], [2, 1, 0])] (by decide +kernel) hp) with e | e
    · obtain ⟨rfl, rfl⟩ := (Prod.mk.injEq _ _ _ _).mp e
      exact kbk_of F fun _ _ _ _ _ _ _ ws hl => match ws, hl with | [_, _, _], _ => rfl
    · exact e.elim
theorem c31 : chkS (G.at f31.name) f31.N (defScope (top 55)) f31.body (defBody (top 55)) = true := by decide +kernel
theorem t31 (X : K.In h) (Ns : h.Ns mainGlobals mg) (c : Says fa fn ts tu tf cs sd fw tb sg w h K) : ∃ a fd, TFn K mg G f31 a fd ∧ (∀ ks perm, (31, ks, perm) ∈ G.kws → KBk f31.mth fd f31.ps ks perm) := by
  obtain ⟨fd, F⟩ := (says_d c).def_ 31 (d := d31) rfl
  refine ⟨_, fd, tfn_of F rfl (He.glo_ok X Ns ((says_d c).fact 31 (f := .glo "_law_cell_at") rfl)) (fun _ _ _ _ _ _ us hl => match us, hl with | [_, _], _ => rfl) (by decide +kernel) c31, ?_⟩
  · intro ks perm hp
    exact absurd hp (no_kw 31 (by decide +kernel) ks perm)
theorem c32 : chkS (G.at f32.name) f32.N (defScope (top 56)) f32.body (defBody (top 56)) = true := by decide +kernel
theorem t32 (X : K.In h) (Ns : h.Ns mainGlobals mg) (c : Says fa fn ts tu tf cs sd fw tb sg w h K) : ∃ a fd, TFn K mg G f32 a fd ∧ (∀ ks perm, (32, ks, perm) ∈ G.kws → KBk f32.mth fd f32.ps ks perm) := by
  obtain ⟨fd, F⟩ := (says_d c).def_ 32 (d := d32) rfl
  refine ⟨_, fd, tfn_of F rfl (He.glo_ok X Ns ((says_d c).fact 32 (f := .glo "_law_pen") rfl)) (fun _ _ _ _ _ _ us hl => match us, hl with | [_], _ => rfl) (by decide +kernel) c32, ?_⟩
  · intro ks perm hp
    exact absurd hp (no_kw 32 (by decide +kernel) ks perm)
theorem c33 : chkS (G.at f33.name) f33.N (defScope (top 57)) f33.body (defBody (top 57)) = true := by decide +kernel
theorem t33 (X : K.In h) (Ns : h.Ns mainGlobals mg) (c : Says fa fn ts tu tf cs sd fw tb sg w h K) : ∃ a fd, TFn K mg G f33 a fd ∧ (∀ ks perm, (33, ks, perm) ∈ G.kws → KBk f33.mth fd f33.ps ks perm) := by
  obtain ⟨fd, F⟩ := (says_d c).def_ 33 (d := d33) rfl
  refine ⟨_, fd, tfn_of F rfl (He.glo_ok X Ns ((says_d c).fact 33 (f := .glo "_law_draw") rfl)) (fun _ _ _ _ _ _ us hl => match us, hl with | [_, _], _ => rfl) (by decide +kernel) c33, ?_⟩
  · intro ks perm hp
    exact absurd hp (no_kw 33 (by decide +kernel) ks perm)
theorem c34 : chkS (G.at f34.name) f34.N (defScope (top 59)) f34.body (defBody (top 59)) = true := by decide +kernel
theorem t34 (X : K.In h) (Ns : h.Ns mainGlobals mg) (c : Says fa fn ts tu tf cs sd fw tb sg w h K) : ∃ a fd, TFn K mg G f34 a fd ∧ (∀ ks perm, (34, ks, perm) ∈ G.kws → KBk f34.mth fd f34.ps ks perm) := by
  obtain ⟨fd, F⟩ := (says_d c).def_ 34 (d := d34) rfl
  refine ⟨_, fd, tfn_of F rfl (He.glo_ok X Ns ((says_d c).fact 34 (f := .glo "_law_other") rfl)) (fun _ _ _ _ _ _ us hl => match us, hl with | [_], _ => rfl) (by decide +kernel) c34, ?_⟩
  · intro ks perm hp
    exact absurd hp (no_kw 34 (by decide +kernel) ks perm)
theorem c35 : chkS (G.at f35.name) f35.N (defScope (top 60)) f35.body (defBody (top 60)) = true := by decide +kernel
theorem t35 (X : K.In h) (Ns : h.Ns mainGlobals mg) (c : Says fa fn ts tu tf cs sd fw tb sg w h K) : ∃ a fd, TFn K mg G f35 a fd ∧ (∀ ks perm, (35, ks, perm) ∈ G.kws → KBk f35.mth fd f35.ps ks perm) := by
  obtain ⟨fd, F⟩ := (says_d c).def_ 35 (d := d35) rfl
  refine ⟨_, fd, tfn_of F rfl (He.glo_ok X Ns ((says_d c).fact 35 (f := .glo "_law_boards_right") rfl)) (fun _ _ _ _ _ _ us hl => match us, hl with | [_, _], _ => rfl) (by decide +kernel) c35, ?_⟩
  · intro ks perm hp
    exact absurd hp (no_kw 35 (by decide +kernel) ks perm)
theorem c36 : chkS (G.at f36.name) f36.N (defScope (top 61)) f36.body (defBody (top 61)) = true := by decide +kernel
theorem t36 (X : K.In h) (Ns : h.Ns mainGlobals mg) (c : Says fa fn ts tu tf cs sd fw tb sg w h K) : ∃ a fd, TFn K mg G f36 a fd ∧ (∀ ks perm, (36, ks, perm) ∈ G.kws → KBk f36.mth fd f36.ps ks perm) := by
  obtain ⟨fd, F⟩ := (says_d c).def_ 36 (d := d36) rfl
  refine ⟨_, fd, tfn_of F rfl (He.glo_ok X Ns ((says_d c).fact 36 (f := .glo "_law_numbers_right") rfl)) (fun _ _ _ _ _ _ us hl => match us, hl with | [_], _ => rfl) (by decide +kernel) c36, ?_⟩
  · intro ks perm hp
    exact absurd hp (no_kw 36 (by decide +kernel) ks perm)
theorem c37 : chkS (G.at f37.name) f37.N (defScope (top 63)) f37.body (defBody (top 63)) = true := by decide +kernel
theorem t37 (X : K.In h) (Ns : h.Ns mainGlobals mg) (c : Says fa fn ts tu tf cs sd fw tb sg w h K) : ∃ a fd, TFn K mg G f37 a fd ∧ (∀ ks perm, (37, ks, perm) ∈ G.kws → KBk f37.mth fd f37.ps ks perm) ∧ ∀ (s : Shared) (u : Value), BindsTo s fd ⟨[u], []⟩ [("_law_script", u)] := by
  obtain ⟨fd, F⟩ := (says_d c).def_ 37 (d := d37) rfl
  refine ⟨_, fd, tfn_of F rfl (He.glo_ok X Ns ((says_d c).fact 37 (f := .glo "law") rfl)) (fun _ _ _ _ _ _ us hl => match us, hl with | [_], _ => rfl) (by decide +kernel) c37, ?_, ?_⟩
  · intro ks perm hp
    exact absurd hp (no_kw 37 (by decide +kernel) ks perm)
  · exact fun s u => FunD.bindsA (ps := ["_law_script"]) F (fun _ _ _ _ _ _ us hl => match us, hl with | [_], _ => rfl) s [u] rfl
theorem v0 (X : K.In h) (Ns : h.Ns mainGlobals mg) (c : Says fa fn ts tu tf cs sd fw tb sg w h K) : ∀ p ∈ vs0, VOk K mg p :=
  all_cons (v_str X Ns ((says_d c).fact 55 (f := .str "LEFT" "left") rfl)) (all_cons (v_str X Ns ((says_d c).fact 56 (f := .str "RIGHT" "right") rfl)) (all_cons (v_int X Ns ((says_d c).fact 57 (f := .int "LONG_PIN" 3) rfl)) (all_cons (v_int X Ns ((says_d c).fact 58 (f := .int "MOST_PLACE" 99) rfl)) (all_cons (v_int X Ns ((says_d c).fact 59 (f := .int "FEWEST_PINS" 3) rfl)) (all_cons (v_int X Ns ((says_d c).fact 60 (f := .int "MOST_PINS" 8) rfl)) (all_cons (v_int X Ns ((says_d c).fact 61 (f := .int "LONG_LOOK" 2) rfl)) (all_nil)))))))
theorem bl_ok (X : K.In h) (Ns : h.Ns mainGlobals mg) (c : Says fa fn ts tu tf cs sd fw tb sg w h K) : ∀ x ∈ bs, mg x = none :=
  all_cons (He.free_ok X Ns ((says_d c).fact 38 (f := .free "range") rfl)) (all_cons (He.free_ok X Ns ((says_d c).fact 39 (f := .free "all") rfl)) (all_cons (He.free_ok X Ns ((says_d c).fact 40 (f := .free "tuple") rfl)) (all_cons (He.free_ok X Ns ((says_d c).fact 41 (f := .free "isinstance") rfl)) (all_cons (He.free_ok X Ns ((says_d c).fact 42 (f := .free "len") rfl)) (all_cons (He.free_ok X Ns ((says_d c).fact 43 (f := .free "enumerate") rfl)) (all_cons (He.free_ok X Ns ((says_d c).fact 44 (f := .free "max") rfl)) (all_cons (He.free_ok X Ns ((says_d c).fact 45 (f := .free "zip") rfl)) (all_cons (He.free_ok X Ns ((says_d c).fact 46 (f := .free "int") rfl)) (all_cons (He.free_ok X Ns ((says_d c).fact 47 (f := .free "min") rfl)) (all_cons (He.free_ok X Ns ((says_d c).fact 48 (f := .free "sorted") rfl)) (all_cons (He.free_ok X Ns ((says_d c).fact 49 (f := .free "str") rfl)) (all_cons (He.free_ok X Ns ((says_d c).fact 50 (f := .free "sum") rfl)) (all_cons (He.free_ok X Ns ((says_d c).fact 51 (f := .free "ValueError") rfl)) (all_cons (He.free_ok X Ns ((says_d c).fact 52 (f := .free "bool") rfl)) (all_nil)))))))))))))))
def plI : List Pos := [⟨29, 8, 29, 16⟩, ⟨29, 8, 29, 25⟩, ⟨29, 26, 29, 30⟩, ⟨29, 35, 29, 39⟩, ⟨29, 34, 29, 40⟩, ⟨29, 40, 29, 47⟩, ⟨29, 48, 29, 53⟩, ⟨29, 47, 29, 54⟩, ⟨29, 54, 29, 62⟩, ⟨29, 32, 29, 63⟩, ⟨29, 8, 29, 64⟩, ⟨29, 8, 29, 64⟩, ⟨30, 8, 30, 12⟩, ⟨30, 8, 30, 17⟩, ⟨30, 20, 30, 24⟩, ⟨30, 8, 30, 24⟩, ⟨31, 8, 31, 12⟩, ⟨31, 8, 31, 18⟩, ⟨31, 21, 31, 26⟩, ⟨31, 8, 31, 26⟩]
def ppI (i : Nat) : Pos := plI.getD i ⟨0, 0, 0, 0⟩
theorem bodyI : defBody (clsDef (top 13)) = initBody ppI := by kernel_rfl
theorem few_ok (X : K.In h) (Ns : h.Ns mainGlobals mg) (c : Says fa fn ts tu tf cs sd fw tb sg w h K) : FewOk K mg := by
  obtain ⟨fd0, F0⟩ := (says_d c).def_ 40 (d := ifw) rfl
  have F0' : FunD K "__init__" "TooFew.__init__" (defArgs (clsDef (top 13))) (initBody ppI) (defScope (clsDef (top 13))) [] [] (He.ma K (He.ga K "TooFew") "__init__") fd0 := by rw [← bodyI]; exact F0
  exact few_of (sd := sd) c X Ns ⟨fd0, _, _, ppI, F0', F0.bindsN (fun _ _ _ _ _ _ us hl => match us, hl with | [_, _, _], _ => rfl), C8.fnScope_by (by decide +kernel), by unfold glob; decide +kernel, by unfold loc1; decide +kernel, by unfold loc1; decide +kernel, by unfold loc1; decide +kernel, by decide +kernel, by decide +kernel⟩
def pl0 : List Pos := [⟨162, 4, 162, 14⟩, ⟨162, 18, 162, 28⟩, ⟨162, 29, 162, 35⟩, ⟨162, 37, 162, 44⟩, ⟨162, 18, 162, 45⟩, ⟨162, 47, 162, 57⟩, ⟨162, 58, 162, 64⟩, ⟨162, 66, 162, 72⟩, ⟨162, 47, 162, 73⟩, ⟨162, 75, 162, 85⟩, ⟨162, 86, 162, 92⟩, ⟨162, 94, 162, 99⟩, ⟨162, 75, 162, 100⟩, ⟨162, 102, 162, 112⟩, ⟨162, 113, 162, 119⟩, ⟨162, 121, 162, 127⟩, ⟨162, 102, 162, 128⟩, ⟨162, 17, 162, 129⟩, ⟨162, 4, 162, 129⟩, ⟨163, 4, 163, 14⟩, ⟨163, 17, 163, 27⟩, ⟨163, 31, 163, 41⟩, ⟨163, 42, 163, 48⟩, ⟨163, 50, 163, 58⟩, ⟨163, 31, 163, 59⟩, ⟨163, 61, 163, 71⟩, ⟨163, 72, 163, 78⟩, ⟨163, 80, 163, 87⟩, ⟨163, 61, 163, 88⟩, ⟨163, 90, 163, 100⟩, ⟨163, 101, 163, 107⟩, ⟨163, 109, 163, 114⟩, ⟨163, 90, 163, 115⟩, ⟨163, 117, 163, 127⟩, ⟨163, 128, 163, 134⟩, ⟨163, 136, 163, 143⟩, ⟨163, 117, 163, 144⟩, ⟨163, 30, 163, 145⟩, ⟨163, 17, 163, 145⟩, ⟨163, 4, 163, 145⟩, ⟨164, 4, 164, 14⟩, ⟨164, 17, 164, 27⟩, ⟨164, 31, 164, 41⟩, ⟨164, 42, 164, 48⟩, ⟨164, 50, 164, 56⟩, ⟨164, 31, 164, 57⟩, ⟨164, 59, 164, 69⟩, ⟨164, 70, 164, 76⟩, ⟨164, 78, 164, 84⟩, ⟨164, 59, 164, 85⟩, ⟨164, 87, 164, 97⟩, ⟨164, 98, 164, 104⟩, ⟨164, 106, 164, 112⟩, ⟨164, 87, 164, 113⟩, ⟨164, 115, 164, 125⟩, ⟨164, 126, 164, 132⟩, ⟨164, 134, 164, 140⟩, ⟨164, 115, 164, 141⟩, ⟨164, 30, 164, 142⟩, ⟨164, 17, 164, 142⟩, ⟨164, 4, 164, 142⟩, ⟨165, 4, 165, 14⟩, ⟨165, 18, 165, 25⟩, ⟨165, 27, 165, 33⟩, ⟨165, 35, 165, 40⟩, ⟨165, 42, 165, 48⟩, ⟨165, 50, 165, 58⟩, ⟨165, 60, 165, 67⟩, ⟨165, 69, 165, 74⟩, ⟨165, 76, 165, 82⟩, ⟨165, 84, 165, 90⟩, ⟨165, 92, 165, 98⟩, ⟨165, 100, 165, 106⟩, ⟨165, 108, 165, 113⟩, ⟨165, 17, 165, 114⟩, ⟨165, 4, 165, 114⟩, ⟨166, 7, 166, 17⟩, ⟨166, 7, 166, 23⟩, ⟨166, 24, 166, 28⟩, ⟨166, 7, 166, 29⟩, ⟨166, 33, 166, 34⟩, ⟨166, 7, 166, 34⟩, ⟨166, 42, 166, 52⟩, ⟨166, 53, 166, 59⟩, ⟨166, 61, 166, 71⟩, ⟨166, 42, 166, 72⟩, ⟨166, 38, 166, 72⟩, ⟨166, 7, 166, 72⟩, ⟨167, 15, 167, 22⟩, ⟨167, 8, 167, 22⟩, ⟨166, 4, 167, 22⟩, ⟨168, 11, 168, 21⟩, ⟨168, 22, 168, 32⟩, ⟨168, 22, 168, 38⟩, ⟨168, 39, 168, 43⟩, ⟨168, 22, 168, 44⟩, ⟨168, 11, 168, 45⟩, ⟨168, 4, 168, 45⟩]
def pp0 (i : Nat) : Pos := pl0.getD i ⟨0, 0, 0, 0⟩
def pl1 : List Pos := [⟨191, 4, 191, 13⟩, ⟨191, 17, 191, 24⟩, ⟨191, 25, 191, 28⟩, ⟨191, 17, 191, 29⟩, ⟨191, 31, 191, 37⟩, ⟨191, 38, 191, 41⟩, ⟨191, 31, 191, 42⟩, ⟨191, 44, 191, 49⟩, ⟨191, 50, 191, 53⟩, ⟨191, 44, 191, 54⟩, ⟨191, 56, 191, 62⟩, ⟨191, 63, 191, 66⟩, ⟨191, 56, 191, 67⟩, ⟨191, 69, 191, 77⟩, ⟨191, 78, 191, 81⟩, ⟨191, 69, 191, 82⟩, ⟨191, 84, 191, 91⟩, ⟨191, 92, 191, 95⟩, ⟨191, 84, 191, 96⟩, ⟨191, 98, 191, 103⟩, ⟨191, 104, 191, 107⟩, ⟨191, 98, 191, 108⟩, ⟨191, 110, 191, 117⟩, ⟨191, 118, 191, 121⟩, ⟨191, 110, 191, 122⟩, ⟨191, 16, 191, 123⟩, ⟨191, 4, 191, 123⟩, ⟨192, 4, 192, 13⟩, ⟨192, 16, 192, 25⟩, ⟨192, 29, 192, 35⟩, ⟨192, 36, 192, 39⟩, ⟨192, 29, 192, 40⟩, ⟨192, 42, 192, 48⟩, ⟨192, 49, 192, 52⟩, ⟨192, 42, 192, 53⟩, ⟨192, 55, 192, 61⟩, ⟨192, 62, 192, 65⟩, ⟨192, 55, 192, 66⟩, ⟨192, 68, 192, 74⟩, ⟨192, 75, 192, 76⟩, ⟨192, 78, 192, 79⟩, ⟨192, 68, 192, 80⟩, ⟨192, 28, 192, 81⟩, ⟨192, 16, 192, 81⟩, ⟨192, 4, 192, 81⟩, ⟨193, 4, 193, 14⟩, ⟨193, 18, 193, 25⟩, ⟨193, 27, 193, 33⟩, ⟨193, 35, 193, 40⟩, ⟨193, 42, 193, 48⟩, ⟨193, 50, 193, 58⟩, ⟨193, 60, 193, 67⟩, ⟨193, 69, 193, 74⟩, ⟨193, 76, 193, 82⟩, ⟨193, 84, 193, 90⟩, ⟨193, 92, 193, 98⟩, ⟨193, 100, 193, 106⟩, ⟨193, 108, 193, 113⟩, ⟨193, 17, 193, 114⟩, ⟨193, 4, 193, 114⟩, ⟨194, 8, 194, 17⟩, ⟨194, 18, 194, 27⟩, ⟨194, 8, 194, 28⟩, ⟨194, 33, 194, 42⟩, ⟨194, 46, 194, 55⟩, ⟨194, 7, 194, 56⟩, ⟨194, 60, 194, 70⟩, ⟨194, 7, 194, 70⟩, ⟨194, 78, 194, 81⟩, ⟨194, 83, 194, 93⟩, ⟨194, 94, 194, 103⟩, ⟨194, 105, 194, 113⟩, ⟨194, 83, 194, 114⟩, ⟨194, 119, 194, 128⟩, ⟨194, 132, 194, 141⟩, ⟨194, 82, 194, 142⟩, ⟨194, 78, 194, 143⟩, ⟨194, 74, 194, 143⟩, ⟨194, 7, 194, 143⟩, ⟨195, 15, 195, 20⟩, ⟨195, 8, 195, 20⟩, ⟨194, 4, 195, 20⟩, ⟨196, 4, 196, 13⟩, ⟨196, 17, 196, 23⟩, ⟨196, 24, 196, 25⟩, ⟨196, 27, 196, 28⟩, ⟨196, 17, 196, 29⟩, ⟨196, 31, 196, 37⟩, ⟨196, 44, 196, 45⟩, ⟨196, 38, 196, 45⟩, ⟨196, 52, 196, 53⟩, ⟨196, 47, 196, 53⟩, ⟨196, 31, 196, 54⟩, ⟨196, 16, 196, 55⟩, ⟨196, 4, 196, 55⟩, ⟨197, 13, 197, 22⟩, ⟨197, 13, 197, 27⟩, ⟨197, 29, 197, 38⟩, ⟨197, 29, 197, 44⟩, ⟨197, 12, 197, 45⟩, ⟨197, 50, 197, 59⟩, ⟨197, 63, 197, 72⟩, ⟨197, 11, 197, 73⟩, ⟨197, 79, 197, 80⟩, ⟨197, 82, 197, 83⟩, ⟨197, 78, 197, 84⟩, ⟨197, 77, 197, 85⟩, ⟨197, 88, 197, 89⟩, ⟨197, 77, 197, 89⟩, ⟨197, 11, 197, 89⟩, ⟨197, 4, 197, 89⟩]
def pp1 (i : Nat) : Pos := pl1.getD i ⟨0, 0, 0, 0⟩
theorem body0 : defBody (top 58) = kindBody pp0 "_law_words" := by kernel_rfl
theorem body1 : defBody (top 62) = errsBody pp1 := by kernel_rfl
theorem errs_ok (X : K.In h) (Ns : h.Ns mainGlobals mg) (c : Says fa fn ts tu tf cs sd fw tb sg w h K) : ErrsOk K mg := by
  obtain ⟨fd0, F0⟩ := (says_d c).def_ 38 (d := e0) rfl
  obtain ⟨fd1, F1⟩ := (says_d c).def_ 39 (d := e1) rfl
  obtain ⟨fd2, F2⟩ := (says_d c).def_ 40 (d := ifw) rfl
  have F0' : FunD K "_law_kind" "_law_kind" (defArgs (top 58)) (kindBody pp0 "_law_words") (defScope (top 58)) [] [] (He.fAd K ("_law_kind", none)) fd0 := by rw [← body0]; exact F0
  have F1' : FunD K "_law_errors_right" "_law_errors_right" (defArgs (top 62)) (errsBody pp1) (defScope (top 62)) [] [] (He.fAd K ("_law_errors_right", none)) fd1 := by rw [← body1]; exact F1
  have gk : ∀ j, 1 ≤ j → j < 13 → glob (defScope (top 58)) (excN j) := fun j h1 h2 => by
    rcases c_cases h1 h2 with rfl | rfl | rfl | rfl | rfl | rfl | rfl | rfl | rfl | rfl | rfl | rfl <;> (unfold glob; decide +kernel)
  have ge : ∀ j, 1 ≤ j → j < 13 → glob (defScope (top 62)) (excN j) := fun j h1 h2 => by
    rcases c_cases h1 h2 with rfl | rfl | rfl | rfl | rfl | rfl | rfl | rfl | rfl | rfl | rfl | rfl <;> (unfold glob; decide +kernel)
  have hc : ∀ j, 1 ≤ j → j < 12 → cs.contains j = true := fun j h1 h2 => by
    have e : j = 1 ∨ j = 2 ∨ j = 3 ∨ j = 4 ∨ j = 5 ∨ j = 6 ∨ j = 7 ∨ j = 8 ∨ j = 9 ∨ j = 10 ∨ j = 11 := by omega
    rcases e with rfl | rfl | rfl | rfl | rfl | rfl | rfl | rfl | rfl | rfl | rfl <;> decide +kernel
  exact ⟨⟨⟨_, fd0, _, _, pp0, _, F0', (He.glo_ok X Ns ((says_d c).fact 53 (f := .glo "_law_kind") rfl)), F0.bindsN (fun _ _ _ _ _ _ us hl => match us, hl with | [_], _ => rfl), C8.fnScope_by (by decide +kernel), by unfold glob; decide +kernel, by unfold glob; decide +kernel, gk, by unfold loc1; decide +kernel, by unfold loc1; decide +kernel, by unfold loc1; decide +kernel, by decide +kernel, by decide +kernel, by decide +kernel, by decide +kernel⟩, (He.free_ok X Ns ((says_d c).fact 41 (f := .free "isinstance") rfl)), (He.free_ok X Ns ((says_d c).fact 51 (f := .free "ValueError") rfl)), says_glo c X Ns, says_tel c⟩,
    few_ok X Ns c, ⟨fd2, _, _, _, F2, kbk_of F2 fun _ _ _ _ _ _ _ ws hl => match ws, hl with | [_, _], _ => rfl⟩, fun j h1 h2 => says_exc c X Ns j (hc j h1 h2), (He.free_ok X Ns ((says_d c).fact 39 (f := .free "all") rfl)), says_pin c,
    ⟨_, fd1, _, _, pp1, F1', (He.glo_ok X Ns ((says_d c).fact 54 (f := .glo "_law_errors_right") rfl)), F1.bindsN (fun _ _ _ _ _ _ us hl => match us, hl with | [], _ => rfl), C8.fnScope_by (by decide +kernel), ge, by unfold glob; decide +kernel, by unfold loc1; decide +kernel, by unfold loc1; decide +kernel, by unfold loc1; decide +kernel⟩⟩
theorem sgn_ok (X : K.In h) (Ns : h.Ns mainGlobals mg) (c : Says fa fn ts tu tf cs sd fw tb sg w h K) : G.sgn = true → SgnOk w K mg := fun hf => absurd (show false = true from hf) (by decide)
theorem tab (X : K.In h) (Ns : h.Ns mainGlobals mg) (c : Says fa fn ts tu tf cs sd fw tb sg w h K) : Tab K mg G T := by
  refine ⟨by decide +kernel, fun i fn hf => ?_, v0 X Ns c, fun x hx => bl_ok X Ns c x (by simpa [G] using hx), fun j hj => says_exc c X Ns j hj, fun _ => few_ok X Ns c, mt_of (by decide +kernel), fun hf => absurd (show false = true from hf) (by decide), fun nb h => absurd (show (none : Option Nat) = some nb from h) (by simp), by decide +kernel, fun hs => absurd (show false = true from hs) (by decide), fun _ => errs_ok X Ns c⟩
  match i, hf with
  | 0, hf =>
    have e : f0 = fn := Option.some.inj hf
    subst e
    obtain ⟨a, fd, z⟩ := t0 X Ns c
    exact ⟨a, fd, z.1, z.2⟩
  | 1, hf =>
    have e : f1 = fn := Option.some.inj hf
    subst e
    obtain ⟨a, fd, z⟩ := t1 X Ns c
    exact ⟨a, fd, z.1, z.2⟩
  | 2, hf =>
    have e : f2 = fn := Option.some.inj hf
    subst e
    obtain ⟨a, fd, z⟩ := t2 X Ns c
    exact ⟨a, fd, z.1, z.2⟩
  | 3, hf =>
    have e : f3 = fn := Option.some.inj hf
    subst e
    obtain ⟨a, fd, z⟩ := t3 X Ns c
    exact ⟨a, fd, z.1, z.2⟩
  | 4, hf =>
    have e : f4 = fn := Option.some.inj hf
    subst e
    obtain ⟨a, fd, z⟩ := t4 X Ns c
    exact ⟨a, fd, z.1, z.2⟩
  | 5, hf =>
    have e : f5 = fn := Option.some.inj hf
    subst e
    obtain ⟨a, fd, z⟩ := t5 X Ns c
    exact ⟨a, fd, z.1, z.2⟩
  | 6, hf =>
    have e : f6 = fn := Option.some.inj hf
    subst e
    obtain ⟨a, fd, z⟩ := t6 X Ns c
    exact ⟨a, fd, z.1, z.2⟩
  | 7, hf =>
    have e : f7 = fn := Option.some.inj hf
    subst e
    obtain ⟨a, fd, z⟩ := t7 X Ns c
    exact ⟨a, fd, z.1, z.2⟩
  | 8, hf =>
    have e : f8 = fn := Option.some.inj hf
    subst e
    obtain ⟨a, fd, z⟩ := t8 X Ns c
    exact ⟨a, fd, z.1, z.2⟩
  | 9, hf =>
    have e : f9 = fn := Option.some.inj hf
    subst e
    obtain ⟨a, fd, z⟩ := t9 X Ns c
    exact ⟨a, fd, z.1, z.2⟩
  | 10, hf =>
    have e : f10 = fn := Option.some.inj hf
    subst e
    obtain ⟨a, fd, z⟩ := t10 X Ns c
    exact ⟨a, fd, z.1, z.2⟩
  | 11, hf =>
    have e : f11 = fn := Option.some.inj hf
    subst e
    obtain ⟨a, fd, z⟩ := t11 X Ns c
    exact ⟨a, fd, z.1, z.2⟩
  | 12, hf =>
    have e : f12 = fn := Option.some.inj hf
    subst e
    obtain ⟨a, fd, z⟩ := t12 X Ns c
    exact ⟨a, fd, z.1, z.2⟩
  | 13, hf =>
    have e : f13 = fn := Option.some.inj hf
    subst e
    obtain ⟨a, fd, z⟩ := t13 X Ns c
    exact ⟨a, fd, z.1, z.2⟩
  | 14, hf =>
    have e : f14 = fn := Option.some.inj hf
    subst e
    obtain ⟨a, fd, z⟩ := t14 X Ns c
    exact ⟨a, fd, z.1, z.2⟩
  | 15, hf =>
    have e : f15 = fn := Option.some.inj hf
    subst e
    obtain ⟨a, fd, z⟩ := t15 X Ns c
    exact ⟨a, fd, z.1, z.2⟩
  | 16, hf =>
    have e : f16 = fn := Option.some.inj hf
    subst e
    obtain ⟨a, fd, z⟩ := t16 X Ns c
    exact ⟨a, fd, z.1, z.2⟩
  | 17, hf =>
    have e : f17 = fn := Option.some.inj hf
    subst e
    obtain ⟨a, fd, z⟩ := t17 X Ns c
    exact ⟨a, fd, z.1, z.2⟩
  | 18, hf =>
    have e : f18 = fn := Option.some.inj hf
    subst e
    obtain ⟨a, fd, z⟩ := t18 X Ns c
    exact ⟨a, fd, z.1, z.2⟩
  | 19, hf =>
    have e : f19 = fn := Option.some.inj hf
    subst e
    obtain ⟨a, fd, z⟩ := t19 X Ns c
    exact ⟨a, fd, z.1, z.2⟩
  | 20, hf =>
    have e : f20 = fn := Option.some.inj hf
    subst e
    obtain ⟨a, fd, z⟩ := t20 X Ns c
    exact ⟨a, fd, z.1, z.2⟩
  | 21, hf =>
    have e : f21 = fn := Option.some.inj hf
    subst e
    obtain ⟨a, fd, z⟩ := t21 X Ns c
    exact ⟨a, fd, z.1, z.2⟩
  | 22, hf =>
    have e : f22 = fn := Option.some.inj hf
    subst e
    obtain ⟨a, fd, z⟩ := t22 X Ns c
    exact ⟨a, fd, z.1, z.2⟩
  | 23, hf =>
    have e : f23 = fn := Option.some.inj hf
    subst e
    obtain ⟨a, fd, z⟩ := t23 X Ns c
    exact ⟨a, fd, z.1, z.2⟩
  | 24, hf =>
    have e : f24 = fn := Option.some.inj hf
    subst e
    obtain ⟨a, fd, z⟩ := t24 X Ns c
    exact ⟨a, fd, z.1, z.2⟩
  | 25, hf =>
    have e : f25 = fn := Option.some.inj hf
    subst e
    obtain ⟨a, fd, z⟩ := t25 X Ns c
    exact ⟨a, fd, z.1, z.2⟩
  | 26, hf =>
    have e : f26 = fn := Option.some.inj hf
    subst e
    obtain ⟨a, fd, z⟩ := t26 X Ns c
    exact ⟨a, fd, z.1, z.2⟩
  | 27, hf =>
    have e : f27 = fn := Option.some.inj hf
    subst e
    obtain ⟨a, fd, z⟩ := t27 X Ns c
    exact ⟨a, fd, z.1, z.2⟩
  | 28, hf =>
    have e : f28 = fn := Option.some.inj hf
    subst e
    obtain ⟨a, fd, z⟩ := t28 X Ns c
    exact ⟨a, fd, z.1, z.2⟩
  | 29, hf =>
    have e : f29 = fn := Option.some.inj hf
    subst e
    obtain ⟨a, fd, z⟩ := t29 X Ns c
    exact ⟨a, fd, z.1, z.2⟩
  | 30, hf =>
    have e : f30 = fn := Option.some.inj hf
    subst e
    obtain ⟨a, fd, z⟩ := t30 X Ns c
    exact ⟨a, fd, z.1, z.2⟩
  | 31, hf =>
    have e : f31 = fn := Option.some.inj hf
    subst e
    obtain ⟨a, fd, z⟩ := t31 X Ns c
    exact ⟨a, fd, z.1, z.2⟩
  | 32, hf =>
    have e : f32 = fn := Option.some.inj hf
    subst e
    obtain ⟨a, fd, z⟩ := t32 X Ns c
    exact ⟨a, fd, z.1, z.2⟩
  | 33, hf =>
    have e : f33 = fn := Option.some.inj hf
    subst e
    obtain ⟨a, fd, z⟩ := t33 X Ns c
    exact ⟨a, fd, z.1, z.2⟩
  | 34, hf =>
    have e : f34 = fn := Option.some.inj hf
    subst e
    obtain ⟨a, fd, z⟩ := t34 X Ns c
    exact ⟨a, fd, z.1, z.2⟩
  | 35, hf =>
    have e : f35 = fn := Option.some.inj hf
    subst e
    obtain ⟨a, fd, z⟩ := t35 X Ns c
    exact ⟨a, fd, z.1, z.2⟩
  | 36, hf =>
    have e : f36 = fn := Option.some.inj hf
    subst e
    obtain ⟨a, fd, z⟩ := t36 X Ns c
    exact ⟨a, fd, z.1, z.2⟩
  | 37, hf =>
    have e : f37 = fn := Option.some.inj hf
    subst e
    obtain ⟨a, fd, z⟩ := t37 X Ns c
    exact ⟨a, fd, z.1, z.2.1⟩
  | n + 38, hf => exact absurd (show (none : Option MFn) = some fn from hf) (by simp)
end
end Lw
namespace Wp
open PySem M
structure Ix where
  is_whole : Nat := 0
  is_within : Nat := 0
  is_long : Nat := 0
  is_way : Nat := 0
  other_way : Nat := 0
  is_pin_by : Nat := 0
  cross : Nat := 0
  between : Nat := 0
  pairs_of : Nat := 0
  is_board : Nat := 0
  need_board : Nat := 0
  other_word : Nat := 0
  turned_about : Nat := 0
  is_stand_by : Nat := 0
  need_stand : Nat := 0
  look_of : Nat := 0
  met_first : Nat := 0
  beside : Nat := 0
  beat_by : Nat := 0
  beat : Nat := 0
  ahead : Nat := 0
  first_by : Nat := 0
  first : Nat := 0
  need_pin : Nat := 0
  need_look : Nat := 0
  walk_of : Nat := 0
  after_by : Nat := 0
  need_many : Nat := 0
  after : Nat := 0
  number_by : Nat := 0
  number_of : Nat := 0
  number_at : Nat := 0
  is_counted : Nat := 0
  meetings : Nat := 0
  all_stands : Nat := 0
  is_stand : Nat := 0
  greatest_divisor : Nat := 0
  meetings_of : Nat := 0
  meet : Nat := 0
  how_often : Nat := 0
  round_by : Nat := 0
  round_of : Nat := 0
  together : Nat := 0
  with_ways_by : Nat := 0
  all_pins : Nat := 0
  joining : Nat := 0
  l_cell_at : Nat := 0
  l_pen : Nat := 0
  l_draw : Nat := 0
  l_pick : Nat := 0
  l_same : Nat := 0
  l_cross : Nat := 0
  l_far : Nat := 0
  l_fits : Nat := 0
  l_board : Nat := 0
  l_chart : Nat := 0
  l_spot : Nat := 0
  l_met : Nat := 0
  l_step : Nat := 0
  l_stands : Nat := 0
  l_round : Nat := 0
  l_between : Nat := 0
  l_number : Nat := 0
  l_number_of : Nat := 0
  l_stand : Nat := 0
  l_lots : Nat := 0
  l_otherwise : Nat := 0
  l_wide : Nat := 0
  l_some_stand : Nat := 0
  pins_by : Nat := 0
  pins_of : Nat := 0
  to_all : Nat := 0
  keeping_off : Nat := 0
  need_pins : Nat := 0
  rises : Nat := 0
  with_ways : Nat := 0
  all_ways : Nat := 0
  by_ways : Nat := 0
  end_of : Nat := 0
  stories : Nat := 0
  need_row : Nat := 0
  need_seenR : Nat := 0
  many_stories : Nat := 0
  sure_ways : Nat := 0
  is_story : Nat := 0
  some_story : Nat := 0
  next_pins : Nat := 0
def HasF (T : List MFn) (i : Nat) (b : MS) (np nN : Nat) : Prop := ∃ fn, T[i]? = some fn ∧ fn.body = b ∧ fn.ps.length = np ∧ fn.N.length = nN
def B_is_whole (ix : Ix) : MS := (.seq (.ret (.bop true (.op .isI (.consA (.var 0) .nilA)) (.bone (.nt (.op .isB (.consA (.var 0) .nilA)))))) .nil)
def H_is_whole (T : List MFn) (ix : Ix) : Prop := HasF T ix.is_whole (B_is_whole ix) 1 1
def B_is_within (ix : Ix) : MS := (.seq (.ret (.bop true (.call false ix.is_whole (.consA (.var 0) .nilA)) (.bone (.chn .le .le (.var 1) (.var 0) (.var 2))))) .nil)
def H_is_within (T : List MFn) (ix : Ix) : Prop := HasF T ix.is_within (B_is_within ix) 3 3 ∧ H_is_whole T ix
def B_is_long (ix : Ix) : MS := (.seq (.ret (.bop true (.op .isT (.consA (.var 0) .nilA)) (.bone (.chn .le .le (.var 1) (.op .len (.consA (.var 0) .nilA)) (.var 2))))) .nil)
def H_is_long (T : List MFn) (ix : Ix) : Prop := HasF T ix.is_long (B_is_long ix) 3 3
def B_is_way (ix : Ix) : MS := (.seq (.ret (.bop true (.op .isS (.consA (.var 0) .nilA)) (.bone (.op .inn (.consA (.var 0) (.consA (.tup (.consA (.gl "LEFT" (.str "left")) (.consA (.gl "RIGHT" (.str "right")) .nilA))) .nilA)))))) .nil)
def H_is_way (T : List MFn) (ix : Ix) : Prop := HasF T ix.is_way (B_is_way ix) 1 1
def B_is_pin_by (ix : Ix) : MS := (.seq (.iff (.bop false (.nt (.call false ix.is_long (.consA (.var 0) (.consA (.gl "LONG_PIN" (.int 3)) (.consA (.gl "LONG_PIN" (.int 3)) .nilA))))) (.bone (.nt (.call false ix.is_way (.consA (.op .ix (.consA (.var 0) (.consA (.cst (.int 2)) .nilA))) .nilA))))) (.seq (.ret (.cst (.bool false))) .nil) .nil) (.seq (.ret (.bop true (.call false ix.is_within (.consA (.op .ix (.consA (.var 0) (.consA (.cst (.int 0)) .nilA))) (.consA (.cst (.int 0)) (.consA (.gl "MOST_PLACE" (.int 99)) .nilA)))) (.bone (.call false ix.is_within (.consA (.op .ix (.consA (.var 0) (.consA (.cst (.int 1)) .nilA))) (.consA (.cst (.int 0)) (.consA (.gl "MOST_PLACE" (.int 99)) .nilA))))))) .nil))
def H_is_pin_by (T : List MFn) (ix : Ix) : Prop := HasF T ix.is_pin_by (B_is_pin_by ix) 1 1 ∧ H_is_long T ix ∧ H_is_way T ix ∧ H_is_within T ix
def B_cross (ix : Ix) : MS := (.seq (.ret (.op .sub (.consA (.op (.mulL false) (.consA (.op .ix (.consA (.var 0) (.consA (.cst (.int 0)) .nilA))) (.consA (.op .ix (.consA (.var 1) (.consA (.cst (.int 1)) .nilA))) .nilA))) (.consA (.op (.mulL false) (.consA (.op .ix (.consA (.var 0) (.consA (.cst (.int 1)) .nilA))) (.consA (.op .ix (.consA (.var 1) (.consA (.cst (.int 0)) .nilA))) .nilA))) .nilA)))) .nil)
def H_cross (T : List MFn) (ix : Ix) : Prop := HasF T ix.cross (B_cross ix) 2 2
def B_between (ix : Ix) : MS := (.seq (.ret (.tup (.consA (.op .sub (.consA (.op .ix (.consA (.op .ix (.consA (.var 0) (.consA (.var 2) .nilA))) (.consA (.cst (.int 0)) .nilA))) (.consA (.op .ix (.consA (.op .ix (.consA (.var 0) (.consA (.var 1) .nilA))) (.consA (.cst (.int 0)) .nilA))) .nilA))) (.consA (.op .sub (.consA (.op .ix (.consA (.op .ix (.consA (.var 0) (.consA (.var 2) .nilA))) (.consA (.cst (.int 1)) .nilA))) (.consA (.op .ix (.consA (.op .ix (.consA (.var 0) (.consA (.var 1) .nilA))) (.consA (.cst (.int 1)) .nilA))) .nilA))) .nilA)))) .nil)
def H_between (T : List MFn) (ix : Ix) : Prop := HasF T ix.between (B_between ix) 3 3
def B_pairs_of (ix : Ix) : MS := (.seq (.setv 1 (.lst true .nilA)) (.seq (.forr (.v 2) .range1 (.consA (.op .len (.consA (.var 0) .nilA)) .nilA) (.seq (.ex (.meth .extend (.var 1) (.consA (.lc false (.call false ix.between (.consA (.var 0) (.consA (.var 3) (.consA (.var 2) .nilA)))) [3] (.v 3) .range1 (.consA (.var 2) .nilA) false .nilA) .nilA))) .nil)) (.seq (.ret (.var 1)) .nil)))
def H_pairs_of (T : List MFn) (ix : Ix) : Prop := HasF T ix.pairs_of (B_pairs_of ix) 1 4 ∧ H_between T ix
def B_is_board (ix : Ix) : MS := (.seq (.iff (.bop false (.nt (.call false ix.is_long (.consA (.var 0) (.consA (.gl "FEWEST_PINS" (.int 3)) (.consA (.gl "MOST_PINS" (.int 8)) .nilA))))) (.bone (.nt (.op .all (.consA (.lc false (.call false ix.is_pin_by (.consA (.var 4) .nilA)) [4] (.v 4) .val (.consA (.var 0) .nilA) false .nilA) .nilA))))) (.seq (.ret (.cst (.bool false))) .nil) .nil) (.seq (.setv 1 (.call false ix.pairs_of (.consA (.var 0) .nilA))) (.seq (.ret (.op .all (.consA (.lc2 false (.op .ne (.consA (.call false ix.cross (.consA (.var 4) (.consA (.var 2) .nilA))) (.consA (.cst (.int 0)) .nilA))) [3, 4, 2] (.tup (.cons (.v 3) (.cons (.v 4) .nil))) .enum (.consA (.var 1) .nilA) [2] (.v 2) .val (.consA (.op (.slU false) (.consA (.var 1) (.consA (.var 3) .nilA))) .nilA)) .nilA))) .nil)))
def H_is_board (T : List MFn) (ix : Ix) : Prop := HasF T ix.is_board (B_is_board ix) 1 5 ∧ H_is_long T ix ∧ H_is_pin_by T ix ∧ H_pairs_of T ix ∧ H_cross T ix
def B_l_cell_at (ix : Ix) : MS := (.seq (.iff (.op .lt (.consA (.var 1) (.consA (.op .len (.consA (.var 0) .nilA)) .nilA))) (.seq (.ret (.op .ix (.consA (.var 0) (.consA (.var 1) .nilA)))) .nil) .nil) (.seq (.ret (.cst (.int 0))) .nil))
def H_l_cell_at (T : List MFn) (ix : Ix) : Prop := HasF T ix.l_cell_at (B_l_cell_at ix) 2 2
def B_l_pen (ix : Ix) : MS := (.seq (.ret (.lst true (.consA (.op .max2 (.consA (.cst (.int 0)) (.consA (.op .sub (.consA (.var 0) (.consA (.op .pow (.consA (.cst (.int 10)) (.consA (.cst (.int 18)) .nilA))) .nilA))) .nilA))) (.consA (.op (.addL false) (.consA (.op .mod (.consA (.var 0) (.consA (.cst (.int 2147483629)) .nilA))) (.consA (.cst (.int 1)) .nilA))) (.consA (.cst (.int 0)) .nilA))))) .nil)
def H_l_pen (T : List MFn) (ix : Ix) : Prop := HasF T ix.l_pen (B_l_pen ix) 1 1
def B_l_draw (ix : Ix) : MS := (.seq (.iff (.op .gt (.consA (.op .ix (.consA (.var 0) (.consA (.cst (.int 0)) .nilA))) (.consA (.cst (.int 0)) .nilA))) (.seq (.setv 3 (.op .mod (.consA (.op .ix (.consA (.var 0) (.consA (.cst (.int 0)) .nilA))) (.consA (.var 1) .nilA)))) (.seq (.setI (.var 0) (.cst (.int 0)) (.op .fdiv (.consA (.op .ix (.consA (.var 0) (.consA (.cst (.int 0)) .nilA))) (.consA (.var 1) .nilA)))) (.seq (.ret (.var 3)) .nil))) .nil) (.seq (.setI (.var 0) (.cst (.int 2)) (.op (.addL false) (.consA (.op .ix (.consA (.var 0) (.consA (.cst (.int 2)) .nilA))) (.consA (.cst (.int 1)) .nilA)))) (.seq (.setI (.var 0) (.cst (.int 1)) (.op .mod (.consA (.op (.addL false) (.consA (.op (.addL false) (.consA (.op (.mulL false) (.consA (.op .ix (.consA (.var 0) (.consA (.cst (.int 1)) .nilA))) (.consA (.cst (.int 48271)) .nilA))) (.consA (.op (.mulL false) (.consA (.cst (.int 1009)) (.consA (.op .ix (.consA (.var 0) (.consA (.cst (.int 2)) .nilA))) .nilA))) .nilA))) (.consA (.cst (.int 7)) .nilA))) (.consA (.cst (.int 2147483647)) .nilA)))) (.seq (.setv 2 (.op .mod (.consA (.op (.addL false) (.consA (.op (.addL false) (.consA (.op (.mulL false) (.consA (.op .ix (.consA (.var 0) (.consA (.cst (.int 1)) .nilA))) (.consA (.op .ix (.consA (.var 0) (.consA (.cst (.int 1)) .nilA))) .nilA))) (.consA (.op (.mulL false) (.consA (.cst (.int 69621)) (.consA (.op .ix (.consA (.var 0) (.consA (.cst (.int 1)) .nilA))) .nilA))) .nilA))) (.consA (.cst (.int 11)) .nilA))) (.consA (.cst (.int 2147483629)) .nilA)))) (.seq (.setv 2 (.op .mod (.consA (.op (.addL false) (.consA (.op (.mulL false) (.consA (.var 2) (.consA (.var 2) .nilA))) (.consA (.op (.mulL false) (.consA (.cst (.int 40014)) (.consA (.var 2) .nilA))) .nilA))) (.consA (.cst (.int 2147483587)) .nilA)))) (.seq (.ret (.op .mod (.consA (.op .fdiv (.consA (.var 2) (.consA (.cst (.int 16)) .nilA))) (.consA (.var 1) .nilA)))) .nil))))))
def H_l_draw (T : List MFn) (ix : Ix) : Prop := HasF T ix.l_draw (B_l_draw ix) 2 4
def B_l_pick (ix : Ix) : MS := (.seq (.ret (.op .ix (.consA (.var 1) (.consA (.call false ix.l_draw (.consA (.var 0) (.consA (.op .len (.consA (.var 1) .nilA)) .nilA))) .nilA)))) .nil)
def H_l_pick (T : List MFn) (ix : Ix) : Prop := HasF T ix.l_pick (B_l_pick ix) 2 2 ∧ H_l_draw T ix
def B_l_same (ix : Ix) : MS := (.seq (.ret (.op .eq (.consA (.op .repr (.consA (.var 0) .nilA)) (.consA (.op .repr (.consA (.var 1) .nilA)) .nilA)))) .nil)
def H_l_same (T : List MFn) (ix : Ix) : Prop := HasF T ix.l_same (B_l_same ix) 2 2
def B_l_cross (ix : Ix) : MS := (.seq (.ret (.op .sub (.consA (.op (.mulL false) (.consA (.op .ix (.consA (.var 0) (.consA (.cst (.int 0)) .nilA))) (.consA (.op .ix (.consA (.var 1) (.consA (.cst (.int 1)) .nilA))) .nilA))) (.consA (.op (.mulL false) (.consA (.op .ix (.consA (.var 0) (.consA (.cst (.int 1)) .nilA))) (.consA (.op .ix (.consA (.var 1) (.consA (.cst (.int 0)) .nilA))) .nilA))) .nilA)))) .nil)
def H_l_cross (T : List MFn) (ix : Ix) : Prop := HasF T ix.l_cross (B_l_cross ix) 2 2
def B_l_far (ix : Ix) : MS := (.seq (.ret (.tup (.consA (.op .sub (.consA (.op .ix (.consA (.op .ix (.consA (.var 0) (.consA (.var 2) .nilA))) (.consA (.cst (.int 0)) .nilA))) (.consA (.op .ix (.consA (.op .ix (.consA (.var 0) (.consA (.var 1) .nilA))) (.consA (.cst (.int 0)) .nilA))) .nilA))) (.consA (.op .sub (.consA (.op .ix (.consA (.op .ix (.consA (.var 0) (.consA (.var 2) .nilA))) (.consA (.cst (.int 1)) .nilA))) (.consA (.op .ix (.consA (.op .ix (.consA (.var 0) (.consA (.var 1) .nilA))) (.consA (.cst (.int 1)) .nilA))) .nilA))) .nilA)))) .nil)
def H_l_far (T : List MFn) (ix : Ix) : Prop := HasF T ix.l_far (B_l_far ix) 3 3
def B_l_fits (ix : Ix) : MS := (.seq (.setv 2 (.op (.addL false) (.consA (.op (.list false) (.consA (.var 0) .nilA)) (.consA (.lst false (.consA (.var 1) .nilA)) .nilA)))) (.seq (.setv 3 (.lst true .nilA)) (.seq (.forr (.v 4) .range1 (.consA (.op .len (.consA (.var 2) .nilA)) .nilA) (.seq (.forr (.v 5) .range1 (.consA (.var 4) .nilA) (.seq (.setv 6 (.call false ix.l_far (.consA (.var 2) (.consA (.var 5) (.consA (.var 4) .nilA))))) (.seq (.iff (.op .eq (.consA (.var 6) (.consA (.tup (.consA (.cst (.int 0)) (.consA (.cst (.int 0)) .nilA))) .nilA))) (.seq (.ret (.cst (.bool false))) .nil) .nil) (.seq (.iff (.op .ne (.consA (.lc false (.var 7) [7] (.v 7) .val (.consA (.var 3) .nilA) true (.op .eq (.consA (.call false ix.l_cross (.consA (.var 6) (.consA (.var 7) .nilA))) (.consA (.cst (.int 0)) .nilA)))) (.consA (.lst false .nilA) .nilA))) (.seq (.ret (.cst (.bool false))) .nil) .nil) (.seq (.ex (.meth .append (.var 3) (.consA (.var 6) .nilA))) .nil))))) .nil)) (.seq (.ret (.cst (.bool true))) .nil))))
def H_l_fits (T : List MFn) (ix : Ix) : Prop := HasF T ix.l_fits (B_l_fits ix) 2 8 ∧ H_l_far T ix ∧ H_l_cross T ix
def B_l_board (ix : Ix) : MS := (.seq (.par 6 7 (.consA (.op .ix (.consA (.lst false (.consA (.cst (.int 100)) (.consA (.cst (.int 30)) (.consA (.cst (.int 12)) (.consA (.cst (.int 100)) .nilA))))) (.consA (.call false ix.l_draw (.consA (.var 0) (.consA (.cst (.int 4)) .nilA))) .nilA))) (.consA (.op (.addL false) (.consA (.cst (.int 3)) (.consA (.call false ix.l_draw (.consA (.var 0) (.consA (.op .sub (.consA (.var 1) (.consA (.cst (.int 2)) .nilA))) .nilA))) .nilA))) .nilA))) (.seq (.setv 2 (.lst true .nilA)) (.seq (.forr (.v 3) .range1 (.consA (.cst (.int 30)) .nilA) (.seq (.setv 8 (.tup (.consA (.call false ix.l_draw (.consA (.var 0) (.consA (.var 6) .nilA))) (.consA (.call false ix.l_draw (.consA (.var 0) (.consA (.var 6) .nilA))) .nilA)))) (.seq (.iff (.bop true (.op .lt (.consA (.op .len (.consA (.var 2) .nilA)) (.consA (.var 7) .nilA))) (.bone (.call false ix.l_fits (.consA (.var 2) (.consA (.var 8) .nilA))))) (.seq (.ex (.meth .append (.var 2) (.consA (.var 8) .nilA))) .nil) .nil) .nil))) (.seq (.iff (.op .lt (.consA (.op .len (.consA (.var 2) .nilA)) (.consA (.cst (.int 3)) .nilA))) (.seq (.setv 2 (.lst true (.consA (.tup (.consA (.cst (.int 28)) (.consA (.cst (.int 35)) .nilA))) (.consA (.tup (.consA (.cst (.int 29)) (.consA (.cst (.int 28)) .nilA))) (.consA (.tup (.consA (.cst (.int 32)) (.consA (.cst (.int 37)) .nilA))) (.consA (.tup (.consA (.cst (.int 12)) (.consA (.cst (.int 11)) .nilA))) .nilA)))))) (.seq (.setv 2 (.op (.slU true) (.consA (.op (.addL false) (.consA (.var 2) (.consA (.lst false (.consA (.tup (.consA (.cst (.int 32)) (.consA (.cst (.int 30)) .nilA))) (.consA (.tup (.consA (.cst (.int 39)) (.consA (.cst (.int 11)) .nilA))) (.consA (.tup (.consA (.cst (.int 19)) (.consA (.cst (.int 9)) .nilA))) (.consA (.tup (.consA (.cst (.int 5)) (.consA (.cst (.int 34)) .nilA))) .nilA))))) .nilA))) (.consA (.var 7) .nilA)))) .nil)) .nil) (.seq (.setv 4 (.call false ix.l_draw (.consA (.var 0) (.consA (.cst (.int 6)) .nilA)))) (.seq (.setLc 5 (.lc false (.op .ix (.consA (.lst false (.consA (.cst (.str "left")) (.consA (.cst (.str "right")) .nilA))) (.consA (.call false ix.l_draw (.consA (.var 0) (.consA (.cst (.int 2)) .nilA))) .nilA))) [8] (.v 8) .val (.consA (.var 2) .nilA) false .nilA)) (.seq (.iff (.op .lt (.consA (.var 4) (.consA (.cst (.int 2)) .nilA))) (.seq (.setv 5 (.op (.mulL false) (.consA (.lst false (.consA (.op .ix (.consA (.lst false (.consA (.cst (.str "left")) (.consA (.cst (.str "right")) .nilA))) (.consA (.var 4) .nilA))) .nilA)) (.consA (.op .len (.consA (.var 2) .nilA)) .nilA)))) .nil) .nil) (.seq (.ret (.op .tuple (.consA (.lc false (.op (.addL false) (.consA (.var 8) (.consA (.tup (.consA (.var 9) .nilA)) .nilA))) [8, 9] (.tup (.cons (.v 8) (.cons (.v 9) .nil))) .zip (.consA (.var 2) (.consA (.var 5) .nilA)) false .nilA) .nilA))) .nil))))))))
def H_l_board (T : List MFn) (ix : Ix) : Prop := HasF T ix.l_board (B_l_board ix) 2 10 ∧ H_l_draw T ix ∧ H_l_fits T ix
def B_rises (ix : Ix) : MS := (.seq (.ret (.op .all (.consA (.lc false (.op .lt (.consA (.var 1) (.consA (.var 2) .nilA))) [1, 2] (.tup (.cons (.v 1) (.cons (.v 2) .nil))) .zip (.consA (.var 0) (.consA (.op (.slL false) (.consA (.var 0) (.consA (.cst (.int 1)) .nilA))) .nilA)) false .nilA) .nilA))) .nil)
def H_rises (T : List MFn) (ix : Ix) : Prop := HasF T ix.rises (B_rises ix) 1 3
def B_other_way (ix : Ix) : MS := (.seq (.ret (.ife (.op .eq (.consA (.var 0) (.consA (.gl "LEFT" (.str "left")) .nilA))) (.gl "RIGHT" (.str "right")) (.gl "LEFT" (.str "left")))) .nil)
def H_other_way (T : List MFn) (ix : Ix) : Prop := HasF T ix.other_way (B_other_way ix) 1 1
def B_need_board (ix : Ix) : MS := (.seq (.iff (.nt (.call false ix.is_board (.consA (.var 0) .nilA))) (.seq (.rais 1) .nil) .nil) .nil)
def H_need_board (T : List MFn) (ix : Ix) : Prop := HasF T ix.need_board (B_need_board ix) 1 1 ∧ H_is_board T ix
def B_need_pin (ix : Ix) : MS := (.seq (.iff (.nt (.call false ix.is_within (.consA (.var 1) (.consA (.cst (.int 0)) (.consA (.op .sub (.consA (.op .len (.consA (.var 0) .nilA)) (.consA (.cst (.int 1)) .nilA))) .nilA))))) (.seq (.rais 3) .nil) .nil) .nil)
def H_need_pin (T : List MFn) (ix : Ix) : Prop := HasF T ix.need_pin (B_need_pin ix) 2 2 ∧ H_is_within T ix
def B_need_pins (ix : Ix) : MS := (.seq (.iff (.bop false (.nt (.op .isT (.consA (.var 1) .nilA))) (.bone (.nt (.op .all (.consA (.lc false (.call false ix.is_within (.consA (.var 2) (.consA (.cst (.int 0)) (.consA (.op .sub (.consA (.op .len (.consA (.var 0) .nilA)) (.consA (.cst (.int 1)) .nilA))) .nilA)))) [2] (.v 2) .val (.consA (.var 1) .nilA) false .nilA) .nilA))))) (.seq (.rais 2) .nil) .nil) (.seq (.iff (.nt (.call false ix.rises (.consA (.var 1) .nilA))) (.seq (.rais 2) .nil) .nil) .nil))
def H_need_pins (T : List MFn) (ix : Ix) : Prop := HasF T ix.need_pins (B_need_pins ix) 2 3 ∧ H_is_within T ix ∧ H_rises T ix
def B_with_ways_by (ix : Ix) : MS := (.seq (.ret (.op .tuple (.consA (.lc false (.tup (.consA (.var 3) (.consA (.var 4) (.consA (.ife (.op .inn (.consA (.var 2) (.consA (.var 1) .nilA))) (.call false ix.other_way (.consA (.var 5) .nilA)) (.var 5)) .nilA)))) [2, 3, 4, 5] (.tup (.cons (.v 2) (.cons (.tup (.cons (.v 3) (.cons (.v 4) (.cons (.v 5) .nil)))) .nil))) .enum (.consA (.var 0) .nilA) false .nilA) .nilA))) .nil)
def H_with_ways_by (T : List MFn) (ix : Ix) : Prop := HasF T ix.with_ways_by (B_with_ways_by ix) 2 6 ∧ H_other_way T ix
def B_with_ways (ix : Ix) : MS := (.seq (.ex (.call false ix.need_board (.consA (.var 0) .nilA))) (.seq (.ex (.call false ix.need_pins (.consA (.var 0) (.consA (.var 1) .nilA)))) (.seq (.ret (.call false ix.with_ways_by (.consA (.var 0) (.consA (.var 1) .nilA)))) .nil)))
def H_with_ways (T : List MFn) (ix : Ix) : Prop := HasF T ix.with_ways (B_with_ways ix) 2 2 ∧ H_need_board T ix ∧ H_need_pins T ix ∧ H_with_ways_by T ix
def B_need_look (ix : Ix) : MS := (.seq (.iff (.bop false (.nt (.call false ix.is_long (.consA (.var 1) (.consA (.gl "LONG_LOOK" (.int 2)) (.consA (.gl "LONG_LOOK" (.int 2)) .nilA))))) (.bone (.nt (.op .all (.consA (.lc false (.call false ix.is_whole (.consA (.var 2) .nilA)) [2] (.v 2) .val (.consA (.var 1) .nilA) false .nilA) .nilA))))) (.seq (.rais 4) .nil) .nil) (.seq (.iff (.nt (.op .all (.consA (.lc false (.op .ne (.consA (.call false ix.cross (.consA (.var 1) (.consA (.var 2) .nilA))) (.consA (.cst (.int 0)) .nilA))) [2] (.v 2) .val (.consA (.call false ix.pairs_of (.consA (.var 0) .nilA)) .nilA) false .nilA) .nilA))) (.seq (.rais 4) .nil) .nil) .nil))
def H_need_look (T : List MFn) (ix : Ix) : Prop := HasF T ix.need_look (B_need_look ix) 2 3 ∧ H_is_long T ix ∧ H_is_whole T ix ∧ H_cross T ix ∧ H_pairs_of T ix
def B_is_counted (ix : Ix) : MS := (.seq (.setv 4 (.call false ix.cross (.consA (.var 2) (.consA (.call false ix.between (.consA (.var 0) (.consA (.var 1) (.consA (.var 3) .nilA)))) .nilA)))) (.seq (.ret (.bop true (.op .ne (.consA (.var 3) (.consA (.var 1) .nilA))) (.bone (.op .eq (.consA (.op .gt (.consA (.var 4) (.consA (.cst (.int 0)) .nilA))) (.consA (.op .eq (.consA (.op .ix (.consA (.op .ix (.consA (.var 0) (.consA (.var 3) .nilA))) (.consA (.cst (.int 2)) .nilA))) (.consA (.gl "LEFT" (.str "left")) .nilA))) .nilA)))))) .nil))
def H_is_counted (T : List MFn) (ix : Ix) : Prop := HasF T ix.is_counted (B_is_counted ix) 4 5 ∧ H_cross T ix ∧ H_between T ix
def B_number_at (ix : Ix) : MS := (.seq (.ret (.meth .count (.lc false (.call false ix.is_counted (.consA (.var 0) (.consA (.var 1) (.consA (.var 2) (.consA (.var 3) .nilA))))) [3] (.v 3) .range1 (.consA (.op .len (.consA (.var 0) .nilA)) .nilA) false .nilA) (.consA (.cst (.bool true)) .nilA))) .nil)
def H_number_at (T : List MFn) (ix : Ix) : Prop := HasF T ix.number_at (B_number_at ix) 3 4 ∧ H_is_counted T ix
def B_l_chart (ix : Ix) : MS := (.seq (.par 2 3 (.consA (.lst true .nilA) (.consA (.lst true .nilA) .nilA))) (.seq (.forr (.v 1) .range1 (.consA (.op .len (.consA (.var 0) .nilA)) .nilA) (.seq (.forr (.v 4) .val (.consA (.lc false (.var 4) [4] (.v 4) .range1 (.consA (.op .len (.consA (.var 0) .nilA)) .nilA) true (.op .ne (.consA (.var 4) (.consA (.var 1) .nilA)))) .nilA) (.seq (.setv 5 (.call false ix.l_far (.consA (.var 0) (.consA (.var 1) (.consA (.var 4) .nilA))))) (.seq (.setv 6 (.ife (.op .gt (.consA (.call false ix.l_cross (.consA (.tup (.consA (.cst (.int 1000)) (.consA (.cst (.int 1)) .nilA))) (.consA (.var 5) .nilA))) (.consA (.cst (.int 0)) .nilA))) (.var 2) (.var 3))) (.seq (.setv 7 (.cst (.int 0))) (.seq (.whil (.bop true (.op .lt (.consA (.var 7) (.consA (.op .len (.consA (.var 6) .nilA)) .nilA))) (.bone (.op .gt (.consA (.call false ix.l_cross (.consA (.op .ix (.consA (.op .ix (.consA (.var 6) (.consA (.var 7) .nilA))) (.consA (.cst (.int 0)) .nilA))) (.consA (.var 5) .nilA))) (.consA (.cst (.int 0)) .nilA))))) (.seq (.setv 7 (.op (.addL false) (.consA (.var 7) (.consA (.cst (.int 1)) .nilA)))) .nil)) (.seq (.ex (.meth .insert (.var 6) (.consA (.var 7) (.consA (.tup (.consA (.var 5) (.consA (.var 1) (.consA (.var 4) .nilA)))) .nilA)))) .nil)))))) .nil)) (.seq (.ret (.op (.addL false) (.consA (.var 2) (.consA (.var 3) .nilA)))) .nil)))
def H_l_chart (T : List MFn) (ix : Ix) : Prop := HasF T ix.l_chart (B_l_chart ix) 1 8 ∧ H_l_far T ix ∧ H_l_cross T ix
def B_is_stand_by (ix : Ix) : MS := (.seq (.iff (.bop false (.nt (.call false ix.is_long (.consA (.var 1) (.consA (.gl "LONG_STAND" (.int 3)) (.consA (.gl "LONG_STAND" (.int 3)) .nilA))))) (.bop false (.nt (.op .isS (.consA (.op .ix (.consA (.var 1) (.consA (.cst (.int 2)) .nilA))) .nilA))) (.bone (.op .nin (.consA (.op .ix (.consA (.var 1) (.consA (.cst (.int 2)) .nilA))) (.consA (.tup (.consA (.gl "AHEAD" (.str "ahead")) (.consA (.gl "BEHIND" (.str "behind")) .nilA))) .nilA)))))) (.seq (.ret (.cst (.bool false))) .nil) .nil) (.seq (.ret (.bop true (.op .all (.consA (.lc false (.call false ix.is_within (.consA (.var 2) (.consA (.cst (.int 0)) (.consA (.op .sub (.consA (.op .len (.consA (.var 0) .nilA)) (.consA (.cst (.int 1)) .nilA))) .nilA)))) [2] (.v 2) .val (.consA (.op (.slU false) (.consA (.var 1) (.consA (.cst (.int 2)) .nilA))) .nilA) false .nilA) .nilA)) (.bone (.op .ne (.consA (.op .ix (.consA (.var 1) (.consA (.cst (.int 0)) .nilA))) (.consA (.op .ix (.consA (.var 1) (.consA (.cst (.int 1)) .nilA))) .nilA)))))) .nil))
def H_is_stand_by (T : List MFn) (ix : Ix) : Prop := HasF T ix.is_stand_by (B_is_stand_by ix) 2 3 ∧ H_is_long T ix ∧ H_is_within T ix
def B_is_stand (ix : Ix) : MS := (.seq (.ex (.call false ix.need_board (.consA (.var 0) .nilA))) (.seq (.ret (.call false ix.is_stand_by (.consA (.var 0) (.consA (.var 1) .nilA)))) .nil))
def H_is_stand (T : List MFn) (ix : Ix) : Prop := HasF T ix.is_stand (B_is_stand ix) 2 2 ∧ H_need_board T ix ∧ H_is_stand_by T ix
def B_need_stand (ix : Ix) : MS := (.seq (.ex (.call false ix.need_board (.consA (.var 0) .nilA))) (.seq (.iff (.nt (.call false ix.is_stand_by (.consA (.var 0) (.consA (.var 1) .nilA)))) (.seq (.rais 6) .nil) .nil) .nil))
def H_need_stand (T : List MFn) (ix : Ix) : Prop := HasF T ix.need_stand (B_need_stand ix) 2 2 ∧ H_need_board T ix ∧ H_is_stand_by T ix
def B_look_of (ix : Ix) : MS := (.seq (.asgT (.tup (.cons (.v 2) (.cons (.v 3) (.cons (.v 4) .nil)))) (.var 1)) (.seq (.ret (.ife (.op .eq (.consA (.var 4) (.consA (.gl "AHEAD" (.str "ahead")) .nilA))) (.call false ix.between (.consA (.var 0) (.consA (.var 2) (.consA (.var 3) .nilA)))) (.call false ix.between (.consA (.var 0) (.consA (.var 3) (.consA (.var 2) .nilA)))))) .nil))
def H_look_of (T : List MFn) (ix : Ix) : Prop := HasF T ix.look_of (B_look_of ix) 2 5 ∧ H_between T ix
def B_beside (kb : Bool) (ix : Ix) : MS := (.seq (.ret (.lc kb (.var 3) [3] (.v 3) .range1 (.consA (.op .len (.consA (.var 0) .nilA)) .nilA) true (.op .nin (.consA (.var 3) (.consA (.tup (.consA (.var 1) (.consA (.var 2) .nilA))) .nilA))))) .nil)
def H_beside (T : List MFn) (ix : Ix) : Prop := ∃ kb, HasF T ix.beside (B_beside kb ix) 3 4
def B_number_by (ix : Ix) : MS := (.seq (.asgT (.tup (.cons (.v 4) (.cons (.v 5) (.cons (.v 6) .nil)))) (.var 1)) (.seq (.par 7 8 (.consA (.call false ix.look_of (.consA (.var 0) (.consA (.var 1) .nilA))) (.consA (.op .eq (.consA (.op .eq (.consA (.op .ix (.consA (.op .ix (.consA (.var 0) (.consA (.var 4) .nilA))) (.consA (.cst (.int 2)) .nilA))) (.consA (.gl "LEFT" (.str "left")) .nilA))) (.consA (.op .eq (.consA (.var 6) (.consA (.gl "BEHIND" (.str "behind")) .nilA))) .nilA))) .nilA))) (.seq (.setv 2 (.op .int (.consA (.op .eq (.consA (.var 8) (.consA (.op .eq (.consA (.op .ix (.consA (.op .ix (.consA (.var 0) (.consA (.var 5) .nilA))) (.consA (.cst (.int 2)) .nilA))) (.consA (.gl "LEFT" (.str "left")) .nilA))) .nilA))) .nilA))) (.seq (.forr (.v 3) .val (.consA (.call false ix.beside (.consA (.var 0) (.consA (.var 4) (.consA (.var 5) .nilA)))) .nilA) (.seq (.setv 2 (.op (.addL false) (.consA (.var 2) (.consA (.op .int (.consA (.op .eq (.consA (.op .gt (.consA (.call false ix.cross (.consA (.var 7) (.consA (.call false ix.between (.consA (.var 0) (.consA (.var 4) (.consA (.var 3) .nilA)))) .nilA))) (.consA (.cst (.int 0)) .nilA))) (.consA (.op .eq (.consA (.op .ix (.consA (.op .ix (.consA (.var 0) (.consA (.var 3) .nilA))) (.consA (.cst (.int 2)) .nilA))) (.consA (.gl "LEFT" (.str "left")) .nilA))) .nilA))) .nilA)) .nilA)))) .nil)) (.seq (.ret (.var 2)) .nil)))))
def H_number_by (T : List MFn) (ix : Ix) : Prop := HasF T ix.number_by (B_number_by ix) 2 9 ∧ H_look_of T ix ∧ H_beside T ix ∧ H_cross T ix ∧ H_between T ix
def B_number_of (ix : Ix) : MS := (.seq (.ex (.call false ix.need_stand (.consA (.var 0) (.consA (.var 1) .nilA)))) (.seq (.ret (.call false ix.number_by (.consA (.var 0) (.consA (.var 1) .nilA)))) .nil))
def H_number_of (T : List MFn) (ix : Ix) : Prop := HasF T ix.number_of (B_number_of ix) 2 2 ∧ H_need_stand T ix ∧ H_number_by T ix
def B_l_spot (ix : Ix) : MS := (.seq (.asgT (.tup (.cons (.v 3) (.cons (.v 4) (.cons (.v 5) .nil)))) (.var 1)) (.seq (.setv 2 (.ife (.op .eq (.consA (.var 5) (.consA (.cst (.str "ahead")) .nilA))) (.tup (.consA (.var 3) (.consA (.var 4) .nilA))) (.tup (.consA (.var 4) (.consA (.var 3) .nilA))))) (.seq (.ret (.op .ix (.consA (.lc false (.var 6) [6, 7] (.tup (.cons (.v 6) (.cons (.v 7) .nil))) .enum (.consA (.var 0) .nilA) true (.op .eq (.consA (.op (.slL false) (.consA (.var 7) (.consA (.cst (.int 1)) .nilA))) (.consA (.var 2) .nilA)))) (.consA (.cst (.int 0)) .nilA)))) .nil)))
def H_l_spot (T : List MFn) (ix : Ix) : Prop := HasF T ix.l_spot (B_l_spot ix) 2 8
def B_l_stands (ix : Ix) : MS := (.seq (.setv 1 (.lst false .nilA)) (.seq (.forr (.v 2) .range1 (.consA (.op .len (.consA (.var 0) .nilA)) .nilA) (.seq (.forr (.v 3) .val (.consA (.lc false (.var 3) [3] (.v 3) .range1 (.consA (.op .len (.consA (.var 0) .nilA)) .nilA) true (.op .ne (.consA (.var 3) (.consA (.var 2) .nilA)))) .nilA) (.seq (.setv 1 (.op (.addL false) (.consA (.var 1) (.consA (.lst false (.consA (.tup (.consA (.var 2) (.consA (.var 3) (.consA (.cst (.str "ahead")) .nilA)))) (.consA (.tup (.consA (.var 2) (.consA (.var 3) (.consA (.cst (.str "behind")) .nilA)))) .nilA))) .nilA)))) .nil)) .nil)) (.seq (.ret (.var 1)) .nil)))
def H_l_stands (T : List MFn) (ix : Ix) : Prop := HasF T ix.l_stands (B_l_stands ix) 1 4
def B_l_number (ix : Ix) : MS := (.seq (.setv 3 (.cst (.int 0))) (.seq (.forr (.tup (.cons (.v 4) (.cons (.tup (.cons (.v 7) (.cons (.v 8) (.cons (.v 9) .nil)))) .nil))) .enum (.consA (.var 0) .nilA) (.seq (.setv 5 (.call false ix.l_cross (.consA (.var 2) (.consA (.tup (.consA (.op .sub (.consA (.var 7) (.consA (.op .ix (.consA (.op .ix (.consA (.var 0) (.consA (.var 1) .nilA))) (.consA (.cst (.int 0)) .nilA))) .nilA))) (.consA (.op .sub (.consA (.var 8) (.consA (.op .ix (.consA (.op .ix (.consA (.var 0) (.consA (.var 1) .nilA))) (.consA (.cst (.int 1)) .nilA))) .nilA))) .nilA))) .nilA)))) (.seq (.setv 6 (.ife (.op .eq (.consA (.var 9) (.consA (.cst (.str "left")) .nilA))) (.op .gt (.consA (.var 5) (.consA (.cst (.int 0)) .nilA))) (.op .lt (.consA (.var 5) (.consA (.cst (.int 0)) .nilA))))) (.seq (.setv 3 (.op (.addL false) (.consA (.var 3) (.consA (.op .int (.consA (.bop true (.op .ne (.consA (.var 4) (.consA (.var 1) .nilA))) (.bone (.var 6))) .nilA)) .nilA)))) .nil)))) (.seq (.ret (.var 3)) .nil)))
def H_l_number (T : List MFn) (ix : Ix) : Prop := HasF T ix.l_number (B_l_number ix) 3 10 ∧ H_l_cross T ix
def B_l_between (ix : Ix) : MS := (.seq (.setv 3 (.op .ix (.consA (.op .ix (.consA (.var 0) (.consA (.var 1) .nilA))) (.consA (.cst (.int 0)) .nilA)))) (.seq (.setv 4 (.op .ix (.consA (.op .ix (.consA (.var 0) (.consA (.op .mod (.consA (.op (.addL false) (.consA (.var 1) (.consA (.var 2) .nilA))) (.consA (.op .len (.consA (.var 0) .nilA)) .nilA))) .nilA))) (.consA (.cst (.int 0)) .nilA)))) (.seq (.ret (.tup (.consA (.op (.addL false) (.consA (.op .ix (.consA (.var 3) (.consA (.cst (.int 0)) .nilA))) (.consA (.op .ix (.consA (.var 4) (.consA (.cst (.int 0)) .nilA))) .nilA))) (.consA (.op (.addL false) (.consA (.op .ix (.consA (.var 3) (.consA (.cst (.int 1)) .nilA))) (.consA (.op .ix (.consA (.var 4) (.consA (.cst (.int 1)) .nilA))) .nilA))) .nilA)))) .nil)))
def H_l_between (T : List MFn) (ix : Ix) : Prop := HasF T ix.l_between (B_l_between ix) 3 5
def B_l_number_of (ix : Ix) : MS := (.seq (.setv 3 (.op .ix (.consA (.lst false (.consA (.op .neg (.consA (.cst (.int 1)) .nilA)) (.consA (.cst (.int 1)) .nilA))) (.consA (.op .int (.consA (.op .eq (.consA (.op .ix (.consA (.op .ix (.consA (.var 0) (.consA (.op .ix (.consA (.var 2) (.consA (.cst (.int 0)) .nilA))) .nilA))) (.consA (.cst (.int 2)) .nilA))) (.consA (.cst (.str "left")) .nilA))) .nilA)) .nilA)))) (.seq (.setv 4 (.call false ix.l_between (.consA (.var 1) (.consA (.call false ix.l_spot (.consA (.var 1) (.consA (.var 2) .nilA))) (.consA (.var 3) .nilA))))) (.seq (.ret (.call false ix.l_number (.consA (.var 0) (.consA (.op .ix (.consA (.var 2) (.consA (.cst (.int 0)) .nilA))) (.consA (.var 4) .nilA))))) .nil)))
def H_l_number_of (T : List MFn) (ix : Ix) : Prop := HasF T ix.l_number_of (B_l_number_of ix) 3 5 ∧ H_l_between T ix ∧ H_l_spot T ix ∧ H_l_number T ix
def B_other_word (ix : Ix) : MS := (.seq (.ret (.ife (.op .eq (.consA (.var 0) (.consA (.gl "AHEAD" (.str "ahead")) .nilA))) (.gl "BEHIND" (.str "behind")) (.gl "AHEAD" (.str "ahead")))) .nil)
def H_other_word (T : List MFn) (ix : Ix) : Prop := HasF T ix.other_word (B_other_word ix) 1 1
def B_turned_about (ix : Ix) : MS := (.seq (.ret (.tup (.consA (.op .sub (.consA (.cst (.int 0)) (.consA (.op .ix (.consA (.var 0) (.consA (.cst (.int 0)) .nilA))) .nilA))) (.consA (.op .sub (.consA (.cst (.int 0)) (.consA (.op .ix (.consA (.var 0) (.consA (.cst (.int 1)) .nilA))) .nilA))) .nilA)))) .nil)
def H_turned_about (T : List MFn) (ix : Ix) : Prop := HasF T ix.turned_about (B_turned_about ix) 1 1
def B_met_first (ix : Ix) : MS := (.seq (.setv 5 (.cst .none)) (.seq (.forr (.v 6) .val (.consA (.var 4) .nilA) (.seq (.setv 7 (.call false ix.between (.consA (.var 0) (.consA (.var 1) (.consA (.var 6) .nilA))))) (.seq (.setv 8 (.op .eq (.consA (.op .gt (.consA (.call false ix.cross (.consA (.var 2) (.consA (.var 7) .nilA))) (.consA (.cst (.int 0)) .nilA))) (.consA (.op .eq (.consA (.var 3) (.consA (.gl "LEFT" (.str "left")) .nilA))) .nilA)))) (.seq (.setv 9 (.ife (.var 8) (.var 7) (.call false ix.turned_about (.consA (.var 7) .nilA)))) (.seq (.iff (.bop false (.op .isC (.consA (.var 5) (.consA (.cst .none) .nilA))) (.bone (.op .eq (.consA (.op .gt (.consA (.call false ix.cross (.consA (.var 9) (.consA (.op .ix (.consA (.var 5) (.consA (.cst (.int 2)) .nilA))) .nilA))) (.consA (.cst (.int 0)) .nilA))) (.consA (.op .eq (.consA (.var 3) (.consA (.gl "LEFT" (.str "left")) .nilA))) .nilA))))) (.seq (.setv 5 (.tup (.consA (.var 6) (.consA (.ife (.var 8) (.gl "AHEAD" (.str "ahead")) (.gl "BEHIND" (.str "behind"))) (.consA (.var 9) .nilA))))) .nil) .nil) .nil))))) (.seq (.ret (.var 5)) .nil)))
def H_met_first (T : List MFn) (ix : Ix) : Prop := HasF T ix.met_first (B_met_first ix) 5 10 ∧ H_between T ix ∧ H_cross T ix ∧ H_turned_about T ix
def B_beat_by (ix : Ix) : MS := (.seq (.asgT (.tup (.cons (.v 2) (.cons (.v 3) (.cons (.v 4) .nil)))) (.var 1)) (.seq (.asgT (.tup (.cons (.v 5) (.cons (.v 6) (.cons (.v 7) .nil)))) (.call false ix.met_first (.consA (.var 0) (.consA (.var 2) (.consA (.call false ix.look_of (.consA (.var 0) (.consA (.var 1) .nilA))) (.consA (.op .ix (.consA (.op .ix (.consA (.var 0) (.consA (.var 2) .nilA))) (.consA (.cst (.int 2)) .nilA))) (.consA (.call false ix.beside (.consA (.var 0) (.consA (.var 2) (.consA (.var 3) .nilA)))) .nilA))))))) (.seq (.ret (.tup (.consA (.var 5) (.consA (.var 2) (.consA (.call false ix.other_word (.consA (.var 6) .nilA)) .nilA))))) .nil)))
def H_beat_by (T : List MFn) (ix : Ix) : Prop := HasF T ix.beat_by (B_beat_by ix) 2 8 ∧ H_met_first T ix ∧ H_look_of T ix ∧ H_beside T ix ∧ H_other_word T ix
def B_beat (ix : Ix) : MS := (.seq (.ex (.call false ix.need_stand (.consA (.var 0) (.consA (.var 1) .nilA)))) (.seq (.ret (.call false ix.beat_by (.consA (.var 0) (.consA (.var 1) .nilA)))) .nil))
def H_beat (T : List MFn) (ix : Ix) : Prop := HasF T ix.beat (B_beat ix) 2 2 ∧ H_need_stand T ix ∧ H_beat_by T ix
def B_ahead (ix : Ix) : MS := (.seq (.ex (.call false ix.need_stand (.consA (.var 0) (.consA (.var 1) .nilA)))) (.seq (.asgT (.tup (.cons (.v 3) (.cons (.v 4) (.cons (.v 5) .nil)))) (.var 1)) (.seq (.setv 2 (.call false ix.other_way (.consA (.op .ix (.consA (.op .ix (.consA (.var 0) (.consA (.var 4) .nilA))) (.consA (.cst (.int 2)) .nilA))) .nilA))) (.seq (.asgT (.tup (.cons (.v 6) (.cons (.v 7) (.cons (.v 8) .nil)))) (.call false ix.met_first (.consA (.var 0) (.consA (.var 4) (.consA (.call false ix.look_of (.consA (.var 0) (.consA (.var 1) .nilA))) (.consA (.var 2) (.consA (.call false ix.beside (.consA (.var 0) (.consA (.var 3) (.consA (.var 4) .nilA)))) .nilA))))))) (.seq (.ret (.tup (.consA (.var 4) (.consA (.var 6) (.consA (.var 7) .nilA))))) .nil)))))
def H_ahead (T : List MFn) (ix : Ix) : Prop := HasF T ix.ahead (B_ahead ix) 2 9 ∧ H_need_stand T ix ∧ H_other_way T ix ∧ H_met_first T ix ∧ H_look_of T ix ∧ H_beside T ix
def B_l_met (ix : Ix) : MS := (.seq (.setv 4 (.op .mod (.consA (.op (.addL false) (.consA (.var 2) (.consA (.var 3) .nilA))) (.consA (.op .len (.consA (.var 0) .nilA)) .nilA)))) (.seq (.whil (.op .nin (.consA (.var 1) (.consA (.op (.slL false) (.consA (.op .ix (.consA (.var 0) (.consA (.var 4) .nilA))) (.consA (.cst (.int 1)) .nilA))) .nilA))) (.seq (.setv 4 (.op .mod (.consA (.op (.addL false) (.consA (.var 4) (.consA (.var 3) .nilA))) (.consA (.op .len (.consA (.var 0) .nilA)) .nilA)))) .nil)) (.seq (.asgT (.tup (.cons (.v 5) (.cons (.v 6) (.cons (.v 7) .nil)))) (.op .ix (.consA (.var 0) (.consA (.var 4) .nilA)))) (.seq (.ret (.ife (.op .eq (.consA (.var 6) (.consA (.var 1) .nilA))) (.tup (.consA (.var 4) (.consA (.var 7) (.consA (.cst (.str "ahead")) .nilA)))) (.tup (.consA (.var 4) (.consA (.var 6) (.consA (.cst (.str "behind")) .nilA)))))) .nil))))
def H_l_met (T : List MFn) (ix : Ix) : Prop := HasF T ix.l_met (B_l_met ix) 4 8
def B_l_step (ix : Ix) : MS := (.seq (.setv 3 (.op .ix (.consA (.var 2) (.consA (.cst (.int 0)) .nilA)))) (.seq (.setv 4 (.op .ix (.consA (.lst false (.consA (.op .neg (.consA (.cst (.int 1)) .nilA)) (.consA (.cst (.int 1)) .nilA))) (.consA (.op .int (.consA (.op .eq (.consA (.op .ix (.consA (.op .ix (.consA (.var 0) (.consA (.var 3) .nilA))) (.consA (.cst (.int 2)) .nilA))) (.consA (.cst (.str "left")) .nilA))) .nilA)) .nilA)))) (.seq (.asgT (.tup (.cons (.v 5) (.cons (.v 6) (.cons (.v 7) .nil)))) (.call false ix.l_met (.consA (.var 1) (.consA (.var 3) (.consA (.call false ix.l_spot (.consA (.var 1) (.consA (.var 2) .nilA))) (.consA (.var 4) .nilA)))))) (.seq (.ret (.tup (.consA (.var 6) (.consA (.var 3) (.consA (.ife (.op .eq (.consA (.var 7) (.consA (.cst (.str "ahead")) .nilA))) (.cst (.str "behind")) (.cst (.str "ahead"))) .nilA))))) .nil))))
def H_l_step (T : List MFn) (ix : Ix) : Prop := HasF T ix.l_step (B_l_step ix) 3 8 ∧ H_l_met T ix ∧ H_l_spot T ix
def B_walk_of (ix : Ix) : MS := (.seq (.par 2 3 (.consA (.lst true (.consA (.var 1) .nilA)) (.consA (.call false ix.beat_by (.consA (.var 0) (.consA (.var 1) .nilA))) .nilA))) (.seq (.whil (.op .ne (.consA (.var 3) (.consA (.var 1) .nilA))) (.seq (.ex (.meth .append (.var 2) (.consA (.var 3) .nilA))) (.seq (.setv 3 (.call false ix.beat_by (.consA (.var 0) (.consA (.var 3) .nilA)))) .nil))) (.seq (.ret (.var 2)) .nil)))
def H_walk_of (T : List MFn) (ix : Ix) : Prop := HasF T ix.walk_of (B_walk_of ix) 2 4 ∧ H_beat_by T ix
def B_after_by (ix : Ix) : MS := (.seq (.setv 3 (.call false ix.walk_of (.consA (.var 0) (.consA (.var 1) .nilA)))) (.seq (.ret (.op .ix (.consA (.var 3) (.consA (.op .mod (.consA (.var 2) (.consA (.op .len (.consA (.var 3) .nilA)) .nilA))) .nilA)))) .nil))
def H_after_by (T : List MFn) (ix : Ix) : Prop := HasF T ix.after_by (B_after_by ix) 3 4 ∧ H_walk_of T ix
def B_need_many (ix : Ix) : MS := (.seq (.iff (.nt (.call false ix.is_within (.consA (.var 0) (.consA (.cst (.int 0)) (.consA (.gl "MOST_BEATS" (.int 1000000000000)) .nilA))))) (.seq (.rais 5) .nil) .nil) .nil)
def H_need_many (T : List MFn) (ix : Ix) : Prop := HasF T ix.need_many (B_need_many ix) 1 1 ∧ H_is_within T ix
def B_after (ix : Ix) : MS := (.seq (.ex (.call false ix.need_stand (.consA (.var 0) (.consA (.var 1) .nilA)))) (.seq (.ex (.call false ix.need_many (.consA (.var 2) .nilA))) (.seq (.ret (.call false ix.after_by (.consA (.var 0) (.consA (.var 1) (.consA (.var 2) .nilA))))) .nil)))
def H_after (T : List MFn) (ix : Ix) : Prop := HasF T ix.after (B_after ix) 3 3 ∧ H_need_stand T ix ∧ H_need_many T ix ∧ H_after_by T ix
def B_l_round (ix : Ix) : MS := (.seq (.setv 3 (.lst true (.consA (.var 2) .nilA))) (.seq (.setv 4 (.call false ix.l_step (.consA (.var 0) (.consA (.var 1) (.consA (.var 2) .nilA))))) (.seq (.whil (.op .ne (.consA (.var 4) (.consA (.var 2) .nilA))) (.seq (.ex (.meth .append (.var 3) (.consA (.var 4) .nilA))) (.seq (.setv 4 (.call false ix.l_step (.consA (.var 0) (.consA (.var 1) (.consA (.var 4) .nilA))))) .nil))) (.seq (.ret (.var 3)) .nil))))
def H_l_round (T : List MFn) (ix : Ix) : Prop := HasF T ix.l_round (B_l_round ix) 3 5 ∧ H_l_step T ix
def B_meetings (ix : Ix) : MS := (.seq (.ex (.call false ix.need_board (.consA (.var 0) .nilA))) (.seq (.ex (.call false ix.need_pin (.consA (.var 0) (.consA (.var 1) .nilA)))) (.seq (.par 2 3 (.consA (.lst true .nilA) (.consA (.call true ix.beside (.consA (.var 0) (.consA (.var 1) (.consA (.var 1) .nilA)))) .nilA))) (.seq (.whil (.op .ne (.consA (.var 3) (.consA (.lst false .nilA) .nilA))) (.seq (.asgT (.tup (.cons (.v 4) (.cons (.v 5) (.cons (.v 6) .nil)))) (.call false ix.met_first (.consA (.var 0) (.consA (.var 1) (.consA (.gl "ASIDE" (.tuple [(.int 1000), (.int 1)])) (.consA (.gl "LEFT" (.str "left")) (.consA (.var 3) .nilA))))))) (.seq (.ex (.meth .append (.var 2) (.consA (.tup (.consA (.var 4) (.consA (.var 5) .nilA))) .nilA))) (.seq (.ex (.meth .remove (.var 3) (.consA (.var 4) .nilA))) .nil)))) (.seq (.ret (.op .tuple (.consA (.op (.addL false) (.consA (.var 2) (.consA (.lc false (.tup (.consA (.var 4) (.consA (.call false ix.other_word (.consA (.var 5) .nilA)) .nilA))) [4, 5] (.tup (.cons (.v 4) (.cons (.v 5) .nil))) .val (.consA (.var 2) .nilA) false .nilA) .nilA))) .nilA))) .nil)))))
def H_meetings (T : List MFn) (ix : Ix) : Prop := HasF T ix.meetings (B_meetings ix) 2 7 ∧ H_need_board T ix ∧ H_need_pin T ix ∧ H_beside T ix ∧ H_met_first T ix ∧ H_other_word T ix
def B_first_by (ix : Ix) : MS := (.seq (.asgT (.tup (.cons (.v 3) (.cons (.v 4) (.cons (.v 5) .nil)))) (.call false ix.met_first (.consA (.var 0) (.consA (.var 1) (.consA (.var 2) (.consA (.op .ix (.consA (.op .ix (.consA (.var 0) (.consA (.var 1) .nilA))) (.consA (.cst (.int 2)) .nilA))) (.consA (.call false ix.beside (.consA (.var 0) (.consA (.var 1) (.consA (.var 1) .nilA)))) .nilA))))))) (.seq (.ret (.tup (.consA (.var 3) (.consA (.var 1) (.consA (.call false ix.other_word (.consA (.var 4) .nilA)) .nilA))))) .nil))
def H_first_by (T : List MFn) (ix : Ix) : Prop := HasF T ix.first_by (B_first_by ix) 3 6 ∧ H_met_first T ix ∧ H_beside T ix ∧ H_other_word T ix
def B_first (ix : Ix) : MS := (.seq (.ex (.call false ix.need_board (.consA (.var 0) .nilA))) (.seq (.ex (.call false ix.need_pin (.consA (.var 0) (.consA (.var 1) .nilA)))) (.seq (.ex (.call false ix.need_look (.consA (.var 0) (.consA (.var 2) .nilA)))) (.seq (.ret (.call false ix.first_by (.consA (.var 0) (.consA (.var 1) (.consA (.var 2) .nilA))))) .nil))))
def H_first (T : List MFn) (ix : Ix) : Prop := HasF T ix.first (B_first ix) 3 3 ∧ H_need_board T ix ∧ H_need_pin T ix ∧ H_need_look T ix ∧ H_first_by T ix
def B_together (ix : Ix) : MS := (.seq (.ex (.call false ix.need_stand (.consA (.var 0) (.consA (.var 1) .nilA)))) (.seq (.ex (.call false ix.need_stand (.consA (.var 0) (.consA (.var 2) .nilA)))) (.seq (.setv 3 (.call false ix.walk_of (.consA (.var 0) (.consA (.var 1) .nilA)))) (.seq (.iff (.op .inn (.consA (.var 2) (.consA (.var 3) .nilA))) (.seq (.ret (.tup (.consA (.gl "ONE" (.str "one")) (.consA (.meth .index (.var 3) (.consA (.var 2) .nilA)) .nilA)))) .nil) .nil) (.seq (.par 4 5 (.consA (.call false ix.number_by (.consA (.var 0) (.consA (.var 1) .nilA))) (.consA (.call false ix.number_by (.consA (.var 0) (.consA (.var 2) .nilA))) .nilA))) (.seq (.iff (.op .ne (.consA (.var 4) (.consA (.var 5) .nilA))) (.seq (.ret (.tup (.consA (.gl "NUMBERS" (.str "numbers")) (.consA (.var 4) (.consA (.var 5) .nilA))))) .nil) .nil) (.seq (.ret (.tup (.consA (.gl "ROUNDS" (.str "rounds")) (.consA (.op .min1 (.consA (.var 3) .nilA)) (.consA (.op .min1 (.consA (.call false ix.walk_of (.consA (.var 0) (.consA (.var 2) .nilA))) .nilA)) .nilA))))) .nil)))))))
def H_together (T : List MFn) (ix : Ix) : Prop := HasF T ix.together (B_together ix) 3 6 ∧ H_need_stand T ix ∧ H_walk_of T ix ∧ H_number_by T ix
def B_l_some_stand (ix : Ix) : MS := (.seq (.ret (.call false ix.l_pick (.consA (.var 0) (.consA (.call false ix.l_stands (.consA (.var 1) .nilA)) .nilA)))) .nil)
def H_l_some_stand (T : List MFn) (ix : Ix) : Prop := HasF T ix.l_some_stand (B_l_some_stand ix) 2 2 ∧ H_l_pick T ix ∧ H_l_stands T ix
def B_greatest_divisor (ix : Ix) : MS := (.seq (.whil (.op .gt (.consA (.var 1) (.consA (.cst (.int 0)) .nilA))) (.seq (.par 0 1 (.consA (.var 1) (.consA (.op .mod (.consA (.var 0) (.consA (.var 1) .nilA))) .nilA))) .nil)) (.seq (.ret (.var 0)) .nil))
def H_greatest_divisor (T : List MFn) (ix : Ix) : Prop := HasF T ix.greatest_divisor (B_greatest_divisor ix) 2 2
def B_meetings_of (ix : Ix) : MS := (.seq (.parN [4, 5] (.consA (.call false ix.walk_of (.consA (.var 0) (.consA (.var 1) .nilA))) (.consA (.call false ix.walk_of (.consA (.var 0) (.consA (.var 2) .nilA))) .nilA))) (.seq (.setv 3 (.op .fdiv (.consA (.op (.mulL false) (.consA (.op .len (.consA (.var 4) .nilA)) (.consA (.op .len (.consA (.var 5) .nilA)) .nilA))) (.consA (.call false ix.greatest_divisor (.consA (.op .len (.consA (.var 4) .nilA)) (.consA (.op .len (.consA (.var 5) .nilA)) .nilA))) .nilA)))) (.seq (.ret (.lc false (.var 6) [6] (.v 6) .range1 (.consA (.var 3) .nilA) true (.op .eq (.consA (.op .ix (.consA (.op .ix (.consA (.var 4) (.consA (.op .mod (.consA (.var 6) (.consA (.op .len (.consA (.var 4) .nilA)) .nilA))) .nilA))) (.consA (.cst (.int 0)) .nilA))) (.consA (.op .ix (.consA (.op .ix (.consA (.var 5) (.consA (.op .mod (.consA (.var 6) (.consA (.op .len (.consA (.var 5) .nilA)) .nilA))) .nilA))) (.consA (.cst (.int 0)) .nilA))) .nilA))))) .nil)))
def H_meetings_of (T : List MFn) (ix : Ix) : Prop := HasF T ix.meetings_of (B_meetings_of ix) 3 7 ∧ H_walk_of T ix ∧ H_greatest_divisor T ix
def B_meet (ix : Ix) : MS := (.seq (.ex (.call false ix.need_stand (.consA (.var 0) (.consA (.var 1) .nilA)))) (.seq (.ex (.call false ix.need_stand (.consA (.var 0) (.consA (.var 2) .nilA)))) (.seq (.setv 3 (.call false ix.meetings_of (.consA (.var 0) (.consA (.var 1) (.consA (.var 2) .nilA))))) (.seq (.ret (.ife (.op .ne (.consA (.var 3) (.consA (.lst false .nilA) .nilA))) (.op .ix (.consA (.var 3) (.consA (.cst (.int 0)) .nilA))) (.cst .none))) .nil))))
def H_meet (T : List MFn) (ix : Ix) : Prop := HasF T ix.meet (B_meet ix) 3 4 ∧ H_need_stand T ix ∧ H_meetings_of T ix
def B_how_often (ix : Ix) : MS := (.seq (.ex (.call false ix.need_stand (.consA (.var 0) (.consA (.var 1) .nilA)))) (.seq (.ex (.call false ix.need_stand (.consA (.var 0) (.consA (.var 2) .nilA)))) (.seq (.ret (.op .len (.consA (.call false ix.meetings_of (.consA (.var 0) (.consA (.var 1) (.consA (.var 2) .nilA)))) .nilA))) .nil)))
def H_how_often (T : List MFn) (ix : Ix) : Prop := HasF T ix.how_often (B_how_often ix) 3 3 ∧ H_need_stand T ix ∧ H_meetings_of T ix
def B_l_stand (ix : Ix) : MS := (.seq (.setv 2 (.call false ix.l_draw (.consA (.var 0) (.consA (.op .len (.consA (.var 1) .nilA)) .nilA)))) (.seq (.setv 3 (.op .mod (.consA (.op (.addL false) (.consA (.op (.addL false) (.consA (.var 2) (.consA (.cst (.int 1)) .nilA))) (.consA (.call false ix.l_draw (.consA (.var 0) (.consA (.op .sub (.consA (.op .len (.consA (.var 1) .nilA)) (.consA (.cst (.int 1)) .nilA))) .nilA))) .nilA))) (.consA (.op .len (.consA (.var 1) .nilA)) .nilA)))) (.seq (.ret (.tup (.consA (.var 2) (.consA (.var 3) (.consA (.op .ix (.consA (.lst false (.consA (.cst (.str "ahead")) (.consA (.cst (.str "behind")) .nilA))) (.consA (.call false ix.l_draw (.consA (.var 0) (.consA (.cst (.int 2)) .nilA))) .nilA))) .nilA))))) .nil)))
def H_l_stand (T : List MFn) (ix : Ix) : Prop := HasF T ix.l_stand (B_l_stand ix) 2 4 ∧ H_l_draw T ix
def B_pins_by (ix : Ix) : MS := (.seq (.ret (.op .tuple (.consA (.op (.sortedSet false) (.consA (.lc false (.op .ix (.consA (.var 2) (.consA (.cst (.int 0)) .nilA))) [2] (.v 2) .val (.consA (.call false ix.walk_of (.consA (.var 0) (.consA (.var 1) .nilA))) .nilA) false .nilA) .nilA)) .nilA))) .nil)
def H_pins_by (T : List MFn) (ix : Ix) : Prop := HasF T ix.pins_by (B_pins_by ix) 2 3 ∧ H_walk_of T ix
def B_all_pins (ix : Ix) : MS := (.seq (.setv 1 (.lst false (.consA (.tup .nilA) .nilA))) (.seq (.forr (.v 2) .range1 (.consA (.op .len (.consA (.var 0) .nilA)) .nilA) (.seq (.setv 1 (.op (.addL false) (.consA (.var 1) (.consA (.lc false (.op (.addL false) (.consA (.var 4) (.consA (.tup (.consA (.var 2) .nilA)) .nilA))) [4] (.v 4) .val (.consA (.var 1) .nilA) false .nilA) .nilA)))) .nil)) (.seq (.ret (.lc false (.var 4) [3, 4] (.tup (.cons (.v 3) (.cons (.v 4) .nil))) .val (.consA (.op (.sorted false) (.consA (.lc false (.tup (.consA (.op .len (.consA (.var 4) .nilA)) (.consA (.var 4) .nilA))) [4] (.v 4) .val (.consA (.var 1) .nilA) false .nilA) .nilA)) .nilA) false .nilA)) .nil)))
def H_all_pins (T : List MFn) (ix : Ix) : Prop := HasF T ix.all_pins (B_all_pins ix) 1 5
def B_to_all (ix : Ix) : MS := (.seq (.ex (.call false ix.need_stand (.consA (.var 0) (.consA (.var 1) .nilA)))) (.seq (.forr (.v 2) .val (.consA (.call false ix.all_pins (.consA (.var 0) .nilA)) .nilA) (.seq (.iff (.op .eq (.consA (.op .len (.consA (.call false ix.pins_by (.consA (.call false ix.with_ways_by (.consA (.var 0) (.consA (.var 2) .nilA))) (.consA (.var 1) .nilA))) .nilA)) (.consA (.op .len (.consA (.var 0) .nilA)) .nilA))) (.seq (.ret (.var 2)) .nil) .nil) .nil)) (.seq (.ret (.cst .none)) .nil)))
def H_to_all (T : List MFn) (ix : Ix) : Prop := HasF T ix.to_all (B_to_all ix) 2 3 ∧ H_need_stand T ix ∧ H_all_pins T ix ∧ H_pins_by T ix ∧ H_with_ways_by T ix
def B_l_otherwise (ix : Ix) : MS := (.seq (.setv 2 (.lst true .nilA)) (.seq (.forr (.tup (.cons (.v 3) (.cons (.tup (.cons (.v 4) (.cons (.v 5) (.cons (.v 6) .nil)))) .nil))) .enum (.consA (.var 0) .nilA) (.seq (.ex (.meth .append (.var 2) (.consA (.tup (.consA (.var 4) (.consA (.var 5) (.consA (.op .ix (.consA (.lst false (.consA (.cst (.str "left")) (.consA (.cst (.str "right")) .nilA))) (.consA (.op .int (.consA (.op .eq (.consA (.op .eq (.consA (.var 6) (.consA (.cst (.str "left")) .nilA))) (.consA (.op .inn (.consA (.var 3) (.consA (.var 1) .nilA))) .nilA))) .nilA)) .nilA))) .nilA)))) .nilA))) .nil)) (.seq (.ret (.op .tuple (.consA (.var 2) .nilA))) .nil)))
def H_l_otherwise (T : List MFn) (ix : Ix) : Prop := HasF T ix.l_otherwise (B_l_otherwise ix) 2 7
def B_l_lots (ix : Ix) : MS := (.seq (.setv 1 (.lst false (.consA (.tup .nilA) .nilA))) (.seq (.forr (.v 2) .range1 (.consA (.var 0) .nilA) (.seq (.setv 1 (.op (.addL false) (.consA (.var 1) (.consA (.lc false (.op (.addL false) (.consA (.var 4) (.consA (.tup (.consA (.var 2) .nilA)) .nilA))) [4] (.v 4) .val (.consA (.var 1) .nilA) false .nilA) .nilA)))) .nil)) (.seq (.ret (.lc false (.var 4) [3, 4] (.tup (.cons (.v 3) (.cons (.v 4) .nil))) .val (.consA (.op (.sorted false) (.consA (.lc false (.tup (.consA (.op .len (.consA (.var 4) .nilA)) (.consA (.var 4) .nilA))) [4] (.v 4) .val (.consA (.var 1) .nilA) false .nilA) .nilA)) .nilA) false .nilA)) .nil)))
def H_l_lots (T : List MFn) (ix : Ix) : Prop := HasF T ix.l_lots (B_l_lots ix) 1 5
def B_l_wide (ix : Ix) : MS := (.seq (.setv 1 (.lst false (.consA (.tup (.consA (.cst (.int 0)) (.consA (.cst (.int 0)) .nilA))) (.consA (.tup (.consA (.cst (.int 40)) (.consA (.cst (.int 3)) .nilA))) (.consA (.tup (.consA (.cst (.int 11)) (.consA (.cst (.int 29)) .nilA))) (.consA (.tup (.consA (.cst (.int 7)) (.consA (.cst (.int 62)) .nilA))) (.consA (.tup (.consA (.cst (.int 93)) (.consA (.cst (.int 50)) .nilA))) (.consA (.tup (.consA (.cst (.int 71)) (.consA (.cst (.int 88)) .nilA))) (.consA (.tup (.consA (.cst (.int 26)) (.consA (.cst (.int 94)) .nilA))) (.consA (.tup (.consA (.cst (.int 58)) (.consA (.cst (.int 19)) .nilA))) .nilA)))))))))) (.seq (.ret (.op .tuple (.consA (.lc false (.op (.addL false) (.consA (.var 2) (.consA (.tup (.consA (.op .ix (.consA (.lst false (.consA (.cst (.str "left")) (.consA (.cst (.str "right")) .nilA))) (.consA (.call false ix.l_draw (.consA (.var 0) (.consA (.cst (.int 2)) .nilA))) .nilA))) .nilA)) .nilA))) [2] (.v 2) .val (.consA (.var 1) .nilA) false .nilA) .nilA))) .nil))
def H_l_wide (T : List MFn) (ix : Ix) : Prop := HasF T ix.l_wide (B_l_wide ix) 1 3 ∧ H_l_draw T ix
def B_keeping_off (ix : Ix) : MS := (.seq (.ex (.call false ix.need_stand (.consA (.var 0) (.consA (.var 1) .nilA)))) (.seq (.ex (.call false ix.need_pins (.consA (.var 0) (.consA (.var 2) .nilA)))) (.seq (.iff (.op .inn (.consA (.op .ix (.consA (.var 1) (.consA (.cst (.int 0)) .nilA))) (.consA (.var 2) .nilA))) (.seq (.rais 2) .nil) .nil) (.seq (.forr (.v 3) .val (.consA (.call false ix.all_pins (.consA (.var 0) .nilA)) .nilA) (.seq (.iff (.op .eq (.consA (.lc false (.var 4) [4] (.v 4) .val (.consA (.call false ix.pins_by (.consA (.call false ix.with_ways_by (.consA (.var 0) (.consA (.var 3) .nilA))) (.consA (.var 1) .nilA))) .nilA) true (.op .inn (.consA (.var 4) (.consA (.var 2) .nilA)))) (.consA (.lst false .nilA) .nilA))) (.seq (.ret (.var 3)) .nil) .nil) .nil)) (.seq (.ret (.cst .none)) .nil)))))
def H_keeping_off (T : List MFn) (ix : Ix) : Prop := HasF T ix.keeping_off (B_keeping_off ix) 3 5 ∧ H_need_stand T ix ∧ H_need_pins T ix ∧ H_all_pins T ix ∧ H_pins_by T ix ∧ H_with_ways_by T ix
def B_joining (ix : Ix) : MS := (.seq (.ex (.call false ix.need_stand (.consA (.var 0) (.consA (.var 1) .nilA)))) (.seq (.ex (.call false ix.need_stand (.consA (.var 0) (.consA (.var 2) .nilA)))) (.seq (.forr (.v 3) .val (.consA (.call false ix.all_pins (.consA (.var 0) .nilA)) .nilA) (.seq (.iff (.op .inn (.consA (.var 2) (.consA (.call false ix.walk_of (.consA (.call false ix.with_ways_by (.consA (.var 0) (.consA (.var 3) .nilA))) (.consA (.var 1) .nilA))) .nilA))) (.seq (.ret (.var 3)) .nil) .nil) .nil)) (.seq (.ret (.cst .none)) .nil))))
def H_joining (T : List MFn) (ix : Ix) : Prop := HasF T ix.joining (B_joining ix) 3 4 ∧ H_need_stand T ix ∧ H_all_pins T ix ∧ H_walk_of T ix ∧ H_with_ways_by T ix
def B_all_stands (ix : Ix) : MS := (.seq (.setv 1 (.lst true .nilA)) (.seq (.forr (.v 2) .range1 (.consA (.op .len (.consA (.var 0) .nilA)) .nilA) (.seq (.forr (.v 3) .val (.consA (.lc false (.var 3) [3] (.v 3) .range1 (.consA (.op .len (.consA (.var 0) .nilA)) .nilA) true (.op .ne (.consA (.var 3) (.consA (.var 2) .nilA)))) .nilA) (.seq (.ex (.meth .extend (.var 1) (.consA (.lst false (.consA (.tup (.consA (.var 2) (.consA (.var 3) (.consA (.gl "AHEAD" (.str "ahead")) .nilA)))) (.consA (.tup (.consA (.var 2) (.consA (.var 3) (.consA (.gl "BEHIND" (.str "behind")) .nilA)))) .nilA))) .nilA))) .nil)) .nil)) (.seq (.ret (.var 1)) .nil)))
def H_all_stands (T : List MFn) (ix : Ix) : Prop := HasF T ix.all_stands (B_all_stands ix) 1 4
def B_need_row (ix : Ix) : MS := (.seq (.iff (.bop false (.nt (.call false ix.is_long (.consA (.var 1) (.consA (.cst (.int 1)) (.consA (.gl "MOST_ROW" (.int 30)) .nilA))))) (.bone (.nt (.op .all (.consA (.lc false (.call false ix.is_within (.consA (.var 2) (.consA (.cst (.int 0)) (.consA (.op .sub (.consA (.op .len (.consA (.var 0) .nilA)) (.consA (.cst (.int 1)) .nilA))) .nilA)))) [2] (.v 2) .val (.consA (.var 1) .nilA) false .nilA) .nilA))))) (.seq (.rais 7) .nil) .nil) .nil)
def H_need_row (T : List MFn) (ix : Ix) : Prop := HasF T ix.need_row (B_need_row ix) 2 3 ∧ H_is_long T ix ∧ H_is_within T ix
def B_need_seenR (ix : Ix) : MS := (.seq (.ex (.call false ix.need_board (.consA (.var 0) .nilA))) (.seq (.ex (.call false ix.need_row (.consA (.var 0) (.consA (.var 1) .nilA)))) .nil))
def H_need_seenR (T : List MFn) (ix : Ix) : Prop := HasF T ix.need_seenR (B_need_seenR ix) 2 2 ∧ H_need_board T ix ∧ H_need_row T ix
def B_by_ways (ix : Ix) : MS := (.seq (.ret (.op .tuple (.consA (.lc false (.tup (.consA (.var 3) (.consA (.var 4) (.consA (.var 2) .nilA)))) [2, 3, 4, 5] (.tup (.cons (.tup (.cons (.v 3) (.cons (.v 4) (.cons (.v 5) .nil)))) (.cons (.v 2) .nil))) .zip (.consA (.var 0) (.consA (.var 1) .nilA)) false .nilA) .nilA))) .nil)
def H_by_ways (T : List MFn) (ix : Ix) : Prop := HasF T ix.by_ways (B_by_ways ix) 2 6
def B_all_ways (ix : Ix) : MS := (.seq (.setv 1 (.lst false (.consA (.tup .nilA) .nilA))) (.seq (.forr (.v 2) .range1 (.consA (.var 0) .nilA) (.seq (.setLc 1 (.lc2 false (.op (.addL false) (.consA (.var 3) (.consA (.tup (.consA (.var 4) .nilA)) .nilA))) [3, 4] (.v 3) .val (.consA (.var 1) .nilA) [4] (.v 4) .val (.consA (.tup (.consA (.gl "LEFT" (.str "left")) (.consA (.gl "RIGHT" (.str "right")) .nilA))) .nilA))) .nil)) (.seq (.ret (.var 1)) .nil)))
def H_all_ways (T : List MFn) (ix : Ix) : Prop := HasF T ix.all_ways (B_all_ways ix) 1 5
def B_end_of (ix : Ix) : MS := (.seq (.iff (.op .ne (.consA (.op .ix (.consA (.var 1) (.consA (.cst (.int 0)) .nilA))) (.consA (.op .ix (.consA (.var 2) (.consA (.cst (.int 0)) .nilA))) .nilA))) (.seq (.ret (.cst .none)) .nil) .nil) (.seq (.forr (.v 3) .val (.consA (.op (.slL false) (.consA (.var 2) (.consA (.cst (.int 1)) .nilA))) .nilA) (.seq (.setv 1 (.call false ix.beat_by (.consA (.var 0) (.consA (.var 1) .nilA)))) (.seq (.iff (.op .ne (.consA (.op .ix (.consA (.var 1) (.consA (.cst (.int 0)) .nilA))) (.consA (.var 3) .nilA))) (.seq (.ret (.cst .none)) .nil) .nil) .nil))) (.seq (.ret (.var 1)) .nil)))
def H_end_of (T : List MFn) (ix : Ix) : Prop := HasF T ix.end_of (B_end_of ix) 3 4 ∧ H_beat_by T ix
def B_stories (ix : Ix) : MS := (.seq (.setv 2 (.lst true .nilA)) (.seq (.forr (.v 3) .val (.consA (.call false ix.all_ways (.consA (.op .len (.consA (.var 0) .nilA)) .nilA)) .nilA) (.seq (.setv 4 (.call false ix.by_ways (.consA (.var 0) (.consA (.var 3) .nilA)))) (.seq (.setLc 5 (.lc false (.tup (.consA (.var 6) (.consA (.call false ix.end_of (.consA (.var 4) (.consA (.var 6) (.consA (.var 1) .nilA)))) .nilA))) [6] (.v 6) .val (.consA (.call false ix.all_stands (.consA (.var 4) .nilA)) .nilA) false .nilA)) (.seq (.ex (.meth .extend (.var 2) (.consA (.lc false (.tup (.consA (.var 3) (.consA (.var 6) (.consA (.var 7) .nilA)))) [6, 7] (.tup (.cons (.v 6) (.cons (.v 7) .nil))) .val (.consA (.var 5) .nilA) true (.op .isnC (.consA (.var 7) (.consA (.cst .none) .nilA)))) .nilA))) .nil)))) (.seq (.ret (.var 2)) .nil)))
def H_stories (T : List MFn) (ix : Ix) : Prop := HasF T ix.stories (B_stories ix) 2 8 ∧ H_all_ways T ix ∧ H_by_ways T ix ∧ H_end_of T ix ∧ H_all_stands T ix
def B_many_stories (ix : Ix) : MS := (.seq (.ex (.call false ix.need_seenR (.consA (.var 0) (.consA (.var 1) .nilA)))) (.seq (.ret (.op .len (.consA (.call false ix.stories (.consA (.var 0) (.consA (.var 1) .nilA))) .nilA))) .nil))
def H_many_stories (T : List MFn) (ix : Ix) : Prop := HasF T ix.many_stories (B_many_stories ix) 2 2 ∧ H_need_seenR T ix ∧ H_stories T ix
def B_sure_ways (ix : Ix) : MS := (.seq (.ex (.call false ix.need_seenR (.consA (.var 0) (.consA (.var 1) .nilA)))) (.seq (.setLc 2 (.lc false (.var 6) [6, 7, 8] (.tup (.cons (.v 6) (.cons (.v 7) (.cons (.v 8) .nil)))) .val (.consA (.call false ix.stories (.consA (.var 0) (.consA (.var 1) .nilA))) .nilA) false .nilA)) (.seq (.iff (.op .eq (.consA (.var 2) (.consA (.lst false .nilA) .nilA))) (.seq (.ret (.cst .none)) .nil) .nil) (.seq (.setv 3 (.lst true .nilA)) (.seq (.forr (.v 4) .range1 (.consA (.op .len (.consA (.var 0) .nilA)) .nilA) (.seq (.setv 5 (.op .setT (.consA (.lc false (.op .ix (.consA (.var 6) (.consA (.var 4) .nilA))) [6] (.v 6) .val (.consA (.var 2) .nilA) false .nilA) .nilA))) (.seq (.ex (.meth .append (.var 3) (.consA (.ife (.op .eq (.consA (.op .len (.consA (.var 5) .nilA)) (.consA (.cst (.int 1)) .nilA))) (.op .ix (.consA (.op .ix (.consA (.var 2) (.consA (.cst (.int 0)) .nilA))) (.consA (.var 4) .nilA))) (.cst .none)) .nilA))) .nil))) (.seq (.ret (.op .tuple (.consA (.var 3) .nilA))) .nil))))))
def H_sure_ways (T : List MFn) (ix : Ix) : Prop := HasF T ix.sure_ways (B_sure_ways ix) 2 9 ∧ H_need_seenR T ix ∧ H_stories T ix
def B_is_story (ix : Ix) : MS := (.seq (.ex (.call false ix.need_seenR (.consA (.var 0) (.consA (.var 1) .nilA)))) (.seq (.iff (.bop false (.nt (.call false ix.is_long (.consA (.var 2) (.consA (.cst (.int 2)) (.consA (.cst (.int 2)) .nilA))))) (.bone (.nt (.call false ix.is_long (.consA (.op .ix (.consA (.var 2) (.consA (.cst (.int 0)) .nilA))) (.consA (.op .len (.consA (.var 0) .nilA)) (.consA (.op .len (.consA (.var 0) .nilA)) .nilA))))))) (.seq (.ret (.cst (.bool false))) .nil) .nil) (.seq (.iff (.bop false (.nt (.op .all (.consA (.lc false (.call false ix.is_way (.consA (.var 3) .nilA)) [3] (.v 3) .val (.consA (.op .ix (.consA (.var 2) (.consA (.cst (.int 0)) .nilA))) .nilA) false .nilA) .nilA))) (.bone (.nt (.call false ix.is_stand_by (.consA (.var 0) (.consA (.op .ix (.consA (.var 2) (.consA (.cst (.int 1)) .nilA))) .nilA)))))) (.seq (.ret (.cst (.bool false))) .nil) .nil) (.seq (.ret (.op .isnC (.consA (.call false ix.end_of (.consA (.call false ix.by_ways (.consA (.var 0) (.consA (.op .ix (.consA (.var 2) (.consA (.cst (.int 0)) .nilA))) .nilA))) (.consA (.op .ix (.consA (.var 2) (.consA (.cst (.int 1)) .nilA))) (.consA (.var 1) .nilA)))) (.consA (.cst .none) .nilA)))) .nil))))
def H_is_story (T : List MFn) (ix : Ix) : Prop := HasF T ix.is_story (B_is_story ix) 3 4 ∧ H_need_seenR T ix ∧ H_is_long T ix ∧ H_is_way T ix ∧ H_is_stand_by T ix ∧ H_end_of T ix ∧ H_by_ways T ix
def B_some_story (ix : Ix) : MS := (.seq (.ex (.call false ix.need_seenR (.consA (.var 0) (.consA (.var 1) .nilA)))) (.seq (.setv 2 (.call false ix.stories (.consA (.var 0) (.consA (.var 1) .nilA)))) (.seq (.ret (.ife (.op .ne (.consA (.var 2) (.consA (.lst false .nilA) .nilA))) (.op (.slU false) (.consA (.op .ix (.consA (.var 2) (.consA (.cst (.int 0)) .nilA))) (.consA (.cst (.int 2)) .nilA))) (.cst .none))) .nil)))
def H_some_story (T : List MFn) (ix : Ix) : Prop := HasF T ix.some_story (B_some_story ix) 2 3 ∧ H_need_seenR T ix ∧ H_stories T ix
def B_next_pins (ix : Ix) : MS := (.seq (.ex (.call false ix.need_seenR (.consA (.var 0) (.consA (.var 1) .nilA)))) (.seq (.setLc 2 (.lc false (.op .ix (.consA (.call false ix.beat_by (.consA (.call false ix.by_ways (.consA (.var 0) (.consA (.var 3) .nilA))) (.consA (.var 5) .nilA))) (.consA (.cst (.int 0)) .nilA))) [3, 4, 5] (.tup (.cons (.v 3) (.cons (.v 4) (.cons (.v 5) .nil)))) .val (.consA (.call false ix.stories (.consA (.var 0) (.consA (.var 1) .nilA))) .nilA) false .nilA)) (.seq (.ret (.op .tuple (.consA (.op (.sortedSet false) (.consA (.var 2) .nilA)) .nilA))) .nil)))
def H_next_pins (T : List MFn) (ix : Ix) : Prop := HasF T ix.next_pins (B_next_pins ix) 2 6 ∧ H_need_seenR T ix ∧ H_beat_by T ix ∧ H_by_ways T ix ∧ H_stories T ix
def B_round_by (ix : Ix) : MS := (.seq (.setv 2 (.call false ix.walk_of (.consA (.var 0) (.consA (.var 1) .nilA)))) (.seq (.setv 3 (.meth .index (.var 2) (.consA (.op .min1 (.consA (.var 2) .nilA)) .nilA))) (.seq (.ret (.op .tuple (.consA (.op (.addL false) (.consA (.op (.slL false) (.consA (.var 2) (.consA (.var 3) .nilA))) (.consA (.op (.slU false) (.consA (.var 2) (.consA (.var 3) .nilA))) .nilA))) .nilA))) .nil)))
def H_round_by (T : List MFn) (ix : Ix) : Prop := HasF T ix.round_by (B_round_by ix) 2 4 ∧ H_walk_of T ix
def B_round_of (ix : Ix) : MS := (.seq (.ex (.call false ix.need_stand (.consA (.var 0) (.consA (.var 1) .nilA)))) (.seq (.ret (.call false ix.round_by (.consA (.var 0) (.consA (.var 1) .nilA)))) .nil))
def H_round_of (T : List MFn) (ix : Ix) : Prop := HasF T ix.round_of (B_round_of ix) 2 2 ∧ H_need_stand T ix ∧ H_round_by T ix
def B_pins_of (ix : Ix) : MS := (.seq (.ex (.call false ix.need_stand (.consA (.var 0) (.consA (.var 1) .nilA)))) (.seq (.ret (.call false ix.pins_by (.consA (.var 0) (.consA (.var 1) .nilA)))) .nil))
def H_pins_of (T : List MFn) (ix : Ix) : Prop := HasF T ix.pins_of (B_pins_of ix) 2 2 ∧ H_need_stand T ix ∧ H_pins_by T ix
end Wp
namespace Wp
structure Pin where
  x : Int
  y : Int
  l : Bool
  deriving DecidableEq, Inhabited
abbrev Bd := List Pin
abbrev V2 := Int × Int
def cr (u v : V2) : Int := u.1 * v.2 - u.2 * v.1
def ng (u : V2) : V2 := (0 - u.1, 0 - u.2)
def pin (b : Bd) (i : Nat) : Pin := b.getD i default
def btw (b : Bd) (i j : Nat) : V2 := ((pin b j).x - (pin b i).x, (pin b j).y - (pin b i).y)
structure Sd where
  own : Nat
  last : Nat
  a : Bool
  deriving DecidableEq
def on (l : Bool) (v : Int) : Prop := if l then 0 < v else v < 0
theorem cr_ng_r (u v : V2) : cr u (ng v) = -cr u v := by unfold cr ng; grind
theorem cr_ng_l (u v : V2) : cr (ng u) v = -cr u v := by unfold cr ng; grind
theorem cr_swap (u v : V2) : cr u v = -cr v u := by unfold cr; grind
theorem btw_swap (b : Bd) (i j : Nat) : btw b i j = ng (btw b j i) := by unfold btw ng; ext <;> simp <;> omega
theorem on_neg {l : Bool} {v : Int} : on l (-v) ↔ on (!l) v := by cases l <;> simp [on] <;> omega
theorem on_not {l : Bool} {v : Int} (h : on l v) : ¬ on (!l) v := by cases l <;> simp [on] at h ⊢ <;> omega
def isA (look to : V2) (l : Bool) : Bool := decide (cr look to > 0) == l
def thn (look to : V2) (l : Bool) : V2 := if isA look to l then to else ng to
def metF (b : Bd) (own : Nat) (look : V2) (l : Bool) : List Nat → Option (Nat × Bool × V2) → Option (Nat × Bool × V2)
  | [], best => best
  | p :: r, none => metF b own look l r (some (p, isA look (btw b own p) l, thn look (btw b own p) l))
  | p :: r, some (q, a, t) => metF b own look l r (if (decide (cr (thn look (btw b own p) l) t > 0) == l) then some (p, isA look (btw b own p) l, thn look (btw b own p) l) else some (q, a, t))
structure IsMet (b : Bd) (own : Nat) (look : V2) (l : Bool) (some : List Nat) (p : Nat) (a : Bool) (d : V2) : Prop where
  mem : p ∈ some
  ha : a = isA look (btw b own p) l
  hd : d = thn look (btw b own p) l
  first : ∀ q ∈ some, q ≠ p → on l (cr d (thn look (btw b own q) l))
structure Apart (b : Bd) (own : Nat) (look : V2) (some : List Nat) : Prop where
  lk : ∀ p ∈ some, cr look (btw b own p) ≠ 0
  two : ∀ p ∈ some, ∀ q ∈ some, p ≠ q → cr (btw b own p) (btw b own q) ≠ 0
theorem IsMet.uniq {b : Bd} {own : Nat} {look : V2} {l : Bool} {some : List Nat} {p q : Nat} {a c : Bool} {d e : V2} (h : IsMet b own look l some p a d) (k : IsMet b own look l some q c e) : p = q ∧ a = c ∧ d = e := by
  by_cases z : p = q
  · subst z
    exact ⟨rfl, h.ha.trans k.ha.symm, h.hd.trans k.hd.symm⟩
  · have h1 := h.first q k.mem (Ne.symm z)
    have h2 := k.first p h.mem z
    rw [← h.hd, cr_swap, on_neg] at h2
    rw [← k.hd] at h1
    exact (on_not h1 h2).elim
end Wp
namespace Wp
def pairsOf (b : Bd) : List V2 := (List.range b.length).flatMap fun j => (List.range j).map fun i => btw b i j
structure Good (b : Bd) : Prop where
  n3 : 3 ≤ b.length
  n8 : b.length ≤ 8
  rng : ∀ p ∈ b, 0 ≤ p.x ∧ p.x ≤ 99 ∧ 0 ≤ p.y ∧ p.y ≤ 99
  apart : (pairsOf b).Pairwise fun u v => cr v u ≠ 0
theorem Good.pin (g : Good b) {i : Nat} (h : i < b.length) : 0 ≤ (Wp.pin b i).x ∧ (Wp.pin b i).x ≤ 99 ∧ 0 ≤ (Wp.pin b i).y ∧ (Wp.pin b i).y ≤ 99 := by
  have : Wp.pin b i = b[i] := by simp [Wp.pin, h]
  rw [this]
  exact g.rng _ (List.getElem_mem h)
theorem pw_get {A : Type} {R : A → A → Prop} {l : List A} (h : l.Pairwise R) {i j : Nat} {x y : A} (hi : l[i]? = some x) (hj : l[j]? = some y) (hij : i < j) : R x y := by
  obtain ⟨a, rfl⟩ := List.getElem?_eq_some_iff.mp hi
  obtain ⟨c, rfl⟩ := List.getElem?_eq_some_iff.mp hj
  exact List.pairwise_iff_getElem.mp h i j a c hij
theorem pw_range {R : Nat → Nat → Prop} {n : Nat} (h : (List.range n).Pairwise R) {i j : Nat} (hij : i < j) (hj : j < n) : R i j := pw_get h (i := i) (j := j) (List.getElem?_range (by omega)) (List.getElem?_range hj) hij
theorem Good.up (g : Good b) {i j k l : Nat} (h1 : i < j) (h2 : j < b.length) (h3 : k < l) (h4 : l < b.length) (ne : ¬ (i = k ∧ j = l)) : cr (btw b i j) (btw b k l) ≠ 0 := by
  have key : ∀ {i j k l : Nat}, i < j → j < b.length → k < l → l < b.length → (j < l ∨ j = l ∧ i < k) → cr (btw b k l) (btw b i j) ≠ 0 := by
    intro i j k l h1 h2 h3 h4 h
    have a := g.apart
    unfold pairsOf at a
    rw [List.pairwise_flatMap] at a
    rcases h with h | ⟨rfl, h⟩
    · have := pw_range a.2 h h4
      exact this _ (List.mem_map.mpr ⟨i, by simpa using h1, rfl⟩) _ (List.mem_map.mpr ⟨k, by simpa using h3, rfl⟩)
    · have := a.1 j (by simpa using h2)
      rw [List.pairwise_map] at this
      exact pw_range this h h3
  rcases Nat.lt_trichotomy j l with h | h | h
  · rw [cr_swap]
    have := key h1 h2 h3 h4 (.inl h)
    omega
  · subst h
    rcases Nat.lt_trichotomy i k with h | h | h
    · rw [cr_swap]
      have := key h1 h2 h3 h4 (.inr ⟨rfl, h⟩)
      omega
    · exact (ne ⟨h, rfl⟩).elim
    · exact key h3 h4 h1 h2 (.inr ⟨rfl, h⟩)
  · exact key h3 h4 h1 h2 (.inl h)
theorem Good.cr (g : Good b) {i j k l : Nat} (hi : i < b.length) (hj : j < b.length) (hk : k < b.length) (hl : l < b.length) (hij : i ≠ j) (hkl : k ≠ l) (ne : ¬ (i = k ∧ j = l)) (ne2 : ¬ (i = l ∧ j = k)) : cr (btw b i j) (btw b k l) ≠ 0 := by
  rcases Nat.lt_or_gt_of_ne hij with a | a <;> rcases Nat.lt_or_gt_of_ne hkl with c | c
  · exact g.up a hj c hl ne
  · rw [btw_swap b k l, cr_ng_r]
    have := g.up a hj c hk ne2
    omega
  · rw [btw_swap b i j, cr_ng_l]
    have := g.up a hi c hl (fun z => ne2 ⟨z.2, z.1⟩)
    omega
  · rw [btw_swap b i j, btw_swap b k l, cr_ng_r, cr_ng_l]
    have := g.up a hi c hk (fun z => ne ⟨z.2, z.1⟩)
    omega
def beside (b : Bd) (own last : Nat) : List Nat := (List.range b.length).filter fun p => !(p == own || p == last)
theorem mem_beside {b : Bd} {own last p : Nat} : p ∈ beside b own last ↔ p < b.length ∧ p ≠ own ∧ p ≠ last := by
  unfold beside
  simp [List.mem_filter]
theorem ne_beside (g : Good b) {own last : Nat} (h : own < b.length) (h2 : last < b.length) : beside b own last ≠ [] := by
  have n := g.n3
  have : ∃ p, p < b.length ∧ p ≠ own ∧ p ≠ last := by
    by_cases c0 : 0 ≠ own ∧ 0 ≠ last
    · exact ⟨0, by omega, c0.1, c0.2⟩
    · by_cases c1 : 1 ≠ own ∧ 1 ≠ last
      · exact ⟨1, by omega, c1.1, c1.2⟩
      · exact ⟨2, by omega, by omega, by omega⟩
  obtain ⟨p, hp⟩ := this
  exact List.ne_nil_of_mem (mem_beside.mpr hp)
structure SdOk (b : Bd) (s : Sd) : Prop where
  own : s.own < b.length
  last : s.last < b.length
  ne : s.own ≠ s.last
def lookOf (b : Bd) (s : Sd) : V2 := if s.a then btw b s.own s.last else btw b s.last s.own
theorem look_or (b : Bd) (s : Sd) : lookOf b s = btw b s.own s.last ∨ lookOf b s = ng (btw b s.own s.last) := by
  unfold lookOf
  split
  · exact .inl rfl
  · exact .inr (btw_swap _ _ _)
theorem apart_at (g : Good b) {i j own : Nat} {look : V2} (hi : i < b.length) (hj : j < b.length) (ij : i ≠ j) (hl : look = btw b i j ∨ look = ng (btw b i j)) (ho : own = i ∨ own = j) {some : List Nat} (hs : ∀ p ∈ some, p < b.length ∧ p ≠ i ∧ p ≠ j) : Apart b own look some := by
  refine ⟨fun p hp => ?_, fun p hp q hq ne => ?_⟩
  · obtain ⟨h1, h2, h3⟩ := hs p hp
    have z : Wp.cr (btw b i j) (btw b own p) ≠ 0 := by
      rcases ho with rfl | rfl
      · exact g.cr hi hj hi h1 ij (Ne.symm h2) (fun z => h3 z.2.symm) (fun z => h2 z.1.symm)
      · exact g.cr hi hj hj h1 ij (Ne.symm h3) (fun z => ij z.1) (fun z => h2 z.1.symm)
    rcases hl with rfl | rfl
    · exact z
    · rw [cr_ng_l]; omega
  · obtain ⟨h1, h2, h3⟩ := hs p hp
    obtain ⟨h4, h5, h6⟩ := hs q hq
    have ho' : own < b.length := by rcases ho with rfl | rfl <;> assumption
    have np : own ≠ p := by rcases ho with rfl | rfl <;> simp [Ne.symm, *] <;> (first | exact Ne.symm h2 | exact Ne.symm h3)
    have nq : own ≠ q := by rcases ho with rfl | rfl <;> (first | exact Ne.symm h5 | exact Ne.symm h6)
    exact g.cr ho' h1 ho' h4 np nq (fun z => ne z.2) (fun z => nq z.1)
theorem SdOk.apart (g : Good b) {s : Sd} (h : SdOk b s) : Apart b s.own (lookOf b s) (beside b s.own s.last) := apart_at g h.own h.last h.ne (look_or b s) (.inl rfl) fun p hp => mem_beside.mp hp
def met (b : Bd) (own : Nat) (look : V2) (l : Bool) (some : List Nat) : Nat × Bool × V2 := (metF b own look l some none).getD (0, false, look)
def beatBy (b : Bd) (s : Sd) : Sd := let r := met b s.own (lookOf b s) (pin b s.own).l (beside b s.own s.last); ⟨r.1, s.own, !r.2.1⟩
def aheadBy (b : Bd) (s : Sd) : Sd := let r := met b s.last (lookOf b s) (!(pin b s.last).l) (beside b s.own s.last); ⟨s.last, r.1, r.2.1⟩
end Wp
namespace Wp
abbrev Row := V2 × Nat × Nat
def flipR (r : Row) : Row := (ng r.1, r.2.2, r.2.1)
def rowOf (b : Bd) (i j : Nat) : Row := (btw b i j, i, j)
def dirs (b : Bd) : List Row := (List.range b.length).flatMap fun i => ((List.range b.length).filter fun j => !(j == i)).map fun j => rowOf b i j
def posR (h : V2) : List Row → Nat
  | [] => 0
  | r :: rs => if cr r.1 h > 0 then posR h rs + 1 else 0
def insR (row : Row) : List Row → List Row
  | [] => [row]
  | r :: rs => if cr r.1 row.1 > 0 then r :: insR row rs else row :: r :: rs
def asd : V2 := (1000, 1)
def chStep (acc : List Row × List Row) (r : Row) : List Row × List Row := if cr asd r.1 > 0 then (insR r acc.1, acc.2) else (acc.1, insR r acc.2)
def halves (b : Bd) : List Row × List Row := (dirs b).foldl chStep ([], [])
def chart (b : Bd) : List Row := (halves b).1 ++ (halves b).2
def Srt (rows : List Row) : Prop := rows.Pairwise fun r s => cr r.1 s.1 > 0
section
variable {b : Bd}
theorem Good.nz (g : Good b) {i j : Nat} (hi : i < b.length) (hj : j < b.length) (ij : i ≠ j) : btw b i j ≠ (0, 0) := by
  intro e
  obtain ⟨p, hp⟩ := List.exists_mem_of_ne_nil _ (ne_beside g hi hj)
  obtain ⟨h1, h2, h3⟩ := mem_beside.mp hp
  have := g.cr hi hj hi h1 ij (Ne.symm h2) (fun z => h3 z.2.symm) (fun z => h2 z.1.symm)
  rw [e] at this
  simp [Wp.cr] at this
theorem Good.asd (g : Good b) {i j : Nat} (hi : i < b.length) (hj : j < b.length) (ij : i ≠ j) : Wp.cr asd (btw b i j) ≠ 0 := by
  have nz := g.nz hi hj ij
  have a := g.pin hi
  have c := g.pin hj
  intro e
  apply nz
  unfold Wp.cr Wp.asd at e
  simp only [btw] at e ⊢
  ext <;> simp only [] <;> omega
def near (b : Bd) : List Row := (halves b).1
def far (b : Bd) : List Row := (halves b).2
def rw_ (b : Bd) (k : Nat) : Row := (chart b).getD k ((0, 0), 0, 0)
end
def spotN (N k : Nat) (l : Bool) (t : Nat) : Nat := if l then (if k + t < N then k + t else k + t - N) else (if t ≤ k then k - t else k + N - t)
def hasP (r : Row) (p : Nat) : Bool := (p == r.2.1) || (p == r.2.2)
def oth (r : Row) (p : Nat) : Nat := if r.2.1 = p then r.2.2 else r.2.1
end Wp
namespace Wp
section
variable {b : Bd}
def rowS (b : Bd) (s : Sd) : Row := if s.a then rowOf b s.own s.last else rowOf b s.last s.own
def iter (b : Bd) : Nat → Sd → Sd
  | 0, s => s
  | n + 1, s => iter b n (beatBy b s)
def code (s : Sd) : Nat := s.own * 16 + s.last * 2 + (if s.a then 1 else 0)
theorem least {P : Nat → Prop} : ∀ n, P n → ∃ m, m ≤ n ∧ P m ∧ ∀ k, k < m → ¬ P k
  | 0, h => ⟨0, Nat.le_refl _, h, fun k hk => by omega⟩
  | n + 1, h => by
    by_cases c : ∃ k, k ≤ n ∧ P k
    · obtain ⟨k, hk, pk⟩ := c
      obtain ⟨m, h1, h2, h3⟩ := least k pk
      exact ⟨m, by omega, h2, h3⟩
    · exact ⟨n + 1, Nat.le_refl _, h, fun k hk pk => c ⟨k, by omega, pk⟩⟩
def roundN (b : Bd) (p : Nat) (s : Sd) : List Sd := (List.range p).map fun n => iter b n s
end
end Wp
namespace Wp
open PySem M
theorem go_ok {A : Type} {a : A} {m : MH} {k : A → MH → RS} : (R.ok a m).go k = k a m := rfl
theorem sq_nx {e : Ev} {m : MH} {k : Ev → MH → RS} : (RS.nx e m).sq k = k e m := rfl
theorem sq_rt {d : D} {m : MH} {k : Ev → MH → RS} : (RS.rt d m).sq k = .rt d m := rfl
theorem tr_b {c : Bool} : truth [.p (.bool c)] = some c := rfl
theorem gl_i {i : Int} : glD (.int i) = .p (.int i) := rfl
theorem gl_s {i : Str} : glD (.str i) = .p (.str i) := rfl
theorem bft : (false == true) = false := rfl
theorem btf : (true == false) = false := rfl
theorem fin_rt {k : Bool} {l : Nat} {d : P} {m : MH} : fin k l (.rt (.p d) m) = .ok (.p d) (m.take l) := rfl
theorem fin_nx {k : Bool} {l : Nat} {e : Ev} {m : MH} : fin k l (.nx e m) = .ok (.p .none) (m.take l) := rfl
inductive SatS : RS → (Ev → MH → Prop) → (D → MH → Prop) → Prop
  | nx {e : Ev} {m : MH} {nx : Ev → MH → Prop} {rt : D → MH → Prop} (h : nx e m) : SatS (.nx e m) nx rt
  | rt {d : D} {m : MH} {nx : Ev → MH → Prop} {rt : D → MH → Prop} (h : rt d m) : SatS (.rt d m) nx rt
section
variable {e : Ev} {d : D} {m : MH} {nx : Ev → MH → Prop} {rt : D → MH → Prop}
theorem s_nx : SatS (.nx e m) nx rt = nx e m := propext ⟨fun h => by cases h; assumption, .nx⟩
theorem s_rt : SatS (.rt d m) nx rt = rt d m := propext ⟨fun h => by cases h; assumption, .rt⟩
end
theorem sat_sq {r : RS} {k : Ev → MH → RS} {nx : Ev → MH → Prop} {rt : D → MH → Prop} (h : SatS r (fun e m => SatS (k e m) nx rt) rt) : SatS (r.sq k) nx rt := by
  cases h with
  | nx h => exact h
  | rt h => exact .rt h
theorem sat_mono {r : RS} {nx nx' : Ev → MH → Prop} {rt rt' : D → MH → Prop} (h : SatS r nx rt) (h1 : ∀ e m, nx e m → nx' e m) (h2 : ∀ d m, rt d m → rt' d m) : SatS r nx' rt' := by
  cases h with
  | nx h => exact .nx (h1 _ _ h)
  | rt h => exact .rt (h2 _ _ h)
def nones : Nat → Ev
  | 0 => []
  | n + 1 => none :: nones n
theorem nones_z : nones 0 = [] := rfl
theorem nones_s {n : Nat} : nones (n + 1) = none :: nones n := rfl
def env0 : List D → Nat → Ev
  | [], k => nones k
  | d :: ds, k => some d :: env0 ds k
theorem env0_n {k : Nat} : env0 [] k = nones k := rfl
theorem env0_c {d : D} {ds : List D} {k : Nat} : env0 (d :: ds) k = some d :: env0 ds k := rfl
theorem env0_eq : ∀ (ds : List D) (k : Nat), ds.map some ++ List.replicate k none = env0 ds k
  | [], k => by
    induction k with
    | zero => rfl
    | succ k ih =>
      rw [List.replicate_succ]
      show none :: (List.map some [] ++ List.replicate k none) = none :: nones k
      rw [ih]
      rfl
  | d :: ds, k => by
    show some d :: (ds.map some ++ List.replicate k none) = some d :: env0 ds k
    rw [env0_eq ds k]
theorem call_of {T : List MFn} {fuel n i np nN : Nat} {keep : Bool} {b : MS} {ds : List D} {m : MH} (h : HasF T i b np nN) (hl : ds.length = np) :
    callN T fuel (n + 1) keep i ds m = fin keep m.length (exS (callN T fuel n) fuel b (env0 ds (nN - np)) m) := by
  subst hl
  obtain ⟨fn, h1, rfl, h3, rfl⟩ := h
  rw [← env0_eq]
  unfold callN
  have e : ds.length = fn.ps.length := h3.symm
  simp only [h1, e, if_true, startE]
theorem pos_of {n k : Nat} (h : k + 1 ≤ n) : ∃ j, n = j + 1 ∧ k ≤ j := ⟨n - 1, by omega, by omega⟩
section
variable {m : MH} {a c d e : Cell} {cs : MH} {k : Nat}
theorem hp0 : (m ++ c :: cs)[m.length]? = some c := by simp
theorem hp1 : (m ++ a :: c :: cs)[m.length + 1]? = some c := by simp
theorem hs0 : (m ++ c :: cs).set m.length d = m ++ d :: cs := by simp
theorem hs1 : (m ++ a :: c :: cs).set (m.length + 1) d = m ++ a :: d :: cs := by simp
theorem ht1 : m.take m.length = m := List.take_length
end
abbrev iP (i : Int) : P := .int i
def encV (v : V2) : P := .tuple [.int v.1, .int v.2]
def wayS (l : Bool) : Str := if l then "left" else "right"
def wordS (a : Bool) : Str := if a then "ahead" else "behind"
def encP (p : Pin) : P := .tuple [.int p.x, .int p.y, .str (wayS p.l)]
def encB (b : Bd) : P := .tuple (b.map encP)
def encS (s : Sd) : P := .tuple [.int s.own, .int s.last, .str (wordS s.a)]
theorem btv {i : Nat} {d : P} {env : Ev} : bindT (.v i) d env = some (env.set i (some (.p d))) := rfl
theorem bt2 {i j : Nat} {a c : P} {env : Ev} : bindT (.tup (.cons (.v i) (.cons (.v j) .nil))) (.tuple [a, c]) env = some ((env.set i (some (.p a))).set j (some (.p c))) := rfl
theorem bt3 {i j l : Nat} {a c d : P} {env : Ev} : bindT (.tup (.cons (.v i) (.cons (.v j) (.cons (.v l) .nil)))) (.tuple [a, c, d]) env = some (((env.set i (some (.p a))).set j (some (.p c))).set l (some (.p d))) := rfl
theorem btS {i j l : Nat} {s : Sd} {env : Ev} : bindT (.tup (.cons (.v i) (.cons (.v j) (.cons (.v l) .nil)))) (encS s) env = some (((env.set i (some (.p (.int s.own)))).set j (some (.p (.int s.last)))).set l (some (.p (.str (wordS s.a))))) := rfl
theorem btP {i j l : Nat} {s : Pin} {env : Ev} : bindT (.tup (.cons (.v i) (.cons (.v j) (.cons (.v l) .nil)))) (encP s) env = some (((env.set i (some (.p (.int s.x)))).set j (some (.p (.int s.y)))).set l (some (.p (.str (wayS s.l))))) := rfl
section
variable {m : MH} {k : Bool}
end
theorem range_eq (n : Nat) : ∀ lo : Int, rangeP lo n = (List.range n).map fun i : Nat => PyData.int (lo + i) := by
  induction n with
  | zero => intro lo; rfl
  | succ n ih =>
    intro lo
    rw [List.range_succ_eq_map, List.map_cons, List.map_map]
    show PyData.int lo :: rangeP (lo + 1) n = _
    rw [ih]
    congr 1
    · simp
    · refine List.map_congr_left fun i _ => ?_
      simp only [Function.comp]
      congr 1
      omega
theorem range0 (n : Nat) : rangeP 0 n = (List.range n).map fun i : Nat => PyData.int (i : Nat) := by
  rw [range_eq]
  refine List.map_congr_left fun i _ => ?_
  congr 1
  omega
theorem i_r1 {n : Nat} (h : n ≤ 100000) : i_range1 [.p (.int n)] = some ((List.range n).map fun i : Nat => PyData.int (i : Nat), always) := by
  have : big62 n = true := by unfold big62; simp; omega
  simp only [i_range1, this, if_true, Int.toNat_natCast, range0]
theorem it_r1 {n : Nat} {m : MH} (h : n ≤ 100000) : iterD .range1 [.p (.int n)] m = some ((List.range n).map fun i : Nat => PyData.int (i : Nat), always) := by
  have := i_r1 h
  simp only [iterD]
  exact this
theorem sat_for {cf : CF} {fuel : Nat} {t : MT} {ik : Itk} {it : ME} {b : MS} {env : Ev} {m m1 : MH} {xs : List D} {items : List P} {ck : MH → Bool} {rt : D → MH → Prop} (I : Nat → Ev → MH → Prop)
    (h1 : ev cf it env m = .ok xs m1) (h2 : iterD ik xs m1 = some (items, ck)) (h0 : I 0 env m1) (hc : ∀ i e m, i ≤ items.length → I i e m → ck m = true)
    (step : ∀ i d e m, items[i]? = some d → I i e m → ∃ e2, bindT t d e = some e2 ∧ SatS (exS cf fuel b e2 m) (I (i + 1)) rt) : SatS (exS cf fuel (.forr t ik it b) env m) (I items.length) rt := by
  have key : ∀ (l : List P) (i : Nat) (e : Ev) (m : MH), (∀ j, l[j]? = items[i + j]?) → i + l.length = items.length → I i e m → SatS (forGo ck (fun d env m => (match bindT t d env with | some env2 => exS cf fuel b env2 m | none => .bad)) l e m) (I items.length) rt := by
    intro l
    induction l with
    | nil =>
      intro i e m _ hl hI
      have : i = items.length := by simpa using hl
      subst this
      simp only [forGo, hc _ e m (Nat.le_refl _) hI, if_true]
      exact .nx hI
    | cons d l ih =>
      intro i e m hg hl hI
      have hd : items[i]? = some d := by
        have := hg 0
        simpa using this.symm
      simp only [forGo, hc i e m (by simp at hl; omega) hI, if_true]
      obtain ⟨e2, q1, q2⟩ := step i d e m hd hI
      simp only [q1]
      generalize exS cf fuel b e2 m = r at q2
      cases q2 with
      | @nx e3 m3 _ _ q2 =>
        exact ih (i + 1) e3 m3 (fun j => by
          have := hg (j + 1)
          rw [List.getElem?_cons_succ] at this
          rw [this]
          congr 1
          omega) (by simp at hl; omega) q2
      | rt q2 => exact .rt q2
  have e := for_eq (cf := cf) (fuel := fuel) (t := t) (b := b) h1 h2
  rw [e]
  exact key items 0 env m1 (fun j => by simp) (by simp) h0
section
variable {cf : CF} {elt it tst : ME} {own : List Nat} {tg : MT} {ik : Itk} {env : Ev} {m : MH} {xs : List D} {ck : MH → Bool}
end
section
variable {cf : CF} {fuel : Nat} {it : ME} {b : MS} {env : Ev} {m m1 : MH} {rt : D → MH → Prop}
theorem sat_range {v nn : Nat} (I : Nat → Ev → MH → Prop) (h1 : ev cf it env m = .ok [.p (.int nn)] m1) (hn : nn ≤ 100000) (h0 : I 0 env m1)
    (step : ∀ i e m, i < nn → I i e m → SatS (exS cf fuel b (e.set v (some (.p (.int i)))) m) (I (i + 1)) rt) : SatS (exS cf fuel (.forr (.v v) .range1 it b) env m) (I nn) rt := by
  have := sat_for (cf := cf) (fuel := fuel) (t := .v v) (ik := .range1) (b := b) (rt := rt) I h1 (it_r1 hn) h0 (fun _ _ _ _ _ => rfl) fun i d e m hd hI => by
    rw [List.getElem?_map, Option.map_eq_some_iff] at hd
    obtain ⟨j, hj, rfl⟩ := hd
    obtain ⟨q1, q2⟩ := List.getElem?_eq_some_iff.mp hj
    simp at q1 q2
    subst q2
    exact ⟨_, rfl, step _ e m q1 hI⟩
  simpa using this
end
theorem mkL_t {ds : List P} {m : MH} : mkL true ds m = .ok [.ref m.length] (m ++ [.lst ds]) := rfl
theorem mkL_f {ds : List P} {m : MH} : mkL false ds m = .ok [.p (.list ds)] m := rfl
end Wp
namespace Wp
open PySem M
def Sm (u : V2) : Prop := small u.1 = true ∧ small u.2 = true
section
variable {T : List MFn} {ix : Ix} {fuel n : Nat} {k : Bool} {m : MH} {b : Bd}
end
end Wp
namespace Wp
open PySem M
section
variable {T : List MFn} {ix : Ix} {fuel n : Nat} {k : Bool} {m : MH} {b : Bd}
def pairsTo (b : Bd) (n : Nat) : List V2 := (List.range n).flatMap fun j => (List.range j).map fun i => btw b i j
end
end Wp
namespace Wp
open PySem M
section
variable {T : List MFn} {ix : Ix} {fuel n : Nat} {k : Bool} {m : MH} {b : Bd}
end
end Wp
namespace Wp
open PySem M
def encM : Option (Nat × Bool × V2) → P
  | none => .none
  | some (p, a, t) => .tuple [.int p, .str (wordS a), encV t]
def nats (l : List Nat) : P := .list (l.map fun x : Nat => PyData.int x)
section
variable {T : List MFn} {ix : Ix} {fuel n : Nat} {k : Bool} {m : MH} {b : Bd}
end
end Wp
namespace Wp
open PySem M
def at2 (L : List V2) (i : Nat) : V2 := L.getD i (0, 0)
def bw (L : List V2) (i j : Nat) : V2 := ((at2 L j).1 - (at2 L i).1, (at2 L j).2 - (at2 L i).2)
def pairsWTo (L : List V2) (n : Nat) : List V2 := (List.range n).flatMap fun j => (List.range j).map fun i => bw L i j
def Pw (l : List V2) : Prop := l.Pairwise fun u v => cr v u ≠ 0
def Pl (v : V2) : Prop := 0 ≤ v.1 ∧ v.1 < 100 ∧ 0 ≤ v.2 ∧ v.2 < 100
section
variable {m : MH} {k : Bool}
end
section
variable {T : List MFn} {ix : Ix} {fuel n : Nat} {k : Bool} {m : MH} {b : Bd}
end
end Wp
namespace Wp
open PySem M
def PenAt (m0 : MH) (p : Nat) (m : MH) : Prop := p < m0.length ∧ ∃ a b c, m = m0.set p (.lst [.int a, .int b, .int c]) ∧ 0 ≤ a ∧ 0 ≤ b ∧ b < 2 ^ 32
theorem PenAt.len {m0 m : MH} {p : Nat} (h : PenAt m0 p m) : m.length = m0.length := by
  obtain ⟨_, a, b, c, rfl, _⟩ := h
  simp
theorem PenAt.of {m : MH} {p : Nat} {a b c : Int} (h : m[p]? = some (.lst [.int a, .int b, .int c])) (a0 : 0 ≤ a) (b0 : 0 ≤ b) (b1 : b < 2 ^ 32) : PenAt m p m := by
  obtain ⟨h1, h2⟩ := List.getElem?_eq_some_iff.mp h
  refine ⟨h1, a, b, c, ?_, a0, b0, b1⟩
  rw [← h2, List.set_getElem_self]
theorem PenAt.trans {m0 m m1 : MH} {p : Nat} (h : PenAt m0 p m) (k : PenAt m p m1) : PenAt m0 p m1 := by
  obtain ⟨h1, a, b, c, rfl, _⟩ := h
  obtain ⟨_, a2, b2, c2, rfl, z⟩ := k
  exact ⟨h1, a2, b2, c2, by rw [List.set_set], z⟩
theorem PenAt.self {m0 m : MH} {p : Nat} (h : PenAt m0 p m) : PenAt m p m := by
  obtain ⟨h1, a, b, c, rfl, z1, z2, z3⟩ := h
  exact ⟨by simpa using h1, a, b, c, by rw [List.set_set], z1, z2, z3⟩
theorem set_app {m cs : MH} {p : Nat} {c : Cell} (h : p < m.length) : (m ++ cs).set p c = m.set p c ++ cs := by rw [List.set_append_left _ _ h]
theorem lc_inv {ck : MH → Bool} {f : P → MH → R (Option P)} {I : MH → Prop} {W : P → Prop} (hc : ∀ m, I m → ck m = true) : ∀ (xs : List P), (∀ x ∈ xs, ∀ m, I m → ∃ w m', f x m = .ok (some w) m' ∧ I m' ∧ W w) → ∀ m, I m →
    ∃ ws m', lcGo ck f xs m = .ok ws m' ∧ I m' ∧ ws.length = xs.length ∧ ∀ w ∈ ws, W w
  | [], _, m, h => ⟨[], m, by simp [lcGo, hc m h], h, rfl, fun _ z => nomatch z⟩
  | x :: xs, st, m, h => by
    obtain ⟨w, m1, e1, h1, hw⟩ := st x (by simp) m h
    obtain ⟨ws, m2, e2, h2, hl, hws⟩ := lc_inv hc xs (fun y hy => st y (List.mem_cons_of_mem _ hy)) m1 h1
    refine ⟨w :: ws, m2, ?_, h2, by simp [hl], fun z hz => ?_⟩
    · simp only [lcGo, hc m h, if_true, e1, bind_ok, e2]
    · rcases List.mem_cons.mp hz with rfl | hz
      · exact hw
      · exact hws z hz
def const8 : List V2 := [(28, 35), (29, 28), (32, 37), (12, 11), (32, 30), (39, 11), (19, 9), (5, 34)]
def fitsB (l : List V2) : Bool := decide (l.Pairwise fun u v => cr v u ≠ 0)
def mkB (L : List V2) (ls : List Bool) : Bd := (L.zip ls).map fun x => ⟨x.1.1, x.1.2, x.2⟩
theorem all_ways : ∀ (ws : List P), (∀ w ∈ ws, ∃ l : Bool, w = .str (wayS l)) → ∃ ls : List Bool, ws = ls.map fun l => PyData.str (wayS l)
  | [], _ => ⟨[], rfl⟩
  | w :: ws, h => by
    obtain ⟨l, rfl⟩ := h w (by simp)
    obtain ⟨ls, rfl⟩ := all_ways ws fun w hw => h w (List.mem_cons_of_mem _ hw)
    exact ⟨l :: ls, rfl⟩
section
variable {T : List MFn} {ix : Ix} {fuel n : Nat} {k : Bool} {m : MH} {b : Bd}
theorem w_draw (h : H_l_draw T ix) (hn : 1 ≤ n) {m0 : MH} {p : Nat} (pa : PenAt m0 p m) (cs : MH) {w : Int} (w0 : 0 < w) (w1 : w < 2 ^ 100) : ∃ (v : Nat) (m' : MH), callN T fuel n k ix.l_draw [.ref p, .p (.int w)] (m ++ cs) = .ok (.p (.int v)) (m' ++ cs) ∧ PenAt m0 p m' ∧ (v : Int) < w := by
  obtain ⟨n, rfl, hn⟩ := pos_of hn
  obtain ⟨fn, f1, f2, f3, f4⟩ := h
  obtain ⟨p1, a, b, c, rfl, a0, b0, b1⟩ := pa
  have hp : Pen (m0.set p (.lst [.int a, .int b, .int c]) ++ cs) p a b c := ⟨by rw [List.getElem?_append_left (by simpa using p1), List.getElem?_set_self p1], a0, b0, b1⟩
  obtain ⟨v, a', b', c', e, v0, v1, a1, b2, b3⟩ := draw_ok (T := T) (fuel := fuel) (n := n) (f := ix.l_draw) (keep := k) f1 (f2.trans rfl) f3 f4 hp (k := w) w0 (by
    have : (2 : Int) ^ 100 < 2 ^ 200 := by decide
    omega)
  refine ⟨v.toNat, m0.set p (.lst [.int a', .int b', .int c']), ?_, ⟨p1, a', b', c', rfl, a1, b2, b3⟩, by omega⟩
  rw [e, set_app (by simpa using p1), List.set_set]
  congr 3
  omega
end
end Wp
namespace Wp
open PySem M
def tl : MS → MS
  | .seq _ b => b
  | x => x
section
variable {m cs : MH} {a c d : Cell} {N q : Nat}
end
section
variable {m : MH}
end
section
variable {T : List MFn} {ix : Ix} {fuel n : Nat} {k : Bool} {m : MH} {b : Bd}
theorem w_draw0 (h : H_l_draw T ix) (hn : 1 ≤ n) {m0 : MH} {p : Nat} (pa : PenAt m0 p m) {w : Int} (w0 : 0 < w) (w1 : w < 2 ^ 100) : ∃ (v : Nat) (m' : MH), callN T fuel n k ix.l_draw [.ref p, .p (.int w)] m = .ok (.p (.int v)) m' ∧ PenAt m0 p m' ∧ (v : Int) < w := by
  have := w_draw (fuel := fuel) (k := k) h hn pa [] w0 w1
  simpa using this
end
end Wp
namespace Wp
open PySem M
def encR (r : Row) : P := .tuple [encV r.1, .int r.2.1, .int r.2.2]
def inner (b : Bd) (i : Nat) : List Row := ((List.range b.length).filter fun j => !(j == i)).map fun j => rowOf b i j
def dirsTo (b : Bd) (i : Nat) : List Row := (List.range i).flatMap fun i => inner b i
section
variable {m : MH}
end
section
variable {T : List MFn} {ix : Ix} {fuel n : Nat} {k : Bool} {m : MH} {b : Bd}
end
end Wp
namespace Wp
open PySem M
def stp (l : Bool) : Int := if l then 1 else -1
section
variable {T : List MFn} {ix : Ix} {fuel n : Nat} {k : Bool} {m : MH} {b : Bd}
end
end Wp
namespace Wp
open PySem M
def stI (b : Bd) (i : Nat) : List Sd := ((List.range b.length).filter fun j => !(j == i)).flatMap fun j => [⟨i, j, true⟩, ⟨i, j, false⟩]
def stTo (b : Bd) (i : Nat) : List Sd := (List.range i).flatMap fun i => stI b i
def standsOf (b : Bd) : List Sd := stTo b b.length
section
variable {T : List MFn} {ix : Ix} {fuel n : Nat} {k : Bool} {m : MH} {b : Bd}
end
structure Tm (d : P) (w dp : Nat) : Prop where
  ls : d.leavesShort 13 = true
  sh : d.showable = true
  nd : d.hasDict = false
  dl : dle d dp = true
  wt : d.weight ≤ w
structure Tms (ds : List P) (w dp : Nat) : Prop where
  ls : PyData.leavesShortAll 13 ds = true
  sh : PyData.showableAll ds = true
  nd : PyData.hasDictAll ds = false
  dl : dles ds dp = true
  wt : PyData.weightAll ds ≤ w
theorem tm_int {i : Int} {dp : Nat} (h : i.natAbs < 10 ^ 12) : Tm (.int i) 41 dp := by
  have : i.natAbs.log2 < 40 := by
    by_cases h0 : i.natAbs = 0
    · rw [h0]; decide
    · exact (Nat.log2_lt h0).mpr (Nat.lt_trans h (by decide))
  refine ⟨by simpa only [PyData.leavesShort, decide_eq_true_eq] using PyData.shown_int_le h, ?_, rfl, by cases dp <;> rfl, ?_⟩
  · simp only [PyData.showable, decide_eq_true_eq]
    omega
  · simp only [PyData.weight]
    split <;> omega
theorem Tm.up {d : P} {w w2 dp : Nat} (h : Tm d w dp) (k : w ≤ w2) : Tm d w2 dp := ⟨h.ls, h.sh, h.nd, h.dl, Nat.le_trans h.wt k⟩
section
variable {T : List MFn} {ix : Ix} {fuel n : Nat} {k : Bool} {m : MH} {b : Bd}
theorem w_cell (h : H_l_cell_at T ix) (hn : 1 ≤ n) {ns : List Int} {j : Nat} : ∃ x : Int, callN T fuel n k ix.l_cell_at [.ro (ns.map .int), .p (.int j)] m = .ok (.p (.int x)) m := by
  obtain ⟨n, rfl, hn⟩ := pos_of hn
  obtain ⟨fn, f1, f2, f3, f4⟩ := h
  exact cell_ok (T := T) (fuel := fuel) (n := n) (f := ix.l_cell_at) (keep := k) f1 (f2.trans rfl) f3 f4 (by omega)
theorem w_pen (h : H_l_pen T ix) (hn : 1 ≤ n) {x : Int} : ∃ c, callN T fuel n true ix.l_pen [.p (.int x)] m = .ok (.ref m.length) (m ++ [c]) ∧ PenAt (m ++ [c]) m.length (m ++ [c]) := by
  obtain ⟨n, rfl, hn⟩ := pos_of hn
  obtain ⟨fn, f1, f2, f3, f4⟩ := h
  obtain ⟨a, b, c, e, a0, b0, b1⟩ := pen_ok (T := T) (fuel := fuel) (n := n) (f := ix.l_pen) f1 (f2.trans rfl) f3 f4 (m := m) (x := x)
  exact ⟨.lst [.int a, .int b, .int c], e, PenAt.of (a := a) (b := b) (c := c) (by simp) a0 b0 b1⟩
end
def lawB (C : Int) (B : MS) : MS := .seq (.forr (.v 1) .range1 (.consA (.op .max2 (.consA (.cst (.int 1)) (.consA (.op .min2 (.consA (.op .len (.consA (.var 0) .nilA)) (.consA (.cst (.int C)) .nilA))) .nilA))) .nilA) B) (.seq (.ret (.cst (.bool true))) .nil)
end Wp
namespace Wp
open PySem M
structure IsPer (b : Bd) (s : Sd) (p : Nat) : Prop where
  pos : 0 < p
  le : p ≤ 128
  back : iter b p s = s
  first : ∀ q, 0 < q → q < p → iter b q s ≠ s
open Classical in
noncomputable def per (b : Bd) (s : Sd) : Nat := if h : ∃ p, IsPer b s p then Classical.choose h else 1
noncomputable def rnd (b : Bd) (s : Sd) : List Sd := roundN b (per b s) s
section
variable {m : MH}
end
section
variable {T : List MFn} {ix : Ix} {fuel n : Nat} {k : Bool} {m : MH} {b : Bd}
end
end Wp
namespace Wp
open PySem M
noncomputable def both (b : Bd) (s t : Sd) : List Nat := (List.range (per b s * per b t / Nat.gcd (per b s) (per b t))).filter fun i => decide ((iter b (i % per b s) s).own = (iter b (i % per b t) t).own)
def meetV (l : List Nat) : P := match l with
  | [] => .none
  | x :: _ => .int (x : Nat)
section
variable {T : List MFn} {ix : Ix} {fuel n : Nat} {k : Bool} {m : MH} {b : Bd}
end
theorem fin_t {l : Nat} {r : RS} (h : SatS r (fun _ _ => False) (fun d _ => d = .p (.bool true))) : ∃ m, fin false l r = .ok (.p (.bool true)) m := by
  cases h with
  | nx h => exact h.elim
  | @rt d m _ _ h =>
    subst h
    exact ⟨_, rfl⟩
end Wp
namespace Wp
section
variable {b : Bd}
def rowsAt (b : Bd) (p : Nat) : List Row := (near b).filter fun r => hasP r p
def mts (b : Bd) (p : Nat) : List (Nat × Bool) := (rowsAt b p).map fun r => (oth r p, r.2.1 == p)
def leftAt (b : Bd) (p j : Nat) : List Nat := (beside b p p).filter fun q => !((mts b p).take j).any fun x => x.1 == q
def turnB (b : Bd) : Bd := b.map fun p => ⟨p.x, p.y, !p.l⟩
end
end Wp
namespace Wp
open PySem M
section
variable {T : List MFn} {ix : Ix} {fuel n : Nat} {k : Bool} {m : MH} {b : Bd}
end
end Wp
namespace Wp
def b01 (c : Bool) : Nat := if c then 1 else 0
def addV (u v : V2) : V2 := (u.1 + v.1, u.2 + v.2)
section
variable {b : Bd}
def numBy (b : Bd) (s : Sd) : Nat := b01 (((pin b s.own).l == !s.a) == (pin b s.last).l) + (beside b s.own s.last).countP fun p => decide (cr (lookOf b s) (btw b s.own p) > 0) == (pin b p).l
def seenL (b : Bd) (p : Nat) (look : V2) (q : Nat) : Bool := !(q == p) && (if (pin b q).l then decide (cr look (btw b p q) > 0) else decide (cr look (btw b p q) < 0))
def lnum (b : Bd) (p : Nat) (look : V2) : Nat := (List.range b.length).countP (seenL b p look)
end
end Wp
namespace Wp
open PySem M
section
variable {T : List MFn} {ix : Ix} {fuel n : Nat} {k : Bool} {m : MH} {b : Bd}
end
def idxV (L : List Sd) (t : Sd) : Nat := (idxD (encS t) (L.map encS) 0).getD 0
def minV (L : List Sd) : P := match L.map encS with
  | [] => .none
  | x :: r => PySem.W.minD x r
noncomputable def togV (b : Bd) (s t : Sd) : P := if (rnd b s).any (fun x => decide (x = t)) then .tuple [.str "one", .int (idxV (rnd b s) t : Nat)] else if decide ((numBy b s : Int) = (numBy b t : Int)) then .tuple [.str "rounds", minV (rnd b s), minV (rnd b t)] else .tuple [.str "numbers", .int (numBy b s : Nat), .int (numBy b t : Nat)]
section
variable {T : List MFn} {ix : Ix} {fuel n : Nat} {k : Bool} {m : MH} {b : Bd}
end
end Wp
namespace Wp
open PySem M
structure SameP (b c : Bd) : Prop where
  len : c.length = b.length
  at_ : ∀ i, (pin c i).x = (pin b i).x ∧ (pin c i).y = (pin b i).y
theorem SameP.btw {b c : Bd} (h : SameP b c) (i j : Nat) : Wp.btw c i j = Wp.btw b i j := by
  unfold Wp.btw
  rw [(h.at_ i).1, (h.at_ i).2, (h.at_ j).1, (h.at_ j).2]
theorem SameP.chart {b c : Bd} (h : SameP b c) : Wp.chart c = Wp.chart b := by
  have e : dirs c = dirs b := by
    unfold dirs rowOf
    rw [h.len]
    simp only [h.btw]
  unfold Wp.chart halves
  rw [e]
theorem SameP.sd {b c : Bd} (h : SameP b c) {s : Sd} (o : SdOk b s) : SdOk c s := ⟨by rw [h.len]; exact o.own, by rw [h.len]; exact o.last, o.ne⟩
def inLot (l : List Nat) (i : Nat) : Bool := l.any fun j => decide (j = i)
def turnAt (b : Bd) (l : List Nat) : Bd := (b.zipIdx 0).map fun x => ⟨x.1.x, x.1.y, if inLot l x.2 then !x.1.l else x.1.l⟩
def subs : Nat → List (List Nat)
  | 0 => [[]]
  | n + 1 => subs n ++ (subs n).map fun l => l ++ [n]
def tupN (l : List Nat) : P := .tuple (l.map fun x : Nat => PyData.int x)
def enc2 (l : List Nat) : P := .tuple [.int (l.length : Nat), tupN l]
theorem mem_insD {x y : P} : ∀ {l : List P}, y ∈ insD x l ↔ y = x ∨ y ∈ l
  | [] => by simp [insD]
  | z :: r => by
    unfold insD
    split
    · simp
    · simp only [List.mem_cons, mem_insD (l := r)]
      constructor
      · rintro (h | h | h) <;> simp [h]
      · rintro (h | h | h) <;> simp [h]
theorem mem_sortD {y : P} : ∀ {l : List P}, y ∈ sortD l ↔ y ∈ l
  | [] => by simp [sortD]
  | x :: r => by
    unfold sortD
    rw [mem_insD, mem_sortD (l := r), List.mem_cons]
theorem all_enc2 {n : Nat} : ∀ (ws : List P), (∀ w ∈ ws, ∃ l ∈ subs n, w = enc2 l) → ∃ L : List (List Nat), ws = L.map enc2 ∧ ∀ l ∈ L, l ∈ subs n
  | [], _ => ⟨[], rfl, fun _ h => nomatch h⟩
  | w :: ws, h => by
    obtain ⟨l, hl, rfl⟩ := h w (by simp)
    obtain ⟨L, rfl, hL⟩ := all_enc2 ws fun w hw => h w (List.mem_cons_of_mem _ hw)
    refine ⟨l :: L, rfl, fun y hy => ?_⟩
    rcases List.mem_cons.mp hy with rfl | hy
    · exact hl
    · exact hL y hy
theorem lots_ex (n : Nat) : ∃ L : List (List Nat), sortD ((subs n).map enc2) = L.map enc2 ∧ ∀ l ∈ L, l ∈ subs n := by
  refine all_enc2 _ fun w hw => ?_
  obtain ⟨l, hl, rfl⟩ := List.mem_map.mp (mem_sortD.mp hw)
  exact ⟨l, hl, rfl⟩
noncomputable def lots (n : Nat) : List (List Nat) := Classical.choose (lots_ex n)
section
variable {m : MH}
end
section
variable {T : List MFn} {ix : Ix} {fuel n : Nat} {k : Bool} {m : MH} {b : Bd}
end
noncomputable def owns (b : Bd) (s : Sd) : List Int := (rnd b s).map fun t => (t.own : Int)
section
variable {T : List MFn} {ix : Ix} {fuel n : Nat} {k : Bool} {m : MH} {b : Bd}
end
def firstLot (f : List Nat → Bool) : List (List Nat) → P
  | [] => .none
  | l :: r => if f l then tupN l else firstLot f r
noncomputable def toAll (b : Bd) (s : Sd) (l : List Nat) : Bool := decide (((sortU (owns (turnAt b l) s)).length : Int) = (b.length : Int))
section
variable {T : List MFn} {ix : Ix} {fuel n : Nat} {k : Bool} {m : MH} {b : Bd}
end
def all2 (W : P → P → Prop) : List P → List P → Prop
  | [], [] => True
  | x :: xs, w :: ws => W x w ∧ all2 W xs ws
  | _, _ => False
def wide8 : List V2 := [(0, 0), (40, 3), (11, 29), (7, 62), (93, 50), (71, 88), (26, 94), (58, 19)]
section
variable {T : List MFn} {ix : Ix} {fuel n : Nat} {k : Bool} {m : MH}
end
end Wp
namespace Wp
variable {b : Bd} {s t : Sd}
def at1 (b : Bd) (s t : Sd) (i : Nat) : Bool := decide ((iter b i s).own = (iter b i t).own)
noncomputable def len2 (b : Bd) (s t : Sd) : Nat := Nat.lcm (per b s) (per b t)
def ownAt (b : Bd) (s : Sd) (i : Nat) : Nat := (iter b i s).own
noncomputable def ownL (b : Bd) (s : Sd) : List Nat := (rnd b s).map fun t => t.own
end Wp
namespace Wp
open PySem M
def wthn (d : P) (lo hi : Int) : Bool := match d with
  | .int x => decide (lo ≤ x) && decide (x ≤ hi)
  | _ => false
def lng (d : P) (lo hi : Int) : Bool := match d with
  | .tuple ds => decide (lo ≤ ds.length) && decide ((ds.length : Int) ≤ hi)
  | _ => false
def neI (x y : P) : Bool := match x, y with
  | .int i, .int j => !decide (i = j)
  | _, _ => false
def isSd (N : Nat) (d : P) : Bool := match d with
  | .tuple [x, y, .str w] => (decide (("ahead" : Str) = w) || decide (("behind" : Str) = w)) && ((wthn x 0 ((N : Int) - 1) && wthn y 0 ((N : Int) - 1)) && neI x y)
  | _ => false
def isWay (d : P) : Bool := match d with
  | .str w => decide (("left" : Str) = w) || decide (("right" : Str) = w)
  | _ => false
def isPin (d : P) : Bool := match d with
  | .tuple [x, y, z] => isWay z && (wthn x 0 99 && wthn y 0 99)
  | _ => false
section
variable {T : List MFn} {ix : Ix} {fuel n : Nat} {k : Bool} {m : MH} {b : Bd}
end
end Wp
namespace Wp
open PySem M
def decP (d : P) : Pin := match d with
  | .tuple [.int x, .int y, .str w] => ⟨x, y, decide (("left" : Str) = w)⟩
  | _ => ⟨0, 0, false⟩
def apB (b : Bd) : Bool := (((pairsOf b).zipIdx 0).flatMap fun x => ((pairsOf b).take x.2).map fun y => !decide (cr x.1 y = 0)).all id
def isBd (d : P) : Bool := match d with
  | .tuple ds => (decide ((3 : Int) ≤ ds.length) && decide ((ds.length : Int) ≤ 8)) && (ds.all isPin && apB (ds.map decP))
  | _ => false
section
variable {T : List MFn} {ix : Ix} {fuel n : Nat} {k : Bool} {m : MH}
end
end Wp
namespace Wp
open PySem M
def Pw2 (l : List V2) : Prop := Pw l ∧ ∀ u ∈ l, u ≠ (0, 0)
theorem Pw2.pre {l k : List V2} (h : Pw2 (l ++ k)) : Pw2 l := ⟨(List.pairwise_append.mp h.1).1, fun u hu => h.2 u (List.mem_append_left _ hu)⟩
section
variable {T : List MFn} {ix : Ix} {fuel n : Nat} {k : Bool} {m : MH} {b : Bd}
end
end Wp
namespace Wp
open PySem M
def spot2 (p : Pin) : V2 := (p.x, p.y)
end Wp
namespace Wp
open PySem M
section
variable {T : List MFn} {ix : Ix} {fuel n : Nat} {k : Bool} {m : MH} {b : Bd}
end
end Wp
namespace Wp
open PySem M
section
variable {m : MH}
end
def Txt (d : P) : Prop := ∃ z : Str, ∀ m : MH, opD .repr [.p d] m = .ok [.p (.str z)] m
def figs : List Nat := List.range 100
def fstOk (x : Str) : Bool := !decide (cutT x none (some 1) = ("!" : Str)) && decide (x.length ≤ 100000)
def lt300 : List Nat := List.range 300
end Wp
namespace Wp
open PySem M
def encMt (x : Nat × Bool) : P := .tuple [.int (x.1 : Nat), .str (wordS x.2)]
section
variable {T : List MFn} {ix : Ix} {fuel n : Nat} {k : Bool} {m : MH} {b : Bd}
end
section
variable {T : List MFn} {ix : Ix} {fuel n : Nat} {k : Bool} {m : MH} {b : Bd}
end
end Wp
namespace Wp
open PySem M
def whl (d : P) : Bool := d.isInt && !d.isBool
def lkOk (b : Bd) (v : V2) : Bool := (pairsOf b).all fun u => !decide (cr v u = 0)
def firstBy (b : Bd) (p : Nat) (v : V2) : Sd := let r := met b p v (pin b p).l (beside b p p); ⟨r.1, p, !r.2.1⟩
section
variable {T : List MFn} {ix : Ix} {fuel n : Nat} {k : Bool} {m : MH} {b : Bd}
end
def cod (x : Str) : List Nat := x.cps.toList
end Wp
namespace Wp
open PySem M
mutual
/-- ints of B at most, of depth n at most, empty dicts -/
def sml (B : Nat) : P → Nat → Bool
  | .none, _ => true
  | .bool _, _ => true
  | .int i, _ => decide (i.natAbs ≤ B)
  | .str x, _ => x.cps.toList.all fun c => decide (c < 16 ^ 8)
  | .list _, 0 => false
  | .tuple _, 0 => false
  | .list xs, n + 1 => smls B xs n
  | .tuple xs, n + 1 => smls B xs n
  | .dict kvs, _ => kvs.isEmpty
def smls (B : Nat) : List P → Nat → Bool
  | [], _ => true
  | x :: r, n => sml B x n && smls B r n
end
mutual
theorem sml_up {B C k : Nat} (h : B ≤ C) : ∀ (d : P) (n : Nat), sml B d n = true → sml C d (n + k) = true
  | .none, _, _ => rfl
  | .bool _, _, _ => rfl
  | .int i, _, z => by simp only [sml, decide_eq_true_eq] at z ⊢; omega
  | .str x, _, z => by simpa only [sml] using z
  | .list xs, 0, z => by simp [sml] at z
  | .tuple xs, 0, z => by simp [sml] at z
  | .list xs, n + 1, z => by
    have e : n + 1 + k = (n + k) + 1 := by omega
    rw [e]
    simp only [sml] at z ⊢
    exact smls_up h xs n z
  | .tuple xs, n + 1, z => by
    have e : n + 1 + k = (n + k) + 1 := by omega
    rw [e]
    simp only [sml] at z ⊢
    exact smls_up h xs n z
  | .dict kvs, _, z => by simpa only [sml] using z
theorem smls_up {B C k : Nat} (h : B ≤ C) : ∀ (L : List P) (n : Nat), smls B L n = true → smls C L (n + k) = true
  | [], _, _ => rfl
  | x :: r, n, z => by
    simp only [smls, Bool.and_eq_true] at z ⊢
    exact ⟨sml_up h x n z.1, smls_up h r n z.2⟩
end
mutual
theorem sml_txt {B : Nat} (h : B < 10 ^ 12) : ∀ (d : P) (n : Nat), sml B d n = true → d.leavesShort 13 = true ∧ d.showable = true ∧ dlt d n = true
  | .none, n, _ => ⟨rfl, rfl, by cases n <;> rfl⟩
  | .bool _, n, _ => ⟨rfl, rfl, by cases n <;> rfl⟩
  | .int i, n, z => by
    simp only [sml, decide_eq_true_eq] at z
    have t := tm_int (dp := 1) (show i.natAbs < 10 ^ 12 by omega)
    exact ⟨t.ls, t.sh, by cases n <;> rfl⟩
  | .str x, n, z => ⟨by simpa only [sml, PyData.leavesShort] using z, rfl, by cases n <;> rfl⟩
  | .list xs, 0, z => by simp [sml] at z
  | .tuple xs, 0, z => by simp [sml] at z
  | .list xs, n + 1, z => by
    simp only [sml] at z
    have := smls_txt h xs n z
    simpa only [PyData.leavesShort, PyData.showable, dlt] using this
  | .tuple xs, n + 1, z => by
    simp only [sml] at z
    have := smls_txt h xs n z
    simpa only [PyData.leavesShort, PyData.showable, dlt] using this
  | .dict kvs, n, z => by
    simp only [sml] at z
    cases kvs with
    | nil => exact ⟨rfl, rfl, by cases n <;> rfl⟩
    | cons a r => simp at z
theorem smls_txt {B : Nat} (h : B < 10 ^ 12) : ∀ (L : List P) (n : Nat), smls B L n = true → PyData.leavesShortAll 13 L = true ∧ PyData.showableAll L = true ∧ dlts L n = true
  | [], n, _ => ⟨rfl, rfl, by cases n <;> rfl⟩
  | x :: r, n, z => by
    simp only [smls, Bool.and_eq_true] at z
    obtain ⟨a1, a2, a3⟩ := sml_txt h x n z.1
    obtain ⟨b1, b2, b3⟩ := smls_txt h r n z.2
    simp only [PyData.leavesShortAll, PyData.showableAll, dlts, a1, a2, a3, b1, b2, b3, Bool.and_self, and_self]
end
structure Tg (d : P) (B w dp : Nat) : Prop where
  sm : sml B d dp = true
  wt : d.weight ≤ w
theorem Tg.up {d : P} {B C w w2 dp dp2 : Nat} (h : Tg d B w dp) (h1 : B ≤ C) (h2 : w ≤ w2) (h3 : dp ≤ dp2) : Tg d C w2 dp2 := by
  obtain ⟨k, rfl⟩ := Nat.exists_eq_add_of_le h3
  exact ⟨sml_up h1 d dp h.sm, Nat.le_trans h.wt h2⟩
end Wp
namespace Wp
open PySem M
def wys : Nat → List (List Bool)
  | 0 => [[]]
  | n + 1 => (wys n).flatMap fun r => [true, false].map fun l => r ++ [l]
def byW (b : Bd) (w : List Bool) : Bd := (b.zip w).map fun x => ⟨x.1.x, x.1.y, x.2⟩
def endGo (b : Bd) (s : Sd) : List Nat → Option Sd
  | [] => some s
  | p :: r => if (beatBy b s).own = p then endGo b (beatBy b s) r else none
def endOf (b : Bd) (s : Sd) (row : List Nat) : Option Sd := if s.own = row.headD 0 then endGo b s row.tail else none
abbrev Tl := List Bool × Sd × Sd
def storW (b : Bd) (row : List Nat) (w : List Bool) : List Tl := (standsOf (byW b w)).filterMap fun s => (endOf (byW b w) s row).map fun e => (w, s, e)
def storiesL (b : Bd) (row : List Nat) : List Tl := (wys b.length).flatMap (storW b row)
def encW (w : List Bool) : P := .tuple (w.map fun l => PyData.str (wayS l))
def encO : Option Sd → P
  | none => .none
  | some s => encS s
def encT (t : Tl) : P := .tuple [encW t.1, encS t.2.1, encS t.2.2]
section
variable {m : MH}
end
def pairT {A B : Type} (h : A → B → P) (x : A × Option B) : P := match x.2 with
  | some e => h x.1 e
  | none => .none
section
variable {T : List MFn} {ix : Ix} {fuel n : Nat} {k : Bool} {m : MH} {b : Bd}
end
end Wp
namespace Wp
open PySem M
def rowOk (N : Nat) (d : P) : Bool := match d with
  | .tuple ds => (decide ((1 : Int) ≤ ds.length) && decide ((ds.length : Int) ≤ 30)) && ds.all fun x => wthn x 0 ((N : Int) - 1)
  | _ => false
theorem rowOk_N {N : Nat} {row : List Nat} (h1 : row ≠ []) (h2 : row.length ≤ 30) (h3 : ∀ x ∈ row, x < N) : rowOk N (tupN row) = true := by
  have lp := List.length_pos_iff.mpr h1
  simp only [rowOk, tupN, List.length_map, List.all_map, Bool.and_eq_true, decide_eq_true_eq, List.all_eq_true]
  refine ⟨by omega, fun x hx => ?_⟩
  have := h3 x hx
  simp [wthn]
  omega
section
variable {T : List MFn} {ix : Ix} {fuel n : Nat} {k : Bool} {m : MH} {b : Bd}
structure RowN (b : Bd) (row : List Nat) : Prop where
  ne : row ≠ []
  le : row.length ≤ 30
  lt : ∀ x ∈ row, x < b.length
theorem RowN.ok {row : List Nat} (r : RowN b row) : rowOk b.length (tupN row) = true := rowOk_N r.ne r.le r.lt
def manyT (L : List Tl) (i : Nat) : Nat := ((L.map fun t => wayS (t.1.getD i false)).foldl addS []).length
def sureV (b : Bd) (L : List Tl) : P := match L with
  | [] => .none
  | t :: _ => .tuple ((List.range b.length).map fun i => if decide ((manyT L i : Int) = 1) then .str (wayS (t.1.getD i false)) else .none)
def someV (L : List Tl) : P := match L with
  | [] => .none
  | t :: _ => .tuple [encW t.1, encS t.2.1]
def nextI (b : Bd) (L : List Tl) : List Int := L.map fun t => ((beatBy (byW b t.1) t.2.2).own : Int)
def nextV (b : Bd) (L : List Tl) : P := .tuple ((sortU (nextI b L)).map .int)
def leftD (d : P) : Bool := match d with
  | .str s => decide (("left" : Str) = s)
  | _ => false
def sdD (d : P) : Sd := match d with
  | .tuple [.int i, .int j, .str w] => ⟨i.toNat, j.toNat, decide (w = ("ahead" : Str))⟩
  | _ => ⟨0, 0, false⟩
def isSt (b : Bd) (row : List Nat) (d : P) : Bool := match d with
  | .tuple [.tuple zs, y] => (decide (zs.length = b.length) && (zs.all isWay && isSd b.length y)) && (endOf (byW b (zs.map leftD)) (sdD y) row).isSome
  | _ => false
end
end Wp
namespace Wp
open PySem M
theorem lc_draw2 {cf : CF} {m1 : MH} {elt it tst : ME} {own : List Nat} {tg : MT} {ik : Itk} {env : Ev} {m : MH} {xs : List D} {ck : MH → Bool} {items : List P} (I : MH → Prop) (W : P → Prop) (h1 : ev cf it env m = .ok xs m1) (h2 : iterD ik xs m1 = some (items, ck)) (hc : ∀ m, I m → ck m = true) (h0 : I m1)
    (step : ∀ x ∈ items, ∀ m, I m → ∃ env2 w m', bindT tg x (wipeE env own) = some env2 ∧ ev cf elt env2 m = .ok [.p w] m' ∧ I m' ∧ W w) (hl : items.length ≤ 100000) :
    ∃ ws m', ev cf (.lc false elt own tg ik it false tst) env m = .ok [.p (.list ws)] m' ∧ I m' ∧ ws.length = items.length ∧ ∀ w ∈ ws, W w := by
  rw [ev.eq_18, h1]
  simp only [bind_ok, h2]
  obtain ⟨ws, m', e, hI, hL, hW⟩ := lc_inv (f := fun d m2 => (match bindT tg d (wipeE env own) with
        | none => .bad
        | some env2 => (match false with
          | false => (ev cf elt env2 m2).bind oneP
          | true => (ev cf tst env2 m2).bind fun t m3 => (match truth t with
            | some true => (ev cf elt env2 m3).bind oneP
            | some false => .ok none m3
            | none => .bad)))) (I := I) (W := W) hc items (fun x hx m hI => by
    obtain ⟨env2, w, m', q1, q2, q3, q4⟩ := step x hx m hI
    exact ⟨w, m', by simp only [q1, q2, bind_ok, oneP], q3, q4⟩) m1 h0
  refine ⟨ws, m', ?_, hI, hL, hW⟩
  refine Eq.trans (congrArg (fun r : R (List P) => r.nox.bind fun ds m5 => if ds.length ≤ 100000 then mkL false ds m5 else .bad) e) ?_
  have : ws.length ≤ 100000 := by omega
  simp only [nox_ok, bind_ok, this, if_true, mkL]
mutual
theorem eqv_self : ∀ (d : P) (n : Nat), dle d n = true → PyData.eqv d d = true
  | .none, _, _ => rfl
  | .bool b, _, _ => by simp [PyData.eqv]
  | .int b, _, _ => by simp [PyData.eqv]
  | .str b, _, _ => by simp [PyData.eqv]
  | .list xs, 0, h => by simp [dle] at h
  | .tuple xs, 0, h => by simp [dle] at h
  | .dict _, _, h => by simp [dle] at h
  | .list xs, n + 1, h => by
    simp only [dle] at h
    simp only [PyData.eqv, eqvs_self xs n h]
  | .tuple xs, n + 1, h => by
    simp only [dle] at h
    simp only [PyData.eqv, eqvs_self xs n h]
theorem eqvs_self : ∀ (ds : List P) (n : Nat), dles ds n = true → PyData.eqvAll ds ds = true
  | [], _, _ => rfl
  | d :: ds, n, h => by
    simp only [dles, Bool.and_eq_true] at h
    simp only [PyData.eqvAll, eqv_self d n h.1, eqvs_self ds n h.2, Bool.and_self]
end
end Wp
namespace Lw
open PySem M Wp
def ix : Ix := { is_whole := 0, is_within := 1, is_long := 2, rises := 3, is_way := 4, other_way := 5, is_pin_by := 6, cross := 7, between := 8, pairs_of := 9, is_board := 10, need_board := 11, need_pin := 12, need_pins := 13, with_ways_by := 14, with_ways := 15, need_look := 21, is_counted := 22, number_at := 23, l_cell_at := 31, l_pen := 32, l_draw := 33 }
theorem hh_l_cell_at : H_l_cell_at T ix := ⟨f31, rfl, rfl, rfl, rfl⟩
theorem hh_l_pen : H_l_pen T ix := ⟨f32, rfl, rfl, rfl, rfl⟩
theorem hh_l_draw : H_l_draw T ix := ⟨f33, rfl, rfl, rfl, rfl⟩
def BL_mirrored : MS := (.seq (.ex (.call false ix.need_board (.consA (.var 0) .nilA))) (.seq (.ret (.op .tuple (.consA (.lc false (.tup (.consA (.op .sub (.consA (.gl "MOST_PLACE" (.int 99)) (.consA (.var 1) .nilA))) (.consA (.var 2) (.consA (.call false ix.other_way (.consA (.var 3) .nilA)) .nilA)))) [1, 2, 3] (.tup (.cons (.v 1) (.cons (.v 2) (.cons (.v 3) .nil)))) .val (.consA (.var 0) .nilA) false .nilA) .nilA))) .nil))
def BL_without_by : MS := (.seq (.ret (.op (.addL false) (.consA (.op (.slU false) (.consA (.var 0) (.consA (.var 1) .nilA))) (.consA (.op (.slL false) (.consA (.var 0) (.consA (.op (.addL false) (.consA (.var 1) (.consA (.cst (.int 1)) .nilA))) .nilA))) .nilA)))) .nil)
def BL_need_more : MS := (.seq (.ex (.call false ix.need_board (.consA (.var 0) .nilA))) (.seq (.ex (.call false ix.need_pin (.consA (.var 0) (.consA (.var 1) .nilA)))) (.seq (.iff (.op .eq (.consA (.op .len (.consA (.var 0) .nilA)) (.consA (.gl "FEWEST_PINS" (.int 3)) .nilA))) (.seq (.raisF (.consA (.op .sub (.consA (.op .len (.consA (.var 0) .nilA)) (.consA (.cst (.int 1)) .nilA))) (.consA (.gl "FEWEST_PINS" (.int 3)) .nilA))) .nil) .nil) .nil)))
def BL_without : MS := (.seq (.ex (.call false 18 (.consA (.var 0) (.consA (.var 1) .nilA)))) (.seq (.ret (.call false 17 (.consA (.var 0) (.consA (.var 1) .nilA)))) .nil))
def BL_direction : MS := (.seq (.ex (.call false ix.need_board (.consA (.var 0) .nilA))) (.seq (.ex (.call false ix.need_pin (.consA (.var 0) (.consA (.var 1) .nilA)))) (.seq (.ex (.call false ix.need_pin (.consA (.var 0) (.consA (.var 2) .nilA)))) (.seq (.iff (.op .eq (.consA (.var 1) (.consA (.var 2) .nilA))) (.seq (.rais 3) .nil) .nil) (.seq (.ret (.call false ix.between (.consA (.var 0) (.consA (.var 1) (.consA (.var 2) .nilA))))) .nil)))))
def BL_need_seen : MS := (.seq (.ex (.call false ix.need_board (.consA (.var 0) .nilA))) (.seq (.ex (.call false ix.need_look (.consA (.var 0) (.consA (.var 1) .nilA)))) .nil))
def BL_order_by : MS := (.seq (.setv 2 (.op (.sorted false) (.consA (.lc false (.tup (.consA (.call false ix.cross (.consA (.var 1) (.consA (.op (.slU false) (.consA (.var 4) (.consA (.cst (.int 2)) .nilA))) .nilA))) (.consA (.var 3) .nilA))) [3, 4] (.tup (.cons (.v 3) (.cons (.v 4) .nil))) .enum (.consA (.var 0) .nilA) false .nilA) .nilA))) (.seq (.ret (.op .tuple (.consA (.lc false (.var 3) [5, 3] (.tup (.cons (.v 5) (.cons (.v 3) .nil))) .val (.consA (.op (.rev false) (.consA (.var 2) .nilA)) .nilA) false .nilA) .nilA))) .nil))
def BL_order : MS := (.seq (.ex (.call false 24 (.consA (.var 0) (.consA (.var 1) .nilA)))) (.seq (.ret (.call false 25 (.consA (.var 0) (.consA (.var 1) .nilA)))) .nil))
def BL_numbers : MS := (.seq (.ex (.call false 24 (.consA (.var 0) (.consA (.var 1) .nilA)))) (.seq (.ret (.op .tuple (.consA (.lc false (.call false ix.number_at (.consA (.var 0) (.consA (.var 2) (.consA (.var 1) .nilA)))) [2] (.v 2) .range1 (.consA (.op .len (.consA (.var 0) .nilA)) .nilA) false .nilA) .nilA))) .nil))
def BL_heights : MS := (.seq (.ex (.call false 24 (.consA (.var 0) (.consA (.var 1) .nilA)))) (.seq (.setv 2 (.lst true (.consA (.meth .count (.lc false (.op .ix (.consA (.var 4) (.consA (.cst (.int 2)) .nilA))) [4] (.v 4) .val (.consA (.var 0) .nilA) false .nilA) (.consA (.gl "RIGHT" (.str "right")) .nilA)) .nilA))) (.seq (.forr (.v 3) .val (.consA (.call false 25 (.consA (.var 0) (.consA (.var 1) .nilA))) .nilA) (.seq (.ex (.meth .append (.var 2) (.consA (.op (.addL false) (.consA (.op .ix (.consA (.var 2) (.consA (.op .neg (.consA (.cst (.int 1)) .nilA)) .nilA))) (.consA (.ife (.op .eq (.consA (.op .ix (.consA (.op .ix (.consA (.var 0) (.consA (.var 3) .nilA))) (.consA (.cst (.int 2)) .nilA))) (.consA (.gl "LEFT" (.str "left")) .nilA))) (.cst (.int 1)) (.op .neg (.consA (.cst (.int 1)) .nilA))) .nilA))) .nilA))) .nil)) (.seq (.ret (.op .tuple (.consA (.var 2) .nilA))) .nil))))
def BL_need_number : MS := (.seq (.iff (.bop false (.nt (.call false ix.is_whole (.consA (.var 0) .nilA))) (.bone (.op .lt (.consA (.var 0) (.consA (.cst (.int 0)) .nilA))))) (.seq (.rais 5) .nil) .nil) .nil)
def BL_of_number : MS := (.seq (.ex (.call false ix.need_board (.consA (.var 0) .nilA))) (.seq (.ex (.call false 29 (.consA (.var 1) .nilA))) (.seq (.ex (.call false ix.need_look (.consA (.var 0) (.consA (.var 2) .nilA)))) (.seq (.ret (.op .tuple (.consA (.lc false (.var 3) [3] (.v 3) .val (.consA (.call false 25 (.consA (.var 0) (.consA (.var 2) .nilA))) .nilA) true (.op .eq (.consA (.call false ix.number_at (.consA (.var 0) (.consA (.var 3) (.consA (.var 2) .nilA)))) (.consA (.var 1) .nilA)))) .nilA))) .nil))))
def BL_l_other : MS := (.seq (.ret (.ife (.op .eq (.consA (.var 0) (.consA (.cst (.str "left")) .nilA))) (.cst (.str "right")) (.cst (.str "left")))) .nil)
def BL_l_boards_right : MS := (.seq (.iff (.bop false (.op .isnC (.consA (.callk false ix.is_board [0] (.consA (.var 0) .nilA)) (.consA (.cst (.bool true)) .nilA))) (.bone (.op .ne (.consA (.callk false 20 [2, 1, 0] (.consA (.cst (.int 2)) (.consA (.cst (.int 1)) (.consA (.var 0) .nilA)))) (.consA (.tup (.consA (.op .neg (.consA (.cst (.int 29)) .nilA)) (.consA (.cst (.int 26)) .nilA))) .nilA))))) (.seq (.ret (.cst (.bool false))) .nil) .nil) (.seq (.iff (.op .ne (.consA (.callk false 16 [0] (.consA (.var 0) .nilA)) (.consA (.op .tuple (.consA (.lc false (.tup (.consA (.op .sub (.consA (.cst (.int 99)) (.consA (.var 2) .nilA))) (.consA (.var 3) (.consA (.call false 34 (.consA (.var 4) .nilA)) .nilA)))) [2, 3, 4] (.tup (.cons (.v 2) (.cons (.v 3) (.cons (.v 4) .nil)))) .val (.consA (.var 0) .nilA) false .nilA) .nilA)) .nilA))) (.seq (.ret (.cst (.bool false))) .nil) .nil) (.seq (.iff (.op .ne (.consA (.callk false ix.with_ways [1, 0] (.consA (.tup (.consA (.cst (.int 1)) .nilA)) (.consA (.var 0) .nilA))) (.consA (.tup (.consA (.op .ix (.consA (.var 0) (.consA (.cst (.int 0)) .nilA))) (.consA (.tup (.consA (.cst (.int 40)) (.consA (.cst (.int 3)) (.consA (.call false 34 (.consA (.op .ix (.consA (.op .ix (.consA (.var 0) (.consA (.cst (.int 1)) .nilA))) (.consA (.cst (.int 2)) .nilA))) .nilA)) .nilA)))) (.consA (.op .ix (.consA (.var 0) (.consA (.cst (.int 2)) .nilA))) .nilA)))) .nilA))) (.seq (.ret (.cst (.bool false))) .nil) .nil) (.seq (.ret (.bop true (.op .eq (.consA (.callk false 19 [1, 0] (.consA (.cst (.int 3)) (.consA (.var 1) .nilA))) (.consA (.var 0) .nilA))) (.bone (.op .eq (.consA (.callk false 19 [1, 0] (.consA (.cst (.int 0)) (.consA (.var 1) .nilA))) (.consA (.op (.slL false) (.consA (.var 1) (.consA (.cst (.int 1)) .nilA))) .nilA)))))) .nil))))
def BL_l_numbers_right : MS := (.seq (.setLc 1 (.lc false (.op .ix (.consA (.lst false (.consA (.op .neg (.consA (.cst (.int 1)) .nilA)) (.consA (.cst (.int 1)) .nilA))) (.consA (.op .int (.consA (.op .eq (.consA (.op .ix (.consA (.op .ix (.consA (.var 0) (.consA (.var 6) .nilA))) (.consA (.cst (.int 2)) .nilA))) (.consA (.cst (.str "left")) .nilA))) .nilA)) .nilA))) [6] (.v 6) .val (.consA (.tup (.consA (.cst (.int 0)) (.consA (.cst (.int 2)) (.consA (.cst (.int 1)) .nilA)))) .nilA) false .nilA)) (.seq (.setv 2 (.meth .count (.var 1) (.consA (.op .neg (.consA (.cst (.int 1)) .nilA)) .nilA))) (.seq (.setv 3 (.lst false (.consA (.var 2) (.consA (.op (.addL false) (.consA (.var 2) (.consA (.op .ix (.consA (.var 1) (.consA (.cst (.int 0)) .nilA))) .nilA))) (.consA (.op (.addL false) (.consA (.op (.addL false) (.consA (.var 2) (.consA (.op .ix (.consA (.var 1) (.consA (.cst (.int 0)) .nilA))) .nilA))) (.consA (.op .ix (.consA (.var 1) (.consA (.cst (.int 1)) .nilA))) .nilA))) (.consA (.op (.addL false) (.consA (.var 2) (.consA (.op .sum (.consA (.var 1) .nilA)) .nilA))) .nilA)))))) (.seq (.iff (.bop false (.op .ne (.consA (.callk false 26 [1, 0] (.consA (.tup (.consA (.cst (.int 0)) (.consA (.cst (.int 1)) .nilA))) (.consA (.var 0) .nilA))) (.consA (.tup (.consA (.cst (.int 0)) (.consA (.cst (.int 2)) (.consA (.cst (.int 1)) .nilA)))) .nilA))) (.bone (.op .ne (.consA (.callk false 28 [1, 0] (.consA (.tup (.consA (.cst (.int 0)) (.consA (.cst (.int 1)) .nilA))) (.consA (.var 0) .nilA))) (.consA (.op .tuple (.consA (.var 3) .nilA)) .nilA))))) (.seq (.ret (.cst (.bool false))) .nil) .nil) (.seq (.setv 4 (.tup (.consA (.op .min1 (.consA (.op (.slU false) (.consA (.var 3) (.consA (.cst (.int 2)) .nilA))) .nilA)) (.consA (.op .min1 (.consA (.op (.slL false) (.consA (.var 3) (.consA (.cst (.int 2)) .nilA))) .nilA)) (.consA (.op .min1 (.consA (.sl3 false (.var 3) (.cst (.int 1)) (.cst (.int 3))) .nilA)) .nilA))))) (.seq (.iff (.op .ne (.consA (.callk false 27 [1, 0] (.consA (.tup (.consA (.cst (.int 0)) (.consA (.cst (.int 1)) .nilA))) (.consA (.var 0) .nilA))) (.consA (.var 4) .nilA))) (.seq (.ret (.cst (.bool false))) .nil) .nil) (.seq (.setv 5 (.op .tuple (.consA (.lc false (.var 7) [7] (.v 7) .val (.consA (.tup (.consA (.cst (.int 0)) (.consA (.cst (.int 2)) (.consA (.cst (.int 1)) .nilA)))) .nilA) true (.op .eq (.consA (.op .ix (.consA (.var 4) (.consA (.var 7) .nilA))) (.consA (.cst (.int 1)) .nilA)))) .nilA))) (.seq (.ret (.op .eq (.consA (.callk false 30 [2, 1, 0] (.consA (.tup (.consA (.cst (.int 0)) (.consA (.cst (.int 1)) .nilA))) (.consA (.cst (.int 1)) (.consA (.var 0) .nilA)))) (.consA (.var 5) .nilA)))) .nil))))))))
def BL_law : MS := (.seq .errs (.seq (.forr (.v 1) .range1 (.consA (.op .max2 (.consA (.cst (.int 1)) (.consA (.op .min2 (.consA (.op .len (.consA (.var 0) .nilA)) (.consA (.cst (.int 3)) .nilA))) .nilA))) .nilA) (.seq (.setv 2 (.call true ix.l_pen (.consA (.call false ix.l_cell_at (.consA (.var 0) (.consA (.var 1) .nilA))) .nilA))) (.seq (.forr (.v 3) .range1 (.consA (.cst (.int 4)) .nilA) (.seq (.setLc 4 (.lc false (.op .ix (.consA (.lst false (.consA (.cst (.str "left")) (.consA (.cst (.str "right")) .nilA))) (.consA (.call false ix.l_draw (.consA (.var 2) (.consA (.cst (.int 2)) .nilA))) .nilA))) [6] (.v 6) .range1 (.consA (.cst (.int 3)) .nilA) false .nilA)) (.seq (.setv 5 (.tup (.consA (.tup (.consA (.cst (.int 0)) (.consA (.cst (.int 0)) (.consA (.op .ix (.consA (.var 4) (.consA (.cst (.int 0)) .nilA))) .nilA)))) (.consA (.tup (.consA (.cst (.int 40)) (.consA (.cst (.int 3)) (.consA (.op .ix (.consA (.var 4) (.consA (.cst (.int 1)) .nilA))) .nilA)))) (.consA (.tup (.consA (.cst (.int 11)) (.consA (.cst (.int 29)) (.consA (.op .ix (.consA (.var 4) (.consA (.cst (.int 2)) .nilA))) .nilA)))) .nilA))))) (.seq (.iff (.bop false (.nt (.call false 35 (.consA (.var 5) (.consA (.op (.addL false) (.consA (.var 5) (.consA (.tup (.consA (.tup (.consA (.cst (.int 60)) (.consA (.cst (.int 50)) (.consA (.op .ix (.consA (.var 4) (.consA (.cst (.int 0)) .nilA))) .nilA)))) .nilA)) .nilA))) .nilA)))) (.bone (.nt (.call false 36 (.consA (.var 5) .nilA))))) (.seq (.ret (.cst (.bool false))) .nil) .nil) .nil)))) .nil))) (.seq (.ret (.cst (.bool true))) .nil)))
theorem hl_law : HasF T 37 BL_law 1 7 := ⟨f37, rfl, rfl, rfl, rfl⟩
end Lw
namespace Lw
open PySem M Wp
def wy (b : Bool) : Str := if b then "left" else "right"
def th3 (a b c : Bool) : P := .tuple [.tuple [.int 0, .int 0, .str (wy a)], .tuple [.int 40, .int 3, .str (wy b)], .tuple [.int 11, .int 29, .str (wy c)]]
def th4 (a b c : Bool) : P := .tuple [.tuple [.int 0, .int 0, .str (wy a)], .tuple [.int 40, .int 3, .str (wy b)], .tuple [.int 11, .int 29, .str (wy c)], .tuple [.int 60, .int 50, .str (wy a)]]
def hps (j : Nat) (c0 c1 c2 : Cell) : MH := [c0, c1, c2].take j
theorem br_1 (a b c : Bool) (c0 : Cell) : callN T 1000 29 false 35 [.p (th3 a b c), .p (th4 a b c)] [c0] = .ok (.p (.bool true)) [c0] := by
  cases a <;> cases b <;> cases c <;> kernel_rfl
theorem nr_1 (a b c : Bool) (c0 : Cell) : callN T 1000 29 false 36 [.p (th3 a b c)] [c0] = .ok (.p (.bool true)) [c0] := by
  cases a <;> cases b <;> cases c <;> kernel_rfl
theorem br_2 (a b c : Bool) (c0 c1 : Cell) : callN T 1000 29 false 35 [.p (th3 a b c), .p (th4 a b c)] [c0, c1] = .ok (.p (.bool true)) [c0, c1] := by
  cases a <;> cases b <;> cases c <;> kernel_rfl
theorem nr_2 (a b c : Bool) (c0 c1 : Cell) : callN T 1000 29 false 36 [.p (th3 a b c)] [c0, c1] = .ok (.p (.bool true)) [c0, c1] := by
  cases a <;> cases b <;> cases c <;> kernel_rfl
theorem br_3 (a b c : Bool) (c0 c1 c2 : Cell) : callN T 1000 29 false 35 [.p (th3 a b c), .p (th4 a b c)] [c0, c1, c2] = .ok (.p (.bool true)) [c0, c1, c2] := by
  cases a <;> cases b <;> cases c <;> kernel_rfl
theorem nr_3 (a b c : Bool) (c0 c1 c2 : Cell) : callN T 1000 29 false 36 [.p (th3 a b c)] [c0, c1, c2] = .ok (.p (.bool true)) [c0, c1, c2] := by
  cases a <;> cases b <;> cases c <;> kernel_rfl
theorem br_ok (a b c : Bool) {m : MH} (h1 : 1 ≤ m.length) (h3 : m.length ≤ 3) : callN T 1000 29 false 35 [.p (th3 a b c), .p (th4 a b c)] m = .ok (.p (.bool true)) m := by
  match m, h1, h3 with
  | [c0], _, _ => exact br_1 a b c c0
  | [c0, c1], _, _ => exact br_2 a b c c0 c1
  | [c0, c1, c2], _, _ => exact br_3 a b c c0 c1 c2
theorem nr_ok (a b c : Bool) {m : MH} (h1 : 1 ≤ m.length) (h3 : m.length ≤ 3) : callN T 1000 29 false 36 [.p (th3 a b c)] m = .ok (.p (.bool true)) m := by
  match m, h1, h3 with
  | [c0], _, _ => exact nr_1 a b c c0
  | [c0, c1], _, _ => exact nr_2 a b c c0 c1
  | [c0, c1, c2], _, _ => exact nr_3 a b c c0 c1 c2
def sub1 : MS → MS
  | .seq a _ => a
  | x => x
def sub2 : MS → MS
  | .seq _ b => b
  | x => x
def forB : MS → MS
  | .forr _ _ _ b => b
  | x => x
def LB : MS := forB (sub1 (sub2 BL_law))
def LAP : MS := forB (sub1 (sub2 LB))
theorem pen_len {m0 m : MH} {p : Nat} (pa : PenAt m0 p m) : m.length = m0.length := by
  obtain ⟨p1, a, b, c, rfl, _⟩ := pa
  simp
theorem lap_ok {m0 : MH} {p : Nat} {m : MH} {s0 a1 a3 a4 a5 a6 : Option M.D} (pa : PenAt m0 p m) (h1 : 1 ≤ m0.length) (h3 : m0.length ≤ 3) :
    SatS (exS (callN T 1000 29) 1000 LAP [s0, a1, some (.ref p), a3, a4, a5, a6] m) (fun e m' => PenAt m0 p m' ∧ ∃ c3 c4 c5 c6, e = [s0, a1, some (.ref p), c3, c4, c5, c6]) (fun _ _ => False) := by
  obtain ⟨ws, m4, cws, p4, lw, hw⟩ := lc_draw2 (cf := callN T 1000 29) (elt := .op .ix (.consA (.lst false (.consA (.cst (.str "left")) (.consA (.cst (.str "right")) .nilA))) (.consA (.call false ix.l_draw (.consA (.var 2) (.consA (.cst (.int 2)) .nilA))) .nilA))) (own := [6]) (tg := .v 6) (ik := .range1) (it := .consA (.cst (.int 3)) .nilA) (tst := .nilA)
    (env := [s0, a1, some (.ref p), a3, a4, a5, a6]) (m := m) (m1 := m) (xs := [.p (.int (3 : Nat))]) (ck := always) (items := (List.range 3).map fun i : Nat => PyData.int (i : Nat)) (I := fun m => PenAt m0 p m) (W := fun w => ∃ b : Bool, w = .str (wy b)) (by simp -implicitDefEqProofs only [exS.eq_1, exS.eq_2, exS.eq_5, exS.eq_6, exS.eq_7, exS.eq_8, exS.eq_9, exS.eq_10, exS.eq_11, exS.eq_12, exS.eq_13, exS.eq_14, exS.eq_17, ev.eq_1, ev.eq_2, ev.eq_3, ev.eq_4, ev.eq_5, ev.eq_6, ev.eq_7, ev.eq_8, ev.eq_9, ev.eq_10, ev.eq_11, ev.eq_12, ev.eq_13, ev.eq_14, ev.eq_15, ev.eq_16, ev.eq_17, bind_ok, mkL_t, mkL_f, s_nx, s_rt, go_ok, sq_nx, sq_rt, tr_b, ok1, gl_i, gl_s, fin_rt, fin_nx, bft, btf, Bool.false_eq_true, if_false, pures, permD, btv, bt2, bt3, btS, btP, List.getElem?_cons_zero, List.getElem?_cons_succ, List.set_cons_zero, List.set_cons_succ, env0_c, env0_n, nones_s, nones_z, List.length_cons, List.length_nil, List.length_append, Nat.reduceSub, Nat.reduceAdd, Nat.zero_add, if_true, Bool.not_true, Bool.not_false, beq_self_eq_true] <;> rfl) (it_r1 (by omega)) (fun _ _ => rfl) pa (fun x hx m hI => by
      obtain ⟨v, m', c, p', l⟩ := w_draw0 (T := T) (ix := ix) (fuel := 1000) (n := 29) (k := false) hh_l_draw (by omega) hI (w := 2) (by omega) (by omega)
      have hv : v = 0 ∨ v = 1 := by omega
      rcases hv with rfl | rfl
      · have i0 : opD .ix [.p (.list [.str "left", .str "right"]), .p (.int (0 : Nat))] m' = .ok [.p (.str (wy true))] m' := rfl
        exact ⟨_, .str (wy true), m', rfl, by simp -implicitDefEqProofs only [exS.eq_1, exS.eq_2, exS.eq_5, exS.eq_6, exS.eq_7, exS.eq_8, exS.eq_9, exS.eq_10, exS.eq_11, exS.eq_12, exS.eq_13, exS.eq_14, exS.eq_17, ev.eq_1, ev.eq_2, ev.eq_3, ev.eq_4, ev.eq_5, ev.eq_6, ev.eq_7, ev.eq_8, ev.eq_9, ev.eq_10, ev.eq_11, ev.eq_12, ev.eq_13, ev.eq_14, ev.eq_15, ev.eq_16, ev.eq_17, bind_ok, mkL_t, mkL_f, s_nx, s_rt, go_ok, sq_nx, sq_rt, tr_b, ok1, gl_i, gl_s, fin_rt, fin_nx, bft, btf, Bool.false_eq_true, if_false, pures, permD, btv, bt2, bt3, btS, btP, List.getElem?_cons_zero, List.getElem?_cons_succ, List.set_cons_zero, List.set_cons_succ, env0_c, env0_n, nones_s, nones_z, List.length_cons, List.length_nil, List.length_append, Nat.reduceSub, Nat.reduceAdd, Nat.zero_add, if_true, Bool.not_true, Bool.not_false, beq_self_eq_true, wipeE, c, i0], p', true, rfl⟩
      · have i0 : opD .ix [.p (.list [.str "left", .str "right"]), .p (.int (1 : Nat))] m' = .ok [.p (.str (wy false))] m' := rfl
        exact ⟨_, .str (wy false), m', rfl, by simp -implicitDefEqProofs only [exS.eq_1, exS.eq_2, exS.eq_5, exS.eq_6, exS.eq_7, exS.eq_8, exS.eq_9, exS.eq_10, exS.eq_11, exS.eq_12, exS.eq_13, exS.eq_14, exS.eq_17, ev.eq_1, ev.eq_2, ev.eq_3, ev.eq_4, ev.eq_5, ev.eq_6, ev.eq_7, ev.eq_8, ev.eq_9, ev.eq_10, ev.eq_11, ev.eq_12, ev.eq_13, ev.eq_14, ev.eq_15, ev.eq_16, ev.eq_17, bind_ok, mkL_t, mkL_f, s_nx, s_rt, go_ok, sq_nx, sq_rt, tr_b, ok1, gl_i, gl_s, fin_rt, fin_nx, bft, btf, Bool.false_eq_true, if_false, pures, permD, btv, bt2, bt3, btS, btP, List.getElem?_cons_zero, List.getElem?_cons_succ, List.set_cons_zero, List.set_cons_succ, env0_c, env0_n, nones_s, nones_z, List.length_cons, List.length_nil, List.length_append, Nat.reduceSub, Nat.reduceAdd, Nat.zero_add, if_true, Bool.not_true, Bool.not_false, beq_self_eq_true, wipeE, c, i0], p', false, rfl⟩) (by simp)
  obtain ⟨a, b, c, rfl⟩ : ∃ a b c : Bool, ws = [.str (wy a), .str (wy b), .str (wy c)] := by
    match ws, lw with
    | [x, y, z], _ =>
      obtain ⟨a, rfl⟩ := hw x (by simp)
      obtain ⟨b, rfl⟩ := hw y (by simp)
      obtain ⟨c, rfl⟩ := hw z (by simp)
      exact ⟨a, b, c, rfl⟩
  have L := pen_len p4
  have q1 := br_ok a b c (m := m4) (by omega) (by omega)
  have q2 := nr_ok a b c (m := m4) (by omega) (by omega)
  simp only [th3, th4] at q1 q2
  have i0 : opD .ix [.p (.list [.str (wy a), .str (wy b), .str (wy c)]), .p (.int 0)] m4 = .ok [.p (.str (wy a))] m4 := rfl
  have i1 : opD .ix [.p (.list [.str (wy a), .str (wy b), .str (wy c)]), .p (.int 1)] m4 = .ok [.p (.str (wy b))] m4 := rfl
  have i2 : opD .ix [.p (.list [.str (wy a), .str (wy b), .str (wy c)]), .p (.int 2)] m4 = .ok [.p (.str (wy c))] m4 := rfl
  have ad : opD (.addL false) [.p (.tuple [.tuple [.int 0, .int 0, .str (wy a)], .tuple [.int 40, .int 3, .str (wy b)], .tuple [.int 11, .int 29, .str (wy c)]]), .p (.tuple [.tuple [.int 60, .int 50, .str (wy a)]])] m4 = .ok [.p (.tuple [.tuple [.int 0, .int 0, .str (wy a)], .tuple [.int 40, .int 3, .str (wy b)], .tuple [.int 11, .int 29, .str (wy c)], .tuple [.int 60, .int 50, .str (wy a)]])] m4 := rfl
  simp only [LAP, LB, forB, sub1, sub2, BL_law]
  simp -implicitDefEqProofs only [exS.eq_1, exS.eq_2, exS.eq_5, exS.eq_6, exS.eq_7, exS.eq_8, exS.eq_9, exS.eq_10, exS.eq_11, exS.eq_12, exS.eq_13, exS.eq_14, exS.eq_17, ev.eq_1, ev.eq_2, ev.eq_3, ev.eq_4, ev.eq_5, ev.eq_6, ev.eq_7, ev.eq_8, ev.eq_9, ev.eq_10, ev.eq_11, ev.eq_12, ev.eq_13, ev.eq_14, ev.eq_15, ev.eq_16, ev.eq_17, bind_ok, mkL_t, mkL_f, s_nx, s_rt, go_ok, sq_nx, sq_rt, tr_b, ok1, gl_i, gl_s, fin_rt, fin_nx, bft, btf, Bool.false_eq_true, if_false, pures, permD, btv, bt2, bt3, btS, btP, List.getElem?_cons_zero, List.getElem?_cons_succ, List.set_cons_zero, List.set_cons_succ, env0_c, env0_n, nones_s, nones_z, List.length_cons, List.length_nil, List.length_append, Nat.reduceSub, Nat.reduceAdd, Nat.zero_add, if_true, Bool.not_true, Bool.not_false, beq_self_eq_true, cws, i0, i1, i2, ad, q1, q2]
  exact ⟨p4, _, _, _, _, rfl⟩
theorem law_ok (ns : List Int) : ∃ m, callN T 1000 30 false 37 [.ro (ns.map .int)] [] = .ok (.p (.bool true)) m := by
  rw [call_of hl_law rfl]
  refine fin_t ?_
  have e : BL_law = .seq .errs (.seq (.forr (.v 1) .range1 (.consA (.op .max2 (.consA (.cst (.int 1)) (.consA (.op .min2 (.consA (.op .len (.consA (.var 0) .nilA)) (.consA (.cst (.int (3 : Nat))) .nilA))) .nilA))) .nilA) LB) (.seq (.ret (.cst (.bool true))) .nil)) := rfl
  rw [e, exS.eq_6]
  apply sat_sq
  have ee : ∀ (env : Ev) (m : MH), exS (callN T 1000 29) 1000 .errs env m = .nx env m := fun _ _ => by simp only [exS]
  rw [ee]
  refine .nx ?_
  rw [exS.eq_6]
  apply sat_sq
  obtain ⟨N, hN1, hit⟩ : ∃ N : Nat, N ≤ 3 ∧ ev (callN T 1000 29) (.consA (.op .max2 (.consA (.cst (.int 1)) (.consA (.op .min2 (.consA (.op .len (.consA (.var 0) .nilA)) (.consA (.cst (.int (3 : Nat))) .nilA))) .nilA))) .nilA) [some (.ro (ns.map .int)), none, none, none, none, none, none] [] = .ok [.p (.int N)] [] := by
    have ln : opD .len [.ro (ns.map .int)] [] = .ok [.p (.int ns.length)] [] := by
      simp only [opD, d_len, seqD, List.length_map]
      rfl
    have e1 : ∀ a b : Int, opD .min2 [.p (.int a), .p (.int b)] [] = .ok [.p (.int (if b < a then b else a))] [] := fun _ _ => rfl
    refine ⟨(if (if ((3 : Nat) : Int) < ns.length then ((3 : Nat) : Int) else ns.length) > 1 then (if ((3 : Nat) : Int) < ns.length then ((3 : Nat) : Int) else ns.length) else 1).toNat, ?_, ?_⟩
    · split <;> split <;> omega
    · have e2 : (((if (if ((3 : Nat) : Int) < ns.length then ((3 : Nat) : Int) else ns.length) > 1 then (if ((3 : Nat) : Int) < ns.length then ((3 : Nat) : Int) else ns.length) else 1).toNat : Nat) : Int) = (if (if ((3 : Nat) : Int) < ns.length then ((3 : Nat) : Int) else ns.length) > 1 then (if ((3 : Nat) : Int) < ns.length then ((3 : Nat) : Int) else ns.length) else 1) := by
        split <;> split <;> omega
      rw [e2]
      simp -implicitDefEqProofs only [exS.eq_1, exS.eq_2, exS.eq_5, exS.eq_6, exS.eq_7, exS.eq_8, exS.eq_9, exS.eq_10, exS.eq_11, exS.eq_12, exS.eq_13, exS.eq_14, exS.eq_17, ev.eq_1, ev.eq_2, ev.eq_3, ev.eq_4, ev.eq_5, ev.eq_6, ev.eq_7, ev.eq_8, ev.eq_9, ev.eq_10, ev.eq_11, ev.eq_12, ev.eq_13, ev.eq_14, ev.eq_15, ev.eq_16, ev.eq_17, bind_ok, mkL_t, mkL_f, s_nx, s_rt, go_ok, sq_nx, sq_rt, tr_b, ok1, gl_i, gl_s, fin_rt, fin_nx, bft, btf, Bool.false_eq_true, if_false, pures, permD, btv, bt2, bt3, btS, btP, List.getElem?_cons_zero, List.getElem?_cons_succ, List.set_cons_zero, List.set_cons_succ, env0_c, env0_n, nones_s, nones_z, List.length_cons, List.length_nil, List.length_append, Nat.reduceSub, Nat.reduceAdd, Nat.zero_add, if_true, Bool.not_true, Bool.not_false, beq_self_eq_true, ln, e1, o_max2]
  refine sat_mono (sat_range (nn := N) (fun i e m' => m'.length = i ∧ ∃ c1 c2 c3 c4 c5 c6, e = [some (.ro (ns.map .int)), c1, c2, c3, c4, c5, c6]) hit (by omega) ⟨rfl, _, _, _, _, _, _, rfl⟩ ?_) ?_ fun _ _ h => h
  · rintro j e m hj ⟨hm, c1, c2, c3, c4, c5, c6, rfl⟩
    obtain ⟨x, cc⟩ := w_cell (T := T) (ix := ix) (fuel := 1000) (n := 29) (k := false) (m := m) hh_l_cell_at (by omega) (ns := ns) (j := j)
    obtain ⟨c, cp, pa⟩ := w_pen (T := T) (ix := ix) (fuel := 1000) (n := 29) (m := m) hh_l_pen (by omega) (x := x)
    have eL : LB = .seq (sub1 LB) (.seq (.forr (.v 3) .range1 (.consA (.cst (.int 4)) .nilA) LAP) .nil) := rfl
    rw [eL]
    have s0 : exS (callN T 1000 29) 1000 (sub1 LB) [some (.ro (ns.map .int)), some (.p (.int (j : Nat))), c2, c3, c4, c5, c6] m = .nx [some (.ro (ns.map .int)), some (.p (.int (j : Nat))), some (.ref m.length), c3, c4, c5, c6] (m ++ [c]) := by
      simp only [LB, sub1, sub2, forB, BL_law]
      simp -implicitDefEqProofs only [exS.eq_1, exS.eq_2, exS.eq_5, exS.eq_6, exS.eq_7, exS.eq_8, exS.eq_9, exS.eq_10, exS.eq_11, exS.eq_12, exS.eq_13, exS.eq_14, exS.eq_17, ev.eq_1, ev.eq_2, ev.eq_3, ev.eq_4, ev.eq_5, ev.eq_6, ev.eq_7, ev.eq_8, ev.eq_9, ev.eq_10, ev.eq_11, ev.eq_12, ev.eq_13, ev.eq_14, ev.eq_15, ev.eq_16, ev.eq_17, bind_ok, mkL_t, mkL_f, s_nx, s_rt, go_ok, sq_nx, sq_rt, tr_b, ok1, gl_i, gl_s, fin_rt, fin_nx, bft, btf, Bool.false_eq_true, if_false, pures, permD, btv, bt2, bt3, btS, btP, List.getElem?_cons_zero, List.getElem?_cons_succ, List.set_cons_zero, List.set_cons_succ, env0_c, env0_n, nones_s, nones_z, List.length_cons, List.length_nil, List.length_append, Nat.reduceSub, Nat.reduceAdd, Nat.zero_add, if_true, Bool.not_true, Bool.not_false, beq_self_eq_true, cc, cp]
    rw [exS.eq_6]
    apply sat_sq
    show SatS (exS (callN T 1000 29) 1000 (sub1 LB) [some (.ro (ns.map .int)), some (.p (.int (j : Nat))), c2, c3, c4, c5, c6] m) _ _
    rw [s0]
    refine .nx ?_
    rw [exS.eq_6]
    apply sat_sq
    refine sat_mono (sat_range (nn := 4) (fun _ e m' => PenAt (m ++ [c]) m.length m' ∧ ∃ c3 c4 c5 c6, e = [some (.ro (ns.map .int)), some (.p (.int (j : Nat))), some (.ref m.length), c3, c4, c5, c6]) (by simp -implicitDefEqProofs only [exS.eq_1, exS.eq_2, exS.eq_5, exS.eq_6, exS.eq_7, exS.eq_8, exS.eq_9, exS.eq_10, exS.eq_11, exS.eq_12, exS.eq_13, exS.eq_14, exS.eq_17, ev.eq_1, ev.eq_2, ev.eq_3, ev.eq_4, ev.eq_5, ev.eq_6, ev.eq_7, ev.eq_8, ev.eq_9, ev.eq_10, ev.eq_11, ev.eq_12, ev.eq_13, ev.eq_14, ev.eq_15, ev.eq_16, ev.eq_17, bind_ok, mkL_t, mkL_f, s_nx, s_rt, go_ok, sq_nx, sq_rt, tr_b, ok1, gl_i, gl_s, fin_rt, fin_nx, bft, btf, Bool.false_eq_true, if_false, pures, permD, btv, bt2, bt3, btS, btP, List.getElem?_cons_zero, List.getElem?_cons_succ, List.set_cons_zero, List.set_cons_succ, env0_c, env0_n, nones_s, nones_z, List.length_cons, List.length_nil, List.length_append, Nat.reduceSub, Nat.reduceAdd, Nat.zero_add, if_true, Bool.not_true, Bool.not_false, beq_self_eq_true] <;> rfl) (by omega) ⟨pa, _, _, _, _, rfl⟩ ?_) ?_ fun _ _ h => h
    · rintro i e m' hi ⟨pen, c3, c4, c5, c6, rfl⟩
      exact sat_mono (lap_ok pen (by simp) (by simp; omega)) (fun _ _ h => h) fun _ _ h => h.elim
    · rintro e m' ⟨pen, c3, c4, c5, c6, rfl⟩
      have l := pen_len pen
      rw [exS.eq_1]
      exact .nx ⟨by rw [l]; simp [hm], _, _, _, _, _, _, rfl⟩
  · rintro e m ⟨hm, c1, c2, c3, c4, c5, c6, rfl⟩
    simp -implicitDefEqProofs only [exS.eq_1, exS.eq_2, exS.eq_5, exS.eq_6, exS.eq_7, exS.eq_8, exS.eq_9, exS.eq_10, exS.eq_11, exS.eq_12, exS.eq_13, exS.eq_14, exS.eq_17, ev.eq_1, ev.eq_2, ev.eq_3, ev.eq_4, ev.eq_5, ev.eq_6, ev.eq_7, ev.eq_8, ev.eq_9, ev.eq_10, ev.eq_11, ev.eq_12, ev.eq_13, ev.eq_14, ev.eq_15, ev.eq_16, ev.eq_17, bind_ok, mkL_t, mkL_f, s_nx, s_rt, go_ok, sq_nx, sq_rt, tr_b, ok1, gl_i, gl_s, fin_rt, fin_nx, bft, btf, Bool.false_eq_true, if_false, pures, permD, btv, bt2, bt3, btS, btP, List.getElem?_cons_zero, List.getElem?_cons_succ, List.set_cons_zero, List.set_cons_succ, env0_c, env0_n, nones_s, nones_z, List.length_cons, List.length_nil, List.length_append, Nat.reduceSub, Nat.reduceAdd, Nat.zero_add, if_true, Bool.not_true, Bool.not_false, beq_self_eq_true]
end Lw
open PySem PySem.W PySem.Calls PyProof.Rows
theorem PySem.Challenge.cw_waypins_k05_a_board_by_hand_and_by_names_holds : PySem.Challenge.rw_waypins_k05_a_board_by_hand_and_by_names.Holds := by
  w_on; o_law
  refine HandSHeadRun.head_any (r := OpenLaw.row PySem.Challenge.rw_waypins_k05_a_board_by_hand_and_by_names) (q := view (OpenLaw.row PySem.Challenge.rw_waypins_k05_a_board_by_hand_and_by_names).prog [63]) (H := Lw.hk) (ob := Lw.ob) (M := 20000) (loose := Lw.loose) (d := HandSHeadRun.topDef (OpenLaw.row PySem.Challenge.rw_waypins_k05_a_board_by_hand_and_by_names).prog 63) (kwd := []) Lw.ob_eq
    (by kernel_rfl) (fun s => by kernel_rfl) Lw.run (by kernel_rfl) (by kernel_rfl) (by kernel_rfl) (by rfl) (by first | assumption | decide +kernel) (by decide +kernel) ⟨rfl, rfl, rfl, rfl, rfl, by decide +kernel⟩ ?hw ?hc
  case hw => w_witness2
  case hc =>
    refine M.law_end (l := PySem.Challenge.rw_waypins_k05_a_board_by_hand_and_by_names) (n := 63) (k := 30) (x := "_law_script") (T := Lw.T) (G := Lw.G) (fuel := 1000) (f := 37) (lw := Lw.f37) rfl (by decide) (by kernel_rfl) ⟨rfl, by decide, by decide⟩ (by kernel_rfl) rfl rfl (by kernel_rfl) rfl ?F (fun ns _ => Lw.law_ok ns)
    intro w mg h Y Ns
    obtain ⟨K, KX, c⟩ := Y
    obtain ⟨a, fd, z⟩ := Lw.t37 KX Ns c
    exact ⟨K, KX, Lw.tab KX Ns c, M.says_tabs c, Lw.sgn_ok KX Ns c, a, fd, z.1, z.2.2⟩
