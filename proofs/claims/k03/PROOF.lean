import PyProof.Rows.All
import PyProof.P3Statements
import PyProof.ReprReads
import PyProof.EqLayable
import HandS.List
import HandS.ForMost
import HandS.ForExc
import HandS.Wide
import HandS.Flow
import HandS.TupAny
import HandS.Zip
import HandS.TupMul
import HandS.WideBits
import HandS.IsInst
import PyProof.Rows.ReprR
import KE.KSortedM
import KE.DatumOrd
import HandS.Star
import HandS.ExcOwn
import HandS.HotCalls
import HandS.ExcIs
import HandS.SetFor
import HandS.Style
import HandS.TryOnly
import HandS.Defaults
import HandS.HeadEnd
import HandS.HeadHook2
import HandS.HeadHook4
import HandS.Head0
import HandS.Head1
import HandS.Head2
import PySem.Challenge.RW_motionsheld_k03_bouncing_with_loss
set_option Elab.async false
set_option linter.all false
/-! Rk1: the small language: values, store, syntax, meaning. -/
namespace Rk
open PySem

/-- a value: plain data, a list of the store, the script, a caught exception -/
inductive Val where
  | p (d : PyData)
  | l (k : Nat)
  | f (xs : List PyData)
  | x (a : Nat)
abbrev Store := List (List PyData)
abbrev Env := List (Option Val)
inductive Rs (α : Type) where
  | ok (a : α) (st : Store)
  | ex (c : Str) (st : Store)
  | no
abbrev M (α : Type) := Store → Rs α
inductive Fl where
  | nx (e : Env) | rt (v : Val) | bk (e : Env) | ct (e : Env)
inductive RsS where
  | ok (f : Fl) (st : Store)
  | ex (c : Str) (e : Env) (st : Store)
  | no
abbrev Fn := List Val → M Val

@[inline] def Rs.bind {α β : Type} (r : Rs α) (f : α → M β) : Rs β := match r with
  | .ok a st => f a st
  | .ex c st => .ex c st
  | .no => .no
def M.bind {α β : Type} (m : M α) (f : α → M β) : M β := fun st => (m st).bind f
def M.ret {α : Type} (a : α) : M α := fun st => .ok a st
def M.no {α : Type} : M α := fun _ => .no
def ofO {α : Type} (o : Option α) : M α := fun st => match o with
  | some a => .ok a st
  | none => .no
/-- a value read as data -/
def asD (v : Val) (st : Store) : Option PyData := match v with
  | .p d => some d
  | .l k => (st[k]?).map PyData.list
  | _ => none
/-- a new list: of the store, or plain -/
def mkL (m : Bool) (xs : List PyData) : M Val := fun st => if m then .ok (.l st.length) (st ++ [xs]) else .ok (.p (.list xs)) st
def mkD (m : Bool) (d : PyData) : M Val := fun st => match m, d with
  | true, .list xs => .ok (.l st.length) (st ++ [xs])
  | _, d => .ok (.p d) st

/-! ### operations on data -/
def lineZ : Nat := sizeLine
def mulOk (i j : Int) : Bool := decide (i.natAbs.log2 + j.natAbs.log2 < 1000000)
def divOk (j : Int) : Bool := decide (0 < j) && decide (j.natAbs.log2 < 9000)
def modOk (j : Int) : Bool := decide (0 < j)
def repL (xs : List PyData) (k : Nat) : List PyData := (List.replicate k xs).flatten
def binD (op : Operator) (a b : PyData) : Option PyData := match op, a, b with
  | .Add, .int i, .int j => some (.int (i + j))
  | .Sub, .int i, .int j => some (.int (i - j))
  | .Mult, .int i, .int j => if mulOk i j then some (.int (i * j)) else none
  | .FloorDiv, .int i, .int j => if divOk j then some (.int (i / j)) else none
  | .Mod, .int i, .int j => if modOk j then some (.int (i % j)) else none
  | .Add, .list xs, .list ys => if xs.length + ys.length ≤ sizeLine then some (.list (xs ++ ys)) else none
  | .Add, .tuple xs, .tuple ys => if xs.length + ys.length ≤ sizeLine then some (.tuple (xs ++ ys)) else none
  | .Add, .str x, .str y => if x.length + y.length ≤ sizeLine then some (.str (x ++ y)) else none
  | .LShift, .int i, .int j => if 0 ≤ j ∧ j ≤ 10000 ∧ i.natAbs.log2 < 100000 then some (.int (i * 2 ^ j.toNat)) else none
  | .Mult, .list xs, .int k => if 0 ≤ k ∧ k < 2 ^ 63 ∧ xs.length * k.toNat ≤ sizeLine then some (.list (repL xs k.toNat)) else none
  | .Mult, .tuple xs, .int k => if 2 ≤ k ∧ k ≤ 1000 ∧ 0 < xs.length ∧ xs.length ≤ 1000 then some (.tuple (repL xs k.toNat)) else none
  | _, _, _ => none
/-- scalars: == tells them apart without looking further -/
def scalD : PyData → PyData → Bool
  | .none, .none => true | .none, .int _ => true | .int _, .none => true | .none, .bool _ => true | .bool _, .none => true | .none, .str _ => true | .str _, .none => true
  | .int _, .int _ => true | .bool _, .bool _ => true | .str _, .str _ => true
  | .int _, .str _ => true | .str _, .int _ => true | .bool _, .str _ => true | .str _, .bool _ => true
  | _, _ => false
def eqD (a b : PyData) : Option Bool :=
  if scalD a b = true ∨ (SeqAt.shaped a = true ∧ SeqAt.shaped b = true) then some (PyData.eqv a b) else none
def flatD : PyData → Bool
  | .none => true | .bool _ => true | .int _ => true | .str _ => true
  | _ => false
def inD (x : PyData) (y : PyData) : Option Bool := match y with
  | .list ys => if flatD x && ys.all flatD then some (ys.any fun z => PyData.eqv z x) else none
  | .tuple ys => if flatD x && ys.all flatD then some (ys.any fun z => PyData.eqv z x) else none
  | .str t => (match x with
    | .str s => some (!(Builtin.Str.occurrences t s 0 t.length 1).isEmpty)
    | _ => none)
  | _ => none
def isNoneD : PyData → Bool
  | .none => true
  | _ => false
def isBoolD (c : Bool) : PyData → Bool
  | .bool b => b == c
  | _ => false
def cmpD (op : CmpOp) (a b : PyData) : Option Bool := match op with
  | .Eq => eqD a b
  | .NotEq => (eqD a b).map (!·)
  | .In => inD a b
  | .NotIn => (inD a b).map (!·)
  | .Lt => (match a, b with | .int i, .int j => some (decide (i < j)) | _, _ => none)
  | .LtE => (match a, b with | .int i, .int j => some (decide (i ≤ j)) | _, _ => none)
  | .Gt => (match a, b with | .int i, .int j => some (decide (j < i)) | _, _ => none)
  | .GtE => (match a, b with | .int i, .int j => some (decide (j ≤ i)) | _, _ => none)
  | .Is => (match b with
    | .none => some (isNoneD a)
    | .bool c => some (isBoolD c a)
    | _ => none)
  | .IsNot => (match b with
    | .none => some (!isNoneD a)
    | .bool c => some (!isBoolD c a)
    | _ => none)
def truD (d : PyData) : Option Bool := match d with
  | .none => some false
  | .bool b => some b
  | .int i => some (i != 0)
  | .str x => if x.length ≤ sizeLine then some ((x.length : Int) != 0) else none
  | .list xs => some (!xs.isEmpty)
  | .tuple xs => some (!xs.isEmpty)
  | .dict _ => none
def truV (v : Val) (st : Store) : Option Bool := (asD v st).bind truD
def lenD : PyData → Option Int
  | .list xs => some xs.length
  | .tuple xs => some xs.length
  | .str x => if x.length ≤ sizeLine then some x.length else none
  | _ => none
def intsD : List PyData → Option (List Int)
  | [] => some []
  | .int i :: r => (intsD r).map (i :: ·)
  | _ => none
def boolsD : List PyData → Option (List Bool)
  | [] => some []
  | .bool i :: r => (boolsD r).map (i :: ·)
  | _ => none
def maxI : Int → List Int → Int
  | m, [] => m
  | m, x :: r => maxI (if m < x then x else m) r
def minI : Int → List Int → Int
  | m, [] => m
  | m, x :: r => minI (if x < m then x else m) r
def insI (x : Int) : List Int → List Int
  | [] => [x]
  | y :: r => if x ≤ y then x :: y :: r else y :: insI x r
def sortI : List Int → List Int
  | [] => []
  | x :: r => insI x (sortI r)
/-- built-ins of one argument -/
inductive B1 where
  | len | abs | int | str | repr | tup | list | sum | all | any | max | min | sorted
  deriving DecidableEq
def showOk (d : PyData) : Bool := PyData.canLay0 d && decide (d.depth ≤ 60) && PyData.showable d && decide (d.shown.length ≤ sizeLine)
def b1D (f : B1) (d : PyData) : Option PyData := match f with
  | .len => (lenD d).map PyData.int
  | .abs => (match d with | .int i => some (.int (if i < 0 then -i else i)) | _ => none)
  | .int => (match d with | .int i => some (.int i) | .bool k => some (.int (if k then 1 else 0)) | _ => none)
  | .str => (match d with | .int i => if i.natAbs.log2 < 1920 then some (.str (toString i)) else none | _ => none)
  | .repr => if showOk d then some (.str d.shown) else none
  | .tup => (match d with | .list xs => some (.tuple xs) | .tuple xs => some (.tuple xs) | _ => none)
  | .list => (match d with | .list xs => some (.list xs) | .tuple xs => some (.list xs) | _ => none)
  | .sum => (match d with | .list xs => (intsD xs).map fun ns => .int ns.sum | _ => none)
  | .all => (match d with | .list xs => (boolsD xs).map fun bs => .bool (bs.all id) | _ => none)
  | .any => (match d with | .list xs => (boolsD xs).map fun bs => .bool (bs.any id) | _ => none)
  | .max => (match d with | .list xs => (match intsD xs with | some (n :: ns) => some (.int (maxI n ns)) | _ => none) | .tuple xs => (match intsD xs with | some (n :: ns) => some (.int (maxI n ns)) | _ => none) | _ => none)
  | .min => (match d with | .list xs => (match intsD xs with | some (n :: ns) => some (.int (minI n ns)) | _ => none) | .tuple xs => (match intsD xs with | some (n :: ns) => some (.int (minI n ns)) | _ => none) | _ => none)
  | .sorted => (match d with | .list xs => (match intsD xs with | some ns => if ns.length < 64 then some (.list ((sortI ns).map PyData.int)) else none | _ => none) | _ => none)
inductive B2 where
  | max | min
  deriving DecidableEq
def b2D (f : B2) (a b : PyData) : Option PyData := match f, a, b with
  | .max, .int i, .int j => some (.int (if j > i then j else i))
  | .min, .int i, .int j => some (.int (if j < i then j else i))
  | _, _, _ => none
/-- built-in types in isinstance -/
inductive Ty where
  | int | str | tup | list
  deriving DecidableEq
def tyD (T : Ty) (d : PyData) : Option Bool := match d with
  | .none => some false
  | .bool _ => some (T == .int)
  | .int _ => some (T == .int)
  | .str _ => some (T == .str)
  | .tuple _ => some (T == .tup)
  | .list _ => some (T == .list)
  | .dict _ => none
def signD (c : Nat) : PyData := .str ⟨#[c]⟩
def idxD (a i : PyData) : Option PyData := match a, i with
  | .list xs, .int i => L2.atI xs i
  | .tuple xs, .int i => L2.atI xs i
  | .str z, .int i => if z.length ≤ sizeLine then (L2.atI z.cps.toList i).map signD else none
  | _, _ => none
def cutL (xs : List PyData) (lo hi : Option Int) : List PyData := (xs.drop (HT.sIx xs.length 0 lo)).take (HT.sIx xs.length xs.length hi - HT.sIx xs.length 0 lo)
def slcD (a : PyData) (lo hi : Option Int) : Option PyData := match a with
  | .list xs => some (.list (cutL xs lo hi))
  | .tuple xs => some (.tuple (cutL xs lo hi))
  | _ => none
def seqD : PyData → Option (List PyData)
  | .list xs => some xs
  | .tuple xs => some xs
  | _ => none
def iterD : PyData → Option (List PyData)
  | .list xs => some xs
  | .tuple xs => some xs
  | .str z => some (z.cps.toList.map signD)
  | _ => none
def iterV : Val → Option (List PyData)
  | .p d => iterD d
  | .f xs => some xs
  | _ => none
def rngD (lo hi : Int) : Option (List PyData) :=
  if -(2 ^ 62) ≤ lo ∧ lo < 2 ^ 62 ∧ -(2 ^ 62) ≤ hi ∧ hi < 2 ^ 62 then some ((List.range (hi - lo).toNat).map fun (k : Nat) => .int (lo + (k : Int))) else none
def zip2D (xs ys : List PyData) : List PyData := List.zipWith (fun x y => .tuple [x, y]) xs ys
def enumD (k : Nat) : List PyData → List PyData
  | [] => []
  | x :: r => .tuple [.int k, x] :: enumD (k + 1) r

/-! ### syntax -/
/-- targets -/
inductive Tg where
  | nm (i : Nat)
  | tp (ts : List Tg)
mutual
inductive E where
  | cst (d : PyData)
  | var (i : Nat)
  | glob (x : Str) (d : PyData)
  | bin (m : Bool) (op : Operator) (a b : E)
  | neg (a : E)
  | not (a : E)
  | and (a b : E)
  | or (a b : E)
  | cmp (op : CmpOp) (a b : E)
  | chain (op op' : CmpOp) (a b c : E)
  | ife (c a b : E)
  | call (j : Nat) (as : Es)
  | sw (js : List Nat) (i : E) (as : Es)
  | b1 (m : Bool) (f : B1) (a : E)
  | b2 (f : B2) (a b : E)
  | isi (T : Ty) (a : E)
  | idx (a i : E)
  | slc (a : E) (lo hi : Eo)
  | tup (as : Es)
  | lst (m : Bool) (as : Es)
  | comp (m : Bool) (own : List Nat) (t : Tg) (it : It) (c : Eo) (e : E)
  | compH (m : Bool) (own : List Nat) (t : Tg) (i : Nat) (c : Eo) (e : E)
  | pop (a : E)
  | append (a b : E)
  | extend (a b : E)
  | reverse (a : E)
inductive Es where
  | nil
  | cons (e : E) (r : Es)
  | star (e : E) (r : Es)
inductive Eo where
  | none
  | some (e : E)
inductive It where
  | seq (e : E)
  | rng1 (e : E)
  | rng2 (a b : E)
  | zip2 (a b : E)
  | enum (a : E)
end
mutual
inductive S where
  | asg (t : Tg) (e : E)
  | par (is : List Nat) (es : Es)
  | parT (is : List Nat) (es : Es)
  | aug (i : Nat) (op : Operator) (e : E)
  | setIx (a i : E) (e : E)
  | ife (c : E) (a b : Ss)
  | whl (c : E) (b : Ss)
  | for_ (t : Tg) (it : It) (b : Ss)
  | forH (t : Tg) (i : Nat) (b : Ss)
  | ret (e : E)
  | retN
  | ex (e : E)
  | raise (c : Str)
  | brk
  | cnt
  | pass
  | try_ (b : Ss) (i : Nat) (h : List (Str × PyData))
inductive Ss where
  | nil
  | cons (s : S) (r : Ss)
end
structure FnIR where
  np : Nat
  nn : Nat
  rm : Bool
  body : Ss

/-! ### meaning -/
mutual
def tgt : Tg → PyData → Env → Option Env
  | .nm i, d, e => some (e.set i (some (.p d)))
  | .tp ts, d, e => (match d with
    | .tuple xs => if xs.length = ts.length then tgts ts xs e else none
    | .list xs => if xs.length = ts.length then tgts ts xs e else none
    | _ => none)
def tgts : List Tg → List PyData → Env → Option Env
  | t :: ts, d :: ds, e => (tgt t d e).bind fun e' => tgts ts ds e'
  | [], [], e => some e
  | _, _, _ => none
end
def tgtV (t : Tg) (v : Val) (e : Env) (st : Store) : Option Env := match t with
  | .nm i => some (e.set i (some v))
  | t => (asD v st).bind fun d => tgt t d e
def datsV : List Val → Store → Option (List PyData)
  | [], _ => some []
  | .p d :: r, st => (datsV r st).map (d :: ·)
  | _ :: _, _ => none
def wipeE (e : Env) : List Nat → Env
  | [] => e
  | i :: r => (wipeE e r).set i none
/-- a comprehension's turns: the list grows at place k of the store -/
def compL (tg : PyData → Env → Option Env) (test : Env → M Bool) (elt : Env → M Val) (e : Env) (k : Nat) : List PyData → M Unit
  | [] => M.ret ()
  | x :: r => fun st => match tg x e with
    | none => .no
    | some e1 => (match test e1 st with
      | .ok true st1 => (match elt e1 st1 with
        | .ok (.p d) st2 => (match st2[k]? with
          | some acc => if acc.length < sizeLine then compL tg test elt e k r (st2.set k (acc ++ [d])) else .no
          | none => .no)
        | _ => .no)
      | .ok false st1 => compL tg test elt e k r st1
      | _ => .no)
def compM (m : Bool) (tg : PyData → Env → Option Env) (test : Env → M Bool) (elt : Env → M Val) (e : Env) (xs : List PyData) : M Val := fun st =>
  match compL tg test elt e st.length xs (st ++ [[]]) with
  | .ok _ st2 => (match st2[st.length]? with
    | some acc => if m then .ok (.l st.length) (st2.take (st.length + 1)) else .ok (.p (.list acc)) (st2.take st.length)
    | none => .no)
  | _ => .no
/-- the same over a list of the store, asked for item by item -/
def compLH (tg : PyData → Env → Option Env) (test : Env → M Bool) (elt : Env → M Val) (e : Env) (D k : Nat) : Nat → Nat → M Unit
  | 0, _ => fun _ => .no
  | n + 1, i => fun st => match st[k]? with
    | none => .no
    | some xs => (match xs[i]? with
      | none => .ok () st
      | some x => (match tg x e with
        | none => .no
        | some e1 => (match test e1 st with
          | .ok true st1 => (match elt e1 st1 with
            | .ok (.p d) st2 => (match st2[D]? with
              | some acc => if acc.length < sizeLine then compLH tg test elt e D k n (i + 1) (st2.set D (acc ++ [d])) else .no
              | none => .no)
            | _ => .no)
          | .ok false st1 => compLH tg test elt e D k n (i + 1) st1
          | _ => .no)))
def compMH (m : Bool) (tg : PyData → Env → Option Env) (test : Env → M Bool) (elt : Env → M Val) (e : Env) (k : Nat) : M Val := fun st => match st[k]? with
  | none => .no
  | some xs => (match compLH tg test elt e st.length k (xs.length + 1) 0 (st ++ [[]]) with
    | .ok _ st2 => (match st2[st.length]? with
      | some acc => if m then .ok (.l st.length) (st2.take (st.length + 1)) else .ok (.p (.list acc)) (st2.take st.length)
      | none => .no)
    | _ => .no)
def hndV (e : Env) (i : Nat) : Option Nat := match e[i]? with
  | some (some (.l k)) => some k
  | _ => none
def M.tru (m : M Val) : M Bool := M.bind m fun v st => match truV v st with
  | some b => .ok b st
  | none => .no
def M.dat (m : M Val) (f : PyData → M Val) : M Val := M.bind m fun v st => match asD v st with
  | some d => f d st
  | none => .no
/-- two values as data: the first one is read behind the second one -/
def M.dat2 (ma mb : M Val) (f : PyData → PyData → M Val) : M Val := M.bind ma fun v => M.bind mb fun u st => match asD v st, asD u st with
  | some d, some d' => f d d' st
  | _, _ => .no
def pD (o : Option PyData) : M Val := fun st => match o with
  | some d => .ok (.p d) st
  | none => .no
/-- a truth as a value -/
def M.b (m : M Bool) : M Val := M.bind m fun b => M.ret (.p (.bool b))
def cmpB (ma mb : M Val) (g : PyData → PyData → Option Bool) : M Bool := M.bind ma fun v => M.bind mb fun u st => match asD v st, asD u st with
  | some d, some d' => (match g d d' with
    | some b => .ok b st
    | none => .no)
  | _, _ => .no
def datB (ma : M Val) (g : PyData → Option Bool) : M Bool := M.bind ma fun v st => match asD v st with
  | some d => (match g d with
    | some b => .ok b st
    | none => .no)
  | none => .no
def chB (ma mb mc : M Val) (g g' : PyData → PyData → Option Bool) : M Bool := M.bind ma fun v => M.bind mb fun u st => match asD v st, asD u st with
  | some d, some d' => (match g d d' with
    | some true => M.bind mc (fun w st => match asD u st, asD w st with
      | some d, some d' => (match g' d d' with
        | some b => .ok b st
        | none => .no)
      | _, _ => .no) st
    | some false => .ok false st
    | none => .no)
  | _, _ => .no
def mD (m : Bool) (o : Option PyData) : M Val := fun st => match o with
  | some d => mkD m d st
  | none => .no
def intV : Val → Option Int
  | .p (.int i) => some i
  | _ => none
/-- a starred argument: a list or a tuple -/
def seqV : Val → Store → Option (List PyData)
  | .p d, _ => seqD d
  | .l k, st => st[k]?
  | _, _ => none
def mStar (ma : Env → M Val) (mr : Env → M (List Val)) : Env → M (List Val) := fun e => M.bind (ma e) fun v st => match seqV v st with
  | some ds => (M.bind (mr e) fun vs => M.ret (ds.map Val.p ++ vs)) st
  | none => .no
mutual
def denE (T : Nat → Fn) : E → Env → M Val
  | .cst d, _ => M.ret (.p d)
  | .var i, e => fun st => (match e[i]? with
    | some (some v) => .ok v st
    | _ => .no)
  | .glob _ d, _ => M.ret (.p d)
  | .bin m op a b, e => M.dat2 (denE T a e) (denE T b e) fun x y => mD m (binD op x y)
  | .neg a, e => M.dat (denE T a e) fun x => (match x with | .int i => M.ret (.p (.int (-i))) | _ => M.no)
  | .not a, e => M.b (M.bind (M.tru (denE T a e)) fun b => M.ret !b)
  | .and a b, e => M.bind (denE T a e) fun v st => (match truV v st with
    | some true => denE T b e st
    | some false => .ok v st
    | none => .no)
  | .or a b, e => M.bind (denE T a e) fun v st => (match truV v st with
    | some true => .ok v st
    | some false => denE T b e st
    | none => .no)
  | .cmp op a b, e => M.b (cmpB (denE T a e) (denE T b e) (cmpD op))
  | .chain op op' a b c, e => M.b (chB (denE T a e) (denE T b e) (denE T c e) (cmpD op) (cmpD op'))
  | .ife c a b, e => M.bind (M.tru (denE T c e)) fun k => if k then denE T a e else denE T b e
  | .call j as, e => M.bind (denEs T as e) fun vs => T j vs
  | .sw js i as, e => M.bind (denE T i e) fun v => (match intV v with
    | some n => (match L2.atI js n with
      | some j => M.bind (denEs T as e) fun vs => T j vs
      | none => M.no)
    | none => M.no)
  | .b1 m f a, e => M.dat (denE T a e) fun x => mD m (b1D f x)
  | .b2 f a b, e => M.dat2 (denE T a e) (denE T b e) fun x y => pD (b2D f x y)
  | .isi t a, e => M.b (datB (denE T a e) (tyD t))
  | .idx a i, e => M.dat2 (denE T a e) (denE T i e) fun x y => pD (idxD x y)
  | .slc a lo hi, e => M.bind (denE T a e) fun v => M.bind (denO T lo e) fun l => M.bind (denO T hi e) fun h => fun st => (match asD v st with
    | some d => pD (slcD d l h) st
    | none => .no)
  | .tup as, e => M.bind (denEs T as e) fun vs => fun st => (match datsV vs st with
    | some ds => if ds.length ≤ sizeLine then .ok (.p (.tuple ds)) st else .no
    | none => .no)
  | .lst m as, e => M.bind (denEs T as e) fun vs => fun st => (match datsV vs st with
    | some ds => if ds.length ≤ sizeLine then mkL m ds st else .no
    | none => .no)
  | .comp m own t it c el, e => M.bind (denI T it e) fun xs => compM m (fun d e => tgt t d e) (fun e => denT T c e) (fun e => denE T el e) (wipeE e own) xs
  | .compH m own t i c el, e => fun st => (match hndV e i with
    | some k => compMH m (fun d e => tgt t d e) (fun e => denT T c e) (fun e => denE T el e) (wipeE e own) k st
    | none => .no)
  | .pop a, e => M.bind (denE T a e) fun v => fun st => (match v with
    | .l k => (match st[k]? with
      | some xs => (match xs[xs.length - 1]? with
        | some d => .ok (.p d) (st.set k xs.dropLast)
        | none => .no)
      | none => .no)
    | _ => .no)
  | .append a b, e => M.bind (denE T a e) fun v => (match v with
    | .l k => M.bind (denE T b e) fun u st => (match u, st[k]? with
      | .p d, some xs => if xs.length < sizeLine then .ok (.p .none) (st.set k (xs ++ [d])) else .no
      | _, _ => .no)
    | _ => M.no)
  | .extend a b, e => M.bind (denE T a e) fun v => (match v with
    | .l k => M.bind (denE T b e) fun u st => (match u, st[k]? with
      | .p (.list ds), some xs => if xs.length + ds.length ≤ sizeLine then .ok (.p .none) (st.set k (xs ++ ds)) else .no
      | _, _ => .no)
    | _ => M.no)
  | .reverse a, e => M.bind (denE T a e) fun v => fun st => (match v with
    | .l k => (match st[k]? with
      | some xs => .ok (.p .none) (st.set k xs.reverse)
      | none => .no)
    | _ => .no)
def denEs (T : Nat → Fn) : Es → Env → M (List Val)
  | .nil, _ => M.ret []
  | .cons a r, e => M.bind (denE T a e) fun v => M.bind (denEs T r e) fun vs => M.ret (v :: vs)
  | .star a r, e => mStar (denE T a) (denEs T r) e
def denO (T : Nat → Fn) : Eo → Env → M (Option Int)
  | .none, _ => M.ret Option.none
  | .some a, e => M.bind (denE T a e) fun v => (match intV v with
    | Option.some i => M.ret (Option.some i)
    | Option.none => M.no)
def denT (T : Nat → Fn) : Eo → Env → M Bool
  | .none, _ => M.ret true
  | .some a, e => M.tru (denE T a e)
def denI (T : Nat → Fn) : It → Env → M (List PyData)
  | .seq a, e => M.bind (denE T a e) fun v => ofO (iterV v)
  | .rng1 a, e => M.bind (denE T a e) fun v => (match intV v with
    | some n => ofO (rngD 0 n)
    | none => M.no)
  | .rng2 a b, e => M.bind (denE T a e) fun v => M.bind (denE T b e) fun u => (match intV v, intV u with
    | some n, some m => ofO (rngD n m)
    | _, _ => M.no)
  | .zip2 a b, e => M.bind (denE T a e) fun v => M.bind (denE T b e) fun u => (match v, u with
    | .p (.list xs), .p (.list ys) => M.ret (zip2D xs ys)
    | .p (.tuple xs), .p (.tuple ys) => M.ret (zip2D xs ys)
    | _, _ => M.no)
  | .enum a, e => M.bind (denE T a e) fun v => (match v with
    | .p (.list xs) => M.ret (enumD 0 xs)
    | _ => M.no)
end
def lift {α : Type} (e : Env) (m : Rs α) (f : α → Store → RsS) : RsS := match m with
  | .ok v st => f v st
  | .ex c st => .ex c e st
  | .no => .no
def forL (tg : PyData → Env → Option Env) (body : Env → Store → RsS) : List PyData → Env → Store → RsS
  | [], e, st => .ok (.nx e) st
  | x :: r, e, st => (match tg x e with
    | none => .no
    | some e1 => (match body e1 st with
      | .ok (.nx e2) st2 => forL tg body r e2 st2
      | .ok (.ct e2) st2 => forL tg body r e2 st2
      | .ok (.bk e2) st2 => .ok (.nx e2) st2
      | .ok (.rt v) st2 => .ok (.rt v) st2
      | .ex c e2 st2 => .ex c e2 st2
      | .no => .no))
/-- over a list of the store, asked for item by item -/
def forH (tg : PyData → Env → Option Env) (body : Env → Store → RsS) (k : Nat) : Nat → Nat → Env → Store → RsS
  | 0, _, _, _ => .no
  | n + 1, i, e, st => match st[k]? with
    | none => .no
    | some xs => (match xs[i]? with
      | none => .ok (.nx e) st
      | some x => (match tg x e with
        | none => .no
        | some e1 => (match body e1 st with
          | .ok (.nx e2) st2 => forH tg body k n (i + 1) e2 st2
          | .ok (.ct e2) st2 => forH tg body k n (i + 1) e2 st2
          | .ok (.bk e2) st2 => .ok (.nx e2) st2
          | .ok (.rt v) st2 => .ok (.rt v) st2
          | .ex c e2 st2 => .ex c e2 st2
          | .no => .no)))
def setL : List Nat → List Val → Env → Option Env
  | [], [], e => some e
  | i :: is, v :: vs, e => setL is vs (e.set i (some v))
  | _, _, _ => none
def whlN (test : Env → M Bool) (body : Env → Store → RsS) (n : Nat) : Env → Store → RsS :=
  Nat.rec (fun _ _ => .no) (fun _ ih e st => lift e (test e st) fun b st1 => if b then (match body e st1 with
      | .ok (.nx e2) st2 => ih e2 st2
      | .ok (.ct e2) st2 => ih e2 st2
      | .ok (.bk e2) st2 => .ok (.nx e2) st2
      | .ok (.rt v) st2 => .ok (.rt v) st2
      | .ex c e2 st2 => .ex c e2 st2
      | .no => .no) else .ok (.nx e) st1) n
@[irreducible] def fuelW : Nat := 2 ^ 9000
def setAll : List Nat → List Val → Env → Option Env
  | [], [], e => some e
  | i :: is, v :: vs, e => (setAll is vs e).map fun e' => e'.set i (some v)
  | _, _, _ => none
def setF (e : Env) (u v w : Val) (st2 : Store) : RsS := match v, w, u with
    | .l k, .p (.int n), .p d => (match st2[k]? with
      | some xs => (match L2.ixN xs.length n with
        | some j => .ok (.nx e) (st2.set k (xs.set j d))
        | none => .no)
      | none => .no)
    | _, _, _ => .no
mutual
def denS (T : Nat → Fn) : S → Env → Store → RsS
  | .asg t a, e, st => lift e (denE T a e st) fun v st1 => (match tgtV t v e st1 with
    | some e1 => .ok (.nx e1) st1
    | none => .no)
  | .par is as, e, st => lift e (denEs T as e st) fun vs st1 => (match setAll is vs e with
    | some e1 => .ok (.nx e1) st1
    | none => .no)
  | .parT is as, e, st => lift e (denEs T as e st) fun vs st1 => if vs.length ≤ sizeLine then (match setL is vs e with
    | some e1 => .ok (.nx e1) st1
    | none => .no) else .no
  | .aug i op a, e, st => (match e[i]? with
    | some (some (.p (.int n))) => lift e (denE T a e st) fun v st1 => (match v with
      | .p (.int m) => (match op with
        | .Add => .ok (.nx (e.set i (some (.p (.int (n + m)))))) st1
        | .Sub => .ok (.nx (e.set i (some (.p (.int (n - m)))))) st1
        | _ => .no)
      | _ => .no)
    | _ => .no)
  | .setIx a i b, e, st => lift e (denE T b e st) fun u st0 => lift e (denE T a e st0) fun v st1 => lift e (denE T i e st1) fun w st2 => setF e u v w st2
  | .ife c a b, e, st => lift e (M.tru (denE T c e) st) fun k st1 => if k then denSs T a e st1 else denSs T b e st1
  | .whl c b, e, st => whlN (fun e => M.tru (denE T c e)) (fun e st => denSs T b e st) fuelW e st
  | .for_ t it b, e, st => lift e (denI T it e st) fun xs st1 => forL (fun d e => tgt t d e) (fun e st => denSs T b e st) xs e st1
  | .forH t i b, e, st => (match hndV e i with
    | some k => (match st[k]? with
      | some xs => forH (fun d e => tgt t d e) (fun e st => denSs T b e st) k (xs.length + 1) 0 e st
      | none => .no)
    | none => .no)
  | .ret a, e, st => lift e (denE T a e st) fun v st1 => .ok (.rt v) st1
  | .retN, _, st => .ok (.rt (.p .none)) st
  | .ex a, e, st => lift e (denE T a e st) fun _ st1 => .ok (.nx e) st1
  | .raise c, e, st => .ex c e st
  | .brk, e, st => .ok (.bk e) st
  | .cnt, e, st => .ok (.ct e) st
  | .pass, e, st => .ok (.nx e) st
  | .try_ b _ h, e, st => (match denSs T b e st with
    | .ex c' _ st' => (match h.lookup c' with
      | some d => .ok (.rt (.p d)) st'
      | none => .no)
    | r => r)
def denSs (T : Nat → Fn) : Ss → Env → Store → RsS
  | .nil, e, st => .ok (.nx e) st
  | .cons s r, e, st => (match denS T s e st with
    | .ok (.nx e1) st1 => denSs T r e1 st1
    | r => r)
end
/-- a def's end: its own lists are dropped, but for the one that is handed back -/
def fin (rm : Bool) (n : Nat) (v : Val) (st : Store) : Rs Val := match v with
  | .l k => if k < n then .ok (.l k) (st.take n) else (match st[k]? with
    | some xs => if rm then .ok (.l n) (st.take n ++ [xs]) else .ok (.p (.list xs)) (st.take n)
    | none => .no)
  | v => .ok v (st.take n)
def denF (T : Nat → Fn) (f : FnIR) : Fn := fun vs st =>
  if vs.length = f.np then
    (match denSs T f.body (vs.map some ++ List.replicate (f.nn - f.np) none) st with
    | .ok (.nx _) st1 => fin f.rm st.length (.p .none) st1
    | .ok (.rt v) st1 => fin f.rm st.length v st1
    | .ex c _ st1 => .ex c (st1.take st.length)
    | _ => .no)
  else .no
/-- all defs, to a depth of calls -/
def FT (tab : Nat → Option FnIR) (n : Nat) : Nat → Fn :=
  Nat.rec (fun _ _ _ => .no) (fun _ ih j => match tab j with
    | some f => denF ih f
    | none => fun _ _ => .no) n
theorem FT_succ {tab : Nat → Option FnIR} {n j : Nat} {f : FnIR} (h : tab j = some f) : FT tab (n + 1) j = denF (FT tab n) f := by
  show (match tab j with | some f => denF (FT tab n) f | none => fun _ _ => .no) = _
  rw [h]
end Rk

set_option Elab.async false
set_option linter.all false
set_option maxRecDepth 100000
set_option maxHeartbeats 4000000
/-! Rk2: how values lie in the heap; steps; the readings made of meanings. -/
namespace Rk
open PySem PySem.Spec PyProof.Rows L2

/-! ### values in the heap -/
mutual
inductive Dq (K : PySem.W.Frag) (H : Hp) (φ : List Addr) : V → PyData → Prop
  | non : Dq K H φ .non .none
  | bl (b : Bool) : Dq K H φ (.bl b) (.bool b)
  | int (i : Int) : Dq K H φ (.int i) (.int i)
  | str (x : Str) : Dq K H φ (.str x) (.str x)
  | lst {a : Addr} {vs : List V} {ds : List PyData} : H a = some (.lst vs) → a ∉ φ → DqA K H φ vs ds → Dq K H φ (.ref a) (.list ds)
  | tup {a : Addr} {vs : List V} {ds : List PyData} : SqT K H a vs → DqA K H φ vs ds → Dq K H φ (.ref a) (.tuple ds)
inductive DqA (K : PySem.W.Frag) (H : Hp) (φ : List Addr) : List V → List PyData → Prop
  | nil : DqA K H φ [] []
  | cons {v : V} {vs : List V} {d : PyData} {ds : List PyData} : Dq K H φ v d → DqA K H φ vs ds → DqA K H φ (v :: vs) (d :: ds)
end
/-- the state goes on: what is tracked beside the store stays, the store's new lists are new -/
structure Stp (φ : List Addr) (H : Hp) (φ' : List Addr) (H' : Hp) : Prop where
  pre : φ <+: φ'
  keep : ∀ a o, H a = some o → a ∉ φ → H' a = some o
  new : ∀ a, a ∈ φ' → a ∉ φ → H a = none
theorem Stp.refl {φ : List Addr} {H : Hp} : Stp φ H φ H := ⟨List.prefix_refl _, fun _ _ h _ => h, fun _ h n => absurd h n⟩
theorem Stp.trans {φ φ1 φ2 : List Addr} {H H1 H2 : Hp} (a : Stp φ H φ1 H1) (b : Stp φ1 H1 φ2 H2) : Stp φ H φ2 H2 where
  pre := a.pre.trans b.pre
  keep := fun c o h n => b.keep c o (a.keep c o h n) fun hm => by
    have := a.new c hm n
    rw [h] at this
    cases this
  new := fun c hm n => by
    by_cases h1 : c ∈ φ1
    · exact a.new c h1 n
    · have q := b.new c hm h1
      cases e : H c with
      | none => rfl
      | some o =>
        rw [a.keep c o e n] at q
        cases q
theorem Stp.notin {φ φ' : List Addr} {H H' : Hp} (s : Stp φ H φ' H') {a : Addr} {o : HO} (h : H a = some o) (n : a ∉ φ) : a ∉ φ' := fun hm => by
  have := s.new a hm n
  rw [h] at this
  cases this
/-- a new object beside the store -/
theorem Stp.laid {φ : List Addr} {H : Hp} {p : Addr} {o : HO} (h : H p = none) : Stp φ H φ (upd H p o) :=
  ⟨List.prefix_refl _, fun a u e _ => by rw [upd_ne (ne_of_none e h)]; exact e, fun _ hm n => absurd hm n⟩
/-- a list of the store is changed -/
theorem Stp.set {φ : List Addr} {H : Hp} {p : Addr} {o : HO} (h : p ∈ φ) : Stp φ H φ (upd H p o) :=
  ⟨List.prefix_refl _, fun a u e n => by
    have q : a ≠ p := fun q => n (by rw [q]; exact h)
    rw [upd_ne q]; exact e, fun _ hm n => absurd hm n⟩
/-- a new list of the store -/
theorem Stp.more {φ : List Addr} {H : Hp} {p : Addr} {o : HO} (h : H p = none) : Stp φ H (φ ++ [p]) (upd H p o) :=
  ⟨List.prefix_append _ _, fun a u e _ => by rw [upd_ne (ne_of_none e h)]; exact e, fun a hm n => by
    rcases List.mem_append.mp hm with q | q
    · exact absurd q n
    · have e : a = p := by simpa using q
      rw [e]
      exact h⟩
section
variable {K : PySem.W.Frag} {φ φ' : List Addr} {H H' : Hp}
theorem rd_keep {a : Addr} {u : HO} (s : Stp φ H φ' H') (h : Rd H a u) (n : a ∉ φ) : Rd H' a u := by
  rcases h with h | ⟨o, h⟩
  · exact .inl (s.keep _ _ h n)
  · exact .inr ⟨o, s.keep _ _ h n⟩
/-- the store's addresses hold lists alone -/
def LstAt (φ : List Addr) (H : Hp) : Prop := ∀ a ∈ φ, ∃ vs, H a = some (.lst vs)
theorem sqT_keep {a : Addr} {xs : List V} (s : Stp φ H φ' H') (L : LstAt φ H) (h : SqT K H a xs) : SqT K H' a xs := by
  rcases h with h | h
  · refine .inl (rd_keep s h fun hm => ?_)
    obtain ⟨vs, e⟩ := L a hm
    rcases h with h | ⟨o, h⟩
    · rw [e] at h
      cases h
    · rw [e] at h
      cases h
  · exact .inr h
mutual
theorem Dq.mono (s : Stp φ H φ' H') (L : LstAt φ H) : ∀ {v : V} {d : PyData}, Dq K H φ v d → Dq K H' φ' v d
  | _, _, .non => .non
  | _, _, .bl b => .bl b
  | _, _, .int i => .int i
  | _, _, .str x => .str x
  | _, _, .lst h n a => .lst (s.keep _ _ h n) (s.notin h n) (DqA.mono s L a)
  | _, _, .tup h a => .tup (sqT_keep s L h) (DqA.mono s L a)
theorem DqA.mono (s : Stp φ H φ' H') (L : LstAt φ H) : ∀ {vs : List V} {ds : List PyData}, DqA K H φ vs ds → DqA K H' φ' vs ds
  | _, _, .nil => .nil
  | _, _, .cons a b => .cons (Dq.mono s L a) (DqA.mono s L b)
end
mutual
theorem Dq.dp : ∀ {v : V} {d : PyData}, Dq K H φ v d → Dp K H v d
  | _, _, .non => .non
  | _, _, .bl b => .bl b
  | _, _, .int i => .int i
  | _, _, .str x => .str x
  | _, _, .lst h n a => .lst (SqL.of h) (DqA.dp a)
  | _, _, .tup h a => .tup h (DqA.dp a)
theorem DqA.dp : ∀ {vs : List V} {ds : List PyData}, DqA K H φ vs ds → DpAll K H vs ds
  | _, _, .nil => .nil
  | _, _, .cons a b => .cons (Dq.dp a) (DqA.dp b)
end
theorem DqA.length : ∀ {vs : List V} {ds : List PyData}, DqA K H φ vs ds → vs.length = ds.length
  | _, _, .nil => rfl
  | _, _, .cons _ b => by rw [List.length_cons, List.length_cons, DqA.length b]
theorem DqA.append : ∀ {vs ws : List V} {ds es : List PyData}, DqA K H φ vs ds → DqA K H φ ws es → DqA K H φ (vs ++ ws) (ds ++ es)
  | _, _, _, _, .nil, b => b
  | _, _, _, _, .cons a r, b => .cons a (DqA.append r b)
theorem DqA.get : ∀ {vs : List V} {ds : List PyData} {i : Nat} {d : PyData}, DqA K H φ vs ds → ds[i]? = some d → ∃ v, vs[i]? = some v ∧ Dq K H φ v d
  | _, _, _, _, .nil, e => by simp at e
  | _, _, 0, _, .cons a _, e => by simp at e; subst e; exact ⟨_, rfl, a⟩
  | _, _, i + 1, _, .cons _ r, e => by
    obtain ⟨v, h1, h2⟩ := DqA.get (i := i) r (by simpa using e)
    exact ⟨v, by simpa using h1, h2⟩
theorem DqA.getV : ∀ {vs : List V} {ds : List PyData} {i : Nat} {v : V}, DqA K H φ vs ds → vs[i]? = some v → ∃ d, ds[i]? = some d ∧ Dq K H φ v d
  | _, _, _, _, .nil, e => by simp at e
  | _, _, 0, _, .cons a _, e => by simp at e; subst e; exact ⟨_, rfl, a⟩
  | _, _, i + 1, _, .cons _ r, e => by
    obtain ⟨v, h1, h2⟩ := DqA.getV (i := i) r (by simpa using e)
    exact ⟨v, by simpa using h1, h2⟩
theorem DqA.take : ∀ {vs : List V} {ds : List PyData} (n : Nat), DqA K H φ vs ds → DqA K H φ (vs.take n) (ds.take n)
  | _, _, 0, _ => .nil
  | _, _, _ + 1, .nil => .nil
  | _, _, n + 1, .cons a r => .cons a (DqA.take n r)
theorem DqA.drop : ∀ {vs : List V} {ds : List PyData} (n : Nat), DqA K H φ vs ds → DqA K H φ (vs.drop n) (ds.drop n)
  | _, _, 0, r => r
  | _, _, _ + 1, .nil => .nil
  | _, _, n + 1, .cons _ r => DqA.drop n r
theorem DqA.reverse : ∀ {vs : List V} {ds : List PyData}, DqA K H φ vs ds → DqA K H φ vs.reverse ds.reverse
  | _, _, .nil => .nil
  | _, _, .cons a r => by
    rw [List.reverse_cons, List.reverse_cons]
    exact DqA.append (DqA.reverse r) (.cons a .nil)
theorem DqA.dropLast {vs : List V} {ds : List PyData} (h : DqA K H φ vs ds) : DqA K H φ vs.dropLast ds.dropLast := by
  rw [List.dropLast_eq_take, List.dropLast_eq_take, h.length]
  exact h.take _
theorem DqA.set {v : V} {d : PyData} (h : Dq K H φ v d) : ∀ {vs : List V} {ds : List PyData} (n : Nat), DqA K H φ vs ds → DqA K H φ (vs.set n v) (ds.set n d)
  | _, _, _, .nil => .nil
  | _, _, 0, .cons _ r => .cons h r
  | _, _, n + 1, .cons a r => .cons a (DqA.set h n r)
theorem DqA.rep {vs : List V} {ds : List PyData} (h : DqA K H φ vs ds) : ∀ n : Nat, DqA K H φ (List.replicate n vs).flatten (List.replicate n ds).flatten
  | 0 => .nil
  | n + 1 => by
    rw [List.replicate_succ, List.replicate_succ, List.flatten_cons, List.flatten_cons]
    exact h.append (DqA.rep h n)
theorem DqA.ints : ∀ {ns : List Int}, DqA K H φ (ns.map V.int) (ns.map PyData.int)
  | [] => .nil
  | _ :: _ => .cons (.int _) DqA.ints
theorem DqA.of_ints : ∀ {vs : List V} {ds : List PyData} {ns : List Int}, DqA K H φ vs ds → intsD ds = some ns → vs = ns.map V.int ∧ ds = ns.map PyData.int
  | _, _, _, .nil, e => by
    cases e
    exact ⟨rfl, rfl⟩
  | _, _, _, .cons a r, e => by
    cases a with
    | int i =>
      rename_i vs ds
      simp only [intsD] at e
      obtain ⟨l, h1, h2⟩ := Option.map_eq_some_iff.mp e
      obtain ⟨q1, q2⟩ := DqA.of_ints r h1
      subst h2
      rw [q1, q2]
      exact ⟨rfl, rfl⟩
    | _ => cases e
theorem DqA.of_bools : ∀ {vs : List V} {ds : List PyData} {bs : List Bool}, DqA K H φ vs ds → boolsD ds = some bs → vs = bs.map V.bl ∧ ds = bs.map PyData.bool
  | _, _, _, .nil, e => by
    cases e
    exact ⟨rfl, rfl⟩
  | _, _, _, .cons a r, e => by
    cases a with
    | bl i =>
      rename_i vs ds
      simp only [boolsD] at e
      obtain ⟨l, h1, h2⟩ := Option.map_eq_some_iff.mp e
      obtain ⟨q1, q2⟩ := DqA.of_bools r h1
      subst h2
      rw [q1, q2]
      exact ⟨rfl, rfl⟩
    | _ => cases e
end

/-- a value of ours -/
inductive Rv (K : PySem.W.Frag) (H : Hp) (φ : List Addr) : V → Val → Prop
  | p {v : V} {d : PyData} : Dq K H φ v d → Rv K H φ v (.p d)
  | l {k : Nat} {a : Addr} : φ[k]? = some a → Rv K H φ (.ref a) (.l k)
  | f {a : Addr} {vs : List V} {xs : List PyData} : Rd H a (.lst vs) → a ∉ φ → DqA K H φ vs xs → Rv K H φ (.ref a) (.f xs)
  | fk {a : Addr} {vs : List V} {xs : List PyData} : (∀ H', SqL K H' a vs) → DqA K H φ vs xs → Rv K H φ (.ref a) (.f xs)
  | x {a : Addr} : Rv K H φ (.ref a) (.x a)
/-- the store -/
structure Rt (K : PySem.W.Frag) (H : Hp) (φ : List Addr) (st : Store) : Prop where
  at_ : Paired (fun (a : Addr) (xs : List PyData) => ∃ vs, H a = some (.lst vs) ∧ DqA K H φ vs xs) φ st
  nd : φ.Nodup
/-- the names -/
structure Re (K : PySem.W.Frag) (H : Hp) (φ : List Addr) (σ : L2.St) (e : Env) : Prop where
  len : σ.length = e.length
  get : ∀ (i : Nat) (v : Val), e[i]? = some (some v) → ∃ x, σ[i]? = some (some x) ∧ Rv K H φ x v
theorem pr_get {α β : Type} {F : α → β → Prop} : ∀ {xs : List α} {ys : List β} {i : Nat} {y : β}, Paired F xs ys → ys[i]? = some y → ∃ x, xs[i]? = some x ∧ F x y
  | _, _, _, _, .nil, e => by simp at e
  | _, _, 0, _, .cons r _, e => by simp at e; subst e; exact ⟨_, rfl, r⟩
  | _, _, i + 1, _, .cons _ t, e => by
    obtain ⟨x, h1, h2⟩ := pr_get (i := i) t (by simpa using e)
    exact ⟨x, by simpa using h1, h2⟩
theorem pr_getL {α β : Type} {F : α → β → Prop} : ∀ {xs : List α} {ys : List β} {i : Nat} {x : α}, Paired F xs ys → xs[i]? = some x → ∃ y, ys[i]? = some y ∧ F x y
  | _, _, _, _, .nil, e => by simp at e
  | _, _, 0, _, .cons r _, e => by simp at e; subst e; exact ⟨_, rfl, r⟩
  | _, _, i + 1, _, .cons _ t, e => by
    obtain ⟨x, h1, h2⟩ := pr_getL (i := i) t (by simpa using e)
    exact ⟨x, by simpa using h1, h2⟩
theorem pr_map {α β : Type} {F G : α → β → Prop} : ∀ {xs : List α} {ys : List β}, Paired F xs ys → (∀ x y, x ∈ xs → F x y → G x y) → Paired G xs ys
  | _, _, .nil, _ => .nil
  | _, _, .cons r t, h => .cons (h _ _ List.mem_cons_self r) (pr_map t fun x y hx => h x y (List.mem_cons_of_mem _ hx))
theorem pr_append {α β : Type} {F : α → β → Prop} : ∀ {xs xs' : List α} {ys ys' : List β}, Paired F xs ys → Paired F xs' ys' → Paired F (xs ++ xs') (ys ++ ys')
  | _, _, _, _, .nil, b => b
  | _, _, _, _, .cons r t, b => .cons r (pr_append t b)
theorem pr_take {α β : Type} {F : α → β → Prop} : ∀ {xs : List α} {ys : List β} (n : Nat), Paired F xs ys → Paired F (xs.take n) (ys.take n)
  | _, _, 0, _ => .nil
  | _, _, _ + 1, .nil => .nil
  | _, _, n + 1, .cons r t => .cons r (pr_take n t)
theorem pr_set {α β : Type} {F G : α → β → Prop} : ∀ {xs : List α} {ys : List β} {k : Nat} {x : α} {y : β}, Paired F xs ys → xs[k]? = some x → G x y → (∀ (j : Nat) x' y', j ≠ k → xs[j]? = some x' → F x' y' → G x' y') → Paired G xs (ys.set k y)
  | _, _, _, _, _, .nil, e, _, _ => by simp at e
  | _, _, 0, _, _, .cons r t, e, g, h => by
    simp at e
    subst e
    refine .cons g ?_
    have key : ∀ {xs : List _} {ys : List _} (n : Nat), Paired F xs ys → (∀ (j : Nat) x' y', xs[j]? = some x' → F x' y' → G x' y') → Paired G xs ys := by
      intro xs ys n t
      induction t with
      | nil => exact fun _ => .nil
      | cons r t ih => exact fun h => .cons (h 0 _ _ rfl r) (ih fun j x' y' e => h (j + 1) x' y' (by simpa using e))
    exact key 0 t fun j x' y' e f => h (j + 1) x' y' (by omega) (by simpa using e) f
  | _, _, k + 1, _, _, .cons r t, e, g, h => .cons (h 0 _ _ (by omega) rfl r) (pr_set t (by simpa using e) g fun j x' y' n e' f => h (j + 1) x' y' (by omega) (by simpa using e') f)
section
variable {K : PySem.W.Frag} {φ φ' : List Addr} {H H' : Hp} {σ : L2.St} {e : Env} {st : Store}
theorem Rt.lst (r : Rt K H φ st) : LstAt φ H := fun a ha => by
  obtain ⟨i, hi, q⟩ := List.mem_iff_getElem.mp ha
  obtain ⟨xs, _, vs, h, _⟩ := pr_getL r.at_ (i := i) (x := a) (by rw [List.getElem?_eq_getElem hi, q])
  exact ⟨vs, h⟩
theorem Rt.length (r : Rt K H φ st) : φ.length = st.length := Paired.length r.at_
theorem Rt.get (r : Rt K H φ st) {k : Nat} {xs : List PyData} (h : st[k]? = some xs) : ∃ a vs, φ[k]? = some a ∧ H a = some (.lst vs) ∧ DqA K H φ vs xs := by
  obtain ⟨a, h1, vs, h2, h3⟩ := pr_get r.at_ h
  exact ⟨a, vs, h1, h2, h3⟩
theorem Rt.at' (r : Rt K H φ st) {k : Nat} {a : Addr} (h : φ[k]? = some a) : ∃ xs vs, st[k]? = some xs ∧ H a = some (.lst vs) ∧ DqA K H φ vs xs := by
  obtain ⟨xs, h1, vs, h2, h3⟩ := pr_getL r.at_ h
  exact ⟨xs, vs, h1, h2, h3⟩
theorem nd_inj : ∀ {l : List Addr} {i j : Nat} (nd : l.Nodup) (hi : i < l.length) (hj : j < l.length), l[i] = l[j] → i = j
  | [], _, _, _, hi, _, _ => absurd hi (by simp)
  | _ :: _, 0, 0, _, _, _, _ => rfl
  | a :: r, 0, j + 1, nd, _, hj, e => by
    have h1 := (List.nodup_cons.mp nd).1
    simp only [List.getElem_cons_zero, List.getElem_cons_succ] at e
    exact absurd (e ▸ List.getElem_mem _) h1
  | a :: r, i + 1, 0, nd, hi, _, e => by
    have h1 := (List.nodup_cons.mp nd).1
    simp only [List.getElem_cons_zero, List.getElem_cons_succ] at e
    exact absurd (e ▸ List.getElem_mem _) h1
  | a :: r, i + 1, j + 1, nd, hi, hj, e => by
    simp only [List.getElem_cons_succ] at e
    rw [nd_inj (List.nodup_cons.mp nd).2 (by simpa using hi) (by simpa using hj) e]
theorem get_inj {l : List Addr} (nd : l.Nodup) {i j : Nat} {a : Addr} (h1 : l[i]? = some a) (h2 : l[j]? = some a) : i = j := by
  obtain ⟨hi, e1⟩ := List.getElem?_eq_some_iff.mp h1
  obtain ⟨hj, e2⟩ := List.getElem?_eq_some_iff.mp h2
  exact nd_inj nd hi hj (e1.trans e2.symm)
theorem Rv.mono (s : Stp φ H φ' H') (L : LstAt φ H) {x : V} {v : Val} (r : Rv K H φ x v) : Rv K H' φ' x v := by
  cases r with
  | x => exact .x
  | p h => exact .p (h.mono s L)
  | l h =>
    refine .l ?_
    obtain ⟨t, ht⟩ := s.pre
    rw [← ht]
    obtain ⟨hi, e⟩ := List.getElem?_eq_some_iff.mp h
    rw [List.getElem?_append_left hi]
    exact h
  | f h n a =>
    refine .f (rd_keep s h n) ?_ (a.mono s L)
    rcases h with h | ⟨o, h⟩
    · exact s.notin h n
    · exact s.notin h n
  | fk h a => exact .fk h (a.mono s L)
end
end Rk

set_option Elab.async false
set_option linter.all false
set_option maxRecDepth 100000
set_option maxHeartbeats 4000000
namespace Rk
open PySem PySem.Spec PyProof.Rows L2
section
variable {K : PySem.W.Frag} {φ φ' : List Addr} {H H' : Hp} {σ : L2.St} {e : Env} {st : Store}
theorem Re.mono (r : Re K H φ σ e) (s : Stp φ H φ' H') (L : LstAt φ H) : Re K H' φ' σ e :=
  ⟨r.len, fun i v h => let ⟨x, h1, h2⟩ := r.get i v h; ⟨x, h1, h2.mono s L⟩⟩
theorem Re.set (r : Re K H φ σ e) {i : Nat} {x : V} {v : Val} (h : Rv K H φ x v) : Re K H φ (σ.set i (some x)) (e.set i (some v)) := by
  refine ⟨by rw [List.length_set, List.length_set, r.len], fun j u hu => ?_⟩
  by_cases hj : i = j
  · subst hj
    by_cases hl : i < e.length
    · rw [List.getElem?_set_self hl] at hu
      cases hu
      exact ⟨x, List.getElem?_set_self (by rw [r.len]; exact hl), h⟩
    · rw [List.getElem?_eq_none (by rw [List.length_set]; omega)] at hu
      cases hu
  · rw [List.getElem?_set_ne hj] at hu ⊢
    exact r.get j u hu
theorem Re.setN (r : Re K H φ σ e) (i : Nat) (o : Option V) : Re K H φ (σ.set i o) (e.set i none) := by
  refine ⟨by rw [List.length_set, List.length_set, r.len], fun j u hu => ?_⟩
  by_cases hj : i = j
  · subst hj
    by_cases hl : i < e.length
    · rw [List.getElem?_set_self hl] at hu
      cases hu
    · rw [List.getElem?_eq_none (by rw [List.length_set]; omega)] at hu
      cases hu
  · rw [List.getElem?_set_ne hj] at hu ⊢
    exact r.get j u hu
theorem Re.wipe (r : Re K H φ σ e) : ∀ own : List Nat, Re K H φ (wipe σ own) (wipeE e own)
  | [] => r
  | i :: own => (Re.wipe r own).setN i none
theorem Rt.keep (r : Rt K H φ st) (s : Stp φ H φ H') (h : ∀ a ∈ φ, H' a = H a) : Rt K H' φ st :=
  ⟨pr_map r.at_ fun a xs ha ⟨vs, h1, h2⟩ => ⟨vs, by rw [h a ha]; exact h1, h2.mono s r.lst⟩, r.nd⟩
theorem Rt.notin (r : Rt K H φ st) {p : Addr} (h : H p = none) : p ∉ φ := fun hm => by
  obtain ⟨vs, e⟩ := r.lst p hm
  rw [h] at e
  cases e
theorem Rt.laid (r : Rt K H φ st) {p : Addr} {o : HO} (h : H p = none) : Rt K (upd H p o) φ st :=
  r.keep (Stp.laid h) fun a ha => upd_ne fun q => r.notin h (by rw [← q]; exact ha)
theorem Rt.more (r : Rt K H φ st) {p : Addr} {vs : List V} {ds : List PyData} (h : H p = none) (hd : DqA K H φ vs ds) : Rt K (upd H p (.lst vs)) (φ ++ [p]) (st ++ [ds]) := by
  have s : Stp φ H (φ ++ [p]) (upd H p (.lst vs)) := Stp.more h
  refine ⟨pr_append (pr_map r.at_ fun a xs ha ⟨ws, h1, h2⟩ => ⟨ws, ?_, h2.mono s r.lst⟩) (.cons ⟨vs, upd_same, hd.mono s r.lst⟩ .nil), ?_⟩
  · rw [upd_ne fun q => r.notin h (by rw [← q]; exact ha)]
    exact h1
  · refine List.nodup_append.mpr ⟨r.nd, by simp, fun a ha b hb => ?_⟩
    have e : b = p := by simpa using hb
    rw [e]
    exact fun q => r.notin h (by rw [← q]; exact ha)
theorem Rt.set (r : Rt K H φ st) {k : Nat} {p : Addr} {vs : List V} {ds : List PyData} (hk : φ[k]? = some p) (hd : DqA K H φ vs ds) : Rt K (upd H p (.lst vs)) φ (st.set k ds) := by
  have hp : p ∈ φ := List.mem_of_getElem? hk
  have s : Stp φ H φ (upd H p (.lst vs)) := Stp.set hp
  refine ⟨pr_set r.at_ hk ⟨vs, upd_same, hd.mono s r.lst⟩ fun j a xs hj ha ⟨ws, h1, h2⟩ => ⟨ws, ?_, h2.mono s r.lst⟩, r.nd⟩
  rw [upd_ne fun q => hj (get_inj r.nd (by rw [ha, q]) hk)]
  exact h1

/-! ### data at the top of a value -/
def Dt (K : PySem.W.Frag) (H : Hp) (φ : List Addr) (x : V) (d : PyData) : Prop :=
  Dq K H φ x d ∨ ∃ p vs ds, x = .ref p ∧ d = .list ds ∧ H p = some (.lst vs) ∧ DqA K H φ vs ds
theorem dt_of (rt : Rt K H φ st) {x : V} {v : Val} {d : PyData} (r : Rv K H φ x v) (h : asD v st = some d) : Dt K H φ x d := by
  cases r with
  | x => cases h
  | p q => cases h; exact .inl q
  | l hk =>
    obtain ⟨xs, h1, h2⟩ := Option.map_eq_some_iff.mp h
    obtain ⟨a, vs, h3, h4, h5⟩ := rt.get h1
    rw [hk] at h3
    cases h3
    exact .inr ⟨_, vs, xs, rfl, h2.symm, h4, h5⟩
  | f _ _ _ => cases h
  | fk _ _ => cases h
theorem Dt.dp {x : V} {d : PyData} (h : Dt K H φ x d) : Dp K H x d := by
  rcases h with h | ⟨p, vs, ds, rfl, rfl, h1, h2⟩
  · exact h.dp
  · exact .lst (SqL.of h1) h2.dp
theorem Dt.int {x : V} {i : Int} (h : Dt K H φ x (.int i)) : x = .int i := by
  rcases h with h | ⟨_, _, _, _, h, _⟩
  · cases h; rfl
  · cases h
theorem Dt.bool {x : V} {i : Bool} (h : Dt K H φ x (.bool i)) : x = .bl i := by
  rcases h with h | ⟨_, _, _, _, h, _⟩
  · cases h; rfl
  · cases h
theorem Dt.none {x : V} (h : Dt K H φ x .none) : x = .non := by
  rcases h with h | ⟨_, _, _, _, h, _⟩
  · cases h; rfl
  · cases h
theorem Dt.str {x : V} {i : Str} (h : Dt K H φ x (.str i)) : x = .str i := by
  rcases h with h | ⟨_, _, _, _, h, _⟩
  · cases h; rfl
  · cases h
theorem Dt.list {x : V} {ds : List PyData} (h : Dt K H φ x (.list ds)) : ∃ p vs, x = .ref p ∧ H p = some (.lst vs) ∧ DqA K H φ vs ds := by
  rcases h with h | ⟨p, vs, ds', rfl, h, h1, h2⟩
  · cases h with
    | lst h1 h2 h3 => exact ⟨_, _, rfl, h1, h3⟩
  · cases h
    exact ⟨p, vs, rfl, h1, h2⟩
theorem Dt.tuple {x : V} {ds : List PyData} (h : Dt K H φ x (.tuple ds)) : ∃ p vs, x = .ref p ∧ SqT K H p vs ∧ DqA K H φ vs ds := by
  rcases h with h | ⟨_, _, _, _, h, _⟩
  · cases h with
    | tup h1 h3 => exact ⟨_, _, rfl, h1, h3⟩
  · cases h
theorem Dt.dict {x : V} {ds : List (PyData × PyData)} (h : Dt K H φ x (.dict ds)) : False := by
  rcases h with h | ⟨_, _, _, _, h, _⟩ <;> cases h
end

/-! ### what is wanted of a run -/
def PoR {α β : Type} (rel : Hp → List Addr → β → α → Prop) (K : PySem.W.Frag) (Wx : Str → Hp → Prop) (H : Hp) (φ : List Addr) (Q : β → Hp → Prop) : Rs α → Prop
  | .ok v st' => ∀ x H' φ', Stp φ H φ' H' → Rt K H' φ' st' → rel H' φ' x v → Q x H'
  | .ex c st' => ∀ H' φ', Stp φ H φ' H' → Rt K H' φ' st' → Wx c H'
  | .no => False
section
variable {α β γ δ : Type} {rel : Hp → List Addr → β → α → Prop} {rel2 : Hp → List Addr → δ → γ → Prop} {K : PySem.W.Frag} {Wx : Str → Hp → Prop} {H H1 : Hp} {φ φ1 : List Addr} {Q : β → Hp → Prop} {Q2 : δ → Hp → Prop}
theorem PoR.step {r : Rs α} (s : Stp φ H φ1 H1) (h : PoR rel K Wx H φ Q r) : PoR rel K Wx H1 φ1 Q r := by
  cases r with
  | ok v st' => exact fun x H' φ' s' => h x H' φ' (s.trans s')
  | ex c st' => exact fun H' φ' s' => h H' φ' (s.trans s')
  | no => exact h
theorem PoR.bind {r : Rs α} {f : α → M γ} (h : PoR rel2 K Wx H φ Q2 (r.bind f)) :
    PoR rel K Wx H φ (fun x H1 => ∃ v st1 φ1, Stp φ H φ1 H1 ∧ Rt K H1 φ1 st1 ∧ rel H1 φ1 x v ∧ PoR rel2 K Wx H1 φ1 Q2 (f v st1)) r := by
  cases r with
  | ok v st' => exact fun x H' φ' s rt rv => ⟨v, st', φ', s, rt, rv, PoR.step s h⟩
  | ex c st' => exact h
  | no => exact h
theorem PoR.imp {r : Rs α} {Q' : β → Hp → Prop} (h : PoR rel K Wx H φ Q r) (q : ∀ x H', Q x H' → Q' x H') : PoR rel K Wx H φ Q' r := by
  cases r with
  | ok v st' => exact fun x H' φ' s rt rv => q x H' (h x H' φ' s rt rv)
  | ex c st' => exact h
  | no => exact h
end
/-- a new list, handed on -/
theorem new_list {K : PySem.W.Frag} {Wx : Str → Hp → Prop} {H : Hp} {φ : List Addr} {Q : VK} {m : Bool} {ds : List PyData} {vs : List V} {st : Store} {p : Addr} (rt : Rt K H φ st) (hd : DqA K H φ vs ds) (hp : H p = none)
    (h : PoR (Rv K) K Wx H φ Q (mkL m ds st)) : Q (.ref p) (upd H p (.lst vs)) := by
  cases m with
  | false => exact h (.ref p) _ φ (Stp.laid hp) (rt.laid hp) (.p (.lst upd_same (rt.notin hp) (hd.mono (Stp.laid hp) rt.lst)))
  | true =>
    refine h (.ref p) _ (φ ++ [p]) (Stp.more hp) (rt.more hp hd) (.l ?_)
    rw [← rt.length, List.getElem?_append_right (Nat.le_refl _), Nat.sub_self]
    rfl
theorem new_tup {K : PySem.W.Frag} {Wx : Str → Hp → Prop} {H : Hp} {φ : List Addr} {Q : VK} {ds : List PyData} {vs : List V} {st : Store} {p : Addr} (rt : Rt K H φ st) (hd : DqA K H φ vs ds) (hp : H p = none)
    (h : PoR (Rv K) K Wx H φ Q (.ok (.p (.tuple ds)) st)) : Q (.ref p) (upd H p (.tup vs)) :=
  h (.ref p) _ φ (Stp.laid hp) (rt.laid hp) (.p (.tup (SqT.of upd_same) (hd.mono (Stp.laid hp) rt.lst)))
/-- a value at hand, handed on -/
theorem here {K : PySem.W.Frag} {Wx : Str → Hp → Prop} {H : Hp} {φ : List Addr} {Q : VK} {v : Val} {x : V} {st : Store} (rt : Rt K H φ st) (r : Rv K H φ x v) (h : PoR (Rv K) K Wx H φ Q (.ok v st)) : Q x H := h x H φ Stp.refl rt r
theorem hereD {K : PySem.W.Frag} {Wx : Str → Hp → Prop} {H : Hp} {φ : List Addr} {Q : VK} {d : PyData} {x : V} {st : Store} (rt : Rt K H φ st) (r : Dq K H φ x d) (h : PoR (Rv K) K Wx H φ Q (.ok (.p d) st)) : Q x H := here rt (.p r) h
/-- operations on two values, one value, by data -/
def rO2 (K : PySem.W.Frag) (f : PyData → PyData → M Val) : R2 := fun x y H Q => ∃ (Wx : Str → Hp → Prop) (φ : List Addr) (st : Store) (d d' : PyData), Rt K H φ st ∧ Dt K H φ x d ∧ Dt K H φ y d' ∧ PoR (Rv K) K Wx H φ Q (f d d' st)
def rO1 (K : PySem.W.Frag) (f : PyData → M Val) : V → Hp → VK → Prop := fun x H Q => ∃ (Wx : Str → Hp → Prop) (φ : List Addr) (st : Store) (d : PyData), Rt K H φ st ∧ Dt K H φ x d ∧ PoR (Rv K) K Wx H φ Q (f d st)
section
variable {X : Cx}
theorem log_bits {i j : Int} (h : mulOk i j = true) : CMulW i j := by
  have q : i.natAbs.log2 + j.natAbs.log2 < 1000000 := of_decide_eq_true h
  exact q
theorem mkD_int {m : Bool} {i : Int} {st : Store} : mkD m (.int i) st = .ok (.p (.int i)) st := by cases m <;> rfl
theorem mkD_str {m : Bool} {i : Str} {st : Store} : mkD m (.str i) st = .ok (.p (.str i)) st := by cases m <;> rfl
theorem mkD_bool {m : Bool} {i : Bool} {st : Store} : mkD m (.bool i) st = .ok (.p (.bool i)) st := by cases m <;> rfl
theorem mkD_tup {m : Bool} {i : List PyData} {st : Store} : mkD m (.tuple i) st = .ok (.p (.tuple i)) st := by cases m <;> rfl
theorem mkD_list {m : Bool} {i : List PyData} {st : Store} : mkD m (.list i) st = mkL m i st := by cases m <;> rfl
theorem nil_of {K : PySem.W.Frag} {H : Hp} {φ : List Addr} {vs : List V} {ds : List PyData} (h : DqA K H φ vs ds) : vs = [] ↔ ds = [] := by
  cases h <;> simp
theorem op_bin (m : Bool) (op : Operator) : OpR X (binaryOp op) (rO2 X.K fun d d' => mD m (binD op d d')) := by
  intro pins s σ H x y v u Q I rx ry h
  obtain ⟨Wx, φ, st, d, d', rt, hx, hy, po⟩ := h
  dsimp only at po
  cases e : binD op d d' with
  | none =>
    rw [e] at po
    exact False.elim po
  | some r =>
    rw [e] at po
    have po : PoR (Rv X.K) X.K Wx H φ Q (mkD m r st) := po
    unfold binD at e
    split at e
    · cases e
      rw [mkD_int] at po
      rw [hx.int] at rx; rw [hy.int] at ry
      exact op_add pins s σ H _ _ v u Q I rx ry ⟨_, _, rfl, rfl, hereD rt (.int _) po⟩
    · cases e
      rw [mkD_int] at po
      rw [hx.int] at rx; rw [hy.int] at ry
      exact op_sub pins s σ H _ _ v u Q I rx ry ⟨_, _, rfl, rfl, hereD rt (.int _) po⟩
    · split at e
      · cases e
        rename_i hm _
        rw [mkD_int] at po
        rw [hx.int] at rx; rw [hy.int] at ry
        exact op_mulW pins s σ H _ _ v u Q I rx ry ⟨_, _, rfl, rfl, log_bits hm, hereD rt (.int _) po⟩
      · cases e
    · split at e
      · cases e
        rename_i hm _
        rw [mkD_int] at po
        rw [hx.int] at rx; rw [hy.int] at ry
        have hm' := Bool.and_eq_true_iff.mp hm
        exact op_fdivW pins s σ H _ _ v u Q I rx ry ⟨_, _, rfl, rfl, ⟨of_decide_eq_true hm'.1, of_decide_eq_true hm'.2⟩, hereD rt (.int _) po⟩
      · cases e
    · split at e
      · cases e
        rename_i hm _
        rw [mkD_int] at po
        rw [hx.int] at rx; rw [hy.int] at ry
        exact op_mod pins s σ H _ _ v u Q I rx ry ⟨_, _, rfl, rfl, of_decide_eq_true hm, hereD rt (.int _) po⟩
      · cases e
    · split at e
      · cases e
        rename_i hm _
        rw [mkD_list] at po
        obtain ⟨p, vs, rfl, h1, h2⟩ := hx.list
        obtain ⟨q, ws, rfl, h3, h4⟩ := hy.list
        exact op_cat pins s σ H _ _ v u Q I rx ry ⟨p, q, vs, ws, rfl, rfl, h1, h3, by rw [h2.length, h4.length]; exact hm, fun z hz => new_list rt (h2.append h4) hz po⟩
      · cases e
    · split at e
      · cases e
        rename_i hm _
        rw [mkD_tup] at po
        obtain ⟨p, vs, rfl, h1, h2⟩ := hx.tuple
        obtain ⟨q, ws, rfl, h3, h4⟩ := hy.tuple
        refine op_catA pins s σ H _ _ v u Q I rx ry ⟨p, q, vs, ws, rfl, rfl, h1, h3, by rw [h2.length, h4.length]; exact hm, fun hn => ?_, fun _ hn => ?_, fun _ _ z hz => new_tup rt (h2.append h4) hz po⟩
        · have := (nil_of h2).mp hn
          subst this
          exact hereD rt (.tup h3 h4) po
        · have := (nil_of h4).mp hn
          subst this
          rw [List.append_nil] at po
          exact hereD rt (.tup h1 h2) po
      · cases e
    · split at e
      · cases e
        rename_i hm _
        rw [mkD_str] at po
        rw [hx.str] at rx; rw [hy.str] at ry
        exact op_add_str pins s σ H _ _ v u Q I rx ry ⟨_, _, rfl, rfl, hm, hereD rt (.str _) po⟩
      · cases e
    · split at e
      · cases e
        rename_i i j hm _
        rw [mkD_int] at po
        rw [hx.int] at rx; rw [hy.int] at ry
        have sh : CShl i j := by
          have q := shl_ok (i := i) (j := j.toNat) (n := 100001) (by
            rcases Nat.eq_zero_or_pos i.natAbs with z | z
            · rw [z]; exact Nat.two_pow_pos _
            · have := (Nat.log2_lt (by omega)).mp (Nat.lt_succ_of_lt hm.2.2)
              exact this) (by omega)
          rw [Int.toNat_of_nonneg hm.1] at q
          exact q
        exact op_shlW pins s σ H _ _ v u Q I rx ry ⟨_, _, rfl, rfl, sh, hereD rt (.int _) po⟩
      · cases e
    · split at e
      · cases e
        rename_i hm _
        rw [mkD_list] at po
        obtain ⟨p, vs, rfl, h1, h2⟩ := hx.list
        rw [hy.int] at ry
        exact op_rep pins s σ H _ _ v u Q I rx ry ⟨p, _, vs, rfl, rfl, h1, by omega, hm.2.1, by rw [h2.length]; exact hm.2.2, fun z hz => new_list rt (h2.rep _) hz po⟩
      · cases e
    · split at e
      · cases e
        rename_i hm _
        rw [mkD_tup] at po
        obtain ⟨p, vs, rfl, h1, h2⟩ := hx.tuple
        rw [hy.int] at ry
        exact op_repT pins s σ H _ _ v u Q I rx ry ⟨p, _, vs, rfl, rfl, h1, fun z => by have := h2.length; rw [z] at this; have := hm.2.2.1; simp at *; omega, hm.1, hm.2.1, by rw [h2.length]; exact hm.2.2.2, fun z hz => new_tup rt (h2.rep _) hz po⟩
      · cases e
    · cases e
end
end Rk

set_option Elab.async false
set_option linter.all false
set_option maxRecDepth 100000
set_option maxHeartbeats 4000000
namespace Rk
open PySem PySem.Spec PyProof.Rows L2
section
variable {X : Cx}
theorem dict_dq {K : PySem.W.Frag} {H : Hp} {φ : List Addr} {x : V} {ds : List (PyData × PyData)} (h : Dq K H φ x (.dict ds)) : False := by cases h
/-- data that == tells apart at once -/
theorem scal_of {K : PySem.W.Frag} {H : Hp} {φ : List Addr} {x y : V} {d d' : PyData} (hx : Dt K H φ x d) (hy : Dt K H φ y d') (h : scalD d d' = true) : scal x y = true ∧ decide (x = y) = PyData.eqv d d' := by
  cases d <;> cases d' <;> first | exact absurd h Bool.false_ne_true | skip
  all_goals first | rw [hx.none] | rw [hx.int] | rw [hx.bool] | rw [hx.str]
  all_goals first | rw [hy.none] | rw [hy.int] | rw [hy.bool] | rw [hy.str]
  all_goals refine ⟨rfl, ?_⟩
  all_goals first | rfl | (simp [PyData.eqv]; done) | (rw [Bool.eq_iff_iff]; simp [PyData.eqv])
theorem flat_of {K : PySem.W.Frag} {H : Hp} {φ : List Addr} {x : V} {d : PyData} (hx : Dt K H φ x d) (h : flatD d = true) : flatV x = true := by
  cases d <;> first | exact absurd h Bool.false_ne_true | skip
  all_goals first | rw [hx.none] | rw [hx.int] | rw [hx.bool] | rw [hx.str]
  all_goals rfl
theorem eqv_of {K : PySem.W.Frag} {H : Hp} {φ : List Addr} {x y : V} {d d' : PyData} (hx : Dt K H φ x d) (hy : Dt K H φ y d') (h : flatD d = true) (h' : flatD d' = true) : eqV x y = PyData.eqv d d' := by
  cases d <;> first | exact absurd h Bool.false_ne_true | skip
  all_goals cases d' <;> first | exact absurd h' Bool.false_ne_true | skip
  all_goals first | rw [hx.none] | rw [hx.int] | rw [hx.bool] | rw [hx.str]
  all_goals first | rw [hy.none] | rw [hy.int] | rw [hy.bool] | rw [hy.str]
  all_goals first | rfl | (simp [PyData.eqv, eqV]; done)
theorem inV_of {K : PySem.W.Frag} {H : Hp} {φ : List Addr} {x : V} {d : PyData} (hx : Dt K H φ x d) (h : flatD d = true) : ∀ {vs : List V} {ds : List PyData}, DqA K H φ vs ds → ds.all flatD = true → vs.all flatV = true ∧ inV x vs = ds.any fun z => PyData.eqv z d
  | _, _, .nil, _ => ⟨rfl, rfl⟩
  | _, _, .cons a r, f => by
    rw [List.all_cons, Bool.and_eq_true] at f
    obtain ⟨h1, h2⟩ := inV_of hx h r f.2
    refine ⟨by rw [List.all_cons, flat_of (.inl a) f.1, h1]; rfl, ?_⟩
    show (List.any _ _) = _
    rw [List.any_cons, List.any_cons, eqv_of (.inl a) hx f.1 h]
    exact congrArg _ h2
theorem in_case (hx : Dt X.K H φ x d) (hy : Dt X.K H φ y d') (b : Bool) (e : inD d d' = some b) :
    (∃ p xs, y = .ref p ∧ (SqL X.K H p xs ∨ SqT X.K H p xs) ∧ flatV x = true ∧ xs.all flatV = true ∧ inV x xs = b) ∨ (∃ i j, x = .str i ∧ y = .str j ∧ (!(Builtin.Str.occurrences j i 0 j.length 1).isEmpty) = b) := by
  unfold inD at e
  split at e
  · split at e
    · rename_i hf
      obtain ⟨h1, h2⟩ := Bool.and_eq_true_iff.mp hf
      obtain ⟨p, vs, rfl, q1, q2⟩ := hy.list
      obtain ⟨f1, f2⟩ := inV_of hx h1 q2 h2
      cases e
      exact .inl ⟨p, vs, rfl, .inl (SqL.of q1), flat_of hx h1, f1, f2⟩
    · cases e
  · split at e
    · rename_i hf
      obtain ⟨h1, h2⟩ := Bool.and_eq_true_iff.mp hf
      obtain ⟨p, vs, rfl, q1, q2⟩ := hy.tuple
      obtain ⟨f1, f2⟩ := inV_of hx h1 q2 h2
      cases e
      exact .inl ⟨p, vs, rfl, .inr q1, flat_of hx h1, f1, f2⟩
    · cases e
  · split at e
    · cases e
      exact .inr ⟨_, _, hx.str, hy.str, rfl⟩
    · cases e
  · cases e
theorem relV_none {x : V} {v : Value} {d : PyData} {K : PySem.W.Frag} {H : Hp} {φ : List Addr} (hx : Dt K H φ x d) : decide (x = .non) = isNoneD d := by
  cases d with
  | none => rw [hx.none]; rfl
  | bool b => rw [hx.bool]; rfl
  | int b => rw [hx.int]; rfl
  | str b => rw [hx.str]; rfl
  | list b => obtain ⟨_, _, rfl, _⟩ := hx.list; rfl
  | tuple b => obtain ⟨_, _, rfl, _⟩ := hx.tuple; rfl
  | dict b => exact hx.dict.elim
theorem is_bool {x : V} {v : Value} {d : PyData} {c : Bool} {K : PySem.W.Frag} {H : Hp} {φ : List Addr} (hx : Dt K H φ x d) (rx : RelV x v) : plainIs v (.bool c) = true ∧ (v == Value.bool c) = isBoolD c d := by
  cases d with
  | none => rw [hx.none] at rx; cases rx; exact ⟨rfl, rfl⟩
  | bool b =>
    rw [hx.bool] at rx
    cases rx
    refine ⟨rfl, ?_⟩
    show (Value.bool b == Value.bool c) = (b == c)
    rw [Bool.eq_iff_iff]
    simp
  | int b => rw [hx.int] at rx; obtain ⟨t, rfl⟩ := rx; exact ⟨rfl, rfl⟩
  | str b => rw [hx.str] at rx; obtain ⟨t, rfl⟩ := rx; exact ⟨rfl, rfl⟩
  | list b => obtain ⟨_, _, rfl, _⟩ := hx.list; cases rx; exact ⟨rfl, rfl⟩
  | tuple b => obtain ⟨_, _, rfl, _⟩ := hx.tuple; cases rx; exact ⟨rfl, rfl⟩
  | dict b => exact hx.dict.elim
def rCm (K : PySem.W.Frag) (g : PyData → PyData → Option Bool) : R2 := fun x y H Q => ∃ (φ : List Addr) (d d' : PyData) (b : Bool), Dt K H φ x d ∧ Dt K H φ y d' ∧ g d d' = some b ∧ Q (.bl b) H
theorem op_cmp (hu : X.A.units + 64 < cLine) (op : CmpOp) : OpR X (compareOp op) (rCm X.K (cmpD op)) := by
  intro pins s σ H x y v u Q I rx ry h
  obtain ⟨φ, d, d', b, hx, hy, e, q⟩ := h
  · skip
    cases op with
    | Eq =>
      have e : eqD d d' = some b := e
      unfold eqD at e
      split at e
      · cases e
        rename_i hc
        by_cases hs : scalD d d' = true
        · obtain ⟨h1, h2⟩ := scal_of hx hy hs
          exact op_eq pins s σ H x y v u Q I rx ry ⟨h1, by rw [h2]; exact q⟩
        · obtain ⟨h1, h2⟩ := hc.resolve_left hs
          exact op_eqD hu pins s σ H x y v u Q I rx ry ⟨d, d', hx.dp, hy.dp, h1, h2, q⟩
      · cases e
    | NotEq =>
      obtain ⟨c, e', rfl⟩ := Option.map_eq_some_iff.mp (show (eqD d d').map (!·) = some b from e)
      unfold eqD at e'
      split at e'
      · cases e'
        rename_i hc
        by_cases hs : scalD d d' = true
        · obtain ⟨h1, h2⟩ := scal_of hx hy hs
          exact op_ne pins s σ H x y v u Q I rx ry ⟨h1, by rw [h2]; exact q⟩
        · obtain ⟨h1, h2⟩ := hc.resolve_left hs
          exact op_neD hu pins s σ H x y v u Q I rx ry ⟨d, d', hx.dp, hy.dp, h1, h2, q⟩
      · cases e'
    | In =>
      rcases in_case hx hy b e with ⟨p, xs, h1, h2, h3, h4, h5⟩ | ⟨i, j, h1, h2, h3⟩
      · exact op_in_seq pins s σ H x y v u Q I rx ry ⟨p, xs, h1, h2, h3, h4, by rw [if_neg Bool.false_ne_true, h5]; exact q⟩
      · exact op_in_str pins s σ H x y v u Q I rx ry ⟨i, j, h1, h2, by rw [h3]; exact q⟩
    | NotIn =>
      obtain ⟨c, e', rfl⟩ := Option.map_eq_some_iff.mp (show (inD d d').map (!·) = some b from e)
      rcases in_case hx hy c e' with ⟨p, xs, h1, h2, h3, h4, h5⟩ | ⟨i, j, h1, h2, h3⟩
      · exact op_notIn_seq pins s σ H x y v u Q I rx ry ⟨p, xs, h1, h2, h3, h4, by rw [if_pos rfl, h5]; exact q⟩
      · exact op_notIn_str pins s σ H x y v u Q I rx ry ⟨i, j, h1, h2, by rw [h3]; exact q⟩
    | Lt =>
      unfold cmpD at e
      dsimp only at e
      split at e
      · cases e
        exact op_lt pins s σ H x y v u Q I rx ry ⟨_, _, hx.int, hy.int, q⟩
      · cases e
    | LtE =>
      unfold cmpD at e
      dsimp only at e
      split at e
      · cases e
        exact op_le pins s σ H x y v u Q I rx ry ⟨_, _, hx.int, hy.int, q⟩
      · cases e
    | Gt =>
      unfold cmpD at e
      dsimp only at e
      split at e
      · cases e
        exact op_gt pins s σ H x y v u Q I rx ry ⟨_, _, hx.int, hy.int, q⟩
      · cases e
    | GtE =>
      unfold cmpD at e
      dsimp only at e
      split at e
      · cases e
        exact op_ge pins s σ H x y v u Q I rx ry ⟨_, _, hx.int, hy.int, q⟩
      · cases e
    | Is =>
      unfold cmpD at e
      dsimp only at e
      split at e
      · cases e
        exact op_isN pins s σ H x y v u Q I rx ry ⟨hy.none, by rw [relV_none (v := v) hx]; exact q⟩
      · rename_i c
        obtain ⟨p1, p2⟩ := is_bool (c := c) hx rx
        rw [hy.bool] at ry
        cases ry
        refine wpAny_is_plain p1 ⟨.bl b, H, I, ?_, q⟩
        show Value.bool _ = Value.bool _
        rw [p2, Option.some.inj e]
      · cases e
    | IsNot =>
      unfold cmpD at e
      dsimp only at e
      split at e
      · cases e
        exact op_notN pins s σ H x y v u Q I rx ry ⟨hy.none, by rw [relV_none (v := v) hx]; exact q⟩
      · rename_i c
        obtain ⟨p1, p2⟩ := is_bool (c := c) hx rx
        rw [hy.bool] at ry
        cases ry
        refine wpAny_isNot_plain p1 ⟨.bl b, H, I, ?_, q⟩
        show Value.bool _ = Value.bool _
        rw [p2, Option.some.inj e]
      · cases e
/-! ### subscripts, slices -/
theorem atI_map {α β : Type} {R : α → β → Prop} {xs : List α} {ys : List β} {i : Int} {y : β} (hl : xs.length = ys.length) (hg : ∀ (j : Nat) y, ys[j]? = some y → ∃ x, xs[j]? = some x ∧ R x y) (h : atI ys i = some y) : ∃ x, atI xs i = some x ∧ R x y := by
  unfold atI at h ⊢
  rw [hl]
  cases e : ixN ys.length i with
  | none =>
    rw [e] at h
    cases h
  | some j =>
    rw [e] at h
    exact hg j y h
theorem ix_any : IxR X (rO2 X.K fun d d' => pD (idxD d d')) := by
  intro value slice pins s σ H x y v u Q I rx ry h hs
  obtain ⟨Wx, φ, st, d, d', rt, hx, hy, po⟩ := h
  dsimp only at po
  cases e : idxD d d' with
  | none =>
    rw [e] at po
    exact False.elim po
  | some r =>
    rw [e] at po
    have po : PoR (Rv X.K) X.K Wx H φ Q (.ok (.p r) st) := po
    unfold idxD at e
    split at e
    · obtain ⟨p, vs, rfl, h1, h2⟩ := hx.list
      obtain ⟨z, h3, h4⟩ := atI_map (R := fun x y => Dq X.K H φ x y) h2.length (fun j y hy => h2.get hy) e
      rw [hy.int] at ry
      exact ix_list value slice pins s σ H _ _ v u Q I rx ry ⟨p, vs, _, z, rfl, rfl, SqL.of h1, h3, hereD rt h4 po⟩ hs
    · obtain ⟨p, vs, rfl, h1, h2⟩ := hx.tuple
      obtain ⟨z, h3, h4⟩ := atI_map (R := fun x y => Dq X.K H φ x y) h2.length (fun j y hy => h2.get hy) e
      rw [hy.int] at ry
      exact ix_tup value slice pins s σ H _ _ v u Q I rx ry ⟨p, vs, _, z, rfl, rfl, h1, h3, hereD rt h4 po⟩ hs
    · split at e
      · rename_i hz
        obtain ⟨c, h1, rfl⟩ := Option.map_eq_some_iff.mp e
        rw [hx.str] at rx
        rw [hy.int] at ry
        exact ix_str value slice pins s σ H _ _ v u Q I rx ry ⟨_, _, c, rfl, rfl, hz, h1, hereD rt (.str _) po⟩ hs
      · cases e
    · cases e
theorem cut_of {K : PySem.W.Frag} {H : Hp} {φ : List Addr} {vs : List V} {ds : List PyData} (h : DqA K H φ vs ds) (lo hi : Option Int) : DqA K H φ (cutV vs lo hi) (cutL ds lo hi) := by
  unfold cutV cutL
  rw [h.length]
  exact (h.drop _).take _
theorem cut_all {K : PySem.W.Frag} {H : Hp} {φ : List Addr} {vs : List V} {ds : List PyData} (h : DqA K H φ vs ds) (lo hi : Option Int) (e : HT.sIx vs.length 0 lo = 0 ∧ HT.sIx vs.length vs.length hi = vs.length) : cutL ds lo hi = ds := by
  unfold cutL
  rw [h.length] at e
  rw [e.1, e.2, List.drop_zero, Nat.sub_zero, List.take_length]
def rSl (K : PySem.W.Frag) : V → Option Int → Option Int → Hp → VK → Prop := fun x lo hi H Q => ∃ (Wx : Str → Hp → Prop) (φ : List Addr) (st : Store) (d : PyData), Rt K H φ st ∧ Dt K H φ x d ∧ PoR (Rv K) K Wx H φ Q (pD (slcD d lo hi) st)
theorem sl_any : SlR X (rSl X.K) := by
  intro pins s σ H x v vl vu lo hi sl Q I rx hs pl pu h
  obtain ⟨Wx, φ, st, d, rt, hx, po⟩ := h
  cases e : slcD d lo hi with
  | none =>
    rw [e] at po
    exact False.elim po
  | some r =>
    rw [e] at po
    have po : PoR (Rv X.K) X.K Wx H φ Q (.ok (.p r) st) := po
    unfold slcD at e
    split at e
    · cases e
      obtain ⟨p, vs, rfl, h1, h2⟩ := hx.list
      refine sl_list pins s σ H _ v vl vu lo hi sl Q I rx hs pl pu ⟨p, vs, rfl, SqL.of h1, fun z hz => ?_⟩
      exact new_list (m := false) rt (cut_of h2 lo hi) hz po
    · cases e
      obtain ⟨p, vs, rfl, h1, h2⟩ := hx.tuple
      refine sl_tupA pins s σ H _ v vl vu lo hi sl Q I rx hs pl pu ⟨p, vs, rfl, h1, fun hw => ?_, fun hw z hz => ?_⟩
      · rw [cut_all h2 lo hi hw] at po
        exact hereD rt (.tup h1 h2) po
      · exact new_tup rt (cut_of h2 lo hi) hz po
    · cases e
end
end Rk

set_option Elab.async false
set_option linter.all false
set_option maxRecDepth 100000
set_option maxHeartbeats 4000000
namespace Rk
open PySem PySem.Spec PyProof.Rows L2
/-- what every place of a run has -/
structure Fit (X : Cx) : Prop where
  calm : X.calm = true
  room : X.A.units + 150 < cLine
  hd : X.A.handled = none
  gd : X.A.guards = some []
section
variable {X : Cx}
theorem max_spec : ∀ (ns : List Int) (m : Int), (maxI m ns = m ∨ maxI m ns ∈ ns) ∧ m ≤ maxI m ns ∧ ∀ y ∈ ns, y ≤ maxI m ns
  | [], m => ⟨.inl rfl, Int.le_refl _, fun _ h => by cases h⟩
  | x :: r, m => by
    obtain ⟨h1, h2, h3⟩ := max_spec r (if m < x then x else m)
    refine ⟨?_, ?_, fun y hy => ?_⟩
    · show maxI (if m < x then x else m) r = m ∨ maxI (if m < x then x else m) r ∈ x :: r
      rcases h1 with h1 | h1
      · split at h1
        · right; rw [if_pos (by assumption), h1]; exact List.mem_cons_self
        · left; rw [if_neg (by assumption), h1]
      · exact .inr (List.mem_cons_of_mem _ h1)
    · show m ≤ maxI (if m < x then x else m) r
      split at h2 <;> (rename_i hc; first | rw [if_pos hc] at h3 ⊢ | rw [if_neg hc] at h3 ⊢) <;> omega
    · show y ≤ maxI (if m < x then x else m) r
      rcases List.mem_cons.mp hy with rfl | hy
      · split at h2 <;> (rename_i hc; first | rw [if_pos hc] at h3 ⊢ | rw [if_neg hc] at h3 ⊢) <;> omega
      · exact h3 y hy
theorem min_spec : ∀ (ns : List Int) (m : Int), (minI m ns = m ∨ minI m ns ∈ ns) ∧ minI m ns ≤ m ∧ ∀ y ∈ ns, minI m ns ≤ y
  | [], m => ⟨.inl rfl, Int.le_refl _, fun _ h => by cases h⟩
  | x :: r, m => by
    obtain ⟨h1, h2, h3⟩ := min_spec r (if x < m then x else m)
    refine ⟨?_, ?_, fun y hy => ?_⟩
    · show minI (if x < m then x else m) r = m ∨ minI (if x < m then x else m) r ∈ x :: r
      rcases h1 with h1 | h1
      · split at h1
        · right; rw [if_pos (by assumption), h1]; exact List.mem_cons_self
        · left; rw [if_neg (by assumption), h1]
      · exact .inr (List.mem_cons_of_mem _ h1)
    · show minI (if x < m then x else m) r ≤ m
      split at h2 <;> (rename_i hc; first | rw [if_pos hc] at h3 ⊢ | rw [if_neg hc] at h3 ⊢) <;> omega
    · show minI (if x < m then x else m) r ≤ y
      rcases List.mem_cons.mp hy with rfl | hy
      · split at h2 <;> (rename_i hc; first | rw [if_pos hc] at h3 ⊢ | rw [if_neg hc] at h3 ⊢) <;> omega
      · exact h3 y hy
theorem insI_perm (x : Int) : ∀ l : List Int, (insI x l).Perm (x :: l)
  | [] => List.Perm.refl _
  | y :: r => by
    unfold insI
    split
    · exact List.Perm.refl _
    · exact ((insI_perm x r).cons y).trans (List.Perm.swap x y r)
theorem sortI_perm : ∀ l : List Int, (sortI l).Perm l
  | [] => List.Perm.refl _
  | x :: r => (insI_perm x (sortI r)).trans ((sortI_perm r).cons x)
theorem insI_sorted (x : Int) : ∀ l : List Int, l.Pairwise (· ≤ ·) → (insI x l).Pairwise (· ≤ ·)
  | [], _ => by simp [insI]
  | y :: r, h => by
    obtain ⟨h1, h2⟩ := List.pairwise_cons.mp h
    unfold insI
    split
    · rename_i hc
      refine List.pairwise_cons.mpr ⟨fun z hz => ?_, h⟩
      rcases List.mem_cons.mp hz with rfl | hz
      · exact hc
      · have := h1 z hz; omega
    · rename_i hc
      refine List.pairwise_cons.mpr ⟨fun z hz => ?_, insI_sorted x r h2⟩
      rcases List.mem_cons.mp ((insI_perm x r).mem_iff.mp hz) with rfl | hz
      · omega
      · exact h1 z hz
theorem sortI_sorted : ∀ l : List Int, (sortI l).Pairwise (· ≤ ·)
  | [] => List.Pairwise.nil
  | x :: r => insI_sorted x _ (sortI_sorted r)
theorem DqA.bls {K : PySem.W.Frag} {H : Hp} {φ : List Addr} : ∀ {bs : List Bool}, DqA K H φ (bs.map V.bl) (bs.map PyData.bool)
  | [] => .nil
  | _ :: _ => .cons (.bl _) DqA.bls
def b1V : B1 → Value
  | .len => .builtin "len" | .abs => .builtin "abs" | .int => .type "int" | .str => .type "str" | .repr => .builtin "repr" | .tup => .type "tuple" | .list => .type "list"
  | .sum => .builtin "sum" | .all => .builtin "all" | .any => .builtin "any" | .max => .builtin "max" | .min => .builtin "min" | .sorted => .builtin "sorted"
def rB1 (K : PySem.W.Frag) (f : PyData → M Val) : List V → Hp → VK → Prop := fun xs H Q => ∃ x, xs = [x] ∧ rO1 K f x H Q
theorem repr_any (F : Fit X) {pins : List (Addr × Obj)} {s : Shared} {σ : L2.St} {H : Hp} {x : V} {u : Value} {Q : VK} {d : PyData} {φ : List Addr} (I : Inv X pins σ H s) (r : RelV x u) (hx : Dt X.K H φ x d) (hs : showOk d = true) (q : Q (.str d.shown) H) :
    wpAny (model X.prog X.w) X.A (call (.builtin "repr") [u]) (EP X pins σ Q) X.xe s := by
  unfold showOk at hs
  rw [Bool.and_eq_true, Bool.and_eq_true, Bool.and_eq_true] at hs
  obtain ⟨⟨⟨s1, s2⟩, s3⟩, s4⟩ := hs
  have s2 := of_decide_eq_true s2
  have s4 := of_decide_eq_true s4
  have hu := F.room
  obtain ⟨as, rd⟩ := Dp.reads I d x u hx.dp r
  have byRef : ∀ a, u = .ref a → wpAny (model X.prog X.w) X.A (call (.builtin "repr") [u]) (EP X pins σ Q) X.xe s := fun a e => by
    subst e
    exact repr_of_reads' rd s3 (PyData.noDict_hsm (PyData.hasDict_of_canLay d s1)) F.gd (by omega) (fun _ _ e => e) (fun h' t tk hk => ⟨.str d.shown, H, I.kept (h' := h') (t' := tk) hk, ⟨_, rfl⟩, q⟩) s4
  cases d with
  | none => rw [hx.none] at r; cases r; exact PySem.P.repr_of_none ⟨.str _, H, I.tok _, ⟨_, rfl⟩, q⟩
  | bool b => rw [hx.bool] at r; cases r; exact PySem.P.repr_of_bool ⟨.str _, H, I.tok _, ⟨_, rfl⟩, q⟩
  | int i =>
    rw [hx.int] at r
    obtain ⟨t, rfl⟩ := r
    exact PySem.P.repr_of_int (of_decide_eq_true s3) ⟨.str _, H, I.tok _, ⟨_, rfl⟩, q⟩
  | str z =>
    rw [hx.str] at r
    obtain ⟨t, rfl⟩ := r
    exact PySem.P.repr_of_str ⟨.str _, H, I.tok _, ⟨_, rfl⟩, q⟩ s4
  | list ds => obtain ⟨p, _, rfl, _⟩ := hx.list; exact byRef p r
  | tuple ds => obtain ⟨p, _, rfl, _⟩ := hx.tuple; exact byRef p r
  | dict ds => exact hx.dict.elim
theorem hold_ints {h : Heap} : ∀ {ns : List Int} {us : List Value}, Vals (ns.map V.int) us → PySem.W.HoldAll h us ns
  | [], us, r => by
    rw [List.map_nil] at r
    cases r
    exact ⟨[], .nil⟩
  | n :: ns, us, r => by
    rw [List.map_cons] at r
    cases r with
    | cons r1 r2 =>
      obtain ⟨t, rfl⟩ := r1
      obtain ⟨as, q⟩ := hold_ints (h := h) r2
      exact ⟨_, .cons (.int n t) q⟩
theorem maxOf_eq : ∀ (ns : List Int) (n : Int), PySem.W.maxOf n ns = maxI n ns
  | [], _ => rfl
  | x :: r, n => by
    show PySem.W.maxOf (if PySem.W.DatumOrd.lt n x = true then x else n) r = maxI (if n < x then x else n) r
    rw [maxOf_eq r]
    congr 1
    show (if decide (n < x) = true then x else n) = _
    simp
theorem minOf_eq : ∀ (ns : List Int) (n : Int), PySem.W.minOf n ns = minI n ns
  | [], _ => rfl
  | x :: r, n => by
    show PySem.W.minOf (if PySem.W.DatumOrd.lt x n = true then x else n) r = minI (if x < n then x else n) r
    rw [minOf_eq r]
    congr 1
    show (if decide (x < n) = true then x else n) = _
    simp
theorem max_tup {X : Cx} (F : Fit X) {pins : List (Addr × Obj)} {s : Shared} {σ : L2.St} {H : Hp} {p : Addr} {n : Int} {ns : List Int} {Q : VK} (I : Inv X pins σ H s) (hT : SqT X.K H p ((n :: ns).map V.int)) (q : Q (.int (maxI n ns)) H) :
    wpAny (model X.prog X.w) X.A (call (.builtin "max") [.ref p]) (EP X pins σ Q) X.xe s := by
  have hu := F.room
  obtain ⟨its, rv, hl, _⟩ := I.tuple hT
  refine PySem.W.max_tuple_datum (x := n) (xs := ns) F.hd hl (hold_ints rv) (by show X.A.units + 1 + 0 < cLine; omega) fun i v h' tk hv hh hk => ?_
  rw [maxOf_eq] at hh
  obtain ⟨as, hh⟩ := hh
  cases hh
  exact ⟨.int _, H, I.kept (h' := h') (t' := tk) hk, ⟨_, rfl⟩, q⟩
theorem min_tup {X : Cx} (F : Fit X) {pins : List (Addr × Obj)} {s : Shared} {σ : L2.St} {H : Hp} {p : Addr} {n : Int} {ns : List Int} {Q : VK} (I : Inv X pins σ H s) (hT : SqT X.K H p ((n :: ns).map V.int)) (q : Q (.int (minI n ns)) H) :
    wpAny (model X.prog X.w) X.A (call (.builtin "min") [.ref p]) (EP X pins σ Q) X.xe s := by
  have hu := F.room
  obtain ⟨its, rv, hl, _⟩ := I.tuple hT
  refine PySem.W.min_tuple_datum (x := n) (xs := ns) F.hd hl (hold_ints rv) (by show X.A.units + 1 + 0 < cLine; omega) fun i v h' tk hv hh hk => ?_
  rw [minOf_eq] at hh
  obtain ⟨as, hh⟩ := hh
  cases hh
  exact ⟨.int _, H, I.kept (h' := h') (t' := tk) hk, ⟨_, rfl⟩, q⟩
theorem call_b1 (F : Fit X) (m : Bool) (f : B1) : CallR X (b1V f) (rB1 X.K fun d => mD m (b1D f d)) := by
  intro pins s σ H xs us Q I r h
  obtain ⟨x, rfl, Wx, φ, st, d, rt, hx, po⟩ := h
  dsimp only at po
  cases e : b1D f d with
  | none =>
    rw [e] at po
    exact False.elim po
  | some z =>
    rw [e] at po
    have po : PoR (Rv X.K) X.K Wx H φ Q (mkD m z st) := po
    cases f with
    | len =>
      obtain ⟨n, e1, rfl⟩ := Option.map_eq_some_iff.mp (show (lenD d).map PyData.int = some z from e)
      rw [mkD_int] at po
      have q := hereD rt (.int n) po
      unfold lenD at e1
      split at e1
      · cases e1
        obtain ⟨p, vs, rfl, h1, h2⟩ := hx.list
        exact call_len_seq pins s σ H _ us Q I r ⟨p, vs, rfl, .inl (SqL.of h1), by rw [h2.length]; exact q⟩
      · cases e1
        obtain ⟨p, vs, rfl, h1, h2⟩ := hx.tuple
        exact call_len_seq pins s σ H _ us Q I r ⟨p, vs, rfl, .inr h1, by rw [h2.length]; exact q⟩
      · split at e1
        · cases e1
          rename_i hz _
          rw [hx.str] at r
          exact call_len_str pins s σ H _ us Q I r ⟨_, rfl, hz, q⟩
        · cases e1
      · cases e1
    | abs =>
      unfold b1D at e
      dsimp only at e
      split at e
      · cases e
        rw [mkD_int] at po
        rw [hx.int] at r
        exact call_abs pins s σ H _ us Q I r ⟨_, rfl, hereD rt (.int _) po⟩
      · cases e
    | int =>
      unfold b1D at e
      dsimp only at e
      split at e
      · cases e
        rw [mkD_int] at po
        rw [hx.int] at r
        exact call_int1 pins s σ H _ us Q I r (.inl ⟨_, rfl, hereD rt (.int _) po⟩)
      · cases e
        rw [mkD_int] at po
        rw [hx.bool] at r
        exact call_int1 pins s σ H _ us Q I r (.inr ⟨_, rfl, hereD rt (.int _) po⟩)
      · cases e
    | str =>
      unfold b1D at e
      dsimp only at e
      split at e
      · split at e
        · cases e
          rename_i hz _
          rw [mkD_str] at po
          rw [hx.int] at r
          exact call_str_int pins s σ H _ us Q I r ⟨_, rfl, hz, hereD rt (.str _) po⟩
        · cases e
      · cases e
    | repr =>
      unfold b1D at e
      dsimp only at e
      split at e
      · cases e
        rename_i hz _
        rw [mkD_str] at po
        obtain ⟨u, rfl, r1⟩ := Vals.one r
        exact repr_any F I r1 hx hz (hereD rt (.str _) po)
      · cases e
    | tup =>
      unfold b1D at e
      dsimp only at e
      split at e
      · cases e
        rw [mkD_tup] at po
        obtain ⟨p, vs, rfl, h1, h2⟩ := hx.list
        exact call_tuple_of pins s σ H _ us Q I r ⟨p, vs, rfl, .inl ⟨SqL.of h1, fun l hl => new_tup rt h2 hl po⟩⟩
      · cases e
        rw [mkD_tup] at po
        obtain ⟨p, vs, rfl, h1, h2⟩ := hx.tuple
        exact call_tuple_of pins s σ H _ us Q I r ⟨p, vs, rfl, .inr ⟨h1, hereD rt (.tup h1 h2) po⟩⟩
      · cases e
    | list =>
      unfold b1D at e
      dsimp only at e
      split at e
      · cases e
        rw [mkD_list] at po
        obtain ⟨p, vs, rfl, h1, h2⟩ := hx.list
        exact call_list_of pins s σ H _ us Q I r ⟨p, vs, rfl, .inl (SqL.of h1), fun l hl => new_list rt h2 hl po⟩
      · cases e
        rw [mkD_list] at po
        obtain ⟨p, vs, rfl, h1, h2⟩ := hx.tuple
        exact call_list_of pins s σ H _ us Q I r ⟨p, vs, rfl, .inr h1, fun l hl => new_list rt h2 hl po⟩
      · cases e
    | sum =>
      unfold b1D at e
      dsimp only at e
      split at e
      · obtain ⟨ns, e1, rfl⟩ := Option.map_eq_some_iff.mp e
        rw [mkD_int] at po
        obtain ⟨p, vs, rfl, h1, h2⟩ := hx.list
        obtain ⟨rfl, _⟩ := h2.of_ints e1
        exact cr_sum F.calm pins s σ H _ us Q I r ⟨p, ns, rfl, SqL.of h1, hereD rt (.int _) po⟩
      · cases e
    | all =>
      unfold b1D at e
      dsimp only at e
      split at e
      · obtain ⟨ns, e1, rfl⟩ := Option.map_eq_some_iff.mp e
        rw [mkD_bool] at po
        obtain ⟨p, vs, rfl, h1, h2⟩ := hx.list
        obtain ⟨rfl, _⟩ := h2.of_bools e1
        exact cr_all F.calm pins s σ H _ us Q I r ⟨p, ns, rfl, SqL.of h1, hereD rt (.bl _) po⟩
      · cases e
    | any =>
      unfold b1D at e
      dsimp only at e
      split at e
      · obtain ⟨ns, e1, rfl⟩ := Option.map_eq_some_iff.mp e
        rw [mkD_bool] at po
        obtain ⟨p, vs, rfl, h1, h2⟩ := hx.list
        obtain ⟨rfl, _⟩ := h2.of_bools e1
        exact cr_any F.calm pins s σ H _ us Q I r ⟨p, ns, rfl, SqL.of h1, hereD rt (.bl _) po⟩
      · cases e
    | max =>
      unfold b1D at e
      dsimp only at e
      split at e
      · split at e
        · cases e
          rename_i n ns e1 _
          rw [mkD_int] at po
          have q := hereD rt (.int _) po
          obtain ⟨p, vs, rfl, h1, h2⟩ := hx.list
          obtain ⟨rfl, _⟩ := h2.of_ints e1
          refine cr_max F.calm pins s σ H _ us Q I r ⟨p, n :: ns, rfl, SqL.of h1, by simp, fun k hk hy => ?_⟩
          obtain ⟨a1, a2, a3⟩ := max_spec ns n
          have b1 : k ≤ maxI n ns := by
            rcases List.mem_cons.mp hk with rfl | hk
            · exact a2
            · exact a3 k hk
          have b2 : maxI n ns ≤ k := by
            rcases a1 with a1 | a1
            · rw [a1]; exact hy n List.mem_cons_self
            · exact hy _ (List.mem_cons_of_mem _ a1)
          rw [Int.le_antisymm b1 b2]
          exact q
        · cases e
      · split at e
        · cases e
          rename_i n ns e1 _
          rw [mkD_int] at po
          have q := hereD rt (.int _) po
          obtain ⟨p, vs, rfl, h1, h2⟩ := hx.tuple
          obtain ⟨rfl, _⟩ := h2.of_ints e1
          rw [Vals.ref1 r]
          exact max_tup F I h1 q
        · cases e
      · cases e
    | min =>
      unfold b1D at e
      dsimp only at e
      split at e
      · split at e
        · cases e
          rename_i n ns e1 _
          rw [mkD_int] at po
          have q := hereD rt (.int _) po
          obtain ⟨p, vs, rfl, h1, h2⟩ := hx.list
          obtain ⟨rfl, _⟩ := h2.of_ints e1
          refine cr_min F.calm pins s σ H _ us Q I r ⟨p, n :: ns, rfl, SqL.of h1, by simp, fun k hk hy => ?_⟩
          obtain ⟨a1, a2, a3⟩ := min_spec ns n
          have b1 : minI n ns ≤ k := by
            rcases List.mem_cons.mp hk with rfl | hk
            · exact a2
            · exact a3 k hk
          have b2 : k ≤ minI n ns := by
            rcases a1 with a1 | a1
            · rw [a1]; exact hy n List.mem_cons_self
            · exact hy _ (List.mem_cons_of_mem _ a1)
          rw [Int.le_antisymm b2 b1]
          exact q
        · cases e
      · split at e
        · cases e
          rename_i n ns e1 _
          rw [mkD_int] at po
          have q := hereD rt (.int _) po
          obtain ⟨p, vs, rfl, h1, h2⟩ := hx.tuple
          obtain ⟨rfl, _⟩ := h2.of_ints e1
          rw [Vals.ref1 r]
          exact min_tup F I h1 q
        · cases e
      · cases e
    | sorted =>
      unfold b1D at e
      dsimp only at e
      split at e
      · split at e
        · split at e
          · cases e
            rename_i ns e1 hl _
            rw [mkD_list] at po
            obtain ⟨p, vs, rfl, h1, h2⟩ := hx.list
            obtain ⟨rfl, _⟩ := h2.of_ints e1
            refine cr_sorted pins s σ H _ us Q I r ⟨p, ns, rfl, SqL.of h1, hl, fun ns' l hp ho hl => ?_⟩
            have es : ns' = sortI ns := PySem.W.ksm_same (hp.trans (sortI_perm ns).symm) ho (sortI_sorted ns)
            subst es
            exact new_list rt DqA.ints hl po
          · cases e
        · cases e
      · cases e
def b2V : B2 → Value
  | .max => .builtin "max" | .min => .builtin "min"
def rB2 (K : PySem.W.Frag) (f : PyData → PyData → M Val) : List V → Hp → VK → Prop := fun xs H Q => ∃ x y, xs = [x, y] ∧ rO2 K f x y H Q
theorem call_b2 (F : Fit X) (f : B2) : CallR X (b2V f) (rB2 X.K fun d d' => pD (b2D f d d')) := by
  intro pins s σ H xs us Q I r h
  obtain ⟨x, y, rfl, Wx, φ, st, d, d', rt, hx, hy, po⟩ := h
  dsimp only at po
  cases e : b2D f d d' with
  | none =>
    rw [e] at po
    exact False.elim po
  | some z =>
    rw [e] at po
    have po : PoR (Rv X.K) X.K Wx H φ Q (.ok (.p z) st) := po
    unfold b2D at e
    split at e
    · cases e
      rw [hx.int, hy.int] at r
      exact call_max2 F.calm pins s σ H _ us Q I r ⟨_, _, rfl, hereD rt (.int _) po⟩
    · cases e
      rw [hx.int, hy.int] at r
      exact call_min2 F.calm pins s σ H _ us Q I r ⟨_, _, rfl, hereD rt (.int _) po⟩
    · cases e
def tyN : Ty → String
  | .int => "int" | .str => "str" | .tup => "tuple" | .list => "list"
theorem ty_of {K : PySem.W.Frag} {H : Hp} {φ : List Addr} {x : V} {d : PyData} {T : Ty} {b : Bool} (hx : Dt K H φ x d) (h : tyD T d = some b) : ∃ t, TyX K H x t ∧ PySem.W.kitOne K t (.type (tyN T)) = some b := by
  cases d with
  | none =>
    rw [hx.none]
    refine ⟨_, .base .non, kit_ty ?_⟩
    cases h
    cases T <;> decide +kernel
  | bool c =>
    rw [hx.bool]
    refine ⟨_, .base (.bl c), kit_ty ?_⟩
    cases h
    cases T <;> decide +kernel
  | int c =>
    rw [hx.int]
    refine ⟨_, .base (.int c), kit_ty ?_⟩
    cases h
    cases T <;> decide +kernel
  | str c =>
    rw [hx.str]
    refine ⟨_, .base (.str c), kit_ty ?_⟩
    cases h
    cases T <;> decide +kernel
  | list c =>
    obtain ⟨p, vs, rfl, h1, _⟩ := hx.list
    refine ⟨_, .base (.lst h1), kit_ty ?_⟩
    cases h
    cases T <;> decide +kernel
  | tuple c =>
    obtain ⟨p, vs, rfl, h1, _⟩ := hx.tuple
    have k : kitB "tuple" (tyN T) = some b := by
      cases h
      cases T <;> decide +kernel
    rcases h1 with (h1 | ⟨o, h1⟩) | ⟨o, its, n, h1, h2, _⟩
    · exact ⟨_, .base (.tup h1), kit_ty k⟩
    · exact ⟨_, .fTuple h1, kit_ty k⟩
    · exact ⟨_, .kTuple h1 h2, kit_ty k⟩
  | dict c => exact hx.dict.elim
def rTy (K : PySem.W.Frag) (T : Ty) : List V → Hp → VK → Prop := fun xs H Q => ∃ x, xs = [x, .ty (tyN T)] ∧ ∃ (φ : List Addr) (d : PyData) (b : Bool), Dt K H φ x d ∧ tyD T d = some b ∧ Q (.bl b) H
theorem call_ty (T : Ty) : CallR X (.builtin "isinstance") (rTy X.K T) := by
  intro pins s σ H xs us Q I r h
  obtain ⟨x, rfl, φ, d, b, hx, e, q⟩ := h
  obtain ⟨t, h1, h2⟩ := ty_of hx e
  exact call_isi pins s σ H _ us Q I r ⟨x, _, t, _, b, rfl, .ty _, h1, h2, q⟩
end
end Rk

set_option Elab.async false
set_option linter.all false
set_option maxRecDepth 100000
set_option maxHeartbeats 4000000
namespace Rk
open PySem PySem.Spec PyProof.Rows L2
/-! ### promises of defs, with the guards told -/
structure FnG (P : Program) (w : World) (K : PySem.W.Frag) (mg : Str → Option Value) (base : Heap) (k : Nat) (f : Addr) (fd : FuncData) (ps : List Str) (sp : Sp) : Prop where
  len : ∀ vs H Q E, sp vs H Q E → vs.length = ps.length
  run : ∀ (A : Around) (outer : List PySem.Env) (s : Shared) (H : Hp) (args : Args) (us : List Value) (vs : List V) (Q : VK) (E : XK), A.guards = some [] → Room k A → Env0 P w K mg base A outer s H → BindsTo s fd args (ps.zip us) → Vals vs us → sp vs H Q E →
    codeAny (model P w) A (.call (.ref f) args) (CR (L2.CX P w) outer P w H s Q E) s
/-- what a def promises: what its meaning says -/
def spF (K : PySem.W.Frag) (C : Str → Addr) (np : Nat) (F : Fn) : Sp := fun xs H Q E => xs.length = np ∧ ∃ (vs : List Val) (st : Store) (φ : List Addr), Paired (Rv K H φ) xs vs ∧ Rt K H φ st ∧ PoR (Rv K) K (fun c H' => E (.ref (C c)) none H') H φ Q (F vs st)
/-- the tables of a law -/
structure Lw where
  tab : Nat → Option FnIR
  nm : Nat → Str
  cst : List (Str × PyData)
  exs : List Str
  knm : Str
  kc : Str
  kh : List (Str × PyData)
def bltNames : List Str := ["len", "abs", "int", "str", "repr", "tuple", "list", "sum", "all", "any", "max", "min", "sorted", "range", "zip", "enumerate", "isinstance", "ValueError"]
/-- what the def promises that names the exception which a suite holds -/
structure FnK (P : Program) (w : World) (K : PySem.W.Frag) (mg : Str → Option Value) (base : Heap) (C : Str → Addr) (kh : List (Str × PyData)) (k : Nat) (f : Addr) (fd : FuncData) (ps : List Str) : Prop where
  len : ps.length = 1
  run : ∀ (A : Around) (outer : List PySem.Env) (s : Shared) (H : Hp) (args : Args) (Q : VK) (E : XK) (a : Addr) (oe : Obj) (c : Str) (d : PyData) (φ : List Addr) (st : Store), A.guards = some [] → L2H.RoomH k A → L2H.PinOk outer H s (a, oe) → Zc (.ref (C c)) none oe → (∃ vs, oe.data = .fields vs) → (c, d) ∈ kh →
    Env0 P w K mg base A outer s H → BindsTo s fd args (ps.zip [.ref a]) → Rt K H φ st → PoR (Rv K) K (fun _ _ => False) H φ Q (.ok (.p d) st) → codeAny (model P w) A (.call (.ref f) args) (CR (L2.CX P w) outer P w H s Q E) s
structure Wd (P : Program) (w : World) (K : PySem.W.Frag) (mg : Str → Option Value) (base : Heap) (A : Around) (L : Lw) (T : Nat → Fn) (C : Str → Addr) (n : Nat) : Prop where
  room : Room n A
  gd : A.guards = some []
  fns : ∀ j f, L.tab j = some f → (∃ (a : Addr) (fd : FuncData) (ps : List Str), mg (L.nm j) = some (.ref a) ∧ PySem.W.keepIn K (.ref a) = true ∧ Binds K fd ps [] ∧ FnG P w K mg base n a fd ps (spF K C f.np (T j))) ∧ ∀ vs st, vs.length ≠ f.np → T j vs st = .no
  cst : ∀ x d, (x, d) ∈ L.cst → ∃ v u, mg x = some u ∧ RelV v u ∧ ∀ H φ, Dq K H φ v d
  blt : ∀ x ∈ bltNames, mg x = none
  exs : ∀ c ∈ L.exs, mg c = some (.ref (C c)) ∧ PySem.W.keepIn K (.ref (C c)) = true ∧ PySem.W.subIn K (.ref (C c)) (.type "BaseException") = some true ∧ PySem.W.typeIn K (.ref (C c)) = some (.type "type") ∧
    PySem.W.excIn K (C c) [.type "ValueError", .type "Exception", .type "BaseException", .type "object"] "ValueError.__new__" = true
  knd : ∀ c d, (c, d) ∈ L.kh → mg L.kc = some (.ref (C L.kc)) ∧ PySem.W.exmOne K (.ref (C c)) (.ref (C L.kc)) = some true ∧ ∃ (a : Addr) (fd : FuncData) (ps : List Str), mg L.knm = some (.ref a) ∧ PySem.W.keepIn K (.ref a) = true ∧ Binds K fd ps [] ∧ FnK P w K mg base C L.kh n a fd ps
/-- a def's names, its scope -/
structure Sc where
  N : List Str
  sc : Scope
  fn : Str → Bool
structure Gd (X : Cx) (W : WX) (L : Lw) (T : Nat → Fn) (C : Str → Addr) (n : Nat) (S : Sc) : Prop where
  wd : Wd X.prog X.w X.K X.mg X.base X.A L T C n
  calm : X.calm = true
  hN : X.N = S.N
  nd : S.N.Nodup
  sc : X.env.scope = S.sc
  fn : X.fn = S.fn
  tk : Takes X W
section
variable {X : Cx} {W : WX} {L : Lw} {T : Nat → Fn} {C : Str → Addr} {n : Nat} {S : Sc}
theorem Gd.fit (G : Gd X W L T C n S) : Fit X := ⟨G.calm, by have := G.wd.room.un; omega, G.wd.room.hd, G.wd.gd⟩
theorem Gd.units (G : Gd X W L T C n S) : X.A.units + 64 < cLine := by have := G.wd.room.un; omega
theorem Gd.ndX (G : Gd X W L T C n S) : X.N.Nodup := by rw [G.hN]; exact G.nd
end

/-! ### readings -/
def rdE {α β : Type} (K : PySem.W.Frag) (C : Str → Addr) (W : WX) (rel : Hp → List Addr → β → α → Prop) (m : Env → M α) : L2.St → Hp → (β → Hp → Prop) → Prop := fun σ H Q =>
  ∃ (e : Env) (st : Store) (φ : List Addr), Re K H φ σ e ∧ Rt K H φ st ∧ PoR rel K (fun c H' => W (.ref (C c)) none σ H') H φ Q (m e st)
abbrev eqR {α : Type} : Hp → List Addr → α → α → Prop := fun _ _ x y => x = y
abbrev rvA (K : PySem.W.Frag) : Hp → List Addr → List V → List Val → Prop := fun H φ xs vs => Paired (Rv K H φ) xs vs
abbrev SE (X : Cx) (W : WX) (C : Str → Addr) (x : Expr) (m : Env → M Val) : Prop := PE X x (rdE X.K C W (Rv X.K) m)
abbrev SB (X : Cx) (W : WX) (C : Str → Addr) (x : Expr) (m : Env → M Bool) : Prop := PT X x (rdE X.K C W eqR m)
abbrev SA (X : Cx) (W : WX) (C : Str → Addr) (xs : List Expr) (m : Env → M (List Val)) : Prop := PA X xs (rdE X.K C W (rvA X.K) m)
abbrev SO (X : Cx) (W : WX) (C : Str → Addr) (x : Option Expr) (m : Env → M (Option Int)) : Prop := PO X x (rdE X.K C W eqR m)
section
variable {X : Cx} {W : WX} {C : Str → Addr} {K : PySem.W.Frag} {σ : L2.St} {H : Hp}
theorem weakE {e : Expr} {t t' : TE} (h : PE X e t) (i : ∀ σ H Q, t' σ H Q → t σ H Q) : PE X e t' := ⟨fun pins s σ H Q I q => h.run pins s σ H Q I (i σ H Q q)⟩
theorem weakT {e : Expr} {t t' : TT} (h : PT X e t) (i : ∀ σ H Q, t' σ H Q → t σ H Q) : PT X e t' := ⟨fun pins s σ H Q I q => h.run pins s σ H Q I (i σ H Q q)⟩
theorem weakA {e : List Expr} {t t' : TA} (h : PA X e t) (i : ∀ σ H Q, t' σ H Q → t σ H Q) : PA X e t' := ⟨fun pos pins s σ H Q I q => h.run pos pins s σ H Q I (i σ H Q q)⟩
theorem weakO {e : Option Expr} {t t' : TO} (h : PO X e t) (i : ∀ σ H Q, t' σ H Q → t σ H Q) : PO X e t' := ⟨fun pins s σ H Q I q => h.run pins s σ H Q I (i σ H Q q)⟩
/-- a meaning in two steps, read in two steps -/
theorem rd_bind {α β γ δ : Type} {rel : Hp → List Addr → β → α → Prop} {rel2 : Hp → List Addr → δ → γ → Prop} {ma : Env → M α} {f : Env → α → M γ} {Q : δ → Hp → Prop} (h : rdE K C W rel2 (fun e => M.bind (ma e) (f e)) σ H Q) :
    rdE K C W rel ma σ H fun x H1 => ∃ (e : Env) (v : α) (st : Store) (φ : List Addr), Re K H1 φ σ e ∧ Rt K H1 φ st ∧ rel H1 φ x v ∧ PoR rel2 K (fun c H' => W (.ref (C c)) none σ H') H1 φ Q (f e v st) := by
  obtain ⟨e, st, φ, re, rt, po⟩ := h
  exact ⟨e, st, φ, re, rt, (PoR.bind (rel := rel) po).imp fun x H1 ⟨v, st1, φ1, s1, rt1, rv, po1⟩ => ⟨e, v, st1, φ1, re.mono s1 rt.lst, rt1, rv, po1⟩⟩
/-- a value carried over a later step -/
theorem rd_bind2 {α β γ δ : Type} {rel : Hp → List Addr → β → α → Prop} {rel2 : Hp → List Addr → δ → γ → Prop} {e : Env} {st : Store} {φ : List Addr} {m : Env → M α} {f : Env → α → M γ} {Q : δ → Hp → Prop} {x : V} {v : Val} (re : Re K H φ σ e) (rt : Rt K H φ st) (rv : Rv K H φ x v)
    (po : PoR rel2 K (fun c H' => W (.ref (C c)) none σ H') H φ Q (M.bind (m e) (f e) st)) :
    rdE K C W rel m σ H fun y H1 => ∃ (u : α) (st : Store) (φ : List Addr), Re K H1 φ σ e ∧ Rt K H1 φ st ∧ Rv K H1 φ x v ∧ rel H1 φ y u ∧ PoR rel2 K (fun c H' => W (.ref (C c)) none σ H') H1 φ Q (f e u st) :=
  ⟨e, st, φ, re, rt, (PoR.bind (rel := rel) po).imp fun y H1 ⟨u, st1, φ1, s1, rt1, ru, po1⟩ => ⟨u, st1, φ1, re.mono s1 rt.lst, rt1, rv.mono s1 rt.lst, ru, po1⟩⟩

/-! ### leaves -/
theorem s_val {e : Expr} {v : V} {d : PyData} (h : PE X e (tC v)) (q : ∀ H φ, Dq X.K H φ v d) : SE X W C e (fun _ => M.ret (.p d)) :=
  weakE h fun σ H Q ⟨e, st, φ, re, rt, po⟩ => hereD rt (q H φ) po
theorem s_var {i : Nat} {x : Str} {pos : Pos} (h : PE X (.Name x pos) (tVar i)) : SE X W C (.Name x pos) (fun e st => match e[i]? with | some (some v) => .ok v st | _ => .no) := by
  refine weakE h fun σ H Q hq => ?_
  obtain ⟨e, st, φ, re, rt, po⟩ := hq
  dsimp only at po
  split at po
  · rename_i v he
    obtain ⟨y, h1, h2⟩ := re.get i v he
    exact ⟨y, h1, here rt h2 po⟩
  · exact False.elim po

/-! ### operators -/
theorem dat_rd {ma : Env → M Val} {f : PyData → M Val} {Q : VK} (h : rdE K C W (Rv K) (fun e => M.dat (ma e) f) σ H Q) : rdE K C W (Rv K) ma σ H fun x H1 => rO1 K f x H1 Q := by
  obtain ⟨e, st, φ, re, rt, po⟩ := rd_bind (rel := Rv K) (f := fun _ v st => match asD v st with | some d => f d st | none => .no) h
  refine ⟨e, st, φ, re, rt, po.imp fun x H1 ⟨e, v, st, φ, re, rt, rv, po⟩ => ?_⟩
  cases ed : asD v st with
  | none => rw [ed] at po; exact False.elim po
  | some d => rw [ed] at po; exact ⟨_, φ, st, d, rt, dt_of rt rv ed, po⟩
theorem dat2_rd {ma mb : Env → M Val} {f : PyData → PyData → M Val} {Q : VK} (h : rdE K C W (Rv K) (fun e => M.dat2 (ma e) (mb e) f) σ H Q) :
    rdE K C W (Rv K) ma σ H fun x H1 => rdE K C W (Rv K) mb σ H1 fun y H2 => rO2 K f x y H2 Q := by
  obtain ⟨e, st, φ, re, rt, po⟩ := rd_bind (rel := Rv K) (f := fun e v => M.bind (mb e) fun u st => match asD v st, asD u st with | some d, some d' => f d d' st | _, _ => .no) h
  refine ⟨e, st, φ, re, rt, po.imp fun x H1 ⟨e, v, st, φ, re, rt, rv, po⟩ => ?_⟩
  obtain ⟨e', st', φ', re', rt', po'⟩ := rd_bind2 (rel := Rv K) (m := mb) (f := fun e u st => match asD v st, asD u st with | some d, some d' => f d d' st | _, _ => .no) re rt rv po
  refine ⟨e', st', φ', re', rt', po'.imp fun y H2 ⟨u, st, φ, re, rt, rv, ru, po⟩ => ?_⟩
  cases ed : asD v st with
  | none => rw [ed] at po; exact False.elim po
  | some d =>
    cases ed' : asD u st with
    | none => rw [ed, ed'] at po; exact False.elim po
    | some d' => rw [ed, ed'] at po; exact ⟨_, φ, st, d, d', rt, dt_of rt rv ed, dt_of rt ru ed', po⟩
theorem s_op {a b : Expr} {ma mb : Env → M Val} {f : PyData → PyData → M Val} {op : Operator} {pos : Pos} (ho : OpR X (binaryOp op) (rO2 X.K f)) (ha : SE X W C a ma) (hb : SE X W C b mb) : SE X W C (.BinOp a op b pos) (fun e => M.dat2 (ma e) (mb e) f) :=
  weakE (pe_op ho ha hb) fun _ _ _ h => dat2_rd h
theorem s_ix {a b : Expr} {ma mb : Env → M Val} {f : PyData → PyData → M Val} {pos : Pos} (ho : IxR X (rO2 X.K f)) (ha : SE X W C a ma) (hb : SE X W C b mb) (hp : PlainIx b) : SE X W C (.Subscript a b pos) (fun e => M.dat2 (ma e) (mb e) f) :=
  weakE (pe_ix ho ha hb hp) fun _ _ _ h => dat2_rd h
theorem s_neg {a : Expr} {ma : Env → M Val} {pos : Pos} (ha : SE X W C a ma) : SE X W C (.UnaryOp .USub a pos) (fun e => M.dat (ma e) fun x => (match x with | .int i => M.ret (.p (.int (-i))) | _ => M.no)) := by
  refine weakE (pe_un un_neg ha) fun σ H Q h => ?_
  obtain ⟨e, st, φ, re, rt, po⟩ := dat_rd h
  refine ⟨e, st, φ, re, rt, po.imp fun x H1 ⟨Wx, φ, st, d, rt, hx, po⟩ => ?_⟩
  dsimp only at po
  split at po
  · exact ⟨_, hx.int, hereD rt (.int _) po⟩
  · exact False.elim po
/-! ### truth -/
theorem tru_of {φ : List Addr} {st : Store} {x : V} {v : Val} {b : Bool} (rt : Rt K H φ st) (rv : Rv K H φ x v) (h : truV v st = some b) : TruV K x H b := by
  obtain ⟨d, h1, h2⟩ := Option.bind_eq_some_iff.mp h
  have hx := dt_of rt rv h1
  unfold truD at h2
  split at h2
  · cases h2; rw [hx.none]; rfl
  · cases h2; rw [hx.bool]; rfl
  · cases h2; rw [hx.int]; rfl
  · split at h2
    · cases h2; rename_i hz; rw [hx.str]; exact ⟨hz, rfl⟩
    · cases h2
  · cases h2
    obtain ⟨p, vs, rfl, q1, q2⟩ := hx.list
    refine .inl ⟨vs, SqL.of q1, ?_⟩
    cases q2 <;> rfl
  · cases h2
    obtain ⟨p, vs, rfl, q1, q2⟩ := hx.tuple
    refine .inr (.inl ⟨vs, q1, ?_⟩)
    cases q2 <;> rfl
  · cases h2
theorem tru_rd {ma : Env → M Val} {Q : Bool → Hp → Prop} (h : rdE K C W eqR (fun e => M.tru (ma e)) σ H Q) : rdE K C W (Rv K) ma σ H fun x H1 => ∃ k, TruV K x H1 k ∧ Q k H1 := by
  obtain ⟨e, st, φ, re, rt, po⟩ := rd_bind (rel := Rv K) (f := fun _ v st => match truV v st with | some b => .ok b st | none => .no) h
  refine ⟨e, st, φ, re, rt, po.imp fun x H1 ⟨e, v, st, φ, re, rt, rv, po⟩ => ?_⟩
  cases ed : truV v st with
  | none => rw [ed] at po; exact False.elim po
  | some b => rw [ed] at po; exact ⟨b, tru_of rt rv ed, po b H1 φ Stp.refl rt rfl⟩
theorem sb_truth {a : Expr} {ma : Env → M Val} (ha : SE X W C a ma) (he : ∀ whole, isTrue a X.env whole = (do let v ← whole; standAt a.pos; holding [v] (truthy v))) : SB X W C a (fun e => M.tru (ma e)) :=
  weakT (pt_truth ha he) fun _ _ _ h => tru_rd h
/-! ### truths, as values and as tests -/
theorem tru_b {m : M Bool} {st : Store} : M.tru (M.b m) st = m st := by
  show ((m st).bind fun b => M.ret (Val.p (.bool b))).bind _ = _
  cases m st <;> rfl
theorem b_rd {m : Env → M Bool} {Q : VK} (h : rdE K C W (Rv K) (fun e => M.b (m e)) σ H Q) : rdE K C W eqR m σ H fun b H1 => Q (.bl b) H1 := by
  obtain ⟨e, st, φ, re, rt, po⟩ := rd_bind (rel := eqR) (ma := m) (f := fun _ b => M.ret (Val.p (.bool b))) h
  refine ⟨e, st, φ, re, rt, po.imp fun x H1 ⟨e, v, st, φ, re, rt, rv, po⟩ => ?_⟩
  have rv : x = v := rv
  subst rv
  exact hereD rt (.bl _) po
theorem tb_rd {m : Env → M Bool} {Q : Bool → Hp → Prop} (h : rdE K C W eqR (fun e => M.tru (M.b (m e))) σ H Q) : rdE K C W eqR m σ H Q := by
  obtain ⟨e, st, φ, re, rt, po⟩ := h
  dsimp only at po
  rw [tru_b] at po
  exact ⟨e, st, φ, re, rt, po⟩
theorem cmp_rd {ma mb : Env → M Val} {g : PyData → PyData → Option Bool} {Q : Bool → Hp → Prop} (h : rdE K C W eqR (fun e => cmpB (ma e) (mb e) g) σ H Q) :
    rdE K C W (Rv K) ma σ H fun x H1 => rdE K C W (Rv K) mb σ H1 fun y H2 => rCm K g x y H2 fun z H3 => ∃ k, z = .bl k ∧ Q k H3 := by
  obtain ⟨e, st, φ, re, rt, po⟩ := rd_bind (rel := Rv K) (f := fun e v => M.bind (mb e) fun u st => match asD v st, asD u st with | some d, some d' => (match g d d' with | some b => .ok b st | none => .no) | _, _ => .no) h
  refine ⟨e, st, φ, re, rt, po.imp fun x H1 ⟨e, v, st, φ, re, rt, rv, po⟩ => ?_⟩
  obtain ⟨e', st', φ', re', rt', po'⟩ := rd_bind2 (rel := Rv K) (m := mb) (f := fun e u st => match asD v st, asD u st with | some d, some d' => (match g d d' with | some b => .ok b st | none => .no) | _, _ => .no) re rt rv po
  refine ⟨e', st', φ', re', rt', po'.imp fun y H2 ⟨u, st, φ, re, rt, rv, ru, po⟩ => ?_⟩
  cases ed : asD v st with
  | none => rw [ed] at po; exact False.elim po
  | some d =>
    cases ed' : asD u st with
    | none => rw [ed, ed'] at po; exact False.elim po
    | some d' =>
      rw [ed, ed'] at po
      dsimp only at po
      cases eg : g d d' with
      | none => rw [eg] at po; exact False.elim po
      | some b => rw [eg] at po; exact ⟨φ, d, d', b, dt_of rt rv ed, dt_of rt ru ed', eg, b, rfl, po b H2 φ Stp.refl rt rfl⟩
theorem sb_cmp {a b : Expr} {ma mb : Env → M Val} {g : PyData → PyData → Option Bool} {op : CmpOp} {pos : Pos} (ho : OpR X (compareOp op) (rCm X.K g)) (ha : SE X W C a ma) (hb : SE X W C b mb) (hm : behindInMarks op b = false) : SB X W C (.Compare a [op] [b] pos) (fun e => cmpB (ma e) (mb e) g) :=
  weakT (pt_cmpR ho ha hb hm) fun _ _ _ h => cmp_rd h
theorem rCm_imp {g : PyData → PyData → Option Bool} {x y : V} {Q Q' : VK} (h : rCm K g x y H Q) (i : ∀ k, Q (.bl k) H → Q' (.bl k) H) : rCm K g x y H Q' := by
  obtain ⟨φ, d, d', b, h1, h2, h3, h4⟩ := h
  exact ⟨φ, d, d', b, h1, h2, h3, i _ h4⟩
theorem rdE_imp {α β : Type} {rel : Hp → List Addr → β → α → Prop} {m : Env → M α} {Q Q' : β → Hp → Prop} (h : rdE K C W rel m σ H Q) (i : ∀ x H1, Q x H1 → Q' x H1) : rdE K C W rel m σ H Q' := by
  obtain ⟨e, st, φ, re, rt, po⟩ := h
  exact ⟨e, st, φ, re, rt, po.imp i⟩
theorem s_cmp {a b : Expr} {ma mb : Env → M Val} {g : PyData → PyData → Option Bool} {op : CmpOp} {pos : Pos} (ho : OpR X (compareOp op) (rCm X.K g)) (ha : SE X W C a ma) (hb : SE X W C b mb) (hm : behindInMarks op b = false) : SE X W C (.Compare a [op] [b] pos) (fun e => M.b (cmpB (ma e) (mb e) g)) := by
  refine weakE (pe_cmpR ho ha hb hm) fun σ H Q h => rdE_imp (cmp_rd (b_rd h)) fun x H1 h => rdE_imp h fun y H2 h => rCm_imp h fun k ⟨k', e, q⟩ => ?_
  cases e
  exact q
theorem ch_rd {ma mb mc : Env → M Val} {g g' : PyData → PyData → Option Bool} {Q : Bool → Hp → Prop} (h : rdE K C W eqR (fun e => chB (ma e) (mb e) (mc e) g g') σ H Q) :
    rdE K C W (Rv K) ma σ H fun x H1 => rdE K C W (Rv K) mb σ H1 fun y H2 => rCm K g x y H2 fun z H3 => ∃ k, z = .bl k ∧
      if k = true then rdE K C W (Rv K) mc σ H3 fun w H4 => rCm K g' y w H4 fun z H5 => ∃ k, z = .bl k ∧ Q k H5 else Q false H3 := by
  obtain ⟨e, st, φ, re, rt, po⟩ := rd_bind (rel := Rv K) (f := fun e v => M.bind (mb e) fun u st => match asD v st, asD u st with
    | some d, some d' => (match g d d' with
      | some true => M.bind (mc e) (fun w st => match asD u st, asD w st with
        | some d, some d' => (match g' d d' with | some b => .ok b st | none => .no)
        | _, _ => .no) st
      | some false => .ok false st
      | none => .no)
    | _, _ => .no) h
  refine ⟨e, st, φ, re, rt, po.imp fun x H1 ⟨e, v, st, φ, re, rt, rv, po⟩ => ?_⟩
  obtain ⟨e', st', φ', re', rt', po'⟩ := rd_bind2 (rel := Rv K) (m := mb) (f := fun e u st => match asD v st, asD u st with
    | some d, some d' => (match g d d' with
      | some true => M.bind (mc e) (fun w st => match asD u st, asD w st with
        | some d, some d' => (match g' d d' with | some b => .ok b st | none => .no)
        | _, _ => .no) st
      | some false => .ok false st
      | none => .no)
    | _, _ => .no) re rt rv po
  refine ⟨e', st', φ', re', rt', po'.imp fun y H2 ⟨u, st, φ, re, rt, rv, ru, po⟩ => ?_⟩
  cases ed : asD v st with
  | none => rw [ed] at po; exact False.elim po
  | some d =>
    cases ed' : asD u st with
    | none => rw [ed, ed'] at po; exact False.elim po
    | some d' =>
      rw [ed, ed'] at po
      dsimp only at po
      cases eg : g d d' with
      | none => rw [eg] at po; exact False.elim po
      | some b =>
        rw [eg] at po
        refine ⟨φ, d, d', b, dt_of rt rv ed, dt_of rt ru ed', eg, b, rfl, ?_⟩
        cases b with
        | false => rw [if_neg Bool.false_ne_true]; exact po false H2 φ Stp.refl rt rfl
        | true =>
          rw [if_pos rfl]
          obtain ⟨e', st', φ', re', rt', po'⟩ := rd_bind2 (rel := Rv K) (m := mc) (f := fun _ w st => match asD u st, asD w st with
            | some d, some d' => (match g' d d' with | some b => .ok b st | none => .no)
            | _, _ => .no) re rt ru po
          refine ⟨e', st', φ', re', rt', po'.imp fun w H4 ⟨q, st, φ, re, rt, ru, rw', po⟩ => ?_⟩
          cases ed : asD u st with
          | none => rw [ed] at po; exact False.elim po
          | some d =>
            cases ed' : asD q st with
            | none => rw [ed, ed'] at po; exact False.elim po
            | some d' =>
              rw [ed, ed'] at po
              dsimp only at po
              cases eg : g' d d' with
              | none => rw [eg] at po; exact False.elim po
              | some b => rw [eg] at po; exact ⟨φ, d, d', b, dt_of rt ru ed, dt_of rt rw' ed', eg, b, rfl, po b H4 φ Stp.refl rt rfl⟩
theorem sb_ch {a b c : Expr} {ma mb mc : Env → M Val} {g g' : PyData → PyData → Option Bool} {op op' : CmpOp} {pos : Pos} (ho : OpR X (compareOp op) (rCm X.K g)) (ho' : OpR X (compareOp op') (rCm X.K g')) (ha : SE X W C a ma) (hb : SE X W C b mb) (hc : SE X W C c mc)
    (hm : lastMarks [op, op'] [b, c] = false) : SB X W C (.Compare a [op, op'] [b, c] pos) (fun e => chB (ma e) (mb e) (mc e) g g') := by
  refine weakT (pt_chain ho ho' ha hb hc hm) fun σ H Q h => rdE_imp (ch_rd h) fun x H1 h => rdE_imp h fun y H2 h => rCm_imp h fun k ⟨k', e, q⟩ => ⟨k, rfl, ?_⟩
  cases e
  cases k with
  | false => exact ⟨false, rfl, q⟩
  | true => exact q
theorem s_ch {a b c : Expr} {ma mb mc : Env → M Val} {g g' : PyData → PyData → Option Bool} {op op' : CmpOp} {pos : Pos} (ho : OpR X (compareOp op) (rCm X.K g)) (ho' : OpR X (compareOp op') (rCm X.K g')) (ha : SE X W C a ma) (hb : SE X W C b mb) (hc : SE X W C c mc)
    (hm : lastMarks [op, op'] [b, c] = false) : SE X W C (.Compare a [op, op'] [b, c] pos) (fun e => M.b (chB (ma e) (mb e) (mc e) g g')) := by
  refine weakE (pe_chain ho ho' ha hb hc hm) fun σ H Q h => rdE_imp (ch_rd (b_rd h)) fun x H1 h => rdE_imp h fun y H2 h => rCm_imp h fun k ⟨k', e, q⟩ => ⟨k, rfl, ?_⟩
  cases e
  cases k with
  | false => exact q
  | true =>
    rw [if_pos rfl] at q ⊢
    refine rdE_imp q fun w H4 h => rCm_imp h fun k ⟨k', e, q⟩ => ?_
    cases e
    exact q
theorem not_rd {ma : Env → M Bool} {Q : Bool → Hp → Prop} (h : rdE K C W eqR (fun e => M.bind (ma e) fun b => M.ret !b) σ H Q) : rdE K C W eqR ma σ H fun b H1 => Q (!b) H1 := by
  obtain ⟨e, st, φ, re, rt, po⟩ := rd_bind (rel := eqR) (ma := ma) (f := fun _ b => M.ret !b) h
  refine ⟨e, st, φ, re, rt, po.imp fun x H1 ⟨e, v, st, φ, re, rt, rv, po⟩ => ?_⟩
  have rv : x = v := rv
  subst rv
  exact po (!x) H1 φ Stp.refl rt rfl
theorem sb_not {a : Expr} {ma : Env → M Bool} {pos : Pos} (ha : SB X W C a ma) : SB X W C (.UnaryOp .Not a pos) (fun e => M.bind (ma e) fun b => M.ret !b) :=
  weakT (pt_not ha) fun _ _ _ h => not_rd h
theorem s_not {a : Expr} {ma : Env → M Val} {pos : Pos} (ha : SE X W C a ma) : SE X W C (.UnaryOp .Not a pos) (fun e => M.b (M.bind (M.tru (ma e)) fun b => M.ret !b)) :=
  weakE (pe_notT ha) fun _ _ _ h => tru_rd (not_rd (b_rd h))
def mAnd (ma mb : Env → M Val) : Env → M Val := fun e => M.bind (ma e) fun v st => (match truV v st with
  | some true => mb e st
  | some false => .ok v st
  | none => .no)
def mOr (ma mb : Env → M Val) : Env → M Val := fun e => M.bind (ma e) fun v st => (match truV v st with
  | some true => .ok v st
  | some false => mb e st
  | none => .no)
theorem s_and {a b : Expr} {rest : List Expr} {ma mb : Env → M Val} {pos : Pos} (ha : SE X W C a ma) (hb : SE X W C (.BoolOp .And (b :: rest) pos) mb) : SE X W C (.BoolOp .And (a :: b :: rest) pos) (mAnd ma mb) := by
  refine weakE (pe_andT ha hb) fun σ H Q h => ?_
  obtain ⟨e, st, φ, re, rt, po⟩ := rd_bind (rel := Rv X.K) (f := fun e v st => (match truV v st with | some true => mb e st | some false => .ok v st | none => .no)) h
  refine ⟨e, st, φ, re, rt, po.imp fun x H1 ⟨e, v, st, φ, re, rt, rv, po⟩ => ?_⟩
  split at po
  · rename_i ht
    exact ⟨true, tru_of rt rv ht, by rw [if_pos rfl]; exact ⟨e, st, φ, re, rt, po⟩⟩
  · rename_i ht
    exact ⟨false, tru_of rt rv ht, by rw [if_neg Bool.false_ne_true]; exact here rt rv po⟩
  · exact False.elim po
theorem s_or {a b : Expr} {rest : List Expr} {ma mb : Env → M Val} {pos : Pos} (ha : SE X W C a ma) (hb : SE X W C (.BoolOp .Or (b :: rest) pos) mb) : SE X W C (.BoolOp .Or (a :: b :: rest) pos) (mOr ma mb) := by
  refine weakE (pe_orT ha hb) fun σ H Q h => ?_
  obtain ⟨e, st, φ, re, rt, po⟩ := rd_bind (rel := Rv X.K) (f := fun e v st => (match truV v st with | some true => .ok v st | some false => mb e st | none => .no)) h
  refine ⟨e, st, φ, re, rt, po.imp fun x H1 ⟨e, v, st, φ, re, rt, rv, po⟩ => ?_⟩
  split at po
  · rename_i ht
    exact ⟨true, tru_of rt rv ht, by rw [if_pos rfl]; exact here rt rv po⟩
  · rename_i ht
    exact ⟨false, tru_of rt rv ht, by rw [if_neg Bool.false_ne_true]; exact ⟨e, st, φ, re, rt, po⟩⟩
  · exact False.elim po
/-- tests of and, or: whatever the 'whole' is -/
abbrev SW (X : Cx) (W : WX) (C : Str → Addr) (x : Expr) (m : Env → M Bool) : Prop := PW X x (rdE X.K C W eqR m)
theorem weakW {e : Expr} {t t' : TT} (h : PW X e t) (i : ∀ σ H Q, t' σ H Q → t σ H Q) : PW X e t' := ⟨fun wh pins s σ H Q I q => h.run wh pins s σ H Q I (i σ H Q q)⟩
theorem tru_and {ma mb : Env → M Val} {e : Env} {st : Store} : M.tru (mAnd ma mb e) st = (M.tru (ma e) st).bind fun b st => if b then M.tru (mb e) st else .ok false st := by
  unfold M.tru mAnd M.bind
  cases ma e st with
  | no => rfl
  | ex c st' => rfl
  | ok v st' =>
    show Rs.bind (match truV v st' with | some true => mb e st' | some false => Rs.ok v st' | none => Rs.no) _ = Rs.bind (match truV v st' with | some b => Rs.ok b st' | none => Rs.no) _
    cases h : truV v st' with
    | none => rfl
    | some b =>
      cases b with
      | true => rfl
      | false =>
        show (match truV v st' with | some b => Rs.ok b st' | none => Rs.no) = _
        rw [h]
        rfl
theorem tru_or {ma mb : Env → M Val} {e : Env} {st : Store} : M.tru (mOr ma mb e) st = (M.tru (ma e) st).bind fun b st => if b then .ok true st else M.tru (mb e) st := by
  unfold M.tru mOr M.bind
  cases ma e st with
  | no => rfl
  | ex c st' => rfl
  | ok v st' =>
    show Rs.bind (match truV v st' with | some true => Rs.ok v st' | some false => mb e st' | none => Rs.no) _ = Rs.bind (match truV v st' with | some b => Rs.ok b st' | none => Rs.no) _
    cases h : truV v st' with
    | none => rfl
    | some b =>
      cases b with
      | false => rfl
      | true =>
        show (match truV v st' with | some b => Rs.ok b st' | none => Rs.no) = _
        rw [h]
        rfl
theorem sw_and {a b : Expr} {rest : List Expr} {ma mb : Env → M Val} {pos : Pos} (ha : SB X W C a (fun e => M.tru (ma e))) (hb : SW X W C (.BoolOp .And (b :: rest) pos) (fun e => M.tru (mb e))) : SW X W C (.BoolOp .And (a :: b :: rest) pos) (fun e => M.tru (mAnd ma mb e)) := by
  refine weakW (pw_and ha hb) fun σ H Q h => ?_
  obtain ⟨e, st, φ, re, rt, po⟩ := h
  dsimp only at po
  rw [tru_and] at po
  refine ⟨e, st, φ, re, rt, (PoR.bind (rel := eqR) po).imp fun x H1 ⟨v, st1, φ1, s1, rt1, rv, po1⟩ => ?_⟩
  have rv : x = v := rv
  subst rv
  cases x with
  | true => rw [if_pos rfl] at po1 ⊢; exact ⟨e, st1, φ1, re.mono s1 rt.lst, rt1, po1⟩
  | false => rw [if_neg Bool.false_ne_true] at po1 ⊢; exact po1 false H1 φ1 Stp.refl rt1 rfl
theorem sw_or {a b : Expr} {rest : List Expr} {ma mb : Env → M Val} {pos : Pos} (ha : SB X W C a (fun e => M.tru (ma e))) (hb : SW X W C (.BoolOp .Or (b :: rest) pos) (fun e => M.tru (mb e))) : SW X W C (.BoolOp .Or (a :: b :: rest) pos) (fun e => M.tru (mOr ma mb e)) := by
  refine weakW (pw_or ha hb) fun σ H Q h => ?_
  obtain ⟨e, st, φ, re, rt, po⟩ := h
  dsimp only at po
  rw [tru_or] at po
  refine ⟨e, st, φ, re, rt, (PoR.bind (rel := eqR) po).imp fun x H1 ⟨v, st1, φ1, s1, rt1, rv, po1⟩ => ?_⟩
  have rv : x = v := rv
  subst rv
  cases x with
  | false => rw [if_neg Bool.false_ne_true] at po1 ⊢; exact ⟨e, st1, φ1, re.mono s1 rt.lst, rt1, po1⟩
  | true => rw [if_pos rfl] at po1 ⊢; exact po1 true H1 φ1 Stp.refl rt1 rfl
/-! ### a if c else b -/
theorem s_ife {c a b : Expr} {mc : Env → M Bool} {ma mb : Env → M Val} {pos : Pos} (hc : SB X W C c mc) (ha : SE X W C a ma) (hb : SE X W C b mb) : SE X W C (.IfExp c a b pos) (fun e => M.bind (mc e) fun k => if k then ma e else mb e) := by
  refine weakE (pe_ifExp hc ha hb) fun σ H Q h => ?_
  obtain ⟨e, st, φ, re, rt, po⟩ := rd_bind (rel := eqR) (ma := mc) (f := fun e k => if k then ma e else mb e) h
  refine ⟨e, st, φ, re, rt, po.imp fun x H1 ⟨e, v, st, φ, re, rt, rv, po⟩ => ?_⟩
  have rv : x = v := rv
  subst rv
  cases x with
  | true => rw [if_pos rfl] at po ⊢; exact ⟨e, st, φ, re, rt, po⟩
  | false => rw [if_neg Bool.false_ne_true] at po ⊢; exact ⟨e, st, φ, re, rt, po⟩
/-- as a test -/
theorem tru_if {m : M Bool} {a b : M Val} {st : Store} : M.tru (M.bind m fun k => if k then a else b) st = M.bind m (fun k => if k then M.tru a else M.tru b) st := by
  show ((m st).bind fun k => if k then a else b).bind _ = (m st).bind _
  cases m st with
  | ok k st' => cases k <;> rfl
  | ex c st' => rfl
  | no => rfl
theorem pt_ifExp {c a b : Expr} {tc ta tb : TT} {pos : Pos} (hc : PT X c tc) (ha : PT X a ta) (hb : PT X b tb) : PT X (.IfExp c a b pos) (fun σ H Q => tc σ H fun k H1 => if k = true then ta σ H1 Q else tb σ H1 Q) := by
  refine ⟨fun pins s σ H Q I h => ?_⟩
  have e : isTrue (.IfExp c a b pos) X.env (eval (.IfExp c a b pos) X.env) = (isTrue c X.env (eval c X.env) >>= fun k => if k = true then isTrue a X.env (eval a X.env) else isTrue b X.env (eval b X.env)) := rfl
  rw [e]
  refine wpAny_bind (thn (hc.run pins s σ H _ I h) fun d s1 ⟨H1, I1, q1⟩ => ?_)
  cases d with
  | true => exact ha.run pins s1 σ H1 _ I1 q1
  | false => exact hb.run pins s1 σ H1 _ I1 q1
theorem sb_ife {c a b : Expr} {mc : Env → M Bool} {ma mb : Env → M Val} {pos : Pos} (hc : SB X W C c mc) (ha : SB X W C a fun e => M.tru (ma e)) (hb : SB X W C b fun e => M.tru (mb e)) : SB X W C (.IfExp c a b pos) (fun e => M.tru (M.bind (mc e) fun k => if k then ma e else mb e)) := by
  refine weakT (pt_ifExp hc ha hb) fun σ H Q h => ?_
  obtain ⟨e, st, φ, re, rt, po⟩ := h
  dsimp only at po
  rw [tru_if] at po
  obtain ⟨e, st, φ, re, rt, po⟩ := rd_bind (rel := eqR) (ma := mc) (f := fun e k => if k then M.tru (ma e) else M.tru (mb e)) ⟨e, st, φ, re, rt, po⟩
  refine ⟨e, st, φ, re, rt, po.imp fun x H1 ⟨e, v, st, φ, re, rt, rv, po⟩ => ?_⟩
  have rv : x = v := rv
  subst rv
  cases x with
  | true => rw [if_pos rfl] at po ⊢; exact ⟨e, st, φ, re, rt, po⟩
  | false => rw [if_neg Bool.false_ne_true] at po ⊢; exact ⟨e, st, φ, re, rt, po⟩
end
end Rk

set_option Elab.async false
set_option linter.all false
set_option maxRecDepth 100000
set_option maxHeartbeats 4000000
namespace Rk
open PySem PySem.Spec PyProof.Rows L2
/-- no star -/
def nst : Expr → Bool
  | .Starred .. => false
  | _ => true
theorem star_cons {e : Expr} {es : List Expr} {env : PySem.Env} (h : nst e = true) : starEach (e :: es) env = (false, eval e env) :: starEach es env := by
  cases e <;> first | rfl | (exact absurd h Bool.false_ne_true)
theorem star_none {pos : Pos} {env : PySem.Env} : ∀ {es : List Expr}, es.all nst = true → (backTo pos (starEach es env)).any (·.1) = false
  | [], _ => rfl
  | e :: es, h => by
    rw [List.all_cons, Bool.and_eq_true] at h
    rw [star_cons h.1]
    show (false || (backTo pos (starEach es env)).any (·.1)) = false
    rw [star_none h.2]
    rfl
theorem star_all {pos : Pos} {env : PySem.Env} : ∀ {es : List Expr}, es.all nst = true → (backTo pos (starEach es env)).all (fun x => !x.1) = true
  | [], _ => rfl
  | e :: es, h => by
    rw [List.all_cons, Bool.and_eq_true] at h
    rw [star_cons h.1]
    show (!false && (backTo pos (starEach es env)).all (fun x => !x.1)) = true
    rw [star_all h.2]
    rfl
section
variable {X : Cx} {W : WX} {C : Str → Addr} {K : PySem.W.Frag} {σ : L2.St} {H : Hp}
theorem rvA_mono {φ φ' : List Addr} {H' : Hp} (s : Stp φ H φ' H') (L : LstAt φ H) : ∀ {xs : List V} {vs : List Val}, rvA K H φ xs vs → rvA K H' φ' xs vs
  | _, _, .nil => .nil
  | _, _, .cons r t => .cons (r.mono s L) (rvA_mono s L t)
theorem rvA_dats {φ : List Addr} {st : Store} : ∀ {xs : List V} {vs : List Val} {ds : List PyData}, rvA K H φ xs vs → datsV vs st = some ds → DqA K H φ xs ds
  | _, _, _, .nil, e => by cases e; exact .nil
  | _, _, _, .cons r t, e => by
    cases r with
    | x => cases e
    | p q =>
      obtain ⟨l, h1, rfl⟩ := Option.map_eq_some_iff.mp e
      exact .cons q (rvA_dats t h1)
    | l _ => cases e
    | f _ _ _ => cases e
    | fk _ _ => cases e
theorem rvA_of {φ : List Addr} : ∀ {xs : List V} {ds : List PyData}, DqA K H φ xs ds → rvA K H φ xs (ds.map Val.p)
  | _, _, .nil => .nil
  | _, _, .cons r t => .cons (.p r) (rvA_of t)
theorem pr_len {α β : Type} {F : α → β → Prop} : ∀ {xs : List α} {ys : List β}, Paired F xs ys → xs.length = ys.length
  | _, _, .nil => rfl
  | _, _, .cons _ t => by rw [List.length_cons, List.length_cons, pr_len t]
theorem sa_nil : SA X W C [] (fun _ => M.ret []) := weakA pa_nil fun σ H Q ⟨e, st, φ, re, rt, po⟩ => po [] H φ Stp.refl rt .nil
theorem sa_cons {a : Expr} {es : List Expr} {ma : Env → M Val} {mr : Env → M (List Val)} (hs : nst a = true) (ha : SE X W C a ma) (hr : SA X W C es mr) : SA X W C (a :: es) (fun e => M.bind (ma e) fun v => M.bind (mr e) fun vs => M.ret (v :: vs)) := by
  refine weakA (pa_cons ha hr (star_cons hs)) fun σ H Q h => ?_
  obtain ⟨e, st, φ, re, rt, po⟩ := rd_bind (rel := Rv X.K) (ma := ma) (f := fun e v => M.bind (mr e) fun vs => M.ret (v :: vs)) h
  refine ⟨e, st, φ, re, rt, po.imp fun x H1 ⟨e, v, st, φ, re, rt, rv, po⟩ => ?_⟩
  obtain ⟨e, st, φ, re, rt, po⟩ := rd_bind2 (rel := rvA X.K) (m := mr) (f := fun _ vs => M.ret (v :: vs)) re rt rv po
  exact ⟨e, st, φ, re, rt, po.imp fun xs H2 ⟨vs, st, φ, re, rt, rv, ru, po⟩ => po (x :: xs) H2 φ Stp.refl rt (.cons rv ru)⟩
theorem seq_of {φ : List Addr} {st : Store} {x : V} {v : Val} {ds : List PyData} (rt : Rt K H φ st) (rv : Rv K H φ x v) (h : seqV v st = some ds) : ∃ p vs, x = .ref p ∧ (SqT K H p vs ∨ SqL K H p vs) ∧ DqA K H φ vs ds := by
  cases rv with
  | x => cases h
  | p q =>
    rename_i d
    cases d with
    | list xs => cases h; obtain ⟨p, vs, rfl, h1, h2⟩ := Dt.list (.inl q); exact ⟨p, vs, rfl, .inr (SqL.of h1), h2⟩
    | tuple xs => cases h; obtain ⟨p, vs, rfl, h1, h2⟩ := Dt.tuple (.inl q); exact ⟨p, vs, rfl, .inl h1, h2⟩
    | _ => cases h
  | l hk =>
    obtain ⟨a, vs, h1, h2, h3⟩ := rt.get h
    rw [hk] at h1
    cases h1
    exact ⟨_, vs, rfl, .inr (SqL.of h2), h3⟩
  | f _ _ _ => cases h
  | fk _ _ => cases h
theorem sa_star {a : Expr} {es : List Expr} {ma : Env → M Val} {mr : Env → M (List Val)} {p : Pos} (ha : SE X W C a ma) (hr : SA X W C es mr) : SA X W C (.Starred a p :: es) (mStar ma mr) := by
  refine weakA (StX.pa_star ha hr rfl) fun σ H Q h => ?_
  obtain ⟨e, st, φ, re, rt, po⟩ := rd_bind (rel := Rv X.K) (ma := ma) (f := fun e v st => match seqV v st with
    | some ds => (M.bind (mr e) fun vs => M.ret (ds.map Val.p ++ vs)) st
    | none => .no) h
  refine ⟨e, st, φ, re, rt, po.imp fun x H1 ⟨e, v, st, φ, re, rt, rv, po⟩ => ?_⟩
  cases ed : seqV v st with
  | none => rw [ed] at po; exact False.elim po
  | some ds =>
    rw [ed] at po
    obtain ⟨p, xs, rfl, h1, h2⟩ := seq_of rt rv ed
    refine ⟨p, xs, rfl, h1, e, st, φ, re, rt, (PoR.bind (rel := rvA X.K) po).imp fun ys H2 ⟨vs, st1, φ1, s1, rt1, ru, po⟩ => ?_⟩
    exact po (xs ++ ys) H2 φ1 Stp.refl rt1 (pr_append (rvA_of (h2.mono s1 rt.lst)) ru)
/-! ### displays -/
theorem s_tup {es : List Expr} {ma : Env → M (List Val)} {k : Nat} {pos : Pos} (ha : SA X W C es ma) : SE X W C (.Tuple es k pos) (fun e => M.bind (ma e) fun vs st => match datsV vs st with
    | some ds => if ds.length ≤ sizeLine then .ok (.p (.tuple ds)) st else .no
    | none => .no) := by
  refine weakE (pe_tup ha) fun σ H Q h => ?_
  obtain ⟨e, st, φ, re, rt, po⟩ := rd_bind (rel := rvA X.K) (ma := ma) (f := fun _ vs st => match datsV vs st with
    | some ds => if ds.length ≤ sizeLine then .ok (Val.p (.tuple ds)) st else .no
    | none => .no) h
  refine ⟨e, st, φ, re, rt, po.imp fun xs H1 ⟨e, vs, st, φ, re, rt, rv, po⟩ => ?_⟩
  cases ed : datsV vs st with
  | none => rw [ed] at po; exact False.elim po
  | some ds =>
    rw [ed] at po
    dsimp only at po
    have hd := rvA_dats rv ed
    split at po
    · rename_i hz
      exact ⟨by rw [hd.length]; exact hz, fun p hp => new_tup rt hd hp po⟩
    · exact False.elim po
theorem s_lst {m : Bool} {es : List Expr} {ma : Env → M (List Val)} {pos : Pos} (ha : SA X W C es ma) : SE X W C (.List es pos) (fun e => M.bind (ma e) fun vs st => match datsV vs st with
    | some ds => if ds.length ≤ sizeLine then mkL m ds st else .no
    | none => .no) := by
  refine weakE (pe_lst ha) fun σ H Q h => ?_
  obtain ⟨e, st, φ, re, rt, po⟩ := rd_bind (rel := rvA X.K) (ma := ma) (f := fun _ vs st => match datsV vs st with
    | some ds => if ds.length ≤ sizeLine then mkL m ds st else .no
    | none => .no) h
  refine ⟨e, st, φ, re, rt, po.imp fun xs H1 ⟨e, vs, st, φ, re, rt, rv, po⟩ => ?_⟩
  cases ed : datsV vs st with
  | none => rw [ed] at po; exact False.elim po
  | some ds =>
    rw [ed] at po
    dsimp only at po
    have hd := rvA_dats rv ed
    split at po
    · rename_i hz
      exact ⟨by rw [hd.length]; exact hz, fun p hp => new_list rt hd hp po⟩
    · exact False.elim po
/-! ### calls of built-ins -/
theorem sa_one {a : Expr} (hs : nst a = true) {ma : Env → M Val} {t : VK} (ha : SE X W C a ma) : PA X [a] (tCons (rdE X.K C W (Rv X.K) ma) tNil) := pa_cons ha pa_nil (star_cons hs)
theorem s_b1 {f : PyData → M Val} {g : Value} {a : Expr} {x : Str} {p pos : Pos} {ma : Env → M Val} (hc : CallR X g (rB1 X.K f)) (hg : Gl X x) (hm : X.mg x = none) (hv : bootBuiltins x = some g) (hk : (∃ id, g = .builtin id) ∨ ∃ T, g = .type T)
    (hn : x ≠ "__name__") (hd : (x == ("__debug__" : Str)) = false) (hs : nst a = true) (ha : SE X W C a ma) : SE X W C (.Call (.Name x p) [a] [] pos) (fun e => M.dat (ma e) f) := by
  have pa : PA X [a] (tCons (rdE X.K C W (Rv X.K) ma) tNil) := pa_cons ha pa_nil (star_cons hs)
  have i : ∀ σ H Q, rdE X.K C W (Rv X.K) (fun e => M.dat (ma e) f) σ H Q → tCB (rB1 X.K f) (tCons (rdE X.K C W (Rv X.K) ma) tNil) σ H Q := fun σ H Q h => rdE_imp (dat_rd h) fun x H1 h => ⟨x, rfl, h⟩
  rcases hk with ⟨id, rfl⟩ | ⟨T, rfl⟩
  · exact weakE (pe_callB hc hg hm hv pa hn hd (star_cons hs) (star_none rfl)) i
  · exact weakE (pe_callTy hc hg hm hv pa hn hd (star_cons hs) (star_none rfl)) i
theorem s_b2 {f : PyData → PyData → M Val} {id : String} {a b : Expr} {x : Str} {p pos : Pos} {ma mb : Env → M Val} (hc : CallR X (.builtin id) (rB2 X.K f)) (hg : Gl X x) (hm : X.mg x = none) (hv : bootBuiltins x = some (.builtin id))
    (hn : x ≠ "__name__") (hd : (x == ("__debug__" : Str)) = false) (hs : nst a = true) (hs' : nst b = true) (ha : SE X W C a ma) (hb : SE X W C b mb) : SE X W C (.Call (.Name x p) [a, b] [] pos) (fun e => M.dat2 (ma e) (mb e) f) := by
  have pa : PA X [a, b] (tCons (rdE X.K C W (Rv X.K) ma) (tCons (rdE X.K C W (Rv X.K) mb) tNil)) := pa_cons ha (pa_cons hb pa_nil (star_cons hs')) (star_cons hs)
  refine weakE (pe_callB hc hg hm hv pa hn hd (star_cons hs) (star_none (by rw [List.all_cons, hs']; rfl))) fun σ H Q h => rdE_imp (dat2_rd h) fun x H1 h => rdE_imp h fun y H2 h => ⟨x, y, rfl, h⟩
theorem datB_rd {ma : Env → M Val} {g : PyData → Option Bool} {Q : Bool → Hp → Prop} (h : rdE K C W eqR (fun e => datB (ma e) g) σ H Q) :
    rdE K C W (Rv K) ma σ H fun x H1 => ∃ (φ : List Addr) (d : PyData) (b : Bool), Dt K H1 φ x d ∧ g d = some b ∧ Q b H1 := by
  obtain ⟨e, st, φ, re, rt, po⟩ := rd_bind (rel := Rv K) (f := fun _ v st => match asD v st with | some d => (match g d with | some b => .ok b st | none => .no) | none => .no) h
  refine ⟨e, st, φ, re, rt, po.imp fun x H1 ⟨e, v, st, φ, re, rt, rv, po⟩ => ?_⟩
  cases ed : asD v st with
  | none => rw [ed] at po; exact False.elim po
  | some d =>
    rw [ed] at po
    dsimp only at po
    cases eg : g d with
    | none => rw [eg] at po; exact False.elim po
    | some b => rw [eg] at po; exact ⟨φ, d, b, dt_of rt rv ed, eg, po b H1 φ Stp.refl rt rfl⟩
theorem boot_isi : bootBuiltins "isinstance" = some (.builtin "isinstance") := by decide +kernel
theorem s_isi {T : Ty} {tn : Str} {a : Expr} {p p' pos : Pos} {ma : Env → M Val} (hg : Gl X "isinstance") (hm : X.mg "isinstance" = none) (hg' : Gl X tn) (hm' : X.mg tn = none) (hv : bootBuiltins tn = some (.type (tyN T))) (hn : tn ≠ "__name__") (hd : (tn == ("__debug__" : Str)) = false)
    (hs : nst a = true) (ha : SE X W C a ma) : SE X W C (.Call (.Name "isinstance" p) [a, .Name tn p'] [] pos) (fun e => M.b (datB (ma e) (tyD T))) := by
  have pt : PE X (.Name tn p') (tC (.ty (tyN T))) := pe_bltn hg' hm' hv rfl hn hd
  have pa : PA X [a, .Name tn p'] (tCons (rdE X.K C W (Rv X.K) ma) (tCons (tC (.ty (tyN T))) tNil)) := pa_cons ha (pa_cons pt pa_nil (star_cons rfl)) (star_cons hs)
  refine weakE (pe_callB (call_ty T) hg hm boot_isi pa (by decide) (by decide) (star_cons hs) (star_none rfl)) fun σ H Q h => rdE_imp (datB_rd (b_rd h)) fun x H1 ⟨φ, d, b, h1, h2, h3⟩ => ⟨x, rfl, φ, d, b, h1, h2, h3⟩
/-! ### slices -/
theorem so_none : SO X W C none (fun _ => M.ret none) := weakO po_none fun σ H Q ⟨e, st, φ, re, rt, po⟩ => po none H φ Stp.refl rt rfl
def mInt (ma : Env → M Val) : Env → M (Option Int) := fun e => M.bind (ma e) fun v => match intV v with
  | some i => M.ret (some i)
  | none => M.no
theorem intV_of {φ : List Addr} {x : V} {v : Val} {i : Int} (rv : Rv K H φ x v) (h : intV v = some i) : x = .int i := by
  unfold intV at h
  split at h
  · cases h
    cases rv with
    | p q => cases q; rfl
  · cases h
theorem so_some {a : Expr} {ma : Env → M Val} (ha : SE X W C a ma) : SO X W C (some a) (mInt ma) := by
  refine weakO (po_some ha) fun σ H Q h => ?_
  obtain ⟨e, st, φ, re, rt, po⟩ := rd_bind (rel := Rv X.K) (ma := ma) (f := fun _ v => match intV v with | some i => M.ret (some i) | none => M.no) h
  refine ⟨e, st, φ, re, rt, po.imp fun x H1 ⟨e, v, st, φ, re, rt, rv, po⟩ => ?_⟩
  cases ed : intV v with
  | none => rw [ed] at po; exact False.elim po
  | some i => rw [ed] at po; exact ⟨i, intV_of rv ed, po (some i) H1 φ Stp.refl rt rfl⟩
theorem s_slc {a : Expr} {lo hi : Option Expr} {ma : Env → M Val} {ml mh : Env → M (Option Int)} {p2 pos : Pos} (ha : SE X W C a ma) (hl : SO X W C lo ml) (hh : SO X W C hi mh) : SE X W C (.Subscript a (.Slice lo hi none p2) pos) (fun e => M.bind (ma e) fun v => M.bind (ml e) fun l => M.bind (mh e) fun h => fun st => (match asD v st with
    | some d => pD (slcD d l h) st
    | none => .no)) := by
  refine weakE (pe_slice sl_any ha hl hh) fun σ H Q h => ?_
  obtain ⟨e, st, φ, re, rt, po⟩ := rd_bind (rel := Rv X.K) (ma := ma) (f := fun e v => M.bind (ml e) fun l => M.bind (mh e) fun h => fun st => (match asD v st with
    | some d => pD (slcD d l h) st
    | none => .no)) h
  refine ⟨e, st, φ, re, rt, po.imp fun x H1 ⟨e, v, st, φ, re, rt, rv, po⟩ => ?_⟩
  obtain ⟨e, st, φ, re, rt, po⟩ := rd_bind2 (rel := eqR) (m := ml) (f := fun e l => M.bind (mh e) fun h => fun st => (match asD v st with
    | some d => pD (slcD d l h) st
    | none => .no)) re rt rv po
  refine ⟨e, st, φ, re, rt, po.imp fun l H2 ⟨l', st, φ, re, rt, rv, el, po⟩ => ?_⟩
  have el : l = l' := el
  subst el
  obtain ⟨e, st, φ, re, rt, po⟩ := rd_bind2 (rel := eqR) (m := mh) (f := fun e h => fun st => (match asD v st with
    | some d => pD (slcD d l h) st
    | none => .no)) re rt rv po
  refine ⟨e, st, φ, re, rt, po.imp fun h H3 ⟨h', st, φ, re, rt, rv, eh, po⟩ => ?_⟩
  have eh : h = h' := eh
  subst eh
  cases ed : asD v st with
  | none => rw [ed] at po; exact False.elim po
  | some d => rw [ed] at po; exact ⟨_, φ, st, d, rt, dt_of rt rv ed, po⟩
/-! ### calls of defs -/
theorem run_fnG {n : Nat} {a : Addr} {fd : FuncData} {ps : List Str} {sp : Sp} {pins : List (Addr × Obj)} {s : Shared} {Q : VK} {us : List Value} {vs : List V} {E : L2.St → XK} (F : FnG X.prog X.w X.K X.mg X.base n a fd ps sp) (hg : X.A.guards = some []) (hr : Room n X.A) (hb : Binds X.K fd ps []) (hx : PassesAt (L2.CX X.prog X.w) X σ (E σ))
    (I : Inv X pins σ H s) (r : Vals vs us) (h : sp vs H Q (E σ)) : wpAny (model X.prog X.w) X.A (call (.ref a) us) (EP X pins σ Q) X.xe s := by
  have hl : us.length = ps.length := r.length.symm.trans (F.len _ _ _ _ h)
  have b := hb s us I.kIn (by rw [List.append_nil]; exact hl)
  rw [List.append_nil] at b
  refine wpAny_call (codeAny_mono (F.run X.A X.stack s H _ us vs Q (E σ) hg hr I.env0 b r h) fun o s2 hq => ?_)
  cases o with
  | error x => exact hx pins H s x s2 I hq
  | ok fl => cases fl <;> first | exact I.after hq | exact False.elim hq
/-- the callee's promise, by its meaning -/
theorem call_rd {F : Fn} {np : Nat} {mas : Env → M (List Val)} {Q : VK} (hF : ∀ vs st, vs.length ≠ np → F vs st = .no) (h : rdE K C W (Rv K) (fun e => M.bind (mas e) fun vs => F vs) σ H Q) :
    rdE K C W (rvA K) mas σ H fun xs H1 => spF K C np F xs H1 Q (WE W σ) := by
  obtain ⟨e, st, φ, re, rt, po⟩ := rd_bind (rel := rvA K) (ma := mas) (f := fun _ vs => F vs) h
  refine ⟨e, st, φ, re, rt, po.imp fun xs H1 ⟨e, vs, st, φ, re, rt, rv, po⟩ => ⟨?_, vs, st, φ, rv, rt, po⟩⟩
  by_cases hl : vs.length = np
  · rw [pr_len rv, hl]
  · rw [hF vs st hl] at po
    exact False.elim po
theorem s_call0 {L : Lw} {T : Nat → Fn} {n : Nat} {S : Sc} (G : Gd X W L T C n S) {j : Nat} {f : FnIR} (hj : L.tab j = some f) {p pos : Pos} (hg : Gl X (L.nm j)) (hd : (L.nm j == ("__debug__" : Str)) = false) :
    SE X W C (.Call (.Name (L.nm j) p) [] [] pos) (fun e => M.bind (M.ret []) fun vs => T j vs) := by
  obtain ⟨⟨a, fd, ps, hm, hk, hb, F⟩, hn⟩ := G.wd.fns j f hj
  refine ⟨fun pins s σ H Q I h => ?_⟩
  obtain ⟨e, st, φ, re, rt, h2⟩ := call_rd hn h
  have h3 := h2 [] H φ Stp.refl rt .nil
  refine wpAny_Call_Name_kw (ld_glob I hg hm ?_ hd)
  exact PySem.W.callWith_K0 I.kIn hk (run_fnG (us := []) F G.wd.gd G.wd.room hb (passAt G.tk σ) I .nil h3)
theorem s_call {L : Lw} {T : Nat → Fn} {n : Nat} {S : Sc} (G : Gd X W L T C n S) {j : Nat} {f : FnIR} (hj : L.tab j = some f) {b : Expr} {es : List Expr} {mas : Env → M (List Val)} {p pos : Pos} (hg : Gl X (L.nm j)) (hd : (L.nm j == ("__debug__" : Str)) = false) (hs : nst b = true) (hs' : es.all nst = true) (ha : SA X W C (b :: es) mas) :
    SE X W C (.Call (.Name (L.nm j) p) (b :: es) [] pos) (fun e => M.bind (mas e) fun vs => T j vs) := by
  obtain ⟨⟨a, fd, ps, hm, hk, hb, F⟩, hn⟩ := G.wd.fns j f hj
  refine ⟨fun pins s σ H Q I h => ?_⟩
  have h2 := call_rd hn h
  refine wpAny_Call_Name_kw (ld_glob I hg hm ?_ hd)
  refine PySem.W.callWith_K (h₀ := X.base) I.ok.mod.kin hk (thn (ha.run pos pins s σ H _ I h2) fun us s1 ⟨vs, H1, I1, r, q⟩ => ⟨I1.kIn, ?_⟩) (star_cons hs) (star_none hs')
  exact run_fnG F G.wd.gd G.wd.room hb (passAt G.tk σ) I1 r q
/-- [f, g, ..][i](..): the names, their addresses -/
theorem fns_lst {L : Lw} {T : Nat → Fn} {n : Nat} {S : Sc} (G : Gd X W L T C n S) : ∀ (js : List Nat) (els : List Expr), (∀ q ∈ js.zip els, ∃ p, q.2 = Expr.Name (L.nm q.1) p ∧ Gl X (L.nm q.1) ∧ (L.nm q.1 == ("__debug__" : Str)) = false ∧ (L.tab q.1).isSome = true) → js.length = els.length →
    ∃ as : List Addr, as.length = js.length ∧ PA X els (fun _ H Q => Q (as.map V.ref) H) ∧ ∀ (i j : Nat) (a : Addr), js[i]? = some j → as[i]? = some a → X.mg (L.nm j) = some (.ref a)
  | [], [], _, _ => ⟨[], rfl, weakA pa_nil fun _ _ _ h => h, fun i j a h => by simp at h⟩
  | [], _ :: _, _, h => by simp at h
  | _ :: _, [], _, h => by simp at h
  | j :: js, e :: els, h, hl => by
    obtain ⟨p, h1, h2, h3, h4⟩ := h (j, e) List.mem_cons_self
    obtain ⟨f, hf⟩ := Option.isSome_iff_exists.mp h4
    obtain ⟨⟨a, fd, ps, hm, hk, hb, F⟩, hn⟩ := G.wd.fns j f hf
    obtain ⟨as, q1, q2, q3⟩ := fns_lst G js els (fun q hq => h q (List.mem_cons_of_mem _ hq)) (by simpa using hl)
    have h1 : e = Expr.Name (L.nm j) p := h1
    subst h1
    refine ⟨a :: as, by simp [q1], weakA (pa_cons (pe_glob (v := .ref a) h2 hm rfl h3) q2 rfl) fun _ _ _ h => h, fun i j' a' e1 e2 => ?_⟩
    cases i with
    | zero =>
      cases Option.some.inj e1
      cases Option.some.inj e2
      exact hm
    | succ i => exact q3 i j' a' (by simpa using e1) (by simpa using e2)
theorem s_sw {L : Lw} {T : Nat → Fn} {n : Nat} {S : Sc} (G : Gd X W L T C n S) {js : List Nat} {els es : List Expr} {b ix : Expr} {mi : Env → M Val} {mas : Env → M (List Val)} {lp sp pos : Pos}
    (hn : ∀ q ∈ js.zip els, ∃ p, q.2 = Expr.Name (L.nm q.1) p ∧ Gl X (L.nm q.1) ∧ (L.nm q.1 == ("__debug__" : Str)) = false ∧ (L.tab q.1).isSome = true) (hl : js.length = els.length) (htab : ∀ j ∈ js, (L.tab j).isSome = true) (hz : js.length ≤ 1000) (hp : PlainIx ix) (hi : SE X W C ix mi) (hs : nst b = true) (hs' : es.all nst = true) (ha : SA X W C (b :: es) mas) :
    SE X W C (.Call (.Subscript (.List els lp) ix sp) (b :: es) [] pos) (fun e => M.bind (mi e) fun v => match intV v with
      | some n => (match L2.atI js n with
        | some j => M.bind (mas e) fun vs => T j vs
        | none => M.no)
      | none => M.no) := by
  obtain ⟨as, q1, q2, q3⟩ := fns_lst G js els hn hl
  have hf : PE X (.Subscript (.List els lp) ix sp) (tOp (rIxL X.K) (tLst fun _ H Q => Q (as.map V.ref) H) (rdE X.K C W (Rv X.K) mi)) := pe_ix ix_list (pe_lst q2) hi hp
  refine ⟨fun pins s σ H Q I h => ?_⟩
  obtain ⟨e, st, φ, re, rt, po⟩ := h
  have run := hf.run pins s σ H (fun x H1 => ∃ (e : Env) (st : Store) (φ : List Addr) (j : Nat) (a : Addr) (f : FnIR), x = .ref a ∧ X.mg (L.nm j) = some (.ref a) ∧ L.tab j = some f ∧ Re X.K H1 φ σ e ∧ Rt X.K H1 φ st ∧ PoR (Rv X.K) X.K (fun c H' => W (.ref (C c)) none σ H') H1 φ Q (M.bind (mas e) (fun vs => T j vs) st)) I (by
    have hlen : as.length ≤ sizeLine := by rw [q1, sizeLine_eq]; omega
    refine ⟨by rw [List.length_map]; exact hlen, fun p hp => ?_⟩
    have s1 : Stp φ H φ (upd H p (.lst (as.map V.ref))) := Stp.laid hp
    have po' := PoR.step s1 po
    refine ⟨e, st, φ, re.mono s1 rt.lst, rt.laid hp, (PoR.bind (rel := Rv X.K) (f := fun v => match intV v with
      | some n => (match L2.atI js n with
        | some j => M.bind (mas e) fun vs => T j vs
        | none => M.no)
      | none => M.no) po').imp fun y H2 ⟨v, st2, φ2, s2, rt2, rv, po2⟩ => ?_⟩
    cases ei : intV v with
    | none => rw [ei] at po2; exact False.elim po2
    | some i =>
      rw [ei] at po2
      dsimp only at po2
      cases ej : L2.atI js i with
      | none => rw [ej] at po2; exact False.elim po2
      | some j =>
        rw [ej] at po2
        obtain ⟨a, h1, h2⟩ := atI_map (R := fun (x : V) (j : Nat) => ∃ a, x = .ref a ∧ X.mg (L.nm j) = some (.ref a)) (xs := as.map V.ref) (by rw [List.length_map, q1]) (fun k j hj => by
          have hk : k < as.length := by
            rw [q1]
            exact (List.getElem?_eq_some_iff.mp hj).1
          exact ⟨.ref as[k], by rw [List.getElem?_map, List.getElem?_eq_getElem hk]; rfl, _, rfl, q3 k j _ hj (List.getElem?_eq_getElem hk)⟩) ej
        obtain ⟨a, rfl, hm⟩ := h2
        have hj : ∃ f, L.tab j = some f := by
          obtain ⟨k, _, hk2, _⟩ := atI_get ej
          exact Option.isSome_iff_exists.mp (htab j (List.mem_of_getElem? hk2))
        obtain ⟨f, hf⟩ := hj
        exact ⟨p, as.map V.ref, i, .ref a, rfl, intV_of rv ei, SqL.of (s2.keep p _ upd_same (rt.notin hp)), h1, e, st2, φ2, j, a, f, rfl, hm, hf, (re.mono s1 rt.lst).mono s2 (rt.laid hp).lst, rt2, po2⟩)
  refine Call_ (thn run fun u s1 ⟨x, H1, I1, r1, e, st, φ, j, a, f, ex, hm, hf, re, rt, po⟩ => ?_)
  subst ex
  cases r1
  obtain ⟨⟨a', fd, ps, hm', hk, hb, F⟩, hn'⟩ := G.wd.fns j f hf
  rw [hm] at hm'
  cases hm'
  have h2 := call_rd (K := X.K) (mas := mas) (F := T j) hn' ⟨e, st, φ, re, rt, po⟩
  refine PySem.W.callWith_K (h₀ := X.base) I.ok.mod.kin hk (thn (ha.run pos pins s1 σ H1 _ I1 h2) fun us s2 ⟨vs, H2, I2, r, q⟩ => ⟨I2.kIn, ?_⟩) (star_cons hs) (star_none hs')
  exact run_fnG F G.wd.gd G.wd.room hb (passAt G.tk σ) I2 r q
end
end Rk

set_option Elab.async false
set_option linter.all false
set_option maxRecDepth 100000
set_option maxHeartbeats 4000000
namespace Rk
open PySem PySem.Spec PyProof.Rows L2
section
variable {X : Cx} {W : WX} {C : Str → Addr} {K : PySem.W.Frag} {σ : L2.St} {H H' : Hp} {φ φ' : List Addr}
/-! ### methods of the store's lists -/
theorem lst_of {st : Store} {x : V} {k : Nat} {ds : List PyData} (rt : Rt K H φ st) (rv : Rv K H φ x (.l k)) (h : st[k]? = some ds) : ∃ a vs, x = .ref a ∧ φ[k]? = some a ∧ H a = some (.lst vs) ∧ DqA K H φ vs ds := by
  cases rv with
  | l hk =>
    obtain ⟨a, vs, h1, h2, h3⟩ := rt.get h
    rw [hk] at h1
    cases h1
    exact ⟨_, vs, rfl, hk, h2, h3⟩
theorem ty_lst {a : Addr} {vs : List V} (h : H a = some (.lst vs)) : tyV K "list" (.ref a) H := .inl ⟨rfl, _, SqL.of h⟩
section
variable {x : Str} {np apos pos : Pos} {ma mb : Env → M Val}
theorem s_pop (hl : (apos.endLine == pos.line) = true) (ha : SE X W C (.Name x np) ma) : SE X W C (.Call (.Attribute (.Name x np) "pop" apos) [] [] pos) (fun e => M.bind (ma e) fun v => fun st => (match v with
    | .l k => (match st[k]? with
      | some xs => (match xs[xs.length - 1]? with
        | some d => .ok (.p d) (st.set k xs.dropLast)
        | none => .no)
      | none => .no)
    | _ => .no)) := by
  refine weakE (pe_bm0 PySem.F.plainAttrs_list PySem.F.slot_list_pop PySem.F.type_list_pop mt_pop ha rfl hl) fun σ H Q h => ?_
  obtain ⟨e, st, φ, re, rt, po⟩ := rd_bind (rel := Rv X.K) (ma := ma) h
  refine ⟨e, st, φ, re, rt, po.imp fun y H1 ⟨e, v, st, φ, re, rt, rv, po⟩ => ?_⟩
  split at po
  · split at po
    · rename_i k ds hk
      split at po
      · rename_i d hd
        obtain ⟨a, vs, rfl, q1, q2, q3⟩ := lst_of rt rv hk
        obtain ⟨z, z1, z2⟩ := q3.get hd
        refine ⟨ty_lst q2, a, vs, z, rfl, rfl, q2, by rw [q3.length]; exact z1, ?_⟩
        exact po z _ φ (Stp.set (List.mem_of_getElem? q1)) (rt.set q1 q3.dropLast) (.p (z2.mono (Stp.set (List.mem_of_getElem? q1)) rt.lst))
      · exact False.elim po
    · exact False.elim po
  · exact False.elim po
theorem s_reverse (hl : (apos.endLine == pos.line) = true) (ha : SE X W C (.Name x np) ma) : SE X W C (.Call (.Attribute (.Name x np) "reverse" apos) [] [] pos) (fun e => M.bind (ma e) fun v => fun st => (match v with
    | .l k => (match st[k]? with
      | some xs => .ok (.p .none) (st.set k xs.reverse)
      | none => .no)
    | _ => .no)) := by
  refine weakE (pe_bm0 PySem.F.plainAttrs_list PySem.F.slot_list_reverse PySem.F.type_list_reverse mt_reverse ha rfl hl) fun σ H Q h => ?_
  obtain ⟨e, st, φ, re, rt, po⟩ := rd_bind (rel := Rv X.K) (ma := ma) h
  refine ⟨e, st, φ, re, rt, po.imp fun y H1 ⟨e, v, st, φ, re, rt, rv, po⟩ => ?_⟩
  split at po
  · split at po
    · rename_i k ds hk
      obtain ⟨a, vs, rfl, q1, q2, q3⟩ := lst_of rt rv hk
      refine ⟨ty_lst q2, a, vs, rfl, rfl, q2, ?_⟩
      exact po .non _ φ (Stp.set (List.mem_of_getElem? q1)) (rt.set q1 q3.reverse) (.p .non)
    · exact False.elim po
  · exact False.elim po
theorem few1 {a : Expr} {env : PySem.Env} (hs : nst a = true) : ((backTo pos (starEach [a] env)).all (fun x => !x.1) && (backToKw pos (keywordEach [] env)).all (fun x => x.1.isSome)
      && decide ([a].length + ([] : List Keyword).length + (if ([] : List Keyword).isEmpty then 0 else 1) < 30)) = true := by
  rw [star_all (by rw [List.all_cons, hs]; rfl)]
  rfl
theorem s_append {b : Expr} (hl : (apos.endLine == pos.line) = true) (hs : nst b = true) (ha : SE X W C (.Name x np) ma) (hb : SE X W C b mb) : SE X W C (.Call (.Attribute (.Name x np) "append" apos) [b] [] pos) (fun e => M.bind (ma e) fun v => (match v with
    | .l k => M.bind (mb e) fun u st => (match u, st[k]? with
      | .p d, some xs => if xs.length < sizeLine then .ok (.p .none) (st.set k (xs ++ [d])) else .no
      | _, _ => .no)
    | _ => M.no)) := by
  have pa : PA X [b] (tCons (rdE X.K C W (Rv X.K) mb) tNil) := pa_cons hb pa_nil (star_cons hs)
  refine weakE (pe_bm PySem.F.plainAttrs_list PySem.F.slot_list_append PySem.F.type_list_append mt_append ha pa rfl (few1 hs) hl (star_cons hs) (star_none rfl)) fun σ H Q h => ?_
  obtain ⟨e, st, φ, re, rt, po⟩ := rd_bind (rel := Rv X.K) (ma := ma) (f := fun e v => (match v with
    | .l k => M.bind (mb e) fun u st => (match u, st[k]? with
      | .p d, some xs => if xs.length < sizeLine then .ok (Val.p .none) (st.set k (xs ++ [d])) else .no
      | _, _ => .no)
    | _ => M.no)) h
  refine ⟨e, st, φ, re, rt, po.imp fun y H1 ⟨e, v, st, φ, re, rt, rv, po⟩ => ?_⟩
  split at po
  · rename_i k
    have hy : ∃ a vs, y = .ref a ∧ H1 a = some (.lst vs) := by
      cases rv with
      | l hk => obtain ⟨xs, vs, _, h2, _⟩ := rt.at' hk; exact ⟨_, vs, rfl, h2⟩
    obtain ⟨a, vs, rfl, hv⟩ := hy
    refine ⟨ty_lst hv, ?_⟩
    obtain ⟨e, st, φ, re, rt, po⟩ := rd_bind2 (rel := Rv X.K) (m := mb) (f := fun e u st => (match u, st[k]? with
      | .p d, some xs => if xs.length < sizeLine then .ok (Val.p .none) (st.set k (xs ++ [d])) else .no
      | _, _ => .no)) re rt rv po
    refine ⟨e, st, φ, re, rt, po.imp fun z H2 ⟨u, st, φ, re, rt, rv, ru, po⟩ => ?_⟩
    split at po
    · rename_i d xs hk
      split at po
      · rename_i hz
        obtain ⟨a', vs, q0, q1, q2, q3⟩ := lst_of rt rv hk
        cases q0
        cases ru with
        | p ru =>
          refine ⟨_, vs, z, rfl, rfl, q2, by rw [q3.length]; exact hz, ?_⟩
          exact po .non _ φ (Stp.set (List.mem_of_getElem? q1)) (rt.set q1 (q3.append (.cons ru .nil))) (.p .non)
      · exact False.elim po
    · exact False.elim po
  · exact False.elim po
theorem s_extend {b : Expr} (hl : (apos.endLine == pos.line) = true) (hs : nst b = true) (ha : SE X W C (.Name x np) ma) (hb : SE X W C b mb) : SE X W C (.Call (.Attribute (.Name x np) "extend" apos) [b] [] pos) (fun e => M.bind (ma e) fun v => (match v with
    | .l k => M.bind (mb e) fun u st => (match u, st[k]? with
      | .p (.list ds), some xs => if xs.length + ds.length ≤ sizeLine then .ok (.p .none) (st.set k (xs ++ ds)) else .no
      | _, _ => .no)
    | _ => M.no)) := by
  have pa : PA X [b] (tCons (rdE X.K C W (Rv X.K) mb) tNil) := pa_cons hb pa_nil (star_cons hs)
  refine weakE (pe_bm PySem.F.plainAttrs_list PySem.F.slot_list_extend PySem.F.type_list_extend mt_extend ha pa rfl (few1 hs) hl (star_cons hs) (star_none rfl)) fun σ H Q h => ?_
  obtain ⟨e, st, φ, re, rt, po⟩ := rd_bind (rel := Rv X.K) (ma := ma) (f := fun e v => (match v with
    | .l k => M.bind (mb e) fun u st => (match u, st[k]? with
      | .p (.list ds), some xs => if xs.length + ds.length ≤ sizeLine then .ok (Val.p .none) (st.set k (xs ++ ds)) else .no
      | _, _ => .no)
    | _ => M.no)) h
  refine ⟨e, st, φ, re, rt, po.imp fun y H1 ⟨e, v, st, φ, re, rt, rv, po⟩ => ?_⟩
  split at po
  · rename_i k
    have hy : ∃ a vs, y = .ref a ∧ H1 a = some (.lst vs) := by
      cases rv with
      | l hk => obtain ⟨xs, vs, _, h2, _⟩ := rt.at' hk; exact ⟨_, vs, rfl, h2⟩
    obtain ⟨a, vs, rfl, hv⟩ := hy
    refine ⟨ty_lst hv, ?_⟩
    obtain ⟨e, st, φ, re, rt, po⟩ := rd_bind2 (rel := Rv X.K) (m := mb) (f := fun e u st => (match u, st[k]? with
      | .p (.list ds), some xs => if xs.length + ds.length ≤ sizeLine then .ok (Val.p .none) (st.set k (xs ++ ds)) else .no
      | _, _ => .no)) re rt rv po
    refine ⟨e, st, φ, re, rt, po.imp fun z H2 ⟨u, st, φ, re, rt, rv, ru, po⟩ => ?_⟩
    split at po
    · rename_i d xs hk
      split at po
      · rename_i hz
        obtain ⟨a', vs, q0, q1, q2, q3⟩ := lst_of rt rv hk
        cases q0
        cases ru with
        | p ru =>
          obtain ⟨b', ws, rfl, r1, r2⟩ := Dt.list (.inl ru)
          refine ⟨_, b', vs, ws, rfl, rfl, q2, r1, by rw [q3.length, r2.length]; exact hz, ?_⟩
          exact po .non _ φ (Stp.set (List.mem_of_getElem? q1)) (rt.set q1 (q3.append r2)) (.p .non)
      · exact False.elim po
    · exact False.elim po
  · exact False.elim po
end
/-! ### what a loop walks -/
def JOk (K : PySem.W.Frag) (H0 : Hp) (φ0 : List Addr) (J : L2.It) (xs : List PyData) : Prop := ∀ (i : Nat) (H : Hp) (φ : List Addr), Stp φ0 H0 φ H → LstAt φ H →
  (∀ d, xs[i]? = some d → J.go i H ∧ ∀ x H', J.yld i H x H' → Stp φ H φ H' ∧ (∀ a ∈ φ, H' a = H a) ∧ Dq K H' φ x d) ∧ (xs.length ≤ i → J.stop i H)
abbrev SI (X : Cx) (W : WX) (C : Str → Addr) (tg x : Expr) (m : Env → M (List PyData)) : Prop := PI X tg x (rdE X.K C W (JOk X.K) m)
theorem weakI {tg e : Expr} {t t' : TI} (h : PI X tg e t) (i : ∀ σ H Q, t' σ H Q → t σ H Q) : PI X tg e t' := ⟨fun pins s σ H R I q => h.run pins s σ H R I (i σ H R q)⟩
theorem jok_lst {a : Addr} {vs : List V} {ds : List PyData} (h : Rd H a (.lst vs)) (n : a ∉ φ) (hd : DqA K H φ vs ds) (L : LstAt φ H) : JOk K H φ (Itl K a) ds := fun i H1 φ1 s L1 => by
  have h1 : SqL K H1 a vs := .inl (rd_keep s h n)
  have hd1 := hd.mono s L
  refine ⟨fun d e => ?_, fun hl => ⟨vs, h1, by rw [hd.length]; exact hl⟩⟩
  obtain ⟨x, e1, q⟩ := hd1.get e
  refine ⟨⟨vs, x, h1, e1⟩, fun y H' hy => ?_⟩
  obtain ⟨rfl, hx⟩ := hy
  have := (hx vs h1).symm.trans e1
  cases this
  exact ⟨Stp.refl, fun _ _ => rfl, q⟩
theorem jok_lstK {a : Addr} {vs : List V} {ds : List PyData} (h : ∀ H', SqL K H' a vs) (hd : DqA K H φ vs ds) (L : LstAt φ H) : JOk K H φ (Itl K a) ds := fun i H1 φ1 s L1 => by
  have h1 : SqL K H1 a vs := h H1
  have hd1 := hd.mono s L
  refine ⟨fun d e => ?_, fun hl => ⟨vs, h1, by rw [hd.length]; exact hl⟩⟩
  obtain ⟨x, e1, q⟩ := hd1.get e
  refine ⟨⟨vs, x, h1, e1⟩, fun y H' hy => ?_⟩
  obtain ⟨rfl, hx⟩ := hy
  have := (hx vs h1).symm.trans e1
  cases this
  exact ⟨Stp.refl, fun _ _ => rfl, q⟩
theorem jok_tup {a : Addr} {vs : List V} {ds : List PyData} (h : SqT K H a vs) (hd : DqA K H φ vs ds) (L : LstAt φ H) : JOk K H φ (Itt K a) ds := fun i H1 φ1 s L1 => by
  have h1 : SqT K H1 a vs := sqT_keep s L h
  have hd1 := hd.mono s L
  refine ⟨fun d e => ?_, fun hl => ⟨vs, h1, by rw [hd.length]; exact hl⟩⟩
  obtain ⟨x, e1, q⟩ := hd1.get e
  refine ⟨⟨vs, x, h1, e1⟩, fun y H' hy => ?_⟩
  obtain ⟨rfl, hx⟩ := hy
  have := (hx vs h1).symm.trans e1
  cases this
  exact ⟨Stp.refl, fun _ _ => rfl, q⟩
theorem jok_str {z : Str} : JOk K H φ (Its z) (z.cps.toList.map signD) := fun i H1 φ1 s L1 => by
  refine ⟨fun d e => ?_, fun hl => ?_⟩
  · rw [List.getElem?_map] at e
    obtain ⟨c, e1, rfl⟩ := Option.map_eq_some_iff.mp e
    have hi : i < z.cps.size := by
      have := (List.getElem?_eq_some_iff.mp e1).1
      simpa using this
    refine ⟨hi, fun y H' hy => ?_⟩
    obtain ⟨rfl, c', e2, rfl⟩ := hy
    have e3 : z.cps.toList[i]? = some c' := by rw [Array.getElem?_toList]; exact e2
    rw [e1] at e3
    cases e3
    exact ⟨Stp.refl, fun _ _ => rfl, .str _⟩
  · rw [List.length_map] at hl
    show z.cps.size ≤ i
    simpa using hl
theorem jok_rng {lo : Int} {n : Nat} : JOk K H φ (Itr lo n) ((List.range n).map fun (k : Nat) => .int (lo + (k : Int))) := fun i H1 φ1 s L1 => by
  refine ⟨fun d e => ?_, fun hl => ?_⟩
  · rw [List.getElem?_map] at e
    obtain ⟨c, e1, rfl⟩ := Option.map_eq_some_iff.mp e
    obtain ⟨h1, h2⟩ := List.getElem?_eq_some_iff.mp e1
    rw [List.length_range] at h1
    rw [List.getElem_range] at h2
    subst h2
    refine ⟨h1, fun y H' hy => ?_⟩
    obtain ⟨rfl, rfl⟩ := hy
    exact ⟨Stp.refl, fun _ _ => rfl, .int _⟩
  · rw [List.length_map, List.length_range] at hl
    exact hl
def iAny (K : PySem.W.Frag) (te : TE) : TI := fun σ H R => te σ H fun x H1 => (∃ a, x = .ref a ∧ (∃ xs, SqL K H1 a xs) ∧ R (Itl K a) H1) ∨ (∃ a, x = .ref a ∧ (∃ xs, SqT K H1 a xs) ∧ R (Itt K a) H1) ∨ ∃ z, x = .str z ∧ R (Its z) H1
theorem pi_any {tg l : Expr} {tl : TE} (hl : PE X l tl) : PI X tg l (iAny X.K tl) := by
  refine ⟨fun pins s σ H R I h => ?_⟩
  refine thn (hl.run pins s σ H _ I h) fun v s1 ⟨x, H1, I1, r1, q1⟩ => ?_
  rcases q1 with ⟨a, rfl, ⟨xs, hq⟩, q⟩ | ⟨a, rfl, ⟨xs, hq⟩, q⟩ | ⟨z, rfl, q⟩
  · cases r1
    obtain ⟨us, _, pl, _⟩ := I1.list hq
    exact wpAny_pyIter_list pl.isList (pi_one (tk := s1.toks) I1 _ (turn_list a _) ⟨_, Heap.get?_push_size _ rfl, rfl, rfl⟩ q)
  · cases r1
    obtain ⟨us, _, pl, _⟩ := I1.tuple hq
    exact wpAny_pyIter_tuple (show s1.heap.IsTuple a us.toArray from pl) (pi_one (tk := s1.toks) I1 _ (turn_tuple a _) ⟨_, Heap.get?_push_size _ rfl, rfl, rfl⟩ q)
  · obtain ⟨t, rfl⟩ := r1
    cases hz : z.cps.all (· < 128)
    · exact wpAny_pyIter_wide hz (pi_one (tk := s1.toks) I1 _ (turn_str _ z t "str_iterator" (.inr rfl)) ⟨_, Heap.get?_push_size _ rfl, rfl, rfl⟩ q)
    · exact wpAny_pyIter_ascii hz (pi_one (tk := s1.toks) I1 _ (turn_str _ z t "str_ascii_iterator" (.inl rfl)) ⟨_, Heap.get?_push_size _ rfl, rfl, rfl⟩ q)
theorem si_seq {tg a : Expr} {ma : Env → M Val} (ha : SE X W C a ma) : SI X W C tg a (fun e => M.bind (ma e) fun v => ofO (iterV v)) := by
  refine weakI (pi_any ha) fun σ H R h => ?_
  obtain ⟨e, st, φ, re, rt, po⟩ := rd_bind (rel := Rv X.K) (ma := ma) (f := fun _ v => ofO (iterV v)) h
  refine ⟨e, st, φ, re, rt, po.imp fun y H1 ⟨e, v, st, φ, re, rt, rv, po⟩ => ?_⟩
  cases ev : iterV v with
  | none => rw [ev] at po; exact False.elim po
  | some xs =>
    rw [ev] at po
    have fin : ∀ J, JOk X.K H1 φ J xs → R J H1 := fun J hJ => po J H1 φ Stp.refl rt hJ
    cases rv with
    | x => cases ev
    | p q =>
      rename_i d
      cases d with
      | list ds =>
        cases ev
        cases q with
        | lst h1 h2 h3 => exact .inl ⟨_, rfl, ⟨_, SqL.of h1⟩, fin _ (jok_lst (.inl h1) h2 h3 rt.lst)⟩
      | tuple ds =>
        cases ev
        cases q with
        | tup h1 h3 => exact .inr (.inl ⟨_, rfl, ⟨_, h1⟩, fin _ (jok_tup h1 h3 rt.lst)⟩)
      | str z =>
        cases ev
        cases q
        exact .inr (.inr ⟨z, rfl, fin _ jok_str⟩)
      | _ => cases ev
    | l _ => cases ev
    | f h1 h2 h3 => cases ev; exact .inl ⟨_, rfl, ⟨_, .inl h1⟩, fin _ (jok_lst h1 h2 h3 rt.lst)⟩
    | fk h1 h3 => cases ev; exact .inl ⟨_, rfl, ⟨_, h1 _⟩, fin _ (jok_lstK h1 h3 rt.lst)⟩
theorem si_rng1 {tg a : Expr} {ma : Env → M Val} {p pos : Pos} (hg : Gl X "range") (hm : X.mg "range" = none) (hs : nst a = true) (ha : SE X W C a ma) : SI X W C tg (.Call (.Name "range" p) [a] [] pos) (fun e => M.bind (ma e) fun v => (match intV v with
    | some n => ofO (rngD 0 n)
    | none => M.no)) := by
  have pa : PA X [a] (tCons (rdE X.K C W (Rv X.K) ma) tNil) := pa_cons ha pa_nil (star_cons hs)
  refine weakI (pi_range1 hg hm pa (star_cons hs)) fun σ H R h => ?_
  obtain ⟨e, st, φ, re, rt, po⟩ := rd_bind (rel := Rv X.K) (ma := ma) (f := fun _ v => (match intV v with
    | some n => ofO (rngD 0 n)
    | none => M.no)) h
  refine ⟨e, st, φ, re, rt, po.imp fun y H1 ⟨e, v, st, φ, re, rt, rv, po⟩ => ?_⟩
  cases ev : intV v with
  | none => rw [ev] at po; exact False.elim po
  | some n =>
    rw [ev] at po
    dsimp only at po
    unfold rngD at po
    split at po
    · rename_i hz
      refine ⟨n, by rw [intV_of rv ev], hz.2.2.1, hz.2.2.2, po _ H1 φ Stp.refl rt ?_⟩
      have := jok_rng (K := X.K) (H := H1) (φ := φ) (lo := 0) (n := n.toNat)
      rw [Int.sub_zero]
      exact this
    · exact False.elim po
theorem si_rng2 {tg a b : Expr} {ma mb : Env → M Val} {p pos : Pos} (hg : Gl X "range") (hm : X.mg "range" = none) (hs : nst a = true) (hs' : nst b = true) (ha : SE X W C a ma) (hb : SE X W C b mb) : SI X W C tg (.Call (.Name "range" p) [a, b] [] pos) (fun e => M.bind (ma e) fun v => M.bind (mb e) fun u => (match intV v, intV u with
    | some n, some m => ofO (rngD n m)
    | _, _ => M.no)) := by
  have pa : PA X [a, b] (tCons (rdE X.K C W (Rv X.K) ma) (tCons (rdE X.K C W (Rv X.K) mb) tNil)) := pa_cons ha (pa_cons hb pa_nil (star_cons hs')) (star_cons hs)
  refine weakI (pi_range2 hg hm pa (by rw [star_cons hs, star_cons hs']; rfl) (star_cons hs')) fun σ H R h => ?_
  obtain ⟨e, st, φ, re, rt, po⟩ := rd_bind (rel := Rv X.K) (ma := ma) (f := fun e v => M.bind (mb e) fun u => (match intV v, intV u with
    | some n, some m => ofO (rngD n m)
    | _, _ => M.no)) h
  refine ⟨e, st, φ, re, rt, po.imp fun y H1 ⟨e, v, st, φ, re, rt, rv, po⟩ => ?_⟩
  obtain ⟨e, st, φ, re, rt, po⟩ := rd_bind2 (rel := Rv X.K) (m := mb) (f := fun _ u => (match intV v, intV u with
    | some n, some m => ofO (rngD n m)
    | _, _ => M.no)) re rt rv po
  refine ⟨e, st, φ, re, rt, po.imp fun z H2 ⟨u, st, φ, re, rt, rv, ru, po⟩ => ?_⟩
  cases ev : intV v with
  | none => rw [ev] at po; exact False.elim po
  | some n =>
    cases eu : intV u with
    | none => rw [ev, eu] at po; exact False.elim po
    | some k =>
      rw [ev, eu] at po
      dsimp only at po
      unfold rngD at po
      split at po
      · rename_i hz
        exact ⟨n, k, by rw [intV_of rv ev, intV_of ru eu], hz, po _ H2 φ Stp.refl rt jok_rng⟩
      · exact False.elim po
/-! ### pairs -/
theorem zip_get {xs ys : List PyData} {i : Nat} {d : PyData} (h : (zip2D xs ys)[i]? = some d) : ∃ x y, xs[i]? = some x ∧ ys[i]? = some y ∧ d = .tuple [x, y] := by
  unfold zip2D at h
  rw [List.getElem?_zipWith] at h
  cases hx : xs[i]? with
  | none => rw [hx] at h; cases h
  | some x =>
    cases hy : ys[i]? with
    | none => rw [hx, hy] at h; cases h
    | some y => rw [hx, hy] at h; cases h; exact ⟨x, y, rfl, rfl, rfl⟩
theorem zip_len {xs ys : List PyData} {i : Nat} (h : (zip2D xs ys).length ≤ i) : xs.length ≤ i ∨ ys.length ≤ i := by
  unfold zip2D at h
  rw [List.length_zipWith] at h
  omega
theorem pair_new {T : Addr} {x y : V} {d d' : PyData} {H1 : Hp} (L1 : LstAt φ H1) (hT : H1 T = none) (hx : Dq K H1 φ x d) (hy : Dq K H1 φ y d') :
    Stp φ H1 φ (upd H1 T (.tup [x, y])) ∧ (∀ a ∈ φ, upd H1 T (.tup [x, y]) a = H1 a) ∧ Dq K (upd H1 T (.tup [x, y])) φ (.ref T) (.tuple [d, d']) := by
  have s : Stp φ H1 φ (upd H1 T (.tup [x, y])) := Stp.laid hT
  refine ⟨s, fun a ha => upd_ne fun q => ?_, .tup (SqT.of upd_same) (.cons (hx.mono s L1) (.cons (hy.mono s L1) .nil))⟩
  obtain ⟨vs, e⟩ := L1 a ha
  rw [q, hT] at e
  cases e
theorem jok_zipL {a b : Addr} {vs ws : List V} {ds es : List PyData} (h : H a = some (.lst vs)) (n : a ∉ φ) (hd : DqA K H φ vs ds) (h' : H b = some (.lst ws)) (n' : b ∉ φ) (hd' : DqA K H φ ws es) (L : LstAt φ H) : JOk K H φ (Itz K a b) (zip2D ds es) := fun i H1 φ1 s L1 => by
  have h1 : SqL K H1 a vs := SqL.of (s.keep _ _ h n)
  have h2 : SqL K H1 b ws := SqL.of (s.keep _ _ h' n')
  have hd1 := hd.mono s L
  have hd2 := hd'.mono s L
  refine ⟨fun d e => ?_, fun hl => ⟨vs, ws, h1, h2, by rw [hd.length, hd'.length]; exact zip_len hl⟩⟩
  obtain ⟨x, y, e1, e2, rfl⟩ := zip_get e
  obtain ⟨x', f1, q1⟩ := hd1.get e1
  obtain ⟨y', f2, q2⟩ := hd2.get e2
  refine ⟨⟨vs, ws, x', y', h1, h2, f1, f2⟩, fun z H' hz => ?_⟩
  obtain ⟨T, x2, y2, rfl, hT, rfl, g1, g2⟩ := hz
  have := (g1 vs h1).symm.trans f1
  cases this
  have := (g2 ws h2).symm.trans f2
  cases this
  exact pair_new L1 hT q1 q2
theorem jok_zipT {a b : Addr} {vs ws : List V} {ds es : List PyData} (h : SqT K H a vs) (hd : DqA K H φ vs ds) (h' : SqT K H b ws) (hd' : DqA K H φ ws es) (L : LstAt φ H) : JOk K H φ (RZ.ItzT K a b) (zip2D ds es) := fun i H1 φ1 s L1 => by
  have h1 : SqT K H1 a vs := sqT_keep s L h
  have h2 : SqT K H1 b ws := sqT_keep s L h'
  have hd1 := hd.mono s L
  have hd2 := hd'.mono s L
  refine ⟨fun d e => ?_, fun hl => ⟨vs, ws, h1, h2, by rw [hd.length, hd'.length]; exact zip_len hl⟩⟩
  obtain ⟨x, y, e1, e2, rfl⟩ := zip_get e
  obtain ⟨x', f1, q1⟩ := hd1.get e1
  obtain ⟨y', f2, q2⟩ := hd2.get e2
  refine ⟨⟨vs, ws, x', y', h1, h2, f1, f2⟩, fun z H' hz => ?_⟩
  obtain ⟨T, x2, y2, rfl, hT, rfl, g1, g2⟩ := hz
  have := (g1 vs h1).symm.trans f1
  cases this
  have := (g2 ws h2).symm.trans f2
  cases this
  exact pair_new L1 hT q1 q2
theorem enum_get {xs : List PyData} : ∀ {k i : Nat} {d : PyData}, (enumD k xs)[i]? = some d → ∃ x, xs[i]? = some x ∧ d = .tuple [.int ((k + i : Nat) : Int), x] := by
  induction xs with
  | nil => intro k i d h; simp [enumD] at h
  | cons x r ih =>
    intro k i d h
    cases i with
    | zero => simp [enumD] at h; subst h; exact ⟨x, rfl, rfl⟩
    | succ i =>
      obtain ⟨y, h1, h2⟩ := ih (k := k + 1) (i := i) (by simpa [enumD] using h)
      exact ⟨y, by simpa using h1, by rw [h2, show k + 1 + i = k + (i + 1) by omega]⟩
theorem enum_len : ∀ {xs : List PyData} {k : Nat}, (enumD k xs).length = xs.length
  | [], _ => rfl
  | _ :: r, k => by unfold enumD; rw [List.length_cons, List.length_cons, enum_len]
theorem jok_enum {a : Addr} {vs : List V} {ds : List PyData} (h : H a = some (.lst vs)) (n : a ∉ φ) (hd : DqA K H φ vs ds) (L : LstAt φ H) : JOk K H φ (Ite K a) (enumD 0 ds) := fun i H1 φ1 s L1 => by
  have h1 : SqL K H1 a vs := SqL.of (s.keep _ _ h n)
  have hd1 := hd.mono s L
  refine ⟨fun d e => ?_, fun hl => ⟨vs, h1, by rw [hd.length]; rw [enum_len] at hl; exact hl⟩⟩
  obtain ⟨x, e1, rfl⟩ := enum_get e
  obtain ⟨x', f1, q1⟩ := hd1.get e1
  refine ⟨⟨vs, x', h1, f1⟩, fun z H' hz => ?_⟩
  obtain ⟨T, x2, rfl, hT, rfl, g1⟩ := hz
  have := (g1 vs h1).symm.trans f1
  cases this
  rw [Nat.zero_add]
  exact pair_new L1 hT (.int _) q1
theorem si_zip2 {elts : List Expr} {kk : Nat} {tpos : Pos} {a b : Expr} {ma mb : Env → M Val} {p pos : Pos} (hg : Gl X "zip") (hm : X.mg "zip" = none) (hs : nst a = true) (hs' : nst b = true) (ha : SE X W C a ma) (hb : SE X W C b mb) : SI X W C (.Tuple elts kk tpos) (.Call (.Name "zip" p) [a, b] [] pos) (fun e => M.bind (ma e) fun v => M.bind (mb e) fun u => (match v, u with
    | .p (.list xs), .p (.list ys) => M.ret (zip2D xs ys)
    | .p (.tuple xs), .p (.tuple ys) => M.ret (zip2D xs ys)
    | _, _ => M.no)) := by
  have pa : PA X [a, b] (tCons (rdE X.K C W (Rv X.K) ma) (tCons (rdE X.K C W (Rv X.K) mb) tNil)) := pa_cons ha (pa_cons hb pa_nil (star_cons hs')) (star_cons hs)
  refine weakI (RZ.pi_zipA hg hm pa (star_cons hs) (star_none (by rw [List.all_cons, hs']; rfl))) fun σ H R h => ?_
  obtain ⟨e, st, φ, re, rt, po⟩ := rd_bind (rel := Rv X.K) (ma := ma) (f := fun e v => M.bind (mb e) fun u => (match v, u with
    | .p (.list xs), .p (.list ys) => M.ret (zip2D xs ys)
    | .p (.tuple xs), .p (.tuple ys) => M.ret (zip2D xs ys)
    | _, _ => M.no)) h
  refine ⟨e, st, φ, re, rt, po.imp fun y H1 ⟨e1, v, st1, φ1, re1, rt1, rv1, po1⟩ => ?_⟩
  obtain ⟨e2, st2, φ2, re2, rt2, po2⟩ := rd_bind2 (rel := Rv X.K) (m := mb) (f := fun _ u => (match v, u with
    | .p (.list xs), .p (.list ys) => M.ret (zip2D xs ys)
    | .p (.tuple xs), .p (.tuple ys) => M.ret (zip2D xs ys)
    | _, _ => M.no)) re1 rt1 rv1 po1
  refine ⟨e2, st2, φ2, re2, rt2, po2.imp fun z H2 ⟨u, st, φ, re, rt, rv, ru, po3⟩ => ?_⟩
  clear po po1 po2 rv1
  split at po3
  · cases rv with
    | p q => cases ru with
      | p q' => cases q with
        | lst h1 h2 h3 => cases q' with
          | lst g1 g2 g3 => exact ⟨_, _, _, _, rfl, .inl ⟨SqL.of h1, SqL.of g1, po3 _ H2 φ Stp.refl rt (jok_zipL h1 h2 h3 g1 g2 g3 rt.lst)⟩⟩
  · cases rv with
    | p q => cases ru with
      | p q' => cases q with
        | tup h1 h3 => cases q' with
          | tup g1 g3 => exact ⟨_, _, _, _, rfl, .inr ⟨h1, g1, po3 _ H2 φ Stp.refl rt (jok_zipT h1 h3 g1 g3 rt.lst)⟩⟩
  · exact False.elim po3
theorem si_enum {elts : List Expr} {kk : Nat} {tpos : Pos} {a : Expr} {ma : Env → M Val} {p pos : Pos} (hg : Gl X "enumerate") (hm : X.mg "enumerate" = none) (hs : nst a = true) (ha : SE X W C a ma) : SI X W C (.Tuple elts kk tpos) (.Call (.Name "enumerate" p) [a] [] pos) (fun e => M.bind (ma e) fun v => (match v with
    | .p (.list xs) => M.ret (enumD 0 xs)
    | _ => M.no)) := by
  have pa : PA X [a] (tCons (rdE X.K C W (Rv X.K) ma) tNil) := pa_cons ha pa_nil (star_cons hs)
  refine weakI (pi_enum hg hm pa (star_cons hs)) fun σ H R h => ?_
  obtain ⟨e, st, φ, re, rt, po⟩ := rd_bind (rel := Rv X.K) (ma := ma) (f := fun _ v => (match v with
    | .p (.list xs) => M.ret (enumD 0 xs)
    | _ => M.no)) h
  refine ⟨e, st, φ, re, rt, po.imp fun y H1 ⟨e, v, st, φ, re, rt, rv, po⟩ => ?_⟩
  split at po
  · cases rv with
    | p q => cases q with
      | lst h1 h2 h3 => exact ⟨_, _, rfl, SqL.of h1, po _ H1 φ Stp.refl rt (jok_enum h1 h2 h3 rt.lst)⟩
  · exact False.elim po
end
end Rk

set_option Elab.async false
set_option linter.all false
set_option maxRecDepth 100000
set_option maxHeartbeats 4000000
namespace Rk
open PySem PySem.Spec PyProof.Rows L2
/-! ### targets -/
mutual
def gT (K : PySem.W.Frag) : Tg → TG
  | .nm i => gName i
  | .tp ts => fun v σ H Q => (∃ a xs, v = .ref a ∧ SqT K H a xs ∧ xs.length = ts.length ∧ gTs K ts xs σ H Q) ∨ (∃ a xs, v = .ref a ∧ SqL K H a xs ∧ xs.length = ts.length ∧ gTs K ts xs σ H Q)
def gTs (K : PySem.W.Frag) : List Tg → TGs
  | [] => gNil
  | t :: ts => gCons (gT K t) (gTs K ts)
end
/-- the names of a target are the def's own -/
def locB (S : Sc) (i : Nat) (x : Str) : Bool := decide (S.N[i]? = some x) && (match S.sc.names.lookup x with
  | some .local => true
  | some .cell => S.fn x
  | _ => false)
mutual
def chkT (S : Sc) : Tg → Expr → Bool
  | .nm i, e => (match e with
    | .Name x _ => locB S i x
    | _ => false)
  | .tp ts, e => (match e with
    | .Tuple es _ _ => chkTs S ts es
    | _ => false)
def chkTs (S : Sc) : List Tg → List Expr → Bool
  | [], [] => true
  | t :: ts, e :: es => nst e && chkT S t e && chkTs S ts es
  | _, _ => false
end
theorem ae_len {env : PySem.Env} : ∀ {es : List Expr}, (assignEach es env).length = es.length
  | [] => rfl
  | e :: es => by cases e <;> (show (assignEach es env).length + 1 = es.length + 1) <;> rw [ae_len]
theorem ae_cons {e : Expr} {es : List Expr} {env : PySem.Env} (h : nst e = true) : assignEach (e :: es) env = (false, assign e env) :: assignEach es env := by
  cases e <;> first | rfl | (exact absurd h Bool.false_ne_true)
theorem chkTs_len {S : Sc} : ∀ {ts : List Tg} {es : List Expr}, chkTs S ts es = true → es.length = ts.length ∧ es.all nst = true
  | [], [], _ => ⟨rfl, rfl⟩
  | [], _ :: _, h => absurd h (by simp [chkTs])
  | _ :: _, [], h => absurd h (by simp [chkTs])
  | t :: ts, e :: es, h => by
    unfold chkTs at h
    rw [Bool.and_eq_true, Bool.and_eq_true] at h
    obtain ⟨h1, h2⟩ := chkTs_len h.2
    exact ⟨by rw [List.length_cons, List.length_cons, h1], by rw [List.all_cons, h.1.1, h2]; rfl⟩
theorem ae_star {env : PySem.Env} : ∀ {es : List Expr}, es.all nst = true → (assignEach es env).findIdx? (·.1) = none
  | [], _ => rfl
  | e :: es, h => by
    rw [List.all_cons, Bool.and_eq_true] at h
    rw [ae_cons h.1, List.findIdx?_cons, ae_star h.2]
    rfl
section
variable {X : Cx} {S : Sc}
theorem pg_tg {ts : List Tg} {es : List Expr} {k : Nat} {pos : Pos} (hc : X.calm = true) (hl : es.length = ts.length) (hs : es.all nst = true) (h : PGs X es (gTs X.K ts)) : PG X (.Tuple es k pos) (gT X.K (.tp ts)) := by
  refine ⟨fun pins s σ H v u Q I r hw => ?_⟩
  unfold gT at hw
  rcases hw with hw | hw
  · exact (pg_tup (k := k) (pos := pos) (n := ts.length) hc h (by rw [ae_len, hl]) (ae_star hs)).run pins s σ H v u Q I r hw
  · exact (pg_lst (k := k) (pos := pos) (n := ts.length) hc h (by rw [ae_len, hl]) (ae_star hs)).run pins s σ H v u Q I r hw
theorem loc_of {i : Nat} {x : Str} (hN : X.N = S.N) (hsc : X.env.scope = S.sc) (hfn : X.fn = S.fn) (h : locB S i x = true) : X.N[i]? = some x ∧ Loc X.env.scope x ∧ (X.fn x = true ∨ X.env.scope.names.lookup x = some .local) := by
  unfold locB at h
  rw [Bool.and_eq_true] at h
  rw [hN, hsc, hfn]
  refine ⟨of_decide_eq_true h.1, ?_⟩
  have h2 := h.2
  split at h2
  · rename_i e; exact ⟨.inl e, .inr e⟩
  · rename_i e; exact ⟨.inr e, .inl h2⟩
  · cases h2
mutual
theorem s_tgt (hc : X.calm = true) (hnd : X.N.Nodup) (hN : X.N = S.N) (hsc : X.env.scope = S.sc) (hfn : X.fn = S.fn) : ∀ (t : Tg) (e : Expr), chkT S t e = true → PG X e (gT X.K t)
  | .nm i, e, h => by
    unfold chkT at h
    split at h
    · obtain ⟨h1, h2, h3⟩ := loc_of hN hsc hfn h
      unfold gT
      exact pg_name hnd h1 h2 h3
    · cases h
  | .tp ts, e, h => by
    unfold chkT at h
    split at h
    · obtain ⟨h1, h2⟩ := chkTs_len h
      exact pg_tg hc h1 h2 (s_tgts hc hnd hN hsc hfn ts _ h)
    · cases h
theorem s_tgts (hc : X.calm = true) (hnd : X.N.Nodup) (hN : X.N = S.N) (hsc : X.env.scope = S.sc) (hfn : X.fn = S.fn) : ∀ (ts : List Tg) (es : List Expr), chkTs S ts es = true → PGs X es (gTs X.K ts)
  | [], [], _ => by unfold gTs; exact pgs_nil
  | [], _ :: _, h => absurd h (by simp [chkTs])
  | _ :: _, [], h => absurd h (by simp [chkTs])
  | t :: ts, e :: es, h => by
    unfold chkTs at h
    rw [Bool.and_eq_true, Bool.and_eq_true] at h
    unfold gTs
    exact pgs_cons (s_tgt hc hnd hN hsc hfn t e h.1.2) (s_tgts hc hnd hN hsc hfn ts es h.2) (by rw [ae_cons h.1.1]; rfl)
end
end
/-! the places of a target -/
mutual
def inT (own : List Nat) : Tg → Bool
  | .nm i => decide (i ∈ own)
  | .tp ts => inTs own ts
def inTs (own : List Nat) : List Tg → Bool
  | [] => true
  | t :: ts => inT own t && inTs own ts
end
theorem wipe_set {i : Nat} {o : Option V} : ∀ {own : List Nat} {σ : L2.St}, i ∈ own → wipe (σ.set i o) own = wipe σ own
  | [], _, h => by cases h
  | j :: own, σ, h => by
    show (wipe (σ.set i o) own).set j none = (wipe σ own).set j none
    by_cases hj : i = j
    · subst hj
      by_cases hm : i ∈ own
      · rw [wipe_set hm]
      · have key : ∀ own : List Nat, i ∉ own → wipe (σ.set i o) own = (wipe σ own).set i o := by
          intro own
          induction own with
          | nil => intro _; rfl
          | cons k own ih =>
            intro hn
            rw [List.mem_cons, not_or] at hn
            show (wipe (σ.set i o) own).set k none = ((wipe σ own).set k none).set i o
            rw [ih hn.2, List.set_comm _ _ hn.1]
        rw [key own hm, List.set_set]
    · rcases List.mem_cons.mp h with q | q
      · exact absurd q hj
      · rw [wipe_set q]
section
variable {K : PySem.W.Frag} {H : Hp} {φ : List Addr}
mutual
theorem gT_ok (own : List Nat) : ∀ (t : Tg) {d : PyData} {e e' : Env} {x : V} {σ : L2.St} {Q : L2.St → Hp → Prop}, tgt t d e = some e' → Dq K H φ x d → Re K H φ σ e → (∀ σ', Re K H φ σ' e' → (inT own t = true → wipe σ' own = wipe σ own) → Q σ' H) → gT K t x σ H Q
  | .nm i, d, e, e', x, σ, Q, h, hd, re, q => by
    unfold tgt at h
    cases h
    unfold gT
    refine q _ (re.set (.p hd)) fun hi => ?_
    unfold inT at hi
    exact wipe_set (of_decide_eq_true hi)
  | .tp ts, d, e, e', x, σ, Q, h, hd, re, q => by
    unfold tgt at h
    unfold gT
    split at h
    · split at h
      · rename_i hl
        cases hd with
        | tup h1 h2 => exact .inl ⟨_, _, rfl, h1, by rw [h2.length]; exact hl, gTs_ok own ts h h2 re fun σ' r w => q σ' r fun hi => w (by unfold inT at hi; exact hi)⟩
      · cases h
    · split at h
      · rename_i hl
        cases hd with
        | lst h1 _ h2 => exact .inr ⟨_, _, rfl, SqL.of h1, by rw [h2.length]; exact hl, gTs_ok own ts h h2 re fun σ' r w => q σ' r fun hi => w (by unfold inT at hi; exact hi)⟩
      · cases h
    · cases h
theorem gTs_ok (own : List Nat) : ∀ (ts : List Tg) {ds : List PyData} {e e' : Env} {xs : List V} {σ : L2.St} {Q : L2.St → Hp → Prop}, tgts ts ds e = some e' → DqA K H φ xs ds → Re K H φ σ e → (∀ σ', Re K H φ σ' e' → (inTs own ts = true → wipe σ' own = wipe σ own) → Q σ' H) → gTs K ts xs σ H Q
  | [], [], e, e', xs, σ, Q, h, hd, re, q => by
    cases hd
    unfold tgts at h
    cases h
    unfold gTs
    exact ⟨rfl, q σ re fun _ => rfl⟩
  | [], _ :: _, _, _, _, _, _, h, _, _, _ => by simp [tgts] at h
  | _ :: _, [], _, _, _, _, _, h, _, _, _ => by simp [tgts] at h
  | t :: ts, d :: ds, e, e', xs, σ, Q, h, hd, re, q => by
    unfold tgts at h
    obtain ⟨e1, h1, h2⟩ := Option.bind_eq_some_iff.mp h
    cases hd with
    | cons a b =>
      unfold gTs
      refine ⟨_, _, rfl, gT_ok own t h1 a re fun σ1 r1 w1 => gTs_ok own ts h2 b r1 fun σ2 r2 w2 => q σ2 r2 fun hi => ?_⟩
      unfold inTs at hi
      rw [Bool.and_eq_true] at hi
      rw [w2 hi.2, w1 hi.1]
end
end
/-! ### a smaller store -/
section
variable {K : PySem.W.Frag} {H : Hp} {φ φ' : List Addr}
mutual
theorem Dq.sub (hs : ∀ a ∈ φ', a ∈ φ) : ∀ {v : V} {d : PyData}, Dq K H φ v d → Dq K H φ' v d
  | _, _, .non => .non
  | _, _, .bl b => .bl b
  | _, _, .int i => .int i
  | _, _, .str x => .str x
  | _, _, .lst h n a => .lst h (fun q => n (hs _ q)) (DqA.sub hs a)
  | _, _, .tup h a => .tup h (DqA.sub hs a)
theorem DqA.sub (hs : ∀ a ∈ φ', a ∈ φ) : ∀ {vs : List V} {ds : List PyData}, DqA K H φ vs ds → DqA K H φ' vs ds
  | _, _, .nil => .nil
  | _, _, .cons a b => .cons (Dq.sub hs a) (DqA.sub hs b)
end
theorem Rt.take {st : Store} (r : Rt K H φ st) (n : Nat) : Rt K H (φ.take n) (st.take n) :=
  ⟨pr_map (pr_take n r.at_) fun a xs _ ⟨vs, h1, h2⟩ => ⟨vs, h1, h2.sub fun b hb => List.mem_of_mem_take hb⟩, r.nd.sublist (List.take_sublist n φ)⟩
theorem Stp.back {H1 : Hp} {φ1 : List Addr} (s : Stp φ1 H1 φ H) (hp : φ1 <+: φ') (hs : ∀ a ∈ φ', a ∈ φ) : Stp φ1 H1 φ' H := ⟨hp, s.keep, fun a ha n => s.new a (hs a ha) n⟩
theorem pre_take {α : Type} {l l' : List α} (h : l <+: l') : l'.take l.length = l := by
  obtain ⟨t, rfl⟩ := h
  rw [List.take_append_of_le_length (Nat.le_refl _), List.take_length]
end
end Rk

set_option Elab.async false
set_option linter.all false
set_option maxRecDepth 100000
set_option maxHeartbeats 4000000
namespace Rk
open PySem PySem.Spec PyProof.Rows L2
/-- no exception is wished for -/
abbrev W0 : WX := fun _ _ _ _ => False
def compEnd (m : Bool) (k : Nat) (r : Rs Unit) : Rs Val := match r with
  | .ok _ st2 => (match st2[k]? with
    | some acc => if m then .ok (.l k) (st2.take (k + 1)) else .ok (.p (.list acc)) (st2.take k)
    | none => .no)
  | _ => .no
theorem compM_eq {m : Bool} {tg : PyData → Env → Option Env} {test : Env → M Bool} {elt : Env → M Val} {e : Env} {xs : List PyData} {st : Store} : compM m tg test elt e xs st = compEnd m st.length (compL tg test elt e st.length xs (st ++ [[]])) := rfl
section
variable {K : PySem.W.Frag} {C : Str → Addr} {W : WX}
theorem pre_get {l l' : List Addr} {a : Addr} (h : l ++ [a] <+: l') : l'[l.length]? = some a := by
  obtain ⟨t, rfl⟩ := h
  rw [List.append_assoc, List.getElem?_append_right (Nat.le_refl _), Nat.sub_self]
  rfl
theorem wipe_sub {σ : L2.St} {own : List Nat} : ∀ l : List Nat, (∀ i ∈ l, i ∈ own) → wipe (wipe σ l) own = wipe σ own
  | [], _ => rfl
  | i :: l, h => (wipe_set (h i (List.mem_cons_self ..))).trans (wipe_sub l fun j hj => h j (List.mem_cons_of_mem _ hj))
theorem lc_rd {m : Bool} {own : List Nat} {t : Tg} {mi : Env → M (List PyData)} {mt : Env → M Bool} {me : Env → M Val} {σ : L2.St} {H : Hp} {Q : VK} (hin : inT own t = true)
    (h : rdE K C W (Rv K) (fun e => M.bind (mi e) fun xs => compM m (fun d e => tgt t d e) mt me (wipeE e own) xs) σ H Q) :
    tLc (rdE K C W (JOk K) mi) (gT K t) (rdE K C W0 eqR mt) (rdE K C W0 (Rv K) me) own σ H Q := by
  obtain ⟨e, st, φ, re, rt, po⟩ := rd_bind (rel := JOk K) (ma := mi) (f := fun e xs => compM m (fun d e => tgt t d e) mt me (wipeE e own) xs) h
  refine ⟨e, st, φ, re, rt, po.imp fun J H1 ⟨e, xs, st, φ, re, rt, hJ, po⟩ => ?_⟩
  clear h
  intro D hD
  have hn0 : φ.length = st.length := rt.length
  rw [compM_eq] at po
  have s0 : Stp φ H1 (φ ++ [D]) (upd H1 D (.lst [])) := Stp.more hD
  have nD : D ∉ φ := rt.notin hD
  let G : List PyData → Store → Prop := fun ys st2 => PoR (Rv K) K (fun c H' => W (.ref (C c)) none σ H') H1 φ Q (compEnd m st.length (compL (fun d e => tgt t d e) mt me (wipeE e own) st.length ys st2))
  refine ⟨fun i mm H2 => mm = xs.length - i ∧ i ≤ xs.length ∧ ∃ st2 φ2, Stp (φ ++ [D]) (upd H1 D (.lst [])) φ2 H2 ∧ Rt K H2 φ2 st2 ∧ G (xs.drop i) st2, ⟨xs.length, by simp, Nat.zero_le _, st ++ [[]], φ ++ [D], Stp.refl, rt.more hD .nil, by rw [List.drop_zero]; exact po⟩, ?_⟩
  rintro i mm H2 ⟨rfl, hi, st2, φ2, s2, rt2, g⟩
  have s02 := s0.trans s2
  have hat : φ2[st.length]? = some D := by rw [← hn0]; exact pre_get s2.pre
  obtain ⟨j1, j2⟩ := hJ i H2 φ2 s02 rt2.lst
  by_cases hlt : i < xs.length
  · have hx : xs[i]? = some xs[i] := List.getElem?_eq_getElem hlt
    obtain ⟨g1, g2⟩ := j1 _ hx
    refine .inr ⟨g1, fun H' => ∃ st' φ', Stp (φ ++ [D]) (upd H1 D (.lst [])) φ' H' ∧ Rt K H' φ' st' ∧ G (xs.drop (i + 1)) st', fun H' ⟨st', φ', q1, q2, q3⟩ => ⟨xs.length - (i + 1), by omega, rfl, hlt, st', φ', q1, q2, q3⟩, fun y H3 hy => ?_⟩
    obtain ⟨s3, k3, d3⟩ := g2 y H3 hy
    have rt3 := rt2.keep s3 k3
    have hdrop : xs.drop i = xs[i] :: xs.drop (i + 1) := List.drop_eq_getElem_cons hlt
    have g : G (xs[i] :: xs.drop (i + 1)) st2 := by rw [← hdrop]; exact g
    have re3 : Re K H3 φ2 (wipe σ own) (wipeE e own) := ((re.wipe own).mono s02 rt.lst).mono s3 rt2.lst
    have g' : PoR (Rv K) K (fun c H' => W (.ref (C c)) none σ H') H1 φ Q (compEnd m st.length (match tgt t xs[i] (wipeE e own) with
      | none => .no
      | some e1 => (match mt e1 st2 with
        | .ok true st1 => (match me e1 st1 with
          | .ok (.p d) st2 => (match st2[st.length]? with
            | some acc => if acc.length < sizeLine then compL (fun d e => tgt t d e) mt me (wipeE e own) st.length (xs.drop (i + 1)) (st2.set st.length (acc ++ [d])) else .no
            | none => .no)
          | _ => .no)
        | .ok false st1 => compL (fun d e => tgt t d e) mt me (wipeE e own) st.length (xs.drop (i + 1)) st1
        | _ => .no))) := g
    cases et : tgt t xs[i] (wipeE e own) with
    | none => rw [et] at g'; exact False.elim g'
    | some e1 =>
      rw [et] at g'
      dsimp only at g'
      refine gT_ok own t et d3 re3 fun σ2 re4 hw => ⟨(hw hin).trans (wipe_sub own fun _ h => h), e1, st2, φ2, re4, rt3, ?_⟩
      cases em : mt e1 st2 with
      | no => rw [em] at g'; exact g'
      | ex c st' => rw [em] at g'; exact g'.elim
      | ok b st5 =>
        rw [em] at g'
        intro b' H5 φ5 s5 rt5 hb
        have hb : b' = b := hb
        subst hb
        have re5 := re4.mono s5 rt3.lst
        have sa5 := (s2.trans s3).trans s5
        cases b' with
        | false =>
          rw [if_neg Bool.false_ne_true]
          exact ⟨st5, φ5, sa5, rt5, g'⟩
        | true =>
          rw [if_pos rfl]
          dsimp only at g'
          refine ⟨e1, st5, φ5, re5, rt5, ?_⟩
          cases ee : me e1 st5 with
          | no => rw [ee] at g'; exact g'
          | ex c st' => rw [ee] at g'; exact g'.elim
          | ok v st6 =>
            rw [ee] at g'
            cases v with
            | p d =>
              dsimp only at g'
              intro z H6 φ6 s6 rt6 hz
              have sa6 := sa5.trans s6
              have hat6 : φ6[st.length]? = some D := by rw [← hn0]; exact pre_get sa6.pre
              obtain ⟨acc, vs, a1, a2, a3⟩ := rt6.at' hat6
              rw [a1] at g'
              dsimp only at g'
              split at g'
              · rename_i hl
                cases hz with
                | p hz =>
                  refine ⟨vs, a2, by rw [a3.length]; exact hl, _, φ6, sa6.trans (Stp.set (List.mem_of_getElem? hat6)), rt6.set hat6 (a3.append (.cons hz .nil)), g'⟩
              · exact False.elim g'
            | _ => exact False.elim g'
  · have e0 : xs.drop i = [] := List.drop_eq_nil_of_le (by omega)
    rw [e0] at g
    refine .inl ⟨j2 (by omega), ?_⟩
    obtain ⟨acc, vs, a1, a2, a3⟩ := rt2.at' hat
    have g' : PoR (Rv K) K (fun c H' => W (.ref (C c)) none σ H') H1 φ Q (match st2[st.length]? with
      | some acc => if m then .ok (.l st.length) (st2.take (st.length + 1)) else .ok (.p (.list acc)) (st2.take st.length)
      | none => .no) := g
    rw [a1] at g'
    dsimp only at g'
    have p1 : φ2.take (st.length + 1) = φ ++ [D] := by
      have := pre_take s2.pre
      rw [List.length_append, List.length_singleton, hn0] at this
      exact this
    have p0 : φ2.take st.length = φ := by
      have := pre_take s02.pre
      rw [hn0] at this
      exact this
    cases m with
    | true =>
      rw [if_pos rfl] at g'
      have r' := rt2.take (st.length + 1)
      rw [p1] at r'
      refine g' (.ref D) H2 (φ ++ [D]) (s02.back (List.prefix_append _ _) fun a ha => ?_) r' (.l ?_)
      · rw [← p1] at ha; exact List.mem_of_mem_take ha
      · rw [← hn0]; exact pre_get (List.prefix_refl _)
    | false =>
      rw [if_neg Bool.false_ne_true] at g'
      have r' := rt2.take st.length
      rw [p0] at r'
      have hsub : ∀ a ∈ φ, a ∈ φ2 := fun a ha => by rw [← p0] at ha; exact List.mem_of_mem_take ha
      exact g' (.ref D) H2 φ (s02.back (List.prefix_refl _) hsub) r' (.p (.lst a2 nD (a3.sub hsub)))
end
section
variable {X : Cx} {W : WX} {C : Str → Addr}
theorem weakTs {ifs : List Expr} {t t' : TT} (h : PTs X ifs t) (i : ∀ σ H Q, t' σ H Q → t σ H Q) : PTs X ifs t' := ⟨fun pins s σ H Q I q => h.run pins s σ H Q I (i σ H Q q)⟩
theorem weakS {x : Stmt} {t t' : TS} (h : PS X x t) (i : ∀ D σ H, t' D σ H → t D σ H) : PS X x t' := ⟨fun pins s σ H D I q => h.run pins s σ H D I (i D σ H q)⟩
theorem weakSs {x : List Stmt} {t t' : TS} (h : PSs X x t) (i : ∀ D σ H, t' D σ H → t D σ H) : PSs X x t' := ⟨fun pins s σ H D I q => h.run pins s σ H D I (i D σ H q)⟩
theorem sts_nil : PTs X [] (rdE X.K C W eqR (fun _ => M.ret true)) := weakTs pts_nil fun σ H Q ⟨e, st, φ, re, rt, po⟩ => po true H φ Stp.refl rt rfl
theorem s_comp {m : Bool} {own : List (Str × Nat)} {t : Tg} {elt tg iter : Expr} {ifs : List Expr} {scope : Scope} {pos : Pos} {mi : Env → M (List PyData)} {mt : Env → M Bool} {me : Env → M Val} (hc : X.calm = true) (hN : X.N.Nodup) (hin : inT (own.map (·.2)) t = true) (hi : SI X W C tg iter mi) (ok : BlkOk X.N X.env.scope scope own)
    (hg : ∀ (s : Shared) (H : Hp) (A : Addr) (cl : List (Str × Addr)) (fp : List Addr), PG (X.blk s H scope (compEnvC scope cl A X.env) fp) tg (gT X.K t))
    (ht : ∀ (s : Shared) (H : Hp) (A : Addr) (cl : List (Str × Addr)) (fp : List Addr), PTs (X.blk s H scope (compEnvC scope cl A X.env) fp) ifs (rdE X.K C W0 eqR mt))
    (he : ∀ (s : Shared) (H : Hp) (A : Addr) (cl : List (Str × Addr)) (fp : List Addr), PE (X.blk s H scope (compEnvC scope cl A X.env) fp) elt (rdE X.K C W0 (Rv X.K) me)) (hs : ∀ x, foldedSetIterable iter X.env x = pure x) :
    SE X W C (.ListComp elt [⟨tg, iter, ifs, 0⟩] scope pos) (fun e => M.bind (mi e) fun xs => compM m (fun d e => tgt t d e) mt me (wipeE e (own.map (·.2))) xs) :=
  weakE (pe_lc hc hN hi ok hg ht he hs) fun _ _ _ h => lc_rd hin h
end
/-! ### over a list of the store -/
def tiH (K : PySem.W.Frag) (i : Nat) : TI := fun σ H R => ∃ (e : Env) (st : Store) (φ : List Addr) (k : Nat) (p : Addr), Re K H φ σ e ∧ Rt K H φ st ∧ e[i]? = some (some (.l k)) ∧ φ[k]? = some p ∧ ∀ H' φ', Stp φ H φ' H' → Rt K H' φ' st → R (Itl K p) H'
theorem pre_at {φ φ' : List Addr} {k : Nat} {p : Addr} (h : φ <+: φ') (hk : φ[k]? = some p) : φ'[k]? = some p := by
  obtain ⟨t, rfl⟩ := h
  rw [List.getElem?_append_left (List.getElem?_eq_some_iff.mp hk).1]
  exact hk
theorem hnd_of {e : Env} {i k : Nat} (h : hndV e i = some k) : e[i]? = some (some (.l k)) := by
  unfold hndV at h
  split at h
  · rename_i e1
    cases h
    exact e1
  · cases h
theorem pi_hnd {X : Cx} {W : WX} {C : Str → Addr} {T : Nat → Fn} {tg a : Expr} {i : Nat} (ha : SE X W C a (denE T (.var i))) : PI X tg a (tiH X.K i) := by
  refine weakI (pi_any ha) fun σ H R ⟨e, st, φ, k, p, re, rt, he, hk, hR⟩ => ⟨e, st, φ, re, rt, ?_⟩
  show PoR (Rv X.K) X.K _ H φ _ (match e[i]? with
      | some (some v) => .ok v st
      | _ => .no)
  rw [he]
  intro x H' φ' s rt' rv
  cases rv with
  | l hp =>
    have q := pre_at s.pre hk
    rw [q] at hp
    cases hp
    obtain ⟨xs, vs, a1, a2, a3⟩ := rt'.at' q
    exact .inl ⟨_, rfl, ⟨vs, SqL.of a2⟩, hR H' φ' s rt'⟩
section
variable {K : PySem.W.Frag} {C : Str → Addr} {W : WX}
/-- one turn over a list of the store -/
theorem itl_turn {H : Hp} {φ : List Addr} {st : Store} {k i : Nat} {p : Addr} (rt : Rt K H φ st) (hk : φ[k]? = some p) : ∃ xs, st[k]? = some xs ∧ (∀ d, xs[i]? = some d → (Itl K p).go i H ∧ ∀ x H', (Itl K p).yld i H x H' → H' = H ∧ Dq K H φ x d) ∧ (xs[i]? = none → (Itl K p).stop i H) := by
  obtain ⟨xs, vs, a1, a2, a3⟩ := rt.at' hk
  have h1 : SqL K H p vs := SqL.of a2
  refine ⟨xs, a1, fun d e => ?_, fun e => ⟨vs, h1, by rw [a3.length]; exact List.getElem?_eq_none_iff.mp e⟩⟩
  obtain ⟨x, e1, q⟩ := a3.get e
  refine ⟨⟨vs, x, h1, e1⟩, fun y H' hy => ?_⟩
  obtain ⟨rfl, hx⟩ := hy
  have := (hx vs h1).symm.trans e1
  cases this
  exact ⟨rfl, q⟩
theorem lc_rdH {m : Bool} {own : List Nat} {t : Tg} {i0 : Nat} {mt : Env → M Bool} {me : Env → M Val} {σ : L2.St} {H : Hp} {Q : VK} (hin : inT own t = true)
    (h : rdE K C W (Rv K) (fun e st => (match hndV e i0 with
      | some k => compMH m (fun d e => tgt t d e) mt me (wipeE e own) k st
      | none => .no)) σ H Q) :
    tLc (tiH K i0) (gT K t) (rdE K C W0 eqR mt) (rdE K C W0 (Rv K) me) own σ H Q := by
  obtain ⟨e, st, φ0, re, rt, po⟩ := h
  dsimp only at po
  cases hh : hndV e i0 with
  | none => rw [hh] at po; exact False.elim po
  | some k =>
  rw [hh] at po
  dsimp only at po
  unfold compMH at po
  cases hs : st[k]? with
  | none => rw [hs] at po; exact False.elim po
  | some xs =>
  rw [hs] at po
  dsimp only at po
  obtain ⟨p, vs0, hp0, _, _⟩ := rt.get hs
  refine ⟨e, st, φ0, k, p, re, rt, hnd_of hh, hp0, fun H1 φ s1 rt1 => ?_⟩
  have hp := pre_at s1.pre hp0
  replace po : PoR (Rv K) K (fun c H' => W (.ref (C c)) none σ H') H1 φ Q (compEnd m st.length (compLH (fun d e => tgt t d e) mt me (wipeE e own) st.length k (xs.length + 1) 0 (st ++ [[]]))) := PoR.step s1 po
  replace re := re.mono s1 rt.lst
  clear s1 hs
  intro D hD
  have hn0 : φ.length = st.length := rt1.length
  have s0 : Stp φ H1 (φ ++ [D]) (upd H1 D (.lst [])) := Stp.more hD
  have nD : D ∉ φ := rt1.notin hD
  let G : Nat → Nat → Store → Prop := fun n i st2 => PoR (Rv K) K (fun c H' => W (.ref (C c)) none σ H') H1 φ Q (compEnd m st.length (compLH (fun d e => tgt t d e) mt me (wipeE e own) st.length k n i st2))
  refine ⟨fun i mm H2 => ∃ st2 φ2, Stp (φ ++ [D]) (upd H1 D (.lst [])) φ2 H2 ∧ Rt K H2 φ2 st2 ∧ G mm i st2, ⟨xs.length + 1, st ++ [[]], φ ++ [D], Stp.refl, rt1.more hD .nil, po⟩, ?_⟩
  rintro i mm H2 ⟨st2, φ2, s2, rt2, g⟩
  have s02 := s0.trans s2
  have hat : φ2[st.length]? = some D := by rw [← hn0]; exact pre_get s2.pre
  have hpk : φ2[k]? = some p := pre_at s02.pre hp
  cases mm with
  | zero => exact False.elim g
  | succ n =>
  obtain ⟨ys, b1, b2, b3⟩ := itl_turn (i := i) rt2 hpk
  have g' : PoR (Rv K) K (fun c H' => W (.ref (C c)) none σ H') H1 φ Q (compEnd m st.length (compLH (fun d e => tgt t d e) mt me (wipeE e own) st.length k (n + 1) i st2)) := g
  unfold compLH at g'
  rw [b1] at g'
  dsimp only at g'
  cases hx : ys[i]? with
  | some x =>
    rw [hx] at g'
    dsimp only at g'
    obtain ⟨g1, g2⟩ := b2 _ hx
    refine .inr ⟨g1, fun H' => ∃ st' φ', Stp (φ ++ [D]) (upd H1 D (.lst [])) φ' H' ∧ Rt K H' φ' st' ∧ G n (i + 1) st', fun H' ⟨st', φ', q1, q2, q3⟩ => ⟨n, Nat.lt_succ_self n, st', φ', q1, q2, q3⟩, fun y H3 hy => ?_⟩
    obtain ⟨rfl, d3⟩ := g2 y H3 hy
    have re3 : Re K H3 φ2 (wipe σ own) (wipeE e own) := (re.wipe own).mono s02 rt1.lst
    cases et : tgt t x (wipeE e own) with
    | none => rw [et] at g'; exact False.elim g'
    | some e1 =>
      rw [et] at g'
      dsimp only at g'
      refine gT_ok own t et d3 re3 fun σ2 re4 hw => ⟨(hw hin).trans (wipe_sub own fun _ h => h), e1, st2, φ2, re4, rt2, ?_⟩
      cases em : mt e1 st2 with
      | no => rw [em] at g'; exact g'
      | ex c st' => rw [em] at g'; exact g'.elim
      | ok b st5 =>
        rw [em] at g'
        intro b' H5 φ5 s5 rt5 hb
        have hb : b' = b := hb
        subst hb
        have re5 := re4.mono s5 rt2.lst
        have sa5 := s2.trans s5
        cases b' with
        | false =>
          rw [if_neg Bool.false_ne_true]
          exact ⟨st5, φ5, sa5, rt5, g'⟩
        | true =>
          rw [if_pos rfl]
          dsimp only at g'
          refine ⟨e1, st5, φ5, re5, rt5, ?_⟩
          cases ee : me e1 st5 with
          | no => rw [ee] at g'; exact g'
          | ex c st' => rw [ee] at g'; exact g'.elim
          | ok v st6 =>
            rw [ee] at g'
            cases v with
            | p d =>
              dsimp only at g'
              intro z H6 φ6 s6 rt6 hz
              have sa6 := sa5.trans s6
              have hat6 : φ6[st.length]? = some D := by rw [← hn0]; exact pre_get sa6.pre
              obtain ⟨acc, vs, a1, a2, a3⟩ := rt6.at' hat6
              rw [a1] at g'
              dsimp only at g'
              split at g'
              · rename_i hl
                cases hz with
                | p hz =>
                  refine ⟨vs, a2, by rw [a3.length]; exact hl, _, φ6, sa6.trans (Stp.set (List.mem_of_getElem? hat6)), rt6.set hat6 (a3.append (.cons hz .nil)), g'⟩
              · exact False.elim g'
            | _ => exact False.elim g'
  | none =>
    rw [hx] at g'
    dsimp only at g'
    refine .inl ⟨b3 hx, ?_⟩
    obtain ⟨acc, vs, a1, a2, a3⟩ := rt2.at' hat
    have g' : PoR (Rv K) K (fun c H' => W (.ref (C c)) none σ H') H1 φ Q (match st2[st.length]? with
      | some acc => if m then .ok (.l st.length) (st2.take (st.length + 1)) else .ok (.p (.list acc)) (st2.take st.length)
      | none => .no) := g'
    rw [a1] at g'
    dsimp only at g'
    have p1 : φ2.take (st.length + 1) = φ ++ [D] := by
      have := pre_take s2.pre
      rw [List.length_append, List.length_singleton, hn0] at this
      exact this
    have p0 : φ2.take st.length = φ := by
      have := pre_take s02.pre
      rw [hn0] at this
      exact this
    cases m with
    | true =>
      rw [if_pos rfl] at g'
      have r' := rt2.take (st.length + 1)
      rw [p1] at r'
      refine g' (.ref D) H2 (φ ++ [D]) (s02.back (List.prefix_append _ _) fun a ha => ?_) r' (.l ?_)
      · rw [← p1] at ha; exact List.mem_of_mem_take ha
      · rw [← hn0]; exact pre_get (List.prefix_refl _)
    | false =>
      rw [if_neg Bool.false_ne_true] at g'
      have r' := rt2.take st.length
      rw [p0] at r'
      have hsub : ∀ a ∈ φ, a ∈ φ2 := fun a ha => by rw [← p0] at ha; exact List.mem_of_mem_take ha
      exact g' (.ref D) H2 φ (s02.back (List.prefix_refl _) hsub) r' (.p (.lst a2 nD (a3.sub hsub)))
end
section
variable {X : Cx} {W : WX} {C : Str → Addr}
theorem s_compH {T : Nat → Fn} {m : Bool} {own : List (Str × Nat)} {t : Tg} {i0 : Nat} {elt tg iter : Expr} {ifs : List Expr} {scope : Scope} {pos : Pos} {mt : Env → M Bool} {me : Env → M Val} (hc : X.calm = true) (hN : X.N.Nodup) (hin : inT (own.map (·.2)) t = true) (hi : SE X W C iter (denE T (.var i0))) (ok : BlkOk X.N X.env.scope scope own)
    (hg : ∀ (s : Shared) (H : Hp) (A : Addr) (cl : List (Str × Addr)) (fp : List Addr), PG (X.blk s H scope (compEnvC scope cl A X.env) fp) tg (gT X.K t))
    (ht : ∀ (s : Shared) (H : Hp) (A : Addr) (cl : List (Str × Addr)) (fp : List Addr), PTs (X.blk s H scope (compEnvC scope cl A X.env) fp) ifs (rdE X.K C W0 eqR mt))
    (he : ∀ (s : Shared) (H : Hp) (A : Addr) (cl : List (Str × Addr)) (fp : List Addr), PE (X.blk s H scope (compEnvC scope cl A X.env) fp) elt (rdE X.K C W0 (Rv X.K) me)) (hs : ∀ x, foldedSetIterable iter X.env x = pure x) :
    SE X W C (.ListComp elt [⟨tg, iter, ifs, 0⟩] scope pos) (fun e st => (match hndV e i0 with
      | some k => compMH m (fun d e => tgt t d e) mt me (wipeE e (own.map (·.2))) k st
      | none => .no)) :=
  weakE (pe_lc hc hN (pi_hnd hi) ok hg ht he hs) fun _ _ _ h => lc_rdH hin h
end
end Rk

set_option Elab.async false
set_option linter.all false
set_option maxRecDepth 100000
set_option maxHeartbeats 4000000
namespace Rk
open PySem PySem.Spec PyProof.Rows L2
/-! ### the check of expressions -/
def visB (S : Sc) (x : Str) : Bool := (match S.sc.names.lookup x with
  | some .local => true
  | some .cell => true
  | some .free => true
  | _ => false) && !(x == ("__debug__" : Str)) && !(x == ("__classdict__" : Str))
def glB (S : Sc) (x : Str) : Bool := (match S.sc.names.lookup x with
  | some .globalImplicit => true
  | _ => false) && !(x == ("__debug__" : Str))
mutual
def eqP : PyData → PyData → Bool
  | .none, .none => true
  | .bool a, .bool b => a == b
  | .int a, .int b => a == b
  | .str a, .str b => a == b
  | .list xs, .list ys => eqPs xs ys
  | .tuple xs, .tuple ys => eqPs xs ys
  | _, _ => false
def eqPs : List PyData → List PyData → Bool
  | [], [] => true
  | x :: xs, y :: ys => eqP x y && eqPs xs ys
  | _, _ => false
end
mutual
theorem eqP_eq : ∀ (x y : PyData), eqP x y = true → x = y
  | .none, .none, _ => rfl
  | .bool a, .bool b, h => by rw [eq_of_beq (show (a == b) = true from h)]
  | .int a, .int b, h => by rw [eq_of_beq (show (a == b) = true from h)]
  | .str a, .str b, h => by rw [eq_of_beq (show (a == b) = true from h)]
  | .list xs, .list ys, h => by rw [eqPs_eq xs ys h]
  | .tuple xs, .tuple ys, h => by rw [eqPs_eq xs ys h]
  | .none, .bool _, h => by cases h
  | .none, .int _, h => by cases h
  | .none, .str _, h => by cases h
  | .none, .list _, h => by cases h
  | .none, .tuple _, h => by cases h
  | .none, .dict _, h => by cases h
  | .bool _, .none, h => by cases h
  | .bool _, .int _, h => by cases h
  | .bool _, .str _, h => by cases h
  | .bool _, .list _, h => by cases h
  | .bool _, .tuple _, h => by cases h
  | .bool _, .dict _, h => by cases h
  | .int _, .none, h => by cases h
  | .int _, .bool _, h => by cases h
  | .int _, .str _, h => by cases h
  | .int _, .list _, h => by cases h
  | .int _, .tuple _, h => by cases h
  | .int _, .dict _, h => by cases h
  | .str _, .none, h => by cases h
  | .str _, .bool _, h => by cases h
  | .str _, .int _, h => by cases h
  | .str _, .list _, h => by cases h
  | .str _, .tuple _, h => by cases h
  | .str _, .dict _, h => by cases h
  | .list _, .none, h => by cases h
  | .list _, .bool _, h => by cases h
  | .list _, .int _, h => by cases h
  | .list _, .str _, h => by cases h
  | .list _, .tuple _, h => by cases h
  | .list _, .dict _, h => by cases h
  | .tuple _, .none, h => by cases h
  | .tuple _, .bool _, h => by cases h
  | .tuple _, .int _, h => by cases h
  | .tuple _, .str _, h => by cases h
  | .tuple _, .list _, h => by cases h
  | .tuple _, .dict _, h => by cases h
  | .dict _, _, h => by unfold eqP at h; cases h
theorem eqPs_eq : ∀ (xs ys : List PyData), eqPs xs ys = true → xs = ys
  | [], [], _ => rfl
  | x :: xs, y :: ys, h => by
    unfold eqPs at h
    rw [Bool.and_eq_true] at h
    rw [eqP_eq x y h.1, eqPs_eq xs ys h.2]
  | [], _ :: _, h => by cases h
  | _ :: _, [], h => by cases h
end
def hasC (l : List (Str × PyData)) (x : Str) (d : PyData) : Bool := l.any fun p => p.1 == x && eqP p.2 d
theorem hasC_mem {l : List (Str × PyData)} {x : Str} {d : PyData} (h : hasC l x d = true) : (x, d) ∈ l := by
  unfold hasC at h
  rw [List.any_eq_true] at h
  obtain ⟨⟨y, e⟩, hm, hb⟩ := h
  rw [Bool.and_eq_true] at hb
  have h1 : y = x := eq_of_beq hb.1
  have h2 : e = d := eqP_eq _ _ hb.2
  subst h1; subst h2
  exact hm
def cstB (d : PyData) (e : Expr) : Bool := match d, e with
  | .int i, .Constant (.int j) _ _ => i == j
  | .bool i, .Constant (.bool j) _ _ => i == j
  | .none, .Constant .none _ _ => true
  | .str i, .Constant (.str j) _ _ => i == j
  | _, _ => false
def b1N : B1 → Str
  | .len => "len" | .abs => "abs" | .int => "int" | .str => "str" | .repr => "repr" | .tup => "tuple" | .list => "list" | .sum => "sum" | .all => "all" | .any => "any" | .max => "max" | .min => "min" | .sorted => "sorted"
def b2N : B2 → Str
  | .max => "max" | .min => "min"
def tyS : Ty → Str
  | .int => "int" | .str => "str" | .tup => "tuple" | .list => "list"
def noSlc : Expr → Bool
  | .Slice .. => false
  | _ => true
def noSet : Expr → Bool
  | .Set .. => false
  | _ => true
def isTup : Expr → Bool
  | .Tuple .. => true
  | _ => false
def ownP (S : Sc) (own : List Nat) : List (Str × Nat) := own.map fun i => (S.N.getD i "", i)
def inSc (S : Sc) (scope : Scope) : Sc := ⟨S.N, relS scope S.sc, fun x => scope.names.lookup x == some .cell⟩
def nmB (L : Lw) (S : Sc) (j : Nat) (x : Str) : Bool := x == L.nm j && glB S x && (L.tab j).isSome
def swB (L : Lw) (S : Sc) : List Nat → List Expr → Bool
  | [], [] => true
  | j :: js, e :: es => (match e with
    | .Name x _ => nmB L S j x
    | _ => false) && swB L S js es
  | _, _ => false
mutual
def chkE (L : Lw) (S : Sc) : E → Expr → Bool
  | .cst d, e => cstB d e
  | .var i, e => (match e with
    | .Name x _ => decide (S.N[i]? = some x) && visB S x
    | _ => false)
  | .glob x d, e => (match e with
    | .Name y _ => y == x && glB S y && hasC L.cst x d
    | _ => false)
  | .bin _ op a b, e => (match e with
    | .BinOp x op' y _ => decide (op' = op) && chkE L S a x && chkE L S b y
    | _ => false)
  | .neg a, e => (match e with
    | .UnaryOp .USub x _ => chkE L S a x
    | _ => false)
  | .not a, e => (match e with
    | .UnaryOp .Not x _ => chkE L S a x
    | _ => false)
  | .and a b, e => (match e with
    | .BoolOp .And (x :: y :: r) p => chkE L S a x && chkE L S b (if r.isEmpty then y else .BoolOp .And (y :: r) p)
    | _ => false)
  | .or a b, e => (match e with
    | .BoolOp .Or (x :: y :: r) p => chkE L S a x && chkE L S b (if r.isEmpty then y else .BoolOp .Or (y :: r) p)
    | _ => false)
  | .cmp op a b, e => (match e with
    | .Compare x [op'] [y] _ => decide (op' = op) && !behindInMarks op y && chkE L S a x && chkE L S b y
    | _ => false)
  | .chain op1 op2 a b c, e => (match e with
    | .Compare x [op1', op2'] [y, z] _ => decide (op1' = op1) && decide (op2' = op2) && !behindInMarks op2 z && chkE L S a x && chkE L S b y && chkE L S c z
    | _ => false)
  | .ife c a b, e => (match e with
    | .IfExp z x y _ => chkE L S c z && chkE L S a x && chkE L S b y
    | _ => false)
  | .call j as, e => (match e with
    | .Call (.Name x _) es [] _ => nmB L S j x && es.all nst && chkEs L S as es
    | _ => false)
  | .sw js i as, e => (match e with
    | .Call (.Subscript (.List els _) ix _) (b :: es) [] _ => swB L S js els && decide (js.length ≤ 1000) && noSlc ix && chkE L S i ix && nst b && es.all nst && chkEs L S as (b :: es)
    | _ => false)
  | .b1 _ f a, e => (match e with
    | .Call (.Name x _) [y] [] _ => x == b1N f && glB S x && nst y && chkE L S a y
    | _ => false)
  | .b2 f a b, e => (match e with
    | .Call (.Name x _) [y, z] [] _ => x == b2N f && glB S x && nst y && nst z && chkE L S a y && chkE L S b z
    | _ => false)
  | .isi t a, e => (match e with
    | .Call (.Name x _) [y, .Name z _] [] _ => x == "isinstance" && glB S x && nst y && z == tyS t && glB S z && chkE L S a y
    | _ => false)
  | .idx a i, e => (match e with
    | .Subscript x y _ => noSlc y && chkE L S a x && chkE L S i y
    | _ => false)
  | .slc a lo hi, e => (match e with
    | .Subscript x (.Slice l h none _) _ => chkE L S a x && chkO L S lo l && chkO L S hi h
    | _ => false)
  | .tup as, e => (match e with
    | .Tuple es _ _ => chkEs L S as es
    | _ => false)
  | .lst _ as, e => (match e with
    | .List es _ => chkEs L S as es
    | _ => false)
  | .comp _ own t it c el, e => (match e with
    | .ListComp elt [⟨tg, iter, ifs, 0⟩] scope _ => inT own t && blkC S.N S.sc scope (ownP S own) && chkT (inSc S scope) t tg && noSet iter && chkI L S it tg iter && chkF L (inSc S scope) c ifs && chkE L (inSc S scope) el elt
    | _ => false)
  | .compH _ own t i c el, e => (match e with
    | .ListComp elt [⟨tg, .Name x xp, ifs, 0⟩] scope _ => inT own t && blkC S.N S.sc scope (ownP S own) && chkT (inSc S scope) t tg && (decide (S.N[i]? = some x) && visB S x) && chkF L (inSc S scope) c ifs && chkE L (inSc S scope) el elt
    | _ => false)
  | .pop a, e => (match e with
    | .Call (.Attribute (.Name x np) m ap) [] [] p => m == "pop" && (ap.endLine == p.line) && chkE L S a (.Name x np)
    | _ => false)
  | .reverse a, e => (match e with
    | .Call (.Attribute (.Name x np) m ap) [] [] p => m == "reverse" && (ap.endLine == p.line) && chkE L S a (.Name x np)
    | _ => false)
  | .append a b, e => (match e with
    | .Call (.Attribute (.Name x np) m ap) [y] [] p => m == "append" && (ap.endLine == p.line) && nst y && chkE L S a (.Name x np) && chkE L S b y
    | _ => false)
  | .extend a b, e => (match e with
    | .Call (.Attribute (.Name x np) m ap) [y] [] p => m == "extend" && (ap.endLine == p.line) && nst y && chkE L S a (.Name x np) && chkE L S b y
    | _ => false)
def chkEs (L : Lw) (S : Sc) : Es → List Expr → Bool
  | .nil, es => es.isEmpty
  | .cons a r, es => (match es with
    | x :: es => nst x && chkE L S a x && chkEs L S r es
    | [] => false)
  | .star a r, es => (match es with
    | .Starred x _ :: es => chkE L S a x && chkEs L S r es
    | _ => false)
def chkO (L : Lw) (S : Sc) : Eo → Option Expr → Bool
  | .none, o => o.isNone
  | .some a, o => (match o with
    | some x => chkE L S a x
    | none => false)
def chkF (L : Lw) (S : Sc) : Eo → List Expr → Bool
  | .none, o => o.isEmpty
  | .some a, o => (match o with
    | [x] => chkE L S a x
    | _ => false)
def chkI (L : Lw) (S : Sc) : It → Expr → Expr → Bool
  | .seq a, _, e => chkE L S a e
  | .rng1 a, _, e => (match e with
    | .Call (.Name x _) [y] [] _ => x == "range" && glB S x && nst y && chkE L S a y
    | _ => false)
  | .rng2 a b, _, e => (match e with
    | .Call (.Name x _) [y, z] [] _ => x == "range" && glB S x && nst y && nst z && chkE L S a y && chkE L S b z
    | _ => false)
  | .zip2 a b, tg, e => (match e with
    | .Call (.Name x _) [y, z] [] _ => x == "zip" && glB S x && isTup tg && nst y && nst z && chkE L S a y && chkE L S b z
    | _ => false)
  | .enum a, tg, e => (match e with
    | .Call (.Name x _) [y] [] _ => x == "enumerate" && glB S x && isTup tg && nst y && chkE L S a y
    | _ => false)
end
end Rk

set_option Elab.async false
set_option linter.all false
set_option maxRecDepth 100000
set_option maxHeartbeats 4000000
namespace Rk
open PySem PySem.Spec PyProof.Rows L2
theorem vis_of {S : Sc} {X : Cx} {x : Str} (hsc : X.env.scope = S.sc) (h : visB S x = true) : Vis X.env.scope x ∧ (x == ("__debug__" : Str)) = false ∧ (x == ("__classdict__" : Str)) = false := by
  unfold visB at h
  rw [Bool.and_eq_true, Bool.and_eq_true] at h
  obtain ⟨⟨h1, h2⟩, h3⟩ := h
  refine ⟨?_, by simpa using h2, by simpa using h3⟩
  rw [hsc]
  split at h1
  · rename_i e; exact .inl e
  · rename_i e; exact .inr (.inl e)
  · rename_i e; exact .inr (.inr e)
  · cases h1
theorem gl_of {S : Sc} {X : Cx} {x : Str} (hsc : X.env.scope = S.sc) (h : glB S x = true) : Gl X x ∧ (x == ("__debug__" : Str)) = false := by
  unfold glB at h
  rw [Bool.and_eq_true] at h
  refine ⟨?_, by simpa using h.2⟩
  have h1 := h.1
  split at h1
  · rename_i e; show X.env.scope.names.lookup x = _; rw [hsc]; exact e
  · cases h1
def plainT : Expr → Bool
  | .UnaryOp .Not _ _ => false
  | .BoolOp .. => false
  | .IfExp .. => false
  | .Compare .. => false
  | _ => true
theorem plain_true {e : Expr} (h : plainT e = true) (env : PySem.Env) (whole : Sem Value) : isTrue e env whole = (do let v ← whole; standAt e.pos; holding [v] (truthy v)) := by
  cases e <;> first | rfl | (exact absurd h Bool.false_ne_true) | skip
  rename_i op _ _
  cases op <;> first | rfl | (exact absurd h Bool.false_ne_true)
def boolOp : Expr → Bool
  | .BoolOp .. => true
  | _ => false
structure Snd (X : Cx) (W : WX) (C : Str → Addr) (e : Expr) (m : Env → M Val) : Prop where
  v : SE X W C e m
  b : SB X W C e (fun ev => M.tru (m ev))
  w : boolOp e = true → SW X W C e (fun ev => M.tru (m ev))
section
variable {X : Cx} {W : WX} {C : Str → Addr}
theorem Snd.of {e : Expr} {m : Env → M Val} (h : SE X W C e m) (hp : plainT e = true) : Snd X W C e m :=
  ⟨h, sb_truth h (plain_true hp X.env), fun q => by cases e <;> first | (exact absurd q Bool.false_ne_true) | (exact absurd hp Bool.false_ne_true)⟩
theorem sb_b {e : Expr} {m : Env → M Bool} (h : SB X W C e m) : SB X W C e (fun ev => M.tru (M.b (m ev))) :=
  weakT h fun _ _ _ h => tb_rd h
theorem noslc {e : Expr} (h : noSlc e = true) : PlainIx e := by
  cases e <;> first | (exact absurd h Bool.false_ne_true) | (exact fun _ _ => rfl)
theorem noset {e : Expr} (h : noSet e = true) {env : PySem.Env} (x : Value) : foldedSetIterable e env x = pure x := by
  cases e <;> first | (exact absurd h Bool.false_ne_true) | rfl
theorem own_snd {S : Sc} {own : List Nat} : (ownP S own).map (·.2) = own := by
  unfold ownP
  rw [List.map_map]
  exact List.map_id _
theorem takes0' {X : Cx} : Takes X W0 := fun _ _ x => by
  obtain ⟨_, _, _, _, _, _, _, _, _, _, _, _, _, _, _, _, h⟩ := x
  exact h.elim
theorem Gd.inner {L : Lw} {T : Nat → Fn} {n : Nat} {S : Sc} (G : Gd X W L T C n S) (s : Shared) (H : Hp) (scope : Scope) (cl : List (Str × Addr)) (A : Addr) (fp : List Addr) : Gd (X.blk s H scope (compEnvC scope cl A X.env) fp) W0 L T C n (inSc S scope) :=
  ⟨G.wd, G.calm, G.hN, G.nd, by show relS scope X.env.scope = relS scope S.sc; rw [G.sc], rfl, takes0'⟩
theorem Gd.nob {L : Lw} {T : Nat → Fn} {n : Nat} {S : Sc} (G : Gd X W L T C n S) {x : Str} (h : x ∈ bltNames) : X.mg x = none := G.wd.blt x h
theorem boot_b1 (f : B1) : bootBuiltins (b1N f) = some (b1V f) ∧ b1N f ∈ bltNames ∧ b1N f ≠ "__name__" := by
  cases f <;> exact ⟨by decide +kernel, by decide +kernel, by decide +kernel⟩
theorem b1_kind (f : B1) : (∃ id, b1V f = .builtin id) ∨ ∃ T, b1V f = .type T := by
  cases f <;> first | exact .inl ⟨_, rfl⟩ | exact .inr ⟨_, rfl⟩
theorem boot_b2 (f : B2) : ∃ id, b2V f = .builtin id ∧ bootBuiltins (b2N f) = some (.builtin id) ∧ b2N f ∈ bltNames ∧ b2N f ≠ "__name__" := by
  cases f <;> exact ⟨_, rfl, by decide +kernel, by decide +kernel, by decide +kernel⟩
theorem boot_ty (t : Ty) : bootBuiltins (tyS t) = some (.type (tyN t)) ∧ tyS t ∈ bltNames ∧ tyS t ≠ "__name__" := by
  cases t <;> exact ⟨by decide +kernel, by decide +kernel, by decide +kernel⟩
theorem swB_len {L : Lw} {S : Sc} : ∀ {js : List Nat} {els : List Expr}, swB L S js els = true → js.length = els.length
  | [], [], _ => rfl
  | [], _ :: _, h => by cases h
  | _ :: _, [], h => by cases h
  | j :: js, e :: es, h => by
    unfold swB at h
    rw [Bool.and_eq_true] at h
    rw [List.length_cons, List.length_cons, swB_len h.2]
theorem swB_of {L : Lw} {S : Sc} (hsc : X.env.scope = S.sc) : ∀ {js : List Nat} {els : List Expr}, swB L S js els = true → ∀ q ∈ js.zip els, ∃ p, q.2 = Expr.Name (L.nm q.1) p ∧ Gl X (L.nm q.1) ∧ (L.nm q.1 == ("__debug__" : Str)) = false ∧ (L.tab q.1).isSome = true
  | [], [], _ => fun q h => by cases h
  | [], _ :: _, h => by cases h
  | _ :: _, [], h => by cases h
  | j :: js, e :: es, h => by
    unfold swB at h
    rw [Bool.and_eq_true] at h
    intro q hq
    rcases List.mem_cons.mp (by simpa using hq) with rfl | hq
    · have h1 := h.1
      split at h1
      · rename_i x p
        unfold nmB at h1
        rw [Bool.and_eq_true, Bool.and_eq_true] at h1
        have hx : x = L.nm j := eq_of_beq h1.1.1
        subst hx
        obtain ⟨g1, g2⟩ := gl_of hsc h1.1.2
        exact ⟨p, rfl, g1, g2, h1.2⟩
      · cases h1
    · exact swB_of hsc h.2 q hq
theorem swB_tab {L : Lw} {S : Sc} : ∀ {js : List Nat} {els : List Expr}, swB L S js els = true → ∀ j ∈ js, (L.tab j).isSome = true
  | [], _, _ => fun q h => by cases h
  | _ :: _, [], h => by cases h
  | j :: js, e :: es, h => by
    unfold swB at h
    rw [Bool.and_eq_true] at h
    intro q hq
    rcases List.mem_cons.mp hq with rfl | hq
    · have h1 := h.1
      split at h1
      · unfold nmB at h1
        rw [Bool.and_eq_true] at h1
        exact h1.2
      · cases h1
    · exact swB_tab h.2 q hq
theorem s_cst {d : PyData} {e : Expr} (h : cstB d e = true) : SE X W C e (fun _ => M.ret (.p d)) := by
  unfold cstB at h
  split at h
  · cases eq_of_beq h; exact s_val pe_int fun H φ => .int _
  · cases eq_of_beq h; exact s_val pe_bl fun H φ => .bl _
  · exact s_val pe_non fun H φ => .non
  · cases eq_of_beq h; exact s_val pe_str fun H φ => .str _
  · cases h
theorem cst_plain {d : PyData} {e : Expr} (h : cstB d e = true) : plainT e = true := by
  unfold cstB at h
  split at h <;> first | rfl | cases h
theorem sw_one {op : BoolOp} {y : Expr} {p : Pos} {m : Env → M Val} (h : SB X W C y (fun ev => M.tru (m ev))) : SW X W C (.BoolOp op [y] p) (fun ev => M.tru (m ev)) := by
  cases op
  · exact pw_and1 h
  · exact pw_or1 h
end
section
variable {L : Lw} {T : Nat → Fn} {C : Str → Addr} {n : Nat}
abbrev SndE (L : Lw) (T : Nat → Fn) (C : Str → Addr) (n : Nat) (a : E) : Prop := ∀ (S : Sc) (e : Expr), chkE L S a e = true → ∀ (X : Cx) (W : WX), Gd X W L T C n S → Snd X W C e (denE T a)
mutual
theorem snd_E : ∀ (a : E), SndE L T C n a
  | .cst d => fun S e h X W G => by
    unfold chkE at h
    exact .of (s_cst h) (cst_plain h)
  | .var i => fun S e h X W G => by
    unfold chkE at h
    split at h
    · rw [Bool.and_eq_true] at h
      obtain ⟨h1, h2, h3⟩ := vis_of G.sc h.2
      exact .of (s_var (pe_var (by rw [G.hN]; exact of_decide_eq_true h.1) h1 h2 h3)) rfl
    · cases h
  | .glob x d => fun S e h X W G => by
    unfold chkE at h
    split at h
    · rw [Bool.and_eq_true, Bool.and_eq_true] at h
      have hx := eq_of_beq h.1.1
      subst hx
      obtain ⟨g1, g2⟩ := gl_of G.sc h.1.2
      obtain ⟨v, u, q1, q2, q3⟩ := G.wd.cst _ _ (hasC_mem h.2)
      exact .of (s_val (pe_glob g1 q1 q2 g2) q3) rfl
    · cases h
  | .bin m op a b => fun S e h X W G => by
    unfold chkE at h
    split at h
    · rw [Bool.and_eq_true, Bool.and_eq_true] at h
      cases of_decide_eq_true h.1.1
      exact .of (s_op (op_bin m _) (snd_E a S _ h.1.2 X W G).v (snd_E b S _ h.2 X W G).v) rfl
    · cases h
  | .neg a => fun S e h X W G => by
    unfold chkE at h
    split at h
    · exact .of (s_neg (snd_E a S _ h X W G).v) rfl
    · cases h
  | .not a => fun S e h X W G => by
    unfold chkE at h
    split at h
    · have q := snd_E a S _ h X W G
      exact ⟨s_not q.v, sb_b (sb_not q.b), fun z => by cases z⟩
    · cases h
  | .and a b => fun S e h X W G => by
    unfold chkE at h
    split at h
    · rename_i x y r p
      rw [Bool.and_eq_true] at h
      have qa := snd_E a S _ h.1 X W G
      have qb := snd_E b S _ h.2 X W G
      cases r with
      | nil => 
        have w := sw_and qa.b (sw_one (op := .And) (p := p) qb.b)
        exact ⟨s_and qa.v (pe_one qb.v), w.pt, fun _ => w⟩
      | cons z r =>
        have w := sw_and qa.b (qb.w rfl)
        exact ⟨s_and qa.v qb.v, w.pt, fun _ => w⟩
    · cases h
  | .or a b => fun S e h X W G => by
    unfold chkE at h
    split at h
    · rename_i x y r p
      rw [Bool.and_eq_true] at h
      have qa := snd_E a S _ h.1 X W G
      have qb := snd_E b S _ h.2 X W G
      cases r with
      | nil => 
        have w := sw_or qa.b (sw_one (op := .Or) (p := p) qb.b)
        exact ⟨s_or qa.v (pe_one qb.v), w.pt, fun _ => w⟩
      | cons z r =>
        have w := sw_or qa.b (qb.w rfl)
        exact ⟨s_or qa.v qb.v, w.pt, fun _ => w⟩
    · cases h
  | .cmp op a b => fun S e h X W G => by
    unfold chkE at h
    split at h
    · rw [Bool.and_eq_true, Bool.and_eq_true, Bool.and_eq_true] at h
      cases of_decide_eq_true h.1.1.1
      have hm := h.1.1.2
      rw [Bool.not_eq_true'] at hm
      have qa := (snd_E a S _ h.1.2 X W G).v
      have qb := (snd_E b S _ h.2 X W G).v
      exact ⟨s_cmp (op_cmp G.units _) qa qb hm, sb_b (sb_cmp (op_cmp G.units _) qa qb hm), fun z => by cases z⟩
    · cases h
  | .chain op1 op2 a b c => fun S e h X W G => by
    unfold chkE at h
    split at h
    · simp only [Bool.and_eq_true] at h
      obtain ⟨⟨⟨⟨⟨e1, e2⟩, hm⟩, ha⟩, hb⟩, hc⟩ := h
      cases of_decide_eq_true e1
      cases of_decide_eq_true e2
      rw [Bool.not_eq_true'] at hm
      have qa := (snd_E a S _ ha X W G).v
      have qb := (snd_E b S _ hb X W G).v
      have qc := (snd_E c S _ hc X W G).v
      exact ⟨s_ch (op_cmp G.units _) (op_cmp G.units _) qa qb qc hm, sb_b (sb_ch (op_cmp G.units _) (op_cmp G.units _) qa qb qc hm), fun z => by cases z⟩
    · cases h
  | .ife c a b => fun S e h X W G => by
    unfold chkE at h
    split at h
    · rw [Bool.and_eq_true, Bool.and_eq_true] at h
      have qc := (snd_E c S _ h.1.1 X W G).b
      have qa := snd_E a S _ h.1.2 X W G
      have qb := snd_E b S _ h.2 X W G
      exact ⟨s_ife qc qa.v qb.v, sb_ife qc qa.b qb.b, fun z => by cases z⟩
    · cases h
  | .call j as => fun S e h X W G => by
    unfold chkE at h
    split at h
    · rename_i x p es pos
      rw [Bool.and_eq_true, Bool.and_eq_true] at h
      have hn := h.1.1
      unfold nmB at hn
      rw [Bool.and_eq_true, Bool.and_eq_true] at hn
      have hx : x = L.nm j := eq_of_beq hn.1.1
      subst hx
      obtain ⟨g1, g2⟩ := gl_of G.sc hn.1.2
      obtain ⟨f, hf⟩ := Option.isSome_iff_exists.mp hn.2
      have qa := snd_Es as S _ h.2 X W G
      have hs := h.1.2
      cases es with
      | nil =>
        have e0 : as = .nil := by
          cases as with
          | nil => rfl
          | cons _ _ => have := h.2; unfold chkEs at this; cases this
          | star _ _ => have := h.2; unfold chkEs at this; cases this
        subst e0
        exact .of (s_call0 G hf g1 g2) rfl
      | cons b es =>
        rw [List.all_cons, Bool.and_eq_true] at hs
        exact .of (s_call G hf g1 g2 hs.1 hs.2 qa) rfl
    · cases h
  | .sw js i as => fun S e h X W G => by
    unfold chkE at h
    split at h
    · simp only [Bool.and_eq_true] at h
      obtain ⟨⟨⟨⟨⟨⟨h1, h2⟩, h3⟩, h4⟩, h5⟩, h6⟩, h7⟩ := h
      exact .of (s_sw G (swB_of G.sc h1) (swB_len h1) (swB_tab h1) (of_decide_eq_true h2) (noslc h3) (snd_E i S _ h4 X W G).v h5 h6 (snd_Es as S _ h7 X W G)) rfl
    · cases h
  | .b1 m f a => fun S e h X W G => by
    unfold chkE at h
    split at h
    · simp only [Bool.and_eq_true] at h
      obtain ⟨⟨⟨h1, h2⟩, h3⟩, h4⟩ := h
      cases eq_of_beq h1
      obtain ⟨g1, g2⟩ := gl_of G.sc h2
      obtain ⟨b1, b2, b3⟩ := boot_b1 f
      exact .of (s_b1 (call_b1 G.fit m f) g1 (G.nob b2) b1 (b1_kind f) b3 g2 h3 (snd_E a S _ h4 X W G).v) rfl
    · cases h
  | .b2 f a b => fun S e h X W G => by
    unfold chkE at h
    split at h
    · simp only [Bool.and_eq_true] at h
      obtain ⟨⟨⟨⟨⟨h1, h2⟩, h3⟩, h4⟩, h5⟩, h6⟩ := h
      cases eq_of_beq h1
      obtain ⟨g1, g2⟩ := gl_of G.sc h2
      obtain ⟨id, b0, b1, b2, b3⟩ := boot_b2 f
      have hc := call_b2 G.fit f
      rw [b0] at hc
      exact .of (s_b2 hc g1 (G.nob b2) b1 b3 g2 h3 h4 (snd_E a S _ h5 X W G).v (snd_E b S _ h6 X W G).v) rfl
    · cases h
  | .isi t a => fun S e h X W G => by
    unfold chkE at h
    split at h
    · simp only [Bool.and_eq_true] at h
      obtain ⟨⟨⟨⟨⟨h1, h2⟩, h3⟩, h4⟩, h5⟩, h6⟩ := h
      cases eq_of_beq h1
      cases eq_of_beq h4
      obtain ⟨g1, g2⟩ := gl_of G.sc h2
      obtain ⟨g3, g4⟩ := gl_of G.sc h5
      obtain ⟨b1, b2, b3⟩ := boot_ty t
      exact .of (s_isi g1 (G.nob (by decide +kernel)) g3 (G.nob b2) b1 b3 g4 h3 (snd_E a S _ h6 X W G).v) rfl
    · cases h
  | .idx a i => fun S e h X W G => by
    unfold chkE at h
    split at h
    · rw [Bool.and_eq_true, Bool.and_eq_true] at h
      exact .of (s_ix ix_any (snd_E a S _ h.1.2 X W G).v (snd_E i S _ h.2 X W G).v (noslc h.1.1)) rfl
    · cases h
  | .slc a lo hi => fun S e h X W G => by
    unfold chkE at h
    split at h
    · rw [Bool.and_eq_true, Bool.and_eq_true] at h
      exact .of (s_slc (snd_E a S _ h.1.1 X W G).v (snd_O lo S _ h.1.2 X W G) (snd_O hi S _ h.2 X W G)) rfl
    · cases h
  | .tup as => fun S e h X W G => by
    unfold chkE at h
    split at h
    · exact .of (s_tup (snd_Es as S _ h X W G)) rfl
    · cases h
  | .lst m as => fun S e h X W G => by
    unfold chkE at h
    split at h
    · exact .of (s_lst (snd_Es as S _ h X W G)) rfl
    · cases h
  | .comp m own t it c el => fun S e h X W G => by
    unfold chkE at h
    split at h
    · rename_i elt tg iter ifs scope pos
      simp only [Bool.and_eq_true] at h
      obtain ⟨⟨⟨⟨⟨⟨h1, h2⟩, h3⟩, h4⟩, h5⟩, h6⟩, h7⟩ := h
      have q := s_comp (m := m) (own := ownP S own) (t := t) (elt := elt) (tg := tg) (iter := iter) (ifs := ifs) (scope := scope) (pos := pos) (mt := fun e => denT T c e) (me := fun e => denE T el e) G.calm G.ndX (by rw [own_snd]; exact h1) (snd_I it S _ _ h5 X W G)
        (by rw [G.hN, G.sc]; exact blkOk_by h2)
        (fun s H A cl fp => by have g := G.inner s H scope cl A fp; exact s_tgt g.calm g.ndX g.hN g.sc g.fn t tg h3)
        (fun s H A cl fp => snd_F c _ _ h6 _ _ (G.inner s H scope cl A fp))
        (fun s H A cl fp => (snd_E el _ _ h7 _ _ (G.inner s H scope cl A fp)).v)
        (noset h4)
      rw [own_snd] at q
      exact .of q rfl
    · cases h
  | .compH m own t i c el => fun S e h X W G => by
    unfold chkE at h
    split at h
    · rename_i elt tg x xp ifs scope pos
      simp only [Bool.and_eq_true] at h
      obtain ⟨⟨⟨⟨⟨h1, h2⟩, h3⟩, h4, h5⟩, h6⟩, h7⟩ := h
      obtain ⟨v1, v2, v3⟩ := vis_of G.sc h5
      have q := s_compH (W := W) (T := T) (m := m) (own := ownP S own) (t := t) (i0 := i) (elt := elt) (tg := tg) (iter := .Name x xp) (ifs := ifs) (scope := scope) (pos := pos) (mt := fun e => denT T c e) (me := fun e => denE T el e) G.calm G.ndX (by rw [own_snd]; exact h1) (s_var (pe_var (by rw [G.hN]; exact of_decide_eq_true h4) v1 v2 v3))
        (by rw [G.hN, G.sc]; exact blkOk_by h2)
        (fun s H A cl fp => by have g := G.inner s H scope cl A fp; exact s_tgt g.calm g.ndX g.hN g.sc g.fn t tg h3)
        (fun s H A cl fp => snd_F c _ _ h6 _ _ (G.inner s H scope cl A fp))
        (fun s H A cl fp => (snd_E el _ _ h7 _ _ (G.inner s H scope cl A fp)).v)
        (noset rfl)
      rw [own_snd] at q
      exact .of q rfl
    · cases h
  | .pop a => fun S e h X W G => by
    unfold chkE at h
    split at h
    · rw [Bool.and_eq_true, Bool.and_eq_true] at h
      cases eq_of_beq h.1.1
      exact .of (s_pop h.1.2 (snd_E a S _ h.2 X W G).v) rfl
    · cases h
  | .reverse a => fun S e h X W G => by
    unfold chkE at h
    split at h
    · rw [Bool.and_eq_true, Bool.and_eq_true] at h
      cases eq_of_beq h.1.1
      exact .of (s_reverse h.1.2 (snd_E a S _ h.2 X W G).v) rfl
    · cases h
  | .append a b => fun S e h X W G => by
    unfold chkE at h
    split at h
    · simp only [Bool.and_eq_true] at h
      obtain ⟨⟨⟨⟨h1, h2⟩, h3⟩, h4⟩, h5⟩ := h
      cases eq_of_beq h1
      exact .of (s_append h2 h3 (snd_E a S _ h4 X W G).v (snd_E b S _ h5 X W G).v) rfl
    · cases h
  | .extend a b => fun S e h X W G => by
    unfold chkE at h
    split at h
    · simp only [Bool.and_eq_true] at h
      obtain ⟨⟨⟨⟨h1, h2⟩, h3⟩, h4⟩, h5⟩ := h
      cases eq_of_beq h1
      exact .of (s_extend h2 h3 (snd_E a S _ h4 X W G).v (snd_E b S _ h5 X W G).v) rfl
    · cases h
theorem snd_Es : ∀ (as : Es) (S : Sc) (es : List Expr), chkEs L S as es = true → ∀ (X : Cx) (W : WX), Gd X W L T C n S → SA X W C es (denEs T as)
  | .nil => fun S es h X W G => by
    unfold chkEs at h
    cases es with
    | nil => exact sa_nil
    | cons _ _ => cases h
  | .cons a r => fun S es h X W G => by
    unfold chkEs at h
    split at h
    · rw [Bool.and_eq_true, Bool.and_eq_true] at h
      exact sa_cons h.1.1 (snd_E a S _ h.1.2 X W G).v (snd_Es r S _ h.2 X W G)
    · cases h
  | .star a r => fun S es h X W G => by
    unfold chkEs at h
    split at h
    · rw [Bool.and_eq_true] at h
      exact sa_star (snd_E a S _ h.1 X W G).v (snd_Es r S _ h.2 X W G)
    · cases h
theorem snd_O : ∀ (o : Eo) (S : Sc) (e : Option Expr), chkO L S o e = true → ∀ (X : Cx) (W : WX), Gd X W L T C n S → SO X W C e (denO T o)
  | .none => fun S e h X W G => by
    unfold chkO at h
    cases e with
    | none => exact so_none
    | some _ => cases h
  | .some a => fun S e h X W G => by
    unfold chkO at h
    split at h
    · exact so_some (snd_E a S _ h X W G).v
    · cases h
theorem snd_F : ∀ (o : Eo) (S : Sc) (es : List Expr), chkF L S o es = true → ∀ (X : Cx) (W : WX), Gd X W L T C n S → PTs X es (rdE X.K C W eqR (fun e => denT T o e))
  | .none => fun S es h X W G => by
    unfold chkF at h
    cases es with
    | nil => exact sts_nil
    | cons _ _ => cases h
  | .some a => fun S es h X W G => by
    unfold chkF at h
    split at h
    · exact pts_one (snd_E a S _ h X W G).b
    · cases h
theorem snd_I : ∀ (it : It) (S : Sc) (tg e : Expr), chkI L S it tg e = true → ∀ (X : Cx) (W : WX), Gd X W L T C n S → SI X W C tg e (denI T it)
  | .seq a => fun S tg e h X W G => by
    unfold chkI at h
    exact si_seq (snd_E a S _ h X W G).v
  | .rng1 a => fun S tg e h X W G => by
    unfold chkI at h
    split at h
    · simp only [Bool.and_eq_true] at h
      obtain ⟨⟨⟨h1, h2⟩, h3⟩, h4⟩ := h
      cases eq_of_beq h1
      exact si_rng1 (gl_of G.sc h2).1 (G.nob (by decide +kernel)) h3 (snd_E a S _ h4 X W G).v
    · cases h
  | .rng2 a b => fun S tg e h X W G => by
    unfold chkI at h
    split at h
    · simp only [Bool.and_eq_true] at h
      obtain ⟨⟨⟨⟨⟨h1, h2⟩, h3⟩, h4⟩, h5⟩, h6⟩ := h
      cases eq_of_beq h1
      exact si_rng2 (gl_of G.sc h2).1 (G.nob (by decide +kernel)) h3 h4 (snd_E a S _ h5 X W G).v (snd_E b S _ h6 X W G).v
    · cases h
  | .zip2 a b => fun S tg e h X W G => by
    unfold chkI at h
    split at h
    · simp only [Bool.and_eq_true] at h
      obtain ⟨⟨⟨⟨⟨⟨h1, h2⟩, h0⟩, h3⟩, h4⟩, h5⟩, h6⟩ := h
      cases eq_of_beq h1
      cases tg <;> first | (exact absurd h0 Bool.false_ne_true) | (exact si_zip2 (gl_of G.sc h2).1 (G.nob (by decide +kernel)) h3 h4 (snd_E a S _ h5 X W G).v (snd_E b S _ h6 X W G).v)
    · cases h
  | .enum a => fun S tg e h X W G => by
    unfold chkI at h
    split at h
    · simp only [Bool.and_eq_true] at h
      obtain ⟨⟨⟨⟨h1, h2⟩, h0⟩, h3⟩, h4⟩ := h
      cases eq_of_beq h1
      cases tg <;> first | (exact absurd h0 Bool.false_ne_true) | (exact si_enum (gl_of G.sc h2).1 (G.nob (by decide +kernel)) h3 (snd_E a S _ h4 X W G).v)
    · cases h
end
end
end Rk

set_option Elab.async false
set_option linter.all false
set_option maxRecDepth 100000
set_option maxHeartbeats 4000000
namespace Rk
open PySem PySem.Spec PyProof.Rows L2
/-! ### what is wanted of a run of statements -/
def PoS (K : PySem.W.Frag) (C : Str → Addr) (W : WX) (H : Hp) (φ : List Addr) (D : Ends) : RsS → Prop
  | .ok (.nx e) st => ∀ σ' H' φ', Stp φ H φ' H' → Re K H' φ' σ' e → Rt K H' φ' st → D.nx σ' H'
  | .ok (.rt v) st => ∀ x H' φ', Stp φ H φ' H' → Rt K H' φ' st → Rv K H' φ' x v → D.rt x H'
  | .ok (.bk e) st => ∀ σ' H' φ', Stp φ H φ' H' → Re K H' φ' σ' e → Rt K H' φ' st → D.bk σ' H'
  | .ok (.ct e) st => ∀ σ' H' φ', Stp φ H φ' H' → Re K H' φ' σ' e → Rt K H' φ' st → D.ct σ' H'
  | .ex c e st => ∀ σ' H' φ', Stp φ H φ' H' → Rt K H' φ' st → W (.ref (C c)) none σ' H'
  | .no => False
def rdS (K : PySem.W.Frag) (C : Str → Addr) (W : WX) (m : Env → Store → RsS) : TS := fun D σ H => ∃ (e : Env) (st : Store) (φ : List Addr), Re K H φ σ e ∧ Rt K H φ st ∧ PoS K C W H φ D (m e st)
section
variable {K : PySem.W.Frag} {C : Str → Addr} {W : WX} {H H1 : Hp} {φ φ1 : List Addr} {D : Ends} {σ : L2.St} {e : Env} {st : Store}
theorem PoS.step {r : RsS} (s : Stp φ H φ1 H1) (h : PoS K C W H φ D r) : PoS K C W H1 φ1 D r := by
  cases r with
  | ok f st' =>
    cases f with
    | nx e => exact fun σ' H' φ' s' => h σ' H' φ' (s.trans s')
    | rt v => exact fun x H' φ' s' => h x H' φ' (s.trans s')
    | bk e => exact fun σ' H' φ' s' => h σ' H' φ' (s.trans s')
    | ct e => exact fun σ' H' φ' s' => h σ' H' φ' (s.trans s')
  | ex c e st' => exact fun σ' H' φ' s' => h σ' H' φ' (s.trans s')
  | no => exact h
/-- an expression, then the rest -/
theorem lift_po {α β : Type} {rel : Hp → List Addr → β → α → Prop} {m : Rs α} {f : α → Store → RsS} (po : PoS K C W H φ D (lift e m f)) :
    PoR rel K (fun c H' => W (.ref (C c)) none σ H') H φ (fun x H1 => ∃ v st1 φ1, Stp φ H φ1 H1 ∧ Rt K H1 φ1 st1 ∧ rel H1 φ1 x v ∧ PoS K C W H1 φ1 D (f v st1)) m := by
  cases m with
  | ok v st1 => exact fun x H' φ' s rt rv => ⟨v, st1, φ', s, rt, rv, PoS.step s po⟩
  | ex c st1 => exact fun H' φ' s rt => po σ H' φ' s rt
  | no => exact po
theorem lift_rd {α β : Type} {rel : Hp → List Addr → β → α → Prop} {m : Env → M α} {f : Env → α → Store → RsS} (h : rdS K C W (fun e st => lift e (m e st) (f e)) D σ H) :
    rdE K C W rel m σ H fun x H1 => ∃ (e : Env) (v : α) (st : Store) (φ : List Addr), Re K H1 φ σ e ∧ Rt K H1 φ st ∧ rel H1 φ x v ∧ PoS K C W H1 φ D (f e v st) := by
  obtain ⟨e, st, φ, re, rt, po⟩ := h
  exact ⟨e, st, φ, re, rt, (lift_po (rel := rel) po).imp fun x H1 ⟨v, st1, φ1, s1, rt1, rv, po1⟩ => ⟨e, v, st1, φ1, re.mono s1 rt.lst, rt1, rv, po1⟩⟩
theorem lift_rd2 {α β : Type} {rel : Hp → List Addr → β → α → Prop} {m : Env → M α} {f : Env → α → Store → RsS} {x : V} {v : Val} (re : Re K H φ σ e) (rt : Rt K H φ st) (rv : Rv K H φ x v)
    (po : PoS K C W H φ D (lift e (m e st) (f e))) :
    rdE K C W rel m σ H fun y H1 => ∃ (u : α) (st : Store) (φ : List Addr), Re K H1 φ σ e ∧ Rt K H1 φ st ∧ Rv K H1 φ x v ∧ rel H1 φ y u ∧ PoS K C W H1 φ D (f e u st) :=
  ⟨e, st, φ, re, rt, (lift_po (rel := rel) po).imp fun y H1 ⟨u, st1, φ1, s1, rt1, ru, po1⟩ => ⟨u, st1, φ1, re.mono s1 rt.lst, rt1, rv.mono s1 rt.lst, ru, po1⟩⟩
theorem lift_rd3 {α β : Type} {rel : Hp → List Addr → β → α → Prop} {m : Env → M α} {f : Env → α → Store → RsS} {x y : V} {v u : Val} (re : Re K H φ σ e) (rt : Rt K H φ st) (rv : Rv K H φ x v) (ru : Rv K H φ y u)
    (po : PoS K C W H φ D (lift e (m e st) (f e))) :
    rdE K C W rel m σ H fun z H1 => ∃ (w : α) (st : Store) (φ : List Addr), Re K H1 φ σ e ∧ Rt K H1 φ st ∧ Rv K H1 φ x v ∧ Rv K H1 φ y u ∧ rel H1 φ z w ∧ PoS K C W H1 φ D (f e w st) :=
  ⟨e, st, φ, re, rt, (lift_po (rel := rel) po).imp fun z H1 ⟨w, st1, φ1, s1, rt1, rw', po1⟩ => ⟨w, st1, φ1, re.mono s1 rt.lst, rt1, rv.mono s1 rt.lst, ru.mono s1 rt.lst, rw', po1⟩⟩
end
abbrev SS (X : Cx) (W : WX) (C : Str → Addr) (x : Stmt) (m : Env → Store → RsS) : Prop := PS X x (rdS X.K C W m)
abbrev SSs (X : Cx) (W : WX) (C : Str → Addr) (x : List Stmt) (m : Env → Store → RsS) : Prop := PSs X x (rdS X.K C W m)
section
variable {X : Cx} {W : WX} {C : Str → Addr}
theorem ss_nil : SSs X W C [] (fun e st => .ok (.nx e) st) := weakSs pss_nil fun D σ H ⟨e, st, φ, re, rt, po⟩ => po σ H φ Stp.refl re rt
def mSeq (a b : Env → Store → RsS) : Env → Store → RsS := fun e st => match a e st with
  | .ok (.nx e1) st1 => b e1 st1
  | r => r
theorem ss_cons {s : Stmt} {ss : List Stmt} {a b : Env → Store → RsS} (ha : SS X W C s a) (hb : SSs X W C ss b) : SSs X W C (s :: ss) (mSeq a b) := by
  refine weakSs (pss_cons ha hb) fun D σ H ⟨e, st, φ, re, rt, po⟩ => ⟨e, st, φ, re, rt, ?_⟩
  unfold mSeq at po
  cases er : a e st with
  | ok f st1 =>
    rw [er] at po
    cases f with
    | nx e1 => exact fun σ' H' φ' s' re' rt' => ⟨e1, st1, φ', re', rt', PoS.step s' po⟩
    | _ => exact po
  | ex c e1 st1 => rw [er] at po; exact po
  | no => rw [er] at po; exact po
theorem ss_pass {pos : Pos} : SS X W C (.Pass pos) (fun e st => .ok (.nx e) st) := weakS ps_pass fun D σ H ⟨e, st, φ, re, rt, po⟩ => po σ H φ Stp.refl re rt
theorem ss_doc {x j pos pos'} : SS X W C (.Expr (.Constant (.str x) j pos) pos') (fun e st => .ok (.nx e) st) := weakS ps_doc fun D σ H ⟨e, st, φ, re, rt, po⟩ => po σ H φ Stp.refl re rt
theorem ss_brk {pos : Pos} : SS X W C (.Break pos) (fun e st => .ok (.bk e) st) := weakS ps_break fun D σ H ⟨e, st, φ, re, rt, po⟩ => po σ H φ Stp.refl re rt
theorem ss_cnt {pos : Pos} : SS X W C (.Continue pos) (fun e st => .ok (.ct e) st) := weakS ps_continue fun D σ H ⟨e, st, φ, re, rt, po⟩ => po σ H φ Stp.refl re rt
theorem ss_retN {pos : Pos} : SS X W C (.Return none pos) (fun _ st => .ok (.rt (.p .none)) st) := weakS ps_retN fun D σ H ⟨e, st, φ, re, rt, po⟩ => po .non H φ Stp.refl rt (.p .non)
theorem ss_ret {a : Expr} {m : Env → M Val} {pos : Pos} (ha : SE X W C a m) : SS X W C (.Return (some a) pos) (fun e st => lift e (m e st) fun v st1 => .ok (.rt v) st1) :=
  weakS (ps_ret ha) fun D σ H h => rdE_imp (lift_rd (rel := Rv X.K) (f := fun _ v st1 => .ok (.rt v) st1) h) fun x H1 ⟨e, v, st, φ, re, rt, rv, po⟩ => po x H1 φ Stp.refl rt rv
theorem ss_ex {a : Expr} {m : Env → M Val} {pos : Pos} (ha : SE X W C a m) (hs : swapsWith a none pos.line X.env = pure false) : SS X W C (.Expr a pos) (fun e st => lift e (m e st) fun _ st1 => .ok (.nx e) st1) :=
  weakS (ps_expr ha hs) fun D σ H h => rdE_imp (lift_rd (rel := Rv X.K) (f := fun e _ st1 => .ok (.nx e) st1) h) fun x H1 ⟨e, v, st, φ, re, rt, rv, po⟩ => po σ H1 φ Stp.refl re rt
theorem ss_ife {c : Expr} {mc : Env → M Bool} {a b : List Stmt} {ma mb : Env → Store → RsS} {pos : Pos} (hc : SB X W C c mc) (ha : SSs X W C a ma) (hb : SSs X W C b mb) : SS X W C (.If c a b pos) (fun e st => lift e (mc e st) fun k st1 => if k then ma e st1 else mb e st1) := by
  refine weakS (ps_if hc ha hb) fun D σ H h => rdE_imp (lift_rd (rel := eqR) (f := fun e k st1 => if k then ma e st1 else mb e st1) h) fun k H1 ⟨e, v, st, φ, re, rt, rv, po⟩ => ?_
  have rv : k = v := rv
  subst rv
  cases k with
  | true => rw [if_pos rfl] at po ⊢; exact ⟨e, st, φ, re, rt, po⟩
  | false => rw [if_neg Bool.false_ne_true] at po ⊢; exact ⟨e, st, φ, re, rt, po⟩
/-! ### stores -/
theorem tgtV_ok {K : PySem.W.Frag} {W : WX} {H : Hp} {φ : List Addr} {D : Ends} {σ : L2.St} {e : Env} {st : Store} {t : Tg} {x : V} {v : Val} (re : Re K H φ σ e) (rt : Rt K H φ st) (rv : Rv K H φ x v)
    (po : PoS K C W H φ D (match tgtV t v e st with | some e1 => .ok (.nx e1) st | none => .no)) : gT K t x σ H D.nx := by
  cases t with
  | nm i => exact po _ H φ Stp.refl (re.set rv) rt
  | tp ts =>
    cases et : tgtV (.tp ts) v e st with
    | none => rw [et] at po; exact False.elim po
    | some e1 =>
      rw [et] at po
      obtain ⟨d, h1, h2⟩ := Option.bind_eq_some_iff.mp (show (asD v st).bind (fun d => tgt (.tp ts) d e) = some e1 from et)
      have hx := dt_of rt rv h1
      cases d with
      | tuple xs =>
        obtain ⟨p, vs, rfl, q1, q2⟩ := hx.tuple
        unfold tgt at h2
        dsimp only at h2
        split at h2
        · rename_i hl
          exact .inl ⟨p, vs, rfl, q1, by rw [q2.length, hl], gTs_ok [] ts h2 q2 re fun σ' re' _ => po σ' H φ Stp.refl re' rt⟩
        · cases h2
      | list xs =>
        obtain ⟨p, vs, rfl, q1, q2⟩ := hx.list
        unfold tgt at h2
        dsimp only at h2
        split at h2
        · rename_i hl
          exact .inr ⟨p, vs, rfl, SqL.of q1, by rw [q2.length, hl], gTs_ok [] ts h2 q2 re fun σ' re' _ => po σ' H φ Stp.refl re' rt⟩
        · cases h2
      | _ => unfold tgt at h2; cases h2
theorem ss_asg {t : Tg} {tg a : Expr} {m : Env → M Val} {pos : Pos} (ha : SE X W C a m) (hg : PG X tg (gT X.K t)) (hs : swapsWithSole [tg] a pos.line X.env = pure false) (hw : swappedStores [tg] a X.env = pure none) (h1 : nst tg = true) :
    SS X W C (.Assign [tg] a pos) (fun e st => lift e (m e st) fun v st1 => (match tgtV t v e st1 with | some e1 => .ok (.nx e1) st1 | none => .no)) :=
  weakS (ps_asg ha hg hs hw (by rw [ae_cons h1]; rfl)) fun D σ H h => rdE_imp (lift_rd (rel := Rv X.K) (f := fun e v st1 => (match tgtV t v e st1 with | some e1 => .ok (.nx e1) st1 | none => .no)) h) fun x H1 ⟨e, v, st, φ, re, rt, rv, po⟩ => tgtV_ok re rt rv po
theorem ss_asgC {m : Bool} {i : Nat} {y : Str} {py spos : Pos} {own : List (Str × Nat)} {t : Tg} {elt tg iter : Expr} {ifs : List Expr} {scope : Scope} {pos : Pos} {mi : Env → M (List PyData)} {mt : Env → M Bool} {me : Env → M Val} (hc : X.calm = true) (hN : X.N.Nodup) (hy : X.N[i]? = some y) (hyl : X.env.scope.names.lookup y = some .local)
    (hsw : swapsWith (.ListComp elt [⟨tg, iter, ifs, 0⟩] scope pos) (some (.Name y py)) spos.line X.env = pure true) (hin : inT (own.map (·.2)) t = true) (hi : SI X W C tg iter mi) (ok : BlkOk X.N X.env.scope scope own)
    (hg : ∀ (s : Shared) (H : Hp) (A : Addr) (cl : List (Str × Addr)) (fp : List Addr), PG (X.blk s H scope (compEnvC scope cl A X.env) fp) tg (gT X.K t))
    (ht : ∀ (s : Shared) (H : Hp) (A : Addr) (cl : List (Str × Addr)) (fp : List Addr), PTs (X.blk s H scope (compEnvC scope cl A X.env) fp) ifs (rdE X.K C W0 eqR mt))
    (he : ∀ (s : Shared) (H : Hp) (A : Addr) (cl : List (Str × Addr)) (fp : List Addr), PE (X.blk s H scope (compEnvC scope cl A X.env) fp) elt (rdE X.K C W0 (Rv X.K) me)) (hs : ∀ x, foldedSetIterable iter X.env x = pure x) :
    SS X W C (.Assign [.Name y py] (.ListComp elt [⟨tg, iter, ifs, 0⟩] scope pos) spos) (fun e st => lift e (M.bind (mi e) (fun xs => compM m (fun d e => tgt t d e) mt me (wipeE e (own.map (·.2))) xs) st) fun v st1 => (match tgtV (.nm i) v e st1 with | some e1 => .ok (.nx e1) st1 | none => .no)) :=
  weakS (ps_setLc hc hN hy hyl hsw hi ok hg ht he hs) fun D σ H h => lc_rd hin (rdE_imp (lift_rd (rel := Rv X.K) (m := fun e => M.bind (mi e) (fun xs => compM m (fun d e => tgt t d e) mt me (wipeE e (own.map (·.2))) xs)) (f := fun e v st1 => (match tgtV (.nm i) v e st1 with | some e1 => .ok (.nx e1) st1 | none => .no)) h) fun x H1 ⟨e, v, st, φ, re, rt, rv, po⟩ => tgtV_ok (t := .nm i) re rt rv po)
theorem ss_asgCH {T : Nat → Fn} {m : Bool} {i i0 : Nat} {y : Str} {py spos : Pos} {own : List (Str × Nat)} {t : Tg} {elt tg iter : Expr} {ifs : List Expr} {scope : Scope} {pos : Pos} {mt : Env → M Bool} {me : Env → M Val} (hc : X.calm = true) (hN : X.N.Nodup) (hy : X.N[i]? = some y) (hyl : X.env.scope.names.lookup y = some .local)
    (hsw : swapsWith (.ListComp elt [⟨tg, iter, ifs, 0⟩] scope pos) (some (.Name y py)) spos.line X.env = pure true) (hin : inT (own.map (·.2)) t = true) (hi : SE X W C iter (denE T (.var i0))) (ok : BlkOk X.N X.env.scope scope own)
    (hg : ∀ (s : Shared) (H : Hp) (A : Addr) (cl : List (Str × Addr)) (fp : List Addr), PG (X.blk s H scope (compEnvC scope cl A X.env) fp) tg (gT X.K t))
    (ht : ∀ (s : Shared) (H : Hp) (A : Addr) (cl : List (Str × Addr)) (fp : List Addr), PTs (X.blk s H scope (compEnvC scope cl A X.env) fp) ifs (rdE X.K C W0 eqR mt))
    (he : ∀ (s : Shared) (H : Hp) (A : Addr) (cl : List (Str × Addr)) (fp : List Addr), PE (X.blk s H scope (compEnvC scope cl A X.env) fp) elt (rdE X.K C W0 (Rv X.K) me)) (hs : ∀ x, foldedSetIterable iter X.env x = pure x) :
    SS X W C (.Assign [.Name y py] (.ListComp elt [⟨tg, iter, ifs, 0⟩] scope pos) spos) (fun e st => lift e ((match hndV e i0 with
      | some k => compMH m (fun d e => tgt t d e) mt me (wipeE e (own.map (·.2))) k st
      | none => .no)) fun v st1 => (match tgtV (.nm i) v e st1 with | some e1 => .ok (.nx e1) st1 | none => .no)) :=
  weakS (ps_setLc hc hN hy hyl hsw (pi_hnd hi) ok hg ht he hs) fun D σ H h => lc_rdH hin (rdE_imp (lift_rd (rel := Rv X.K) (m := fun e st => (match hndV e i0 with
      | some k => compMH m (fun d e => tgt t d e) mt me (wipeE e (own.map (·.2))) k st
      | none => .no)) (f := fun e v st1 => (match tgtV (.nm i) v e st1 with | some e1 => .ok (.nx e1) st1 | none => .no)) h) fun x H1 ⟨e, v, st, φ, re, rt, rv, po⟩ => tgtV_ok (t := .nm i) re rt rv po)
theorem setAll_len : ∀ {is : List Nat} {vs : List Val} {e e1 : Env}, setAll is vs e = some e1 → is.length = vs.length
  | [], [], _, _, _ => rfl
  | [], _ :: _, _, _, h => by cases h
  | _ :: _, [], _, _, h => by cases h
  | i :: is, v :: vs, e, e1, h => by
    obtain ⟨e', h1, _⟩ := Option.map_eq_some_iff.mp (show (setAll is vs e).map (fun e' => e'.set i (some v)) = some e1 from h)
    rw [List.length_cons, List.length_cons, setAll_len h1]
theorem ss_par2 {i j : Nat} {x y : Str} {a b : Expr} {mas : Env → M (List Val)} {px py pt pos : Pos} {kt k2 pt2} (hc : X.calm = true) (hN : X.N.Nodup) (hi : X.N[i]? = some x) (hj : X.N[j]? = some y) (hij : i ≠ j)
    (hx : X.env.scope.names.lookup x = some .local) (hy : X.env.scope.names.lookup y = some .local) (ha : SA X W C [a, b] mas)
    (hw : swappedStores [.Tuple [.Name x px, .Name y py] kt pt] (.Tuple [a, b] k2 pt2) X.env = pure (some [x, y])) :
    SS X W C (.Assign [.Tuple [.Name x px, .Name y py] kt pt] (.Tuple [a, b] k2 pt2) pos) (fun e st => lift e (mas e st) fun vs st1 => (match setAll [i, j] vs e with | some e1 => .ok (.nx e1) st1 | none => .no)) := by
  refine weakS (ps_par hc hN hi hj hij hx hy ha hw) fun D σ H h => rdE_imp (lift_rd (rel := rvA X.K) (f := fun e vs st1 => (match setAll [i, j] vs e with | some e1 => .ok (.nx e1) st1 | none => .no)) h) fun xs H1 ⟨e, vs, st, φ, re, rt, rv, po⟩ => ?_
  cases es : setAll [i, j] vs e with
  | none => rw [es] at po; exact False.elim po
  | some e1 =>
    rw [es] at po
    have hl := setAll_len es
    cases rv with
    | nil => cases hl
    | cons r1 rv =>
      cases rv with
      | nil => cases hl
      | cons r2 rv =>
        cases rv with
        | cons _ _ => exact absurd hl (by simp)
        | nil =>
          cases es
          refine ⟨_, _, rfl, po _ H1 φ Stp.refl ?_ rt⟩
          rw [List.set_comm _ _ hij]
          exact (re.set r2).set r1
theorem ss_par3 {i j l : Nat} {x y z : Str} {a b c : Expr} {mas : Env → M (List Val)} {px py pz pt pos : Pos} {kt k2 pt2} (hc : X.calm = true) (hN : X.N.Nodup) (hi : X.N[i]? = some x) (hj : X.N[j]? = some y) (hl : X.N[l]? = some z) (hij : i ≠ j) (hil : i ≠ l) (hjl : j ≠ l)
    (hx : X.env.scope.names.lookup x = some .local) (hy : X.env.scope.names.lookup y = some .local) (hz : X.env.scope.names.lookup z = some .local) (ha : SA X W C [a, b, c] mas)
    (hw : swappedStores [.Tuple [.Name x px, .Name y py, .Name z pz] kt pt] (.Tuple [a, b, c] k2 pt2) X.env = pure (some [x, y, z])) :
    SS X W C (.Assign [.Tuple [.Name x px, .Name y py, .Name z pz] kt pt] (.Tuple [a, b, c] k2 pt2) pos) (fun e st => lift e (mas e st) fun vs st1 => (match setAll [i, j, l] vs e with | some e1 => .ok (.nx e1) st1 | none => .no)) := by
  refine weakS (ps_par3 hc hN hi hj hl hij hil hjl hx hy hz ha hw) fun D σ H h => rdE_imp (lift_rd (rel := rvA X.K) (f := fun e vs st1 => (match setAll [i, j, l] vs e with | some e1 => .ok (.nx e1) st1 | none => .no)) h) fun xs H1 ⟨e, vs, st, φ, re, rt, rv, po⟩ => ?_
  cases es : setAll [i, j, l] vs e with
  | none => rw [es] at po; exact False.elim po
  | some e1 =>
    rw [es] at po
    have hl := setAll_len es
    cases rv with
    | nil => cases hl
    | cons r1 rv =>
      cases rv with
      | nil => cases hl
      | cons r2 rv =>
        cases rv with
        | nil => cases hl
        | cons r3 rv =>
          cases rv with
          | cons _ _ => exact absurd hl (by simp)
          | nil =>
            cases es
            refine ⟨_, _, _, rfl, po _ H1 φ Stp.refl ?_ rt⟩
            rw [List.set_comm _ _ hij, List.set_comm _ _ hil, List.set_comm _ _ hjl]
            exact ((re.set r3).set r2).set r1
theorem ss_aug {i : Nat} {x : Str} {a : Expr} {m : Env → M Val} {op : Operator} {pos' pos : Pos} {g : Int → Int → Int} (hN : X.N.Nodup) (hi : X.N[i]? = some x) (hx : Loc X.env.scope x) (hf : X.fn x = true ∨ X.env.scope.names.lookup x = some .local) (ho : PIp X op (ipI g)) (ha : SE X W C a m) :
    SS X W C (.AugAssign (.Name x pos') op a pos) (fun e st => (match e[i]? with
    | some (some (.p (.int n))) => lift e (m e st) fun v st1 => (match v with
      | .p (.int m) => .ok (.nx (e.set i (some (.p (.int (g n m)))))) st1
      | _ => .no)
    | _ => .no)) := by
  refine weakS (ps_aug hN hi hx ha ho hf) fun D σ H ⟨e, st, φ, re, rt, po⟩ => ?_
  dsimp only at po
  split at po
  · rename_i n he
    obtain ⟨y, h1, h2⟩ := re.get i _ he
    refine ⟨y, h1, ?_⟩
    refine rdE_imp (lift_rd2 (rel := Rv X.K) (f := fun e v st1 => (match v with
      | .p (.int m) => .ok (.nx (e.set i (some (.p (.int (g n m)))))) st1
      | _ => .no)) re rt h2 po) fun z H1 ⟨u, st, φ, re, rt, rv, ru, po⟩ => ?_
    split at po
    · rename_i k
      have e1 : y = .int n := by cases rv with | p q => cases q; rfl
      have e2 : z = .int k := by cases ru with | p q => cases q; rfl
      exact ⟨n, k, e1, e2, po _ H1 φ Stp.refl (re.set (.p (.int _))) rt⟩
    · exact False.elim po
  · exact False.elim po
theorem ss_setIx {o i b : Expr} {mo mi mb : Env → M Val} {p1 pos : Pos} (hb : SE X W C b mb) (ho : SE X W C o mo) (hi : SE X W C i mi) (hn : noSlc i = true) (hs : swapsWithSole [.Subscript o i p1] b pos.line X.env = pure false) (hw : swappedStores [.Subscript o i p1] b X.env = pure none) :
    SS X W C (.Assign [.Subscript o i p1] b pos) (fun e st => lift e (mb e st) fun u st0 => lift e (mo e st0) fun v st1 => lift e (mi e st1) fun w st2 => setF e u v w st2) := by
  have ha : ∀ v, assign (.Subscript o i p1) X.env v = (do
      let ov ← holding [v] (eval o X.env)
      let iv ← holding [v, ov] (eval i X.env)
      standAt p1
      holding [v, ov, iv] (setItem ov iv v)
      release [v, ov, iv] []) := by
    cases i <;> first | (exact absurd hn Bool.false_ne_true) | (exact fun _ => rfl)
  refine weakS (ps_asg hb (pg_sub ho hi set_list ha) hs hw) fun D σ H h => rdE_imp (lift_rd (rel := Rv X.K) (f := fun e u st0 => lift e (mo e st0) fun v st1 => lift e (mi e st1) fun w st2 => setF e u v w st2) h) fun z H1 ⟨e, u, st, φ, re, rt, ru, po⟩ => ?_
  refine rdE_imp (lift_rd2 (rel := Rv X.K) (m := mo) (f := fun e v st1 => lift e (mi e st1) fun w st2 => setF e u v w st2) re rt ru po) fun x H2 ⟨v, st, φ, re, rt, ru, rv, po⟩ => ?_
  refine rdE_imp (lift_rd3 (rel := Rv X.K) (m := mi) (f := fun e w st2 => setF e u v w st2) re rt ru rv po) fun y H3 ⟨w, st, φ, re, rt, ru, rv, rw', po⟩ => ?_
  unfold setF at po
  split at po
  · rename_i k n d _ _ _ _ _ _ _
    split at po
    · rename_i xs hk
      split at po
      · rename_i j hj
        obtain ⟨a, vs, rfl, h1, h2, h3⟩ := lst_of rt rv hk
        have ey : y = .int n := by cases rw' with | p q => cases q; rfl
        subst ey
        cases ru with
        | p hd =>
          exact ⟨a, vs, n, j, rfl, rfl, h2, by rw [h3.length]; exact hj, po σ _ φ (Stp.set (List.mem_of_getElem? h1)) (re.mono (Stp.set (List.mem_of_getElem? h1)) rt.lst) (rt.set h1 (h3.set hd j))⟩
      · exact False.elim po
    · exact False.elim po
  · exact False.elim po
end
end Rk

set_option Elab.async false
set_option linter.all false
set_option maxRecDepth 100000
set_option maxHeartbeats 4000000
namespace Rk
open PySem PySem.Spec PyProof.Rows L2
section
variable {X : Cx} {W : WX} {C : Str → Addr}
theorem ss_whl {c : Expr} {body : List Stmt} {mc : Env → M Bool} {mb : Env → Store → RsS} {pos : Pos} (hp : PassesOwn (model X.prog X.w) X.A X.env X.xe) (hc : SB X W C c mc) (hb : SSs X W C body mb) : SS X W C (.While c body [] pos) (fun e st => whlN mc mb fuelW e st) := by
  refine weakS (ps_while hp hc hb) fun D σ H ⟨e, st, φ, re, rt, po⟩ => ?_
  refine ⟨fun m σ' H' => ∃ e' st' φ', Re X.K H' φ' σ' e' ∧ Rt X.K H' φ' st' ∧ PoS X.K C W H' φ' D (whlN mc mb m e' st'), ⟨fuelW, e, st, φ, re, rt, po⟩, ?_⟩
  rintro m σ1 H1 ⟨e1, st1, φ1, re1, rt1, po1⟩
  cases m with
  | zero => exact False.elim po1
  | succ m =>
    refine rdE_imp (lift_rd (rel := eqR) (m := mc) (f := fun e b st1 => if b then (match mb e st1 with
      | .ok (.nx e2) st2 => whlN mc mb m e2 st2
      | .ok (.ct e2) st2 => whlN mc mb m e2 st2
      | .ok (.bk e2) st2 => .ok (.nx e2) st2
      | .ok (.rt v) st2 => .ok (.rt v) st2
      | .ex c e2 st2 => .ex c e2 st2
      | .no => .no) else .ok (.nx e) st1) ⟨e1, st1, φ1, re1, rt1, po1⟩) fun b H2 ⟨e2, k, st2, φ2, re2, rt2, rk, po2⟩ => ?_
    have rk : b = k := rk
    subst rk
    cases b with
    | false =>
      rw [if_neg Bool.false_ne_true] at po2 ⊢
      exact po2 σ1 H2 φ2 Stp.refl re2 rt2
    | true =>
      rw [if_pos rfl] at po2 ⊢
      refine ⟨fun σ' H' => ∃ e' st' φ', Re X.K H' φ' σ' e' ∧ Rt X.K H' φ' st' ∧ PoS X.K C W H' φ' D (whlN mc mb m e' st'), fun σ' H' h => ⟨m, Nat.lt_succ_self m, h⟩, e2, st2, φ2, re2, rt2, ?_⟩
      cases er : mb e2 st2 with
      | ok f st3 =>
        rw [er] at po2
        cases f with
        | nx e3 => exact fun σ' H' φ' s' re' rt' => ⟨e3, st3, φ', re', rt', PoS.step s' po2⟩
        | ct e3 => exact fun σ' H' φ' s' re' rt' => ⟨e3, st3, φ', re', rt', PoS.step s' po2⟩
        | bk e3 => exact po2
        | rt v => exact po2
      | ex c e3 st3 => rw [er] at po2; exact po2
      | no => rw [er] at po2; exact po2
theorem ss_for {tg iter : Expr} {body : List Stmt} {t : Tg} {mi : Env → M (List PyData)} {mb : Env → Store → RsS} {pos : Pos} (hp : PassesOwn (model X.prog X.w) X.A X.env X.xe) (hc : X.calm = true) (hi : SI X W C tg iter mi) (hg : PG X tg (gT X.K t)) (hb : SSs X W C body mb)
    (hs : ∀ x, foldedSetIterable iter X.env x = pure x) : SS X W C (.For tg iter body [] pos) (fun e st => lift e (mi e st) fun xs st1 => forL (fun d e => tgt t d e) mb xs e st1) := by
  refine weakS (ps_for hp hc hi hg hb hs) fun D σ H h => ?_
  refine rdE_imp (lift_rd (rel := JOk X.K) (f := fun e xs st1 => forL (fun d e => tgt t d e) mb xs e st1) h) fun J H1 ⟨e, xs, st, φ, re, rt, hJ, po⟩ => ?_
  refine ⟨fun i m σ' H' => m = xs.length - i ∧ i ≤ xs.length ∧ ∃ e' st' φ', Stp φ H1 φ' H' ∧ Re X.K H' φ' σ' e' ∧ Rt X.K H' φ' st' ∧ PoS X.K C W H' φ' D (forL (fun d e => tgt t d e) mb (xs.drop i) e' st'), ⟨xs.length, by simp, Nat.zero_le _, e, st, φ, Stp.refl, re, rt, by rw [List.drop_zero]; exact po⟩, ?_⟩
  rintro i m σ2 H2 ⟨rfl, hi, e2, st2, φ2, s2, re2, rt2, po2⟩
  obtain ⟨j1, j2⟩ := hJ i H2 φ2 s2 rt2.lst
  by_cases hlt : i < xs.length
  · have hx : xs[i]? = some xs[i] := List.getElem?_eq_getElem hlt
    obtain ⟨g1, g2⟩ := j1 _ hx
    refine .inr ⟨g1, fun σ' H' => ∃ e' st' φ', Stp φ H1 φ' H' ∧ Re X.K H' φ' σ' e' ∧ Rt X.K H' φ' st' ∧ PoS X.K C W H' φ' D (forL (fun d e => tgt t d e) mb (xs.drop (i + 1)) e' st'), fun σ' H' h => ⟨xs.length - (i + 1), by omega, rfl, hlt, h⟩, fun y H3 hy => ?_⟩
    obtain ⟨s3, k3, d3⟩ := g2 y H3 hy
    have rt3 := rt2.keep s3 k3
    have re3 := re2.mono s3 rt2.lst
    have po3 := PoS.step s3 po2
    rw [List.drop_eq_getElem_cons hlt] at po3
    have s23 := s2.trans s3
    cases et : tgt t xs[i] e2 with
    | none => unfold forL at po3; rw [et] at po3; exact False.elim po3
    | some e1 =>
      unfold forL at po3
      rw [et] at po3
      dsimp only at po3
      refine gT_ok [] t et d3 re3 fun σ4 re4 _ => ⟨e1, st2, φ2, re4, rt3, ?_⟩
      cases er : mb e1 st2 with
      | ok f st5 =>
        rw [er] at po3
        cases f with
        | nx e5 => exact fun σ' H' φ' s' re' rt' => ⟨e5, st5, φ', s23.trans s', re', rt', PoS.step s' po3⟩
        | ct e5 => exact fun σ' H' φ' s' re' rt' => ⟨e5, st5, φ', s23.trans s', re', rt', PoS.step s' po3⟩
        | bk e5 => exact po3
        | rt v => exact po3
      | ex c e5 st5 => rw [er] at po3; exact po3
      | no => rw [er] at po3; exact po3
  · have e0 : xs.drop i = [] := List.drop_eq_nil_of_le (by omega)
    rw [e0] at po2
    exact .inl ⟨j2 (by omega), po2 σ2 H2 φ2 Stp.refl re2 rt2⟩
theorem ss_forH {T : Nat → Fn} {tg iter : Expr} {body : List Stmt} {t : Tg} {i0 : Nat} {mb : Env → Store → RsS} {pos : Pos} (hp : PassesOwn (model X.prog X.w) X.A X.env X.xe) (hc : X.calm = true) (hi : SE X W C iter (denE T (.var i0))) (hg : PG X tg (gT X.K t)) (hb : SSs X W C body mb)
    (hs : ∀ x, foldedSetIterable iter X.env x = pure x) : SS X W C (.For tg iter body [] pos) (fun e st => (match hndV e i0 with
    | some k => (match st[k]? with
      | some xs => forH (fun d e => tgt t d e) mb k (xs.length + 1) 0 e st
      | none => .no)
    | none => .no)) := by
  refine weakS (ps_for hp hc (pi_hnd hi) hg hb hs) fun D σ H h => ?_
  obtain ⟨e, st, φ0, re, rt, po⟩ := h
  cases hh : hndV e i0 with
  | none => dsimp only at po; rw [hh] at po; exact False.elim po
  | some k =>
  dsimp only at po
  rw [hh] at po
  dsimp only at po
  cases hs : st[k]? with
  | none => rw [hs] at po; exact False.elim po
  | some xs =>
  rw [hs] at po
  dsimp only at po
  obtain ⟨p, vs0, hp0, _, _⟩ := rt.get hs
  refine ⟨e, st, φ0, k, p, re, rt, hnd_of hh, hp0, fun H1 φ s1 rt1 => ?_⟩
  have hpφ := pre_at s1.pre hp0
  replace po := PoS.step s1 po
  replace re := re.mono s1 rt.lst
  clear s1 hs
  refine ⟨fun i m σ' H' => ∃ e' st' φ', Stp φ H1 φ' H' ∧ Re X.K H' φ' σ' e' ∧ Rt X.K H' φ' st' ∧ PoS X.K C W H' φ' D (forH (fun d e => tgt t d e) mb k m i e' st'), ⟨xs.length + 1, e, st, φ, Stp.refl, re, rt1, po⟩, ?_⟩
  rintro i m σ2 H2 ⟨e2, st2, φ2, s2, re2, rt2, po2⟩
  have hpk : φ2[k]? = some p := pre_at s2.pre hpφ
  cases m with
  | zero => exact False.elim po2
  | succ n =>
  obtain ⟨ys, b1, b2, b3⟩ := itl_turn (i := i) rt2 hpk
  unfold forH at po2
  rw [b1] at po2
  dsimp only at po2
  cases hx : ys[i]? with
  | some x =>
    rw [hx] at po2
    dsimp only at po2
    obtain ⟨g1, g2⟩ := b2 _ hx
    refine .inr ⟨g1, fun σ' H' => ∃ e' st' φ', Stp φ H1 φ' H' ∧ Re X.K H' φ' σ' e' ∧ Rt X.K H' φ' st' ∧ PoS X.K C W H' φ' D (forH (fun d e => tgt t d e) mb k n (i + 1) e' st'), fun σ' H' h => ⟨n, Nat.lt_succ_self n, h⟩, fun y H3 hy => ?_⟩
    obtain ⟨rfl, d3⟩ := g2 y H3 hy
    cases et : tgt t x e2 with
    | none => rw [et] at po2; exact False.elim po2
    | some e1 =>
      rw [et] at po2
      dsimp only at po2
      refine gT_ok [] t et d3 re2 fun σ4 re4 _ => ⟨e1, st2, φ2, re4, rt2, ?_⟩
      cases er : mb e1 st2 with
      | ok f st5 =>
        rw [er] at po2
        cases f with
        | nx e5 => exact fun σ' H' φ' s' re' rt' => ⟨e5, st5, φ', s2.trans s', re', rt', PoS.step s' po2⟩
        | ct e5 => exact fun σ' H' φ' s' re' rt' => ⟨e5, st5, φ', s2.trans s', re', rt', PoS.step s' po2⟩
        | bk e5 => exact po2
        | rt v => exact po2
      | ex c e5 st5 => rw [er] at po2; exact po2
      | no => rw [er] at po2; exact po2
  | none =>
    rw [hx] at po2
    exact .inl ⟨b3 hx, po2 σ2 H2 φ2 Stp.refl re2 rt2⟩
/-- a tuple stored in names, one after the other -/
theorem gTs_set {K : PySem.W.Frag} {H : Hp} {φ : List Addr} : ∀ {is : List Nat} {xs : List V} {vs : List Val} {σ : L2.St} {e e1 : Env} {Q : L2.St → Hp → Prop}, rvA K H φ xs vs → Re K H φ σ e → setL is vs e = some e1 → (∀ σ', Re K H φ σ' e1 → Q σ' H) → gTs K (is.map Tg.nm) xs σ H Q
  | [], _, _, σ, e, e1, Q, .nil, re, h, q => by
    cases h
    unfold gTs
    exact ⟨rfl, q σ re⟩
  | i :: is, _, _, σ, e, e1, Q, .cons r1 r2, re, h, q => by
    show gTs K (.nm i :: is.map Tg.nm) _ σ H Q
    unfold gTs gT
    exact ⟨_, _, rfl, gTs_set r2 (re.set r1) h q⟩
  | _ :: _, _, _, _, _, _, _, .nil, _, h, _ => by cases h
  | [], _, _, _, _, _, _, .cons _ _, _, h, _ => by cases h
theorem setL_len : ∀ {is : List Nat} {vs : List Val} {e e1 : Env}, setL is vs e = some e1 → is.length = vs.length
  | [], [], _, _, _ => rfl
  | [], _ :: _, _, _, h => by cases h
  | _ :: _, [], _, _, h => by cases h
  | i :: is, v :: vs, e, e1, h => by
    have h : setL is vs (e.set i (some v)) = some e1 := h
    rw [List.length_cons, List.length_cons, setL_len h]
theorem ss_parT {is : List Nat} {es : List Expr} {tg : Expr} {mas : Env → M (List Val)} {k2 : Nat} {p2 pos : Pos} (ha : SA X W C es mas) (hg : PG X tg (gT X.K (.tp (is.map Tg.nm)))) (hs : swapsWithSole [tg] (.Tuple es k2 p2) pos.line X.env = pure false) (hw : swappedStores [tg] (.Tuple es k2 p2) X.env = pure none) (h1 : nst tg = true) :
    SS X W C (.Assign [tg] (.Tuple es k2 p2) pos) (fun e st => lift e (mas e st) fun vs st1 => if vs.length ≤ sizeLine then (match setL is vs e with
    | some e1 => .ok (.nx e1) st1
    | none => .no) else .no) := by
  refine weakS (ps_asg (pe_tup ha) hg hs hw (by rw [ae_cons h1]; rfl)) fun D σ H h => ?_
  refine rdE_imp (lift_rd (rel := rvA X.K) (f := fun e vs st1 => if vs.length ≤ sizeLine then (match setL is vs e with
    | some e1 => .ok (.nx e1) st1
    | none => .no) else .no) h) fun xs H1 ⟨e, vs, st, φ, re, rt, rv, po⟩ => ?_
  split at po
  · rename_i hz
    have hl : xs.length = vs.length := Paired.length rv
    refine ⟨by rw [hl]; exact hz, fun p hp => ?_⟩
    cases es : setL is vs e with
    | none => rw [es] at po; exact False.elim po
    | some e1 =>
      rw [es] at po
      have s := Stp.laid (φ := φ) (o := .tup xs) hp
      have n1 := setL_len es
      refine .inl ⟨p, xs, rfl, SqT.of upd_same, by rw [hl, List.length_map, n1], gTs_set (rvA_mono s rt.lst rv) (re.mono s rt.lst) es fun σ' re' => ?_⟩
      exact po σ' _ φ s re' (rt.laid hp)
  · exact False.elim po
theorem ss_raise {L : Lw} {T : Nat → Fn} {n : Nat} {S : Sc} (G : Gd X W L T C n S) {x m : Str} {j : Nat} {p p2 cp pos : Pos} (hx : x ∈ L.exs) (hg : Gl X x) (hd : (x == ("__debug__" : Str)) = false) :
    SS X W C (.Raise (some (.Call (.Name x p) [.Constant (.str m) j p2] [] cp)) none pos) (fun e st => .ex x e st) := by
  obtain ⟨h1, h2, h3, h4, h5⟩ := G.wd.exs x hx
  exact weakS (ps_raise G.calm G.tk (pmk_own F.excBase_ValueError h5 h1 h2 (raises_own h3 h4) hg hd)) fun D σ H ⟨e, st, φ, re, rt, po⟩ => po σ H φ Stp.refl rt
/-! ### try -/
structure Gs (X : Cx) (W : WX) (L : Lw) (T : Nat → Fn) (C : Str → Addr) (n : Nat) (S : Sc) : Prop where
  g : Gd X W L T C n S
  po : PassesOwn (model X.prog X.w) X.A X.env X.xe
  hs : X.stack = X.env :: X.outer
  hf : X.env.frame = some X.env.locals
theorem Gs.tr {L : Lw} {T : Nat → Fn} {n : Nat} {S : Sc} (G : Gs X W L T C n S) {W' : WX} {pn : List (Addr × Obj)} {xe : Value → Shared → Prop} (tk : Takes (X.tr pn xe) W') (hp : PassesOwn (model X.prog X.w) X.A X.env xe) : Gs (X.tr pn xe) W' L T C n S :=
  ⟨⟨G.g.wd, G.g.calm, G.g.hN, G.g.nd, G.g.sc, G.g.fn, tk⟩, hp, G.hs, G.hf⟩
def mTry (mb : Env → Store → RsS) (h : List (Str × PyData)) : Env → Store → RsS := fun e st => match mb e st with
  | .ex c' _ st' => (match h.lookup c' with
    | some d => .ok (.rt (.p d)) st'
    | none => .no)
  | r => r
theorem lookup_in {h : List (Str × PyData)} {c : Str} {d : PyData} (e : h.lookup c = some d) : (c, d) ∈ h := by
  induction h with
  | nil => cases e
  | cons p r ih =>
    obtain ⟨k, v⟩ := p
    rw [List.lookup_cons] at e
    split at e
    · rename_i hb
      cases e
      rw [eq_of_beq hb]
      exact List.mem_cons_self
    · exact List.mem_cons_of_mem _ (ih e)
theorem ss_try {L : Lw} {T : Nat → Fn} {n : Nat} {S : Sc} (G : Gs X W L T C n S) {i : Nat} {nme : Str} {body : List Stmt} {mb : Env → Store → RsS} {h : List (Str × PyData)} {np kp p2 cp rp pos' pos : Pos} (hi : X.N[i]? = some nme) (hln : X.env.kindOf nme = some .local) (hnd : (nme == ("__debug__" : Str)) = false) (hncd : (nme == ("__classdict__" : Str)) = false)
    (gc : Gl X L.kc) (dc : (L.kc == ("__debug__" : Str)) = false) (gk : Gl X L.knm) (dk : (L.knm == ("__debug__" : Str)) = false) (hh : ∀ p ∈ h, p ∈ L.kh) (hne : h.isEmpty = false)
    (hb : ∀ (W' : WX) (pn : List (Addr × Obj)) (xe : Value → Shared → Prop), Takes (X.tr pn xe) W' → PassesOwn (model X.prog X.w) X.A X.env xe → SSs (X.tr pn xe) W' C body mb) :
    SS X W C (.Try body [.ExceptHandler (some (.Name L.kc np)) (some nme) [.Return (some (.Call (.Name L.knm kp) [.Name nme p2] [] cp)) rp] pos'] [] [] pos) (mTry mb h) := by
  obtain ⟨⟨c0, d0⟩, hm0⟩ : ∃ p, p ∈ h := by
    cases h with
    | nil => cases hne
    | cons p r => exact ⟨p, List.mem_cons_self⟩
  obtain ⟨mc, _, f, fd, ps, mk, kk, hbi, F⟩ := G.g.wd.knd c0 d0 (hh _ hm0)
  let te : Addr → Value → Option Addr → TE := fun a cls d σ H Q => ∃ (σ0 : L2.St) (c : Str) (r : PyData) (φ : List Addr) (st : Store), σ = σ0.set i (some (.ref a)) ∧ cls = .ref (C c) ∧ d = none ∧ (c, r) ∈ L.kh ∧ Rt X.K H φ st ∧ PoR (Rv X.K) X.K (fun _ _ => False) H φ Q (.ok (.p r) st)
  have q := ps_try_as (X := X) (x := L.kc) (n := nme) (c := .ref (C L.kc)) (i := i) (body := body) (np := np) (pos := pos) (pos' := pos') (Wout := W) (tb := fun W' => rdS X.K C W' mb) (ts := fun a cls d => tRet (te a cls d))
    (b₀ := .Return (some (.Call (.Name L.knm kp) [.Name nme p2] [] cp)) rp) (suite := []) G.hs G.hf G.g.ndX hi hln ⟨gc, dc, .inl mc⟩ G.g.tk (fun W' pn xe tk hp => hb W' pn xe tk hp) (fun a oe cls d pn hz hv => by
      refine pss_one (ps_ret ⟨fun pins s σ H Q I ⟨σ0, c, r, φ, st, hσ, hc, hd, hm, rt, po⟩ => ?_⟩)
      subst hc; subst hd
      have hi0 : σ[i]? = some (some (.ref a)) := by
        have hl : σ.length = X.N.length := I.len
        have hlt : i < X.N.length := (List.getElem?_eq_some_iff.mp hi).1
        rw [hσ] at hl ⊢
        rw [List.length_set] at hl
        exact List.getElem?_set_self (by omega)
      refine wpAny_Call_Name_kw (ld_glob I gk mk ?_ dk)
      have pv : PE (X.suite a ((a, oe) :: pn)) (.Name nme p2) (tVar i) := pe_var hi (.inl hln) hnd hncd
      have pa : PA (X.suite a ((a, oe) :: pn)) [.Name nme p2] (tCons (tVar i) tNil) := pa_cons pv pa_nil (star_cons rfl)
      refine PySem.W.callWith_K (h₀ := X.base) I.ok.mod.kin kk (thn (pa.run cp pins s σ H (fun vs H1 => vs = [.ref a] ∧ H1 = H) I ⟨_, hi0, rfl, rfl⟩) fun us s1 ⟨vs, H1, I1, r1, e1, e2⟩ => ⟨I1.kIn, ?_⟩) (star_cons rfl) (star_none rfl)
      subst e1; subst e2
      cases r1 with
      | cons ru rn =>
        cases rn
        cases ru
        have P1 := I1.pin (a, oe) (List.mem_append_left _ List.mem_cons_self)
        have hpin : L2H.PinOk X.stack H1 s1 (a, oe) := ⟨P1.1, P1.2.1, fun hm => (List.mem_cons.mp (I1.stkSub a hm)).elim P1.2.2.1 P1.2.2.2.1, P1.2.2.2.2⟩
        have b := hbi s1 [.ref a] I1.kIn (by rw [List.append_nil]; exact F.len.symm)
        rw [List.append_nil] at b
        refine wpAny_call (codeAny_mono (F.run (X.A.mark (some (.ref a))) X.stack s1 H1 _ Q (WE W0 σ) a oe c r φ st G.g.wd.gd ⟨G.g.wd.room.dp, G.g.wd.room.un⟩ hpin hz hv hm I1.env0 b rt po) fun o s2 hq => ?_)
        cases o with
        | error x => exact (passAt (X := X.suite a ((a, oe) :: pn)) (W := W0) takes0' σ) pins H1 s1 x s2 I1 hq
        | ok fl => cases fl <;> first | exact I1.after hq | exact False.elim hq)
  refine weakS q fun D σ H ⟨e, st, φ, re, rt, po⟩ => ⟨e, st, φ, re, rt, ?_⟩
  unfold mTry at po
  cases er : mb e st with
  | ok f st1 => rw [er] at po; cases f <;> exact po
  | no => rw [er] at po; exact po
  | ex c' e' st' =>
    rw [er] at po
    dsimp only at po
    cases el : h.lookup c' with
    | none => rw [el] at po; exact False.elim po
    | some d =>
      rw [el] at po
      have hm := hh _ (lookup_in el)
      obtain ⟨_, hex, _⟩ := G.g.wd.knd c' d hm
      exact fun σ' H' φ' s' rt' => ⟨true, hex, fun _ a ha => ⟨σ', c', d, φ', st', rfl, rfl, rfl, hm, rt', fun x H2 φ2 s2 rt2 rv => po x H2 φ2 (s'.trans s2) rt2 rv⟩, fun z => by cases z⟩
end
end Rk

set_option Elab.async false
set_option linter.all false
set_option maxRecDepth 100000
set_option maxHeartbeats 4000000
namespace Rk
open PySem PySem.Spec PyProof.Rows L2
/-! ### the check of statements -/
def envS (sc : Scope) : PySem.Env := { scope := sc, locals := 0, globals := 0, cells := [] }
def pureO (a : Option (List Str)) : Sem (Option (List Str)) → Bool
  | .pure b => decide (b = a)
  | _ => false
def pureB (a : Bool) : Sem Bool → Bool
  | .pure b => b == a
  | _ => false
theorem pureO_eq {a : Option (List Str)} {x : Sem (Option (List Str))} (h : pureO a x = true) : x = pure a := by
  cases x <;> first | (exact congrArg Sem.pure (of_decide_eq_true h)) | cases h
theorem pureB_eq {a : Bool} {x : Sem Bool} (h : pureB a x = true) : x = pure a := by
  cases x <;> first | (exact congrArg Sem.pure (eq_of_beq h)) | cases h
theorem sw_env {v : Expr} {t : Option Expr} {l : Nat} {env : PySem.Env} {sc : Scope} (h : env.scope = sc) : swapsWith v t l env = swapsWith v t l (envS sc) := by
  subst h
  rfl
theorem sws_env {v : Expr} {t : List Expr} {l : Nat} {env : PySem.Env} {sc : Scope} (h : env.scope = sc) : swapsWithSole t v l env = swapsWithSole t v l (envS sc) := by
  subst h
  rcases t with _ | ⟨a, _ | ⟨b, r⟩⟩ <;> rfl
theorem sst_env {v : Expr} {t : List Expr} {env : PySem.Env} {sc : Scope} (h : env.scope = sc) : swappedStores t v env = swappedStores t v (envS sc) := by
  subst h
  rfl
def lclB (S : Sc) (x : Str) : Bool := match S.sc.names.lookup x with
  | some .local => true
  | _ => false
def ipB : Operator → Bool
  | .Add => true
  | .Sub => true
  | _ => false
/-- [x] = [.. for ..] on one line -/
def cmpS (S : Sc) (t : Tg) (tg e : Expr) (l : Nat) : Bool := match t, tg, e with
  | .nm i, .Name y py, .ListComp _ _ _ _ => decide (S.N[i]? = some y) && lclB S y && pureB true (swapsWith e (some (.Name y py)) l (envS S.sc))
  | _, _, _ => false
def plS (S : Sc) (tg e : Expr) (l : Nat) : Bool := nst tg && pureB false (swapsWithSole [tg] e l (envS S.sc)) && pureO none (swappedStores [tg] e (envS S.sc))
mutual
def chkS (L : Lw) (S : Sc) : Rk.S → Stmt → Bool
  | .asg t a, s => (match s with
    | .Assign [tg] e p => chkE L S a e && ((plS S tg e p.line && chkT S t tg) || cmpS S t tg e p.line)
    | _ => false)
  | .par is as, s => (match s with
    | .Assign [.Tuple [.Name x px, .Name y py] kt pt] (.Tuple [a, b] k2 p2) p => (match is with
      | [i, j] => decide (S.N[i]? = some x) && decide (S.N[j]? = some y) && decide (i ≠ j) && lclB S x && lclB S y && chkEs L S as [a, b] && pureO (some [x, y]) (swappedStores [.Tuple [.Name x px, .Name y py] kt pt] (.Tuple [a, b] k2 p2) (envS S.sc))
      | _ => false)
    | .Assign [.Tuple [.Name x px, .Name y py, .Name z pz] kt pt] (.Tuple [a, b, c] k2 p2) p => (match is with
      | [i, j, l] => decide (S.N[i]? = some x) && decide (S.N[j]? = some y) && decide (S.N[l]? = some z) && decide (i ≠ j) && decide (i ≠ l) && decide (j ≠ l) && lclB S x && lclB S y && lclB S z && chkEs L S as [a, b, c] && pureO (some [x, y, z]) (swappedStores [.Tuple [.Name x px, .Name y py, .Name z pz] kt pt] (.Tuple [a, b, c] k2 p2) (envS S.sc))
      | _ => false)
    | _ => false)
  | .aug i op a, s => (match s with
    | .AugAssign (.Name x _) op' e _ => decide (op' = op) && ipB op && locB S i x && chkE L S a e
    | _ => false)
  | .setIx a i b, s => (match s with
    | .Assign [.Subscript o ix p1] e p => chkE L S a o && chkE L S i ix && chkE L S b e && noSlc ix && plS S (.Subscript o ix p1) e p.line
    | _ => false)
  | .ife c a b, s => (match s with
    | .If e x y _ => chkE L S c e && chkSs L S a x && chkSs L S b y
    | _ => false)
  | .whl c b, s => (match s with
    | .While e x [] _ => chkE L S c e && chkSs L S b x
    | _ => false)
  | .for_ t it b, s => (match s with
    | .For tg iter x [] _ => noSet iter && chkT S t tg && chkI L S it tg iter && chkSs L S b x
    | _ => false)
  | .forH t i b, s => (match s with
    | .For tg (.Name x _) y [] _ => chkT S t tg && (decide (S.N[i]? = some x) && visB S x) && chkSs L S b y
    | _ => false)
  | .parT is as, s => (match s with
    | .Assign [tg] (.Tuple es k2 p2) p => plS S tg (.Tuple es k2 p2) p.line && chkT S (.tp (is.map Tg.nm)) tg && chkEs L S as es
    | _ => false)
  | .ret a, s => (match s with
    | .Return (some e) _ => chkE L S a e
    | _ => false)
  | .retN, s => (match s with
    | .Return none _ => true
    | _ => false)
  | .ex a, s => (match s with
    | .Expr e p => chkE L S a e && pureB false (swapsWith e none p.line (envS S.sc))
    | _ => false)
  | .raise c, s => (match s with
    | .Raise (some (.Call (.Name x _) [.Constant (.str _) _ _] [] _)) none _ => x == c && L.exs.contains c && glB S x
    | _ => false)
  | .brk, s => (match s with
    | .Break _ => true
    | _ => false)
  | .cnt, s => (match s with
    | .Continue _ => true
    | _ => false)
  | .pass, s => (match s with
    | .Pass _ => true
    | .Expr (.Constant (.str _) _ _) _ => true
    | _ => false)
  | .try_ b i h, s => (match s with
    | .Try body [.ExceptHandler (some (.Name x _)) (some nme) [.Return (some (.Call (.Name k _) [.Name n2 _] [] _)) _] _] [] [] _ => x == L.kc && k == L.knm && n2 == nme && glB S x && glB S k && decide (S.N[i]? = some nme) && lclB S nme && visB S nme && !h.isEmpty && (h.all fun p => hasC L.kh p.1 p.2) && chkSs L S b body
    | _ => false)
def chkSs (L : Lw) (S : Sc) : Ss → List Stmt → Bool
  | .nil, ss => ss.isEmpty
  | .cons s r, ss => (match ss with
    | x :: xs => chkS L S s x && chkSs L S r xs
    | [] => false)
end
theorem lcl_of {S : Sc} {X : Cx} {x : Str} (hsc : X.env.scope = S.sc) (h : lclB S x = true) : X.env.scope.names.lookup x = some .local := by
  unfold lclB at h
  rw [hsc]
  split at h
  · assumption
  · cases h
section
variable {L : Lw} {T : Nat → Fn} {C : Str → Addr} {n : Nat}
theorem pl_of {S : Sc} {X : Cx} {tg e : Expr} {l : Nat} (hsc : X.env.scope = S.sc) (h : plS S tg e l = true) : nst tg = true ∧ swapsWithSole [tg] e l X.env = pure false ∧ swappedStores [tg] e X.env = pure none := by
  unfold plS at h
  rw [Bool.and_eq_true, Bool.and_eq_true] at h
  exact ⟨h.1.1, by rw [sws_env hsc]; exact pureB_eq h.1.2, by rw [sst_env hsc]; exact pureO_eq h.2⟩
theorem snd_asgC {i : Nat} {a : E} {y : Str} {py : Pos} {e : Expr} {p : Pos} {S : Sc} (h : chkE L S a e = true) (hc : cmpS S (.nm i) (.Name y py) e p.line = true) {X : Cx} {W : WX} (G : Gd X W L T C n S) :
    SS X W C (.Assign [.Name y py] e p) (fun ev st => lift ev (denE T a ev st) fun v st1 => (match tgtV (.nm i) v ev st1 with | some e1 => .ok (.nx e1) st1 | none => .no)) := by
  cases a with
  | comp m own t it c el =>
    unfold chkE at h
    split at h
    · rename_i elt tg iter ifs scope pos
      simp only [Bool.and_eq_true] at h
      obtain ⟨⟨⟨⟨⟨⟨h1, h2⟩, h3⟩, h4⟩, h5⟩, h6⟩, h7⟩ := h
      unfold cmpS at hc
      simp only [Bool.and_eq_true] at hc
      obtain ⟨⟨c1, c2⟩, c3⟩ := hc
      have q := ss_asgC (X := X) (W := W) (C := C) (m := m) (i := i) (y := y) (py := py) (spos := p) (own := ownP S own) (t := t) (elt := elt) (tg := tg) (iter := iter) (ifs := ifs) (scope := scope) (pos := pos) (mt := fun e => denT T c e) (me := fun e => denE T el e) G.calm G.ndX (by rw [G.hN]; exact of_decide_eq_true c1) (lcl_of G.sc c2)
        (by rw [sw_env G.sc]; exact pureB_eq c3) (by rw [own_snd]; exact h1) (snd_I it S _ _ h5 X W G)
        (by rw [G.hN, G.sc]; exact blkOk_by h2)
        (fun s H A cl fp => by have g := G.inner s H scope cl A fp; exact s_tgt g.calm g.ndX g.hN g.sc g.fn t tg h3)
        (fun s H A cl fp => snd_F c _ _ h6 _ _ (G.inner s H scope cl A fp))
        (fun s H A cl fp => (snd_E el _ _ h7 _ _ (G.inner s H scope cl A fp)).v)
        (noset h4)
      rw [own_snd] at q
      exact q
    · cases h
  | compH m own t i0 c el =>
    unfold chkE at h
    split at h
    · rename_i elt tg x xp ifs scope pos
      simp only [Bool.and_eq_true] at h
      obtain ⟨⟨⟨⟨⟨h1, h2⟩, h3⟩, h4, h5⟩, h6⟩, h7⟩ := h
      obtain ⟨v1, v2, v3⟩ := vis_of G.sc h5
      unfold cmpS at hc
      simp only [Bool.and_eq_true] at hc
      obtain ⟨⟨c1, c2⟩, c3⟩ := hc
      have q := ss_asgCH (X := X) (W := W) (C := C) (T := T) (m := m) (i := i) (i0 := i0) (y := y) (py := py) (spos := p) (own := ownP S own) (t := t) (elt := elt) (tg := tg) (iter := .Name x xp) (ifs := ifs) (scope := scope) (pos := pos) (mt := fun e => denT T c e) (me := fun e => denE T el e) G.calm G.ndX (by rw [G.hN]; exact of_decide_eq_true c1) (lcl_of G.sc c2)
        (by rw [sw_env G.sc]; exact pureB_eq c3) (by rw [own_snd]; exact h1) (s_var (pe_var (by rw [G.hN]; exact of_decide_eq_true h4) v1 v2 v3))
        (by rw [G.hN, G.sc]; exact blkOk_by h2)
        (fun s H A cl fp => by have g := G.inner s H scope cl A fp; exact s_tgt g.calm g.ndX g.hN g.sc g.fn t tg h3)
        (fun s H A cl fp => snd_F c _ _ h6 _ _ (G.inner s H scope cl A fp))
        (fun s H A cl fp => (snd_E el _ _ h7 _ _ (G.inner s H scope cl A fp)).v)
        (noset rfl)
      rw [own_snd] at q
      exact q
    · cases h
  | _ =>
    exfalso
    unfold cmpS at hc
    split at hc
    · unfold chkE at h
      first
        | cases h
        | (unfold cstB at h; split at h <;> rename_i e1 e2 <;> first | (cases h; done) | cases e2)
    · cases hc
mutual
theorem snd_S : ∀ (s : Rk.S) (S : Sc) (x : Stmt), chkS L S s x = true → ∀ (X : Cx) (W : WX), Gs X W L T C n S → SS X W C x (denS T s)
  | .asg t a => fun S x h X W G => by
    unfold chkS at h
    split at h
    · rename_i tg e p
      rw [Bool.and_eq_true, Bool.or_eq_true] at h
      rcases h.2 with h2 | h2
      · rw [Bool.and_eq_true] at h2
        obtain ⟨p1, p2, p3⟩ := pl_of G.g.sc h2.1
        exact ss_asg (snd_E a S _ h.1 X W G.g).v (s_tgt G.g.calm G.g.ndX G.g.hN G.g.sc G.g.fn t tg h2.2) p2 p3 p1
      · have h3 := h2
        unfold cmpS at h3
        split at h3
        · exact snd_asgC h.1 h2 G.g
        · cases h3
    · cases h
  | .par is as => fun S x h X W G => by
    unfold chkS at h
    split at h
    · split at h
      · simp only [Bool.and_eq_true] at h
        obtain ⟨⟨⟨⟨⟨⟨h1, h2⟩, h3⟩, h4⟩, h5⟩, h6⟩, h7⟩ := h
        exact ss_par2 G.g.calm G.g.ndX (by rw [G.g.hN]; exact of_decide_eq_true h1) (by rw [G.g.hN]; exact of_decide_eq_true h2) (of_decide_eq_true h3) (lcl_of G.g.sc h4) (lcl_of G.g.sc h5) (snd_Es as S _ h6 X W G.g) (by rw [sst_env G.g.sc]; exact pureO_eq h7)
      · cases h
    · split at h
      · simp only [Bool.and_eq_true] at h
        obtain ⟨⟨⟨⟨⟨⟨⟨⟨⟨⟨h1, h2⟩, h3⟩, d1⟩, d2⟩, d3⟩, h4⟩, h5⟩, h8⟩, h6⟩, h7⟩ := h
        exact ss_par3 G.g.calm G.g.ndX (by rw [G.g.hN]; exact of_decide_eq_true h1) (by rw [G.g.hN]; exact of_decide_eq_true h2) (by rw [G.g.hN]; exact of_decide_eq_true h3) (of_decide_eq_true d1) (of_decide_eq_true d2) (of_decide_eq_true d3) (lcl_of G.g.sc h4) (lcl_of G.g.sc h5) (lcl_of G.g.sc h8) (snd_Es as S _ h6 X W G.g) (by rw [sst_env G.g.sc]; exact pureO_eq h7)
      · cases h
    · cases h
  | .aug i op a => fun S x h X W G => by
    unfold chkS at h
    split at h
    · simp only [Bool.and_eq_true] at h
      obtain ⟨⟨⟨h1, h2⟩, h3⟩, h4⟩ := h
      cases of_decide_eq_true h1
      obtain ⟨l1, l2, l3⟩ := loc_of G.g.hN G.g.sc G.g.fn h3
      have qa := (snd_E a S _ h4 X W G.g).v
      cases op <;> first | (exact absurd h2 Bool.false_ne_true) | (exact ss_aug G.g.ndX l1 l2 l3 ip_add qa) | (exact ss_aug G.g.ndX l1 l2 l3 ip_sub qa)
    · cases h
  | .setIx a i b => fun S x h X W G => by
    unfold chkS at h
    split at h
    · simp only [Bool.and_eq_true] at h
      obtain ⟨⟨⟨⟨h1, h2⟩, h3⟩, h4⟩, h5⟩ := h
      obtain ⟨p1, p2, p3⟩ := pl_of G.g.sc h5
      exact ss_setIx (snd_E b S _ h3 X W G.g).v (snd_E a S _ h1 X W G.g).v (snd_E i S _ h2 X W G.g).v h4 p2 p3
    · cases h
  | .ife c a b => fun S x h X W G => by
    unfold chkS at h
    split at h
    · rw [Bool.and_eq_true, Bool.and_eq_true] at h
      exact ss_ife (snd_E c S _ h.1.1 X W G.g).b (snd_Ss a S _ h.1.2 X W G) (snd_Ss b S _ h.2 X W G)
    · cases h
  | .whl c b => fun S x h X W G => by
    unfold chkS at h
    split at h
    · rw [Bool.and_eq_true] at h
      exact ss_whl G.po (snd_E c S _ h.1 X W G.g).b (snd_Ss b S _ h.2 X W G)
    · cases h
  | .for_ t it b => fun S x h X W G => by
    unfold chkS at h
    split at h
    · simp only [Bool.and_eq_true] at h
      obtain ⟨⟨⟨h1, h2⟩, h3⟩, h4⟩ := h
      exact ss_for G.po G.g.calm (snd_I it S _ _ h3 X W G.g) (s_tgt G.g.calm G.g.ndX G.g.hN G.g.sc G.g.fn t _ h2) (snd_Ss b S _ h4 X W G) (noset h1)
    · cases h
  | .forH t i b => fun S x h X W G => by
    unfold chkS at h
    split at h
    · simp only [Bool.and_eq_true] at h
      obtain ⟨⟨h2, h3, h5⟩, h4⟩ := h
      obtain ⟨v1, v2, v3⟩ := vis_of G.g.sc h5
      exact ss_forH (T := T) G.po G.g.calm (s_var (pe_var (by rw [G.g.hN]; exact of_decide_eq_true h3) v1 v2 v3)) (s_tgt G.g.calm G.g.ndX G.g.hN G.g.sc G.g.fn t _ h2) (snd_Ss b S _ h4 X W G) (noset rfl)
    · cases h
  | .parT is as => fun S x h X W G => by
    unfold chkS at h
    split at h
    · simp only [Bool.and_eq_true] at h
      obtain ⟨⟨h1, h2⟩, h3⟩ := h
      obtain ⟨p1, p2, p3⟩ := pl_of G.g.sc h1
      exact ss_parT (snd_Es as S _ h3 X W G.g) (s_tgt G.g.calm G.g.ndX G.g.hN G.g.sc G.g.fn _ _ h2) p2 p3 p1
    · cases h
  | .ret a => fun S x h X W G => by
    unfold chkS at h
    split at h
    · exact ss_ret (snd_E a S _ h X W G.g).v
    · cases h
  | .retN => fun S x h X W G => by
    unfold chkS at h
    split at h
    · exact ss_retN
    · cases h
  | .ex a => fun S x h X W G => by
    unfold chkS at h
    split at h
    · rw [Bool.and_eq_true] at h
      exact ss_ex (snd_E a S _ h.1 X W G.g).v (by rw [sw_env G.g.sc]; exact pureB_eq h.2)
    · cases h
  | .raise c => fun S x h X W G => by
    unfold chkS at h
    split at h
    · rw [Bool.and_eq_true, Bool.and_eq_true] at h
      cases eq_of_beq h.1.1
      obtain ⟨g1, g2⟩ := gl_of G.g.sc h.2
      exact ss_raise G.g (List.contains_iff_mem.mp h.1.2) g1 g2
    · cases h
  | .brk => fun S x h X W G => by
    unfold chkS at h
    split at h
    · exact ss_brk
    · cases h
  | .cnt => fun S x h X W G => by
    unfold chkS at h
    split at h
    · exact ss_cnt
    · cases h
  | .pass => fun S x h X W G => by
    unfold chkS at h
    split at h
    · exact ss_pass
    · exact ss_doc
    · cases h
  | .try_ b i h0 => fun S x h X W G => by
    unfold chkS at h
    split at h
    · simp only [Bool.and_eq_true] at h
      obtain ⟨⟨⟨⟨⟨⟨⟨⟨⟨⟨h1, h2⟩, h3⟩, h4⟩, h5⟩, h6⟩, h7⟩, h8⟩, h9⟩, h10⟩, h11⟩ := h
      cases eq_of_beq h1
      cases eq_of_beq h2
      cases eq_of_beq h3
      obtain ⟨g1, g2⟩ := gl_of G.g.sc h4
      obtain ⟨g3, g4⟩ := gl_of G.g.sc h5
      obtain ⟨_, v2, v3⟩ := vis_of G.g.sc h8
      exact ss_try G (by rw [G.g.hN]; exact of_decide_eq_true h6) (lcl_of G.g.sc h7) v2 v3 g1 g2 g3 g4 (fun p hp => hasC_mem (List.all_eq_true.mp h10 p hp)) (by simpa using h9) fun W' pn xe tk hp => snd_Ss b S _ h11 _ W' (G.tr tk hp)
    · cases h
theorem snd_Ss : ∀ (ss : Ss) (S : Sc) (xs : List Stmt), chkSs L S ss xs = true → ∀ (X : Cx) (W : WX), Gs X W L T C n S → SSs X W C xs (denSs T ss)
  | .nil => fun S xs h X W G => by
    unfold chkSs at h
    cases xs with
    | nil => exact ss_nil
    | cons _ _ => cases h
  | .cons s r => fun S xs h X W G => by
    unfold chkSs at h
    split at h
    · rw [Bool.and_eq_true] at h
      exact ss_cons (snd_S s S _ h.1 X W G) (snd_Ss r S _ h.2 X W G)
    · cases h
end
end
end Rk

set_option Elab.async false
set_option linter.all false
set_option maxRecDepth 100000
set_option maxHeartbeats 4000000
namespace Rk
open PySem PySem.Spec PyProof.Rows L2
/-! ### a def's start and end -/
section
variable {K : PySem.W.Frag} {H H' : Hp} {φ φ' : List Addr} {st st1 : Store}
theorem re_start {N : List Str} {xs : List V} {vs : List Val} {nn : Nat} (h : Paired (Rv K H φ) xs vs) (hl : vs.length ≤ nn) (hn : N.length = nn) : Re K H φ (L2.start N xs) (vs.map some ++ List.replicate (nn - vs.length) none) := by
  have hxv := pr_len h
  refine ⟨?_, fun i v e => ?_⟩
  · unfold L2.start
    simp only [List.length_append, List.length_map, List.length_replicate]
    omega
  · by_cases hi : i < vs.length
    · rw [List.getElem?_append_left (by simpa using hi), List.getElem?_map] at e
      obtain ⟨v', e1, e2⟩ := Option.map_eq_some_iff.mp e
      cases e2
      obtain ⟨x, h1, h2⟩ := pr_get h e1
      refine ⟨x, ?_, h2⟩
      unfold L2.start
      rw [List.getElem?_append_left (by rw [List.length_map]; omega), List.getElem?_map, h1]
      rfl
    · rw [List.getElem?_append_right (by simpa using hi), List.getElem?_replicate] at e
      split at e <;> cases e
theorem fin_po {C : Str → Addr} {E : XK} {Q : VK} {rm : Bool} {v : Val} {x : V} (rt0 : Rt K H φ st) (po : PoR (Rv K) K (fun c H' => E (.ref (C c)) none H') H φ Q (fin rm st.length v st1)) (s : Stp φ H φ' H') (rt : Rt K H' φ' st1) (rv : Rv K H' φ' x v) : Q x H' := by
  have hn : φ.length = st.length := rt0.length
  have p0 : φ'.take st.length = φ := by
    have := pre_take s.pre
    rw [hn] at this
    exact this
  have hsub : ∀ a ∈ φ, a ∈ φ' := fun a ha => by rw [← p0] at ha; exact List.mem_of_mem_take ha
  have r0 : Rt K H' φ (st1.take st.length) := by
    have := rt.take st.length
    rw [p0] at this
    exact this
  have s0 : Stp φ H φ H' := s.back (List.prefix_refl _) hsub
  cases rv with
  | x => exact po _ H' φ s0 r0 .x
  | p hd => exact po x H' φ s0 r0 (.p (hd.sub hsub))
  | f h1 h2 h3 => exact po _ H' φ s0 r0 (.f h1 (fun z => h2 (hsub _ z)) (h3.sub hsub))
  | fk h1 h2 => exact po _ H' φ s0 r0 (.fk h1 (h2.sub hsub))
  | l hk =>
    rename_i k a
    unfold fin at po
    dsimp only at po
    split at po
    · rename_i hlt
      refine po _ H' φ s0 r0 (.l ?_)
      rw [← p0, List.getElem?_take_of_lt hlt]
      exact hk
    · rename_i hge
      obtain ⟨xs, vs, a1, a2, a3⟩ := rt.at' hk
      rw [a1] at po
      dsimp only at po
      have na : a ∉ φ := fun z => by
        rw [← p0] at z
        obtain ⟨j, hj⟩ := List.getElem?_of_mem z
        have hj' : j < st.length := by
          have := (List.getElem?_eq_some_iff.mp hj).1
          rw [List.length_take] at this
          omega
        rw [List.getElem?_take_of_lt hj'] at hj
        have := get_inj rt.nd hj hk
        omega
      cases rm with
      | false =>
        rw [if_neg Bool.false_ne_true] at po
        exact po _ H' φ s0 r0 (.p (.lst a2 na (a3.sub hsub)))
      | true =>
        rw [if_pos rfl] at po
        have sub2 : ∀ b ∈ φ ++ [a], b ∈ φ' := fun b hb => by
          rcases List.mem_append.mp hb with z | z
          · exact hsub b z
          · rw [List.mem_singleton.mp z]; exact List.mem_of_getElem? hk
        refine po _ H' (φ ++ [a]) (s.back (List.prefix_append _ _) sub2) ⟨?_, ?_⟩ (.l ?_)
        · have q := pr_take st.length rt.at_
          rw [p0] at q
          exact pr_append (pr_map q fun b ys _ ⟨ws, q1, q2⟩ => ⟨ws, q1, q2.sub sub2⟩) (.cons ⟨vs, a2, a3.sub sub2⟩ .nil)
        · refine List.nodup_append.mpr ⟨r0.nd, by simp, fun b hb c hc => ?_⟩
          rw [List.mem_singleton.mp hc]
          exact fun z => na (z ▸ hb)
        · rw [← hn]; exact pre_get (List.prefix_refl _)
/-- a def's body, by its meaning -/
theorem body_po {C : Str → Addr} {E : XK} {Q : VK} {rm : Bool} {r : RsS} (rt0 : Rt K H φ st) (po : PoR (Rv K) K (fun c H' => E (.ref (C c)) none H') H φ Q (match r with
      | .ok (.nx _) st1 => fin rm st.length (.p .none) st1
      | .ok (.rt v) st1 => fin rm st.length v st1
      | .ex c _ st1 => .ex c (st1.take st.length)
      | _ => .no)) : PoS K C (fun cls d _ H' => E cls d H') H φ { nx := fun _ H' => Q .non H', rt := Q } r := by
  cases r with
  | no => exact po
  | ex c e st1 =>
    refine fun σ' H' φ' s rt => ?_
    have p0 : φ'.take st.length = φ := by
      have := pre_take s.pre
      rw [rt0.length] at this
      exact this
    have hsub : ∀ a ∈ φ, a ∈ φ' := fun a ha => by rw [← p0] at ha; exact List.mem_of_mem_take ha
    have r0 : Rt K H' φ (st1.take st.length) := by
      have := rt.take st.length
      rw [p0] at this
      exact this
    exact po H' φ (s.back (List.prefix_refl _) hsub) r0
  | ok f st1 =>
    cases f with
    | nx e => exact fun σ' H' φ' s re rt => fin_po rt0 po s rt (.p .non)
    | rt v => exact fun x H' φ' s rt rv => fin_po rt0 po s rt rv
    | bk e => exact False.elim po
    | ct e => exact False.elim po
end
/-! ### a def, with the guards told -/
theorem fnG_of {P : Program} {w : World} {K : PySem.W.Frag} {mg : Str → Option Value} {base : Heap} {k : Nat} {f : Addr} {nm qn : Str} {pa : Arguments} {bd : List Stmt} {sc : Scope} {v1 v2 v3 v4 v5 v6 v7 : Value} {o1 o2 : Option Addr}
    {sl : Array (Option Value)} {N ps : List Str} {sp : Sp} (hK : K.lookup f = some ⟨v7, o2, .func (PySem.W.fnOf nm qn pa bd sc v1 v2 v3 v4 o1 v5 v6), sl⟩) (hC : PySem.W.codeIn K v5 qn = true) (Sx : FnScope N ps sc)
    (ln : ∀ xs H Q E, sp xs H Q E → xs.length = ps.length)
    (hB : ∀ (A : Around) (out : List PySem.Env) (s : Shared) (H : Hp) (xs : List V) (Q : VK) (E : XK), A.guards = some [] → Room k (A.deeper (envOfC qn sc s.heap.objs.size f v5)) → sp xs H Q E →
      ∃ t, PSs (cxOf (L2.CX P w) P w K mg base N qn sc f v5 A out s H E) bd t ∧ t { nx := fun _ H' => Q .non H', rt := Q } (L2.start N xs) H) :
    FnG P w K mg base (k + 1) f (PySem.W.fnOf nm qn pa bd sc v1 v2 v3 v4 o1 v5 v6) ps sp where
  len := ln
  run := by
    intro A out s H ar us xs Q E gd room en bind rl want
    have elen := ln _ _ _ _ want
    have inK : K.In s.heap := en.mod.kin.keeps fun b o z => (en.bs b o z).1
    have free : s.heap.NoLimit := en.mod.nolimit.keeps fun b o z => (en.bs b o z).1
    have kinds : ∀ y ∈ ps.zip us, sc.names.lookup y.1 = some .local ∨ (sc.names.lookup y.1 = some .cell ∧ ((cellsFrom (s.heap.objs.size + 1) sc.names []).lookup y.1).isSome = true) := by
      rintro ⟨n, v⟩ hy
      exact (Sx.par n (List.of_mem_zip hy).1).imp id fun q => ⟨q, PySem.W.cellsFrom_some _ _ _ (.inl q)⟩
    refine codeAny_call_function room.depth (inK _ _ hK) rfl Sx.co Sx.gen rfl (PySem.W.codeRec_of inK hC) (bind _ _ _ _ (wpAny_newFunctionEnv_cells Sx.kind kinds fun env hv t1 cl => ?_))
    subst hv
    obtain ⟨t, runs, hq⟩ := hB A out s H xs Q E gd (room.deeper _) want
    have I0 := inv_start (CX := L2.CX P w) (E := E) (qual := qn) (f := f) (cd := v5) Sx room.hd en elen rl cl
    refine ⟨free.keeps cl.toInCall.keep, codeAny_func (wpAny_mono (runs.run [] t1 (L2.start N xs) H _ I0 hq) (fun fl s2 z => ?_) fun e s2 z => z)⟩
    have done : ∀ {σ2 : L2.St} {H2 : Hp} {x : V} {u : Value}, Inv (cxOf (L2.CX P w) P w K mg base N qn sc f v5 A out s H E) [] σ2 H2 s2 → RelV x u → Q x H2 → CE out P w H s Q u s2 :=
      fun {σ2 H2 x u} J rx qx => ⟨x, H2, J.os, J.bare, J.base, J.hok, rx, qx⟩
    cases fl with
    | ret u => obtain ⟨x, σ2, H2, J, rx, qx⟩ := z; exact done J rx qx
    | next => obtain ⟨σ2, H2, J, qx⟩ := z; exact done (x := V.non) (u := Value.none) J rfl qx
    | brk => obtain ⟨_, _, _, q⟩ := z; exact False.elim q
    | cont => obtain ⟨_, _, _, q⟩ := z; exact False.elim q
/-! ### a def of the table -/
def scopeB (N ps : List Str) (sc : Scope) : Bool := (match sc.kind with | .function => true | _ => false) && !sc.isCoroutine && !sc.isGenerator && decide N.Nodup && decide (N.take ps.length = ps) &&
  (ps.all fun x => match sc.names.lookup x with | some .local => true | some .cell => true | _ => false) && (sc.names.all fun y => match y.2 with | .free => false | _ => true)
theorem scope_of {N ps : List Str} {sc : Scope} (h : scopeB N ps sc = true) : FnScope N ps sc := by
  unfold scopeB at h
  simp only [Bool.and_eq_true, Bool.not_eq_true', decide_eq_true_eq, List.all_eq_true] at h
  obtain ⟨⟨⟨⟨⟨⟨h1, h2⟩, h3⟩, h4⟩, h5⟩, h6⟩, h7⟩ := h
  refine ⟨?_, h2, h3, h4, h5, fun x hx => ?_, fun y hy e => ?_⟩
  · split at h1
    · assumption
    · cases h1
  · have q := h6 x hx
    split at q
    · rename_i e; exact .inl e
    · rename_i e; exact .inr e
    · cases q
  · have q := h7 y hy
    rw [e] at q
    cases q
/-- the check of a def -/
def chkD (L : Lw) (f : FnIR) (N ps : List Str) (sc : Scope) (bd : List Stmt) : Bool := scopeB N ps sc && decide (ps.length = f.np) && decide (N.length = f.nn) && decide (f.np ≤ f.nn) && chkSs L ⟨N, sc, fun _ => true⟩ f.body bd
theorem fn_ir {P : Program} {w : World} {K : PySem.W.Frag} {mg : Str → Option Value} {base : Heap} {L : Lw} {T : Nat → Fn} {C : Str → Addr} {n : Nat} {f : FnIR} {N ps : List Str} {a : Addr} {nm qn : Str} {pa : Arguments} {bd : List Stmt} {sc : Scope} {fd : FuncData}
    (F : FunD K nm qn pa bd sc [] [] a fd) (hc : chkD L f N ps sc bd = true) (wd : ∀ A : Around, A.guards = some [] → Room n A → Wd P w K mg base A L T C n) : FnG P w K mg base (n + 1) a fd ps (spF K C f.np (denF T f)) := by
  unfold chkD at hc
  simp only [Bool.and_eq_true, decide_eq_true_eq] at hc
  obtain ⟨⟨⟨⟨h1, h2⟩, h3⟩, h4⟩, h5⟩ := hc
  have S := scope_of h1
  obtain ⟨oc, od, dV, kV, doc, pm, an, cdv, ct, osl, rfl, lk, hcd, _, _⟩ := F.ex
  refine fnG_of lk hcd S (fun xs H Q E ⟨hl, _⟩ => by rw [hl, h2]) fun A out s H xs Q E gd room ⟨hl, vs, st, φ, rv, rt, po⟩ => ?_
  have G : Gs (cxOf (L2.CX P w) P w K mg base N qn sc a cdv A out s H E) (fun cls d _ H' => E cls d H') L T C n ⟨N, sc, fun _ => true⟩ :=
    ⟨⟨wd _ gd room, rfl, rfl, S.nd, rfl, rfl, takes_of rfl rfl rfl rfl⟩, passes_of rfl, rfl, rfl⟩
  refine ⟨_, snd_Ss f.body ⟨N, sc, fun _ => true⟩ bd h5 _ _ G, ?_⟩
  have hvl : vs.length = f.np := (pr_len rv).symm.trans hl
  refine ⟨vs.map some ++ List.replicate (f.nn - f.np) none, st, φ, ?_, rt, body_po (rm := f.rm) rt ?_⟩
  · rw [← hvl]
    exact re_start rv (by omega) h3
  · unfold denF at po
    rw [if_pos hvl] at po
    exact po
end Rk

set_option Elab.async false
set_option linter.all false
set_option maxRecDepth 100000
set_option maxHeartbeats 4000000
namespace Rk
open PySem PySem.Spec PyProof.Rows L2
/-! ### constants of the module -/
mutual
def cstK (K : PySem.W.Frag) : PyData → Value → Bool
  | .none, v => (match v with | .none => true | _ => false)
  | .bool b, v => (match v with | .bool c => b == c | _ => false)
  | .int i, v => (match v with | .int j _ => i == j | _ => false)
  | .str x, v => (match v with | .str y _ => x == y | _ => false)
  | .tuple ds, v => (match v with
    | .ref a => (match K.lookup a with
      | some ⟨.type c, _, .seq its _, _⟩ => decide (c = "tuple") && (decide (its.size ≤ sizeLine) && cstKs K ds its.toList)
      | _ => false)
    | _ => false)
  | _, _ => false
def cstKs (K : PySem.W.Frag) : List PyData → List Value → Bool
  | [], [] => true
  | d :: ds, v :: vs => cstK K d v && cstKs K ds vs
  | _, _ => false
end
mutual
theorem cstK_ok {K : PySem.W.Frag} : ∀ (d : PyData) (u : Value), cstK K d u = true → ∃ v, RelV v u ∧ ∀ H φ, Dq K H φ v d
  | .none, u, h => by
    unfold cstK at h
    split at h
    · exact ⟨.non, rfl, fun _ _ => .non⟩
    · cases h
  | .bool b, u, h => by
    unfold cstK at h
    split at h
    · cases eq_of_beq h; exact ⟨.bl b, rfl, fun _ _ => .bl b⟩
    · cases h
  | .int i, u, h => by
    unfold cstK at h
    split at h
    · cases eq_of_beq h; exact ⟨.int i, ⟨_, rfl⟩, fun _ _ => .int i⟩
    · cases h
  | .str x, u, h => by
    unfold cstK at h
    split at h
    · cases eq_of_beq h; exact ⟨.str x, ⟨_, rfl⟩, fun _ _ => .str x⟩
    · cases h
  | .tuple ds, u, h => by
    unfold cstK at h
    split at h
    · rename_i a
      split at h
      · rename_i c od its m sl e
        rw [Bool.and_eq_true, Bool.and_eq_true] at h
        obtain ⟨vs, r, q⟩ := cstKs_ok ds _ h.2.2
        exact ⟨.ref a, rfl, fun H φ => .tup (.inr ⟨_, its, m, e, congrArg Value.type (of_decide_eq_true h.1), rfl, of_decide_eq_true h.2.1, r⟩) (q H φ)⟩
      · cases h
    · cases h
  | .list _, u, h => by unfold cstK at h; cases h
  | .dict _, u, h => by unfold cstK at h; cases h
theorem cstKs_ok {K : PySem.W.Frag} : ∀ (ds : List PyData) (us : List Value), cstKs K ds us = true → ∃ vs, Vals vs us ∧ ∀ H φ, DqA K H φ vs ds
  | [], [], _ => ⟨[], .nil, fun _ _ => .nil⟩
  | [], _ :: _, h => by unfold cstKs at h; cases h
  | _ :: _, [], h => by unfold cstKs at h; cases h
  | d :: ds, u :: us, h => by
    unfold cstKs at h
    rw [Bool.and_eq_true] at h
    obtain ⟨v, r, q⟩ := cstK_ok d u h.1
    obtain ⟨vs, rs, qs⟩ := cstKs_ok ds us h.2
    exact ⟨v :: vs, .cons r rs, fun H φ => .cons (q H φ) (qs H φ)⟩
end
def gcstB (K : PySem.W.Frag) (x : Str) (d : PyData) : Bool := match PySem.W.nsIn K mainGlobals x with
  | some (some v) => cstK K d v
  | _ => false
/-! ### what the head tells -/
/-- the class D answers isinstance by itself -/
def excB (K : PySem.W.Frag) (D : Addr) : Bool :=
  decide (PySem.W.findIn K (.ref D) "__getattribute__" = some (some (.builtin "BaseException.__getattribute__"))) && decide (PySem.W.findIn K (.ref D) "__getattr__" = some none) && decide (PySem.W.subIn K (.ref D) (.type "BaseException") = some true) && PySem.W.hasDictIn K D &&
  decide (PySem.W.findIn K (.ref D) "__class__" = some (some (.builtin "object.__class__"))) && decide (PySem.W.specialIn K (.builtin "object.__class__") "__get__" = some (some (.builtin "getset_descriptor.__get__"))) && decide (PySem.W.takesIn K (.builtin "object.__class__") = some true) && decide (PySem.W.mroIn K D (.type "object") = some true)
theorem excB_ok {K : PySem.W.Frag} {D : Addr} (h : excB K D = true) : ExcC K D := by
  unfold excB at h
  simp only [Bool.and_eq_true, decide_eq_true_eq] at h
  obtain ⟨⟨⟨⟨⟨⟨⟨h1, h2⟩, h3⟩, h4⟩, h5⟩, h6⟩, h7⟩, h8⟩ := h
  exact ⟨h1, h2, h3, h4, h5, h6, h7, h8⟩
abbrev Sub3 : Type := Str × Str × Bool
def exB (cst : List (Str × PyData)) (ec : List Str) (subs : List Sub3) (K : PySem.W.Frag) : Bool :=
  (cst.all fun p => gcstB K p.1 p.2) && (ec.all fun c => excB K (He.ga K c)) && subs.all fun t => decide (PySem.W.kitOne K (.ref (He.ga K t.1)) (.ref (He.ga K t.2.1)) = some t.2.2)
abbrev AlE : Type := He.AlD × Bool
def obsEG (n : Nat) (fa : List He.Fa) (fn : List He.DefD) (ex : PySem.W.Frag → Bool) (g : Addr → Option Obj) : AlE := (He.obsDG n fa fn g, ex (He.frG g (He.asD g n)))
def hookE (n : Nat) (fa : List He.Fa) (fn : List He.DefD) (ex : PySem.W.Frag → Bool) : PySem.W.Hook where
  α := AlE
  obs := fun s => obsEG n fa fn ex s.heap.get?
  val := fun _ => (He.valD fn, true)
  says := fun _ h => ∃ K : PySem.W.Frag, K.In h ∧ (He.SaysD fa fn K ∧ ex K = true)
  of := fun _ _ e => ⟨_, He.frG_in, congrArg (fun z : AlE => z.1) e, congrArg (fun z : AlE => z.2) e⟩
  keeps := fun _ _ _ ⟨K, hK, c⟩ k => ⟨K, PySem.W.Frag.In.keeps hK k, c⟩
theorem obsEG_eq {n : Nat} {fa : List He.Fa} {fn : List He.DefD} {ex : PySem.W.Frag → Bool} {g : Addr → Option Obj} {s : Shared} (h : ∀ a, g a = s.heap.get? a) : obsEG n fa fn ex g = (hookE n fa fn ex).obs s := by
  have e : g = s.heap.get? := funext h
  rw [e] <;> rfl
/-! ### a law's tables -/
structure LawD where
  irs : List FnIR
  dd : List He.DefD
  NN : List (List Str)
  PP : List (List Str)
  cst : List (Str × PyData)
  exs : List Str
  knm : Str
  kc : Str
  kh : List (Str × PyData)
def LawD.lw (D : LawD) : Lw := ⟨fun j => D.irs[j]?, fun j => (D.dd.map (·.name)).getD j "", D.cst, D.exs, D.knm, D.kc, D.kh⟩
def LawD.fa (D : LawD) : List He.Fa := (D.dd.map fun d => He.Fa.glo d.name) ++ (D.exs.map He.Fa.glo) ++ (bltNames.map He.Fa.free) ++ (D.exs.map He.Fa.exc) ++ (D.kh.map fun p => He.Fa.exm p.1 D.kc true) ++ (if D.kh.isEmpty then [] else [He.Fa.glo D.kc, He.Fa.glo D.knm, He.Fa.keep D.knm])
def BD (d : He.DefD) (ps : List Str) : Prop := ∀ (kV doc pm : Value) (an : Option Addr) (cdv ct : Value) (us : List Value), us.length = ps.length → bindArgs (PySem.W.fnOf d.name d.qual d.params d.body d.scope .none kV doc pm an cdv ct) ⟨us, []⟩ = pure (ps.zip us)
def AllBD : List (He.DefD × List Str) → Prop
  | [] => True
  | p :: r => BD p.1 p.2 ∧ AllBD r
def chkDs (L : Lw) : List FnIR → List He.DefD → List (List Str) → List (List Str) → Bool
  | [], _, _, _ => true
  | f :: fs, d :: ds, N :: NN, p :: PP => d.dfl.isEmpty && d.kwd.isEmpty && d.at_ == (d.name, none) && chkD L f N p d.scope d.body && chkDs L fs ds NN PP
  | _, _, _, _ => false
theorem chkDs_ok {L : Lw} : ∀ {fs : List FnIR} {ds : List He.DefD} {NN PP : List (List Str)}, chkDs L fs ds NN PP = true → AllBD (ds.zip PP) → ∀ (j : Nat) (f : FnIR), fs[j]? = some f →
    ∃ d N p, ds[j]? = some d ∧ d.dfl = [] ∧ d.kwd = [] ∧ d.at_ = (d.name, none) ∧ chkD L f N p d.scope d.body = true ∧ BD d p
  | [], _, _, _, _, _, j, f, h => by cases h
  | f :: fs, [], _, _, h, _, _, _, _ => by cases h
  | f :: fs, _ :: _, [], _, h, _, _, _, _ => by cases h
  | f :: fs, _ :: _, _ :: _, [], h, _, _, _, _ => by cases h
  | f :: fs, d :: ds, N :: NN, p :: PP, h, hb, j, g, e => by
    unfold chkDs at h
    simp only [Bool.and_eq_true] at h
    obtain ⟨⟨⟨⟨h1, h2⟩, h3⟩, h4⟩, h5⟩ := h
    cases j with
    | zero =>
      cases e
      exact ⟨d, N, p, rfl, List.isEmpty_iff.mp h1, List.isEmpty_iff.mp h2, eq_of_beq h3, h4, hb.1⟩
    | succ j => exact chkDs_ok h5 hb.2 j g e
/-- what stands at a law's call -/
structure Stat (K : PySem.W.Frag) (mg : Str → Option Value) (L : Lw) (C : Str → Addr) : Prop where
  fns : ∀ j f, L.tab j = some f → ∃ (a : Addr) (fd : FuncData) (N ps : List Str) (nm qn : Str) (pa : Arguments) (bd : List Stmt) (sc : Scope), mg (L.nm j) = some (.ref a) ∧ FunD K nm qn pa bd sc [] [] a fd ∧ chkD L f N ps sc bd = true ∧ Binds K fd ps []
  cst : ∀ x d, (x, d) ∈ L.cst → ∃ v u, mg x = some u ∧ RelV v u ∧ ∀ H φ, Dq K H φ v d
  blt : ∀ x ∈ bltNames, mg x = none
  exs : ∀ c ∈ L.exs, mg c = some (.ref (C c)) ∧ PySem.W.keepIn K (.ref (C c)) = true ∧ PySem.W.subIn K (.ref (C c)) (.type "BaseException") = some true ∧ PySem.W.typeIn K (.ref (C c)) = some (.type "type") ∧
    PySem.W.excIn K (C c) [.type "ValueError", .type "Exception", .type "BaseException", .type "object"] "ValueError.__new__" = true
  knd : ∀ (P : Program) (w : World) (base : Heap) (n : Nat) (c : Str) (d : PyData), (c, d) ∈ L.kh → mg L.kc = some (.ref (C L.kc)) ∧ PySem.W.exmOne K (.ref (C c)) (.ref (C L.kc)) = some true ∧ ∃ (a : Addr) (fd : FuncData) (ps : List Str), mg L.knm = some (.ref a) ∧ PySem.W.keepIn K (.ref a) = true ∧ Binds K fd ps [] ∧ FnK P w K mg base C L.kh (n + 1) a fd ps
/-- all defs, to any depth -/
theorem tower {P : Program} {w : World} {K : PySem.W.Frag} {mg : Str → Option Value} {base : Heap} {L : Lw} {C : Str → Addr} (S : Stat K mg L C) : ∀ (n : Nat) (A : Around), A.guards = some [] → Room (n + 1) A → Wd P w K mg base A L (FT L.tab n) C (n + 1)
  | 0, A, gd, room => by
    refine ⟨room, gd, fun j f hj => ?_, S.cst, S.blt, S.exs, fun c d h => S.knd P w base 0 c d h⟩
    obtain ⟨a, fd, N, ps, nm, qn, pa, bd, sc, h1, F, hc, hb⟩ := S.fns j f hj
    have hp : ps.length = f.np := by
      unfold chkD at hc
      simp only [Bool.and_eq_true, decide_eq_true_eq] at hc
      exact hc.1.1.1.2
    refine ⟨⟨a, fd, ps, h1, F.kp, hb, ⟨fun xs H Q E ⟨hl, _⟩ => by rw [hl, hp], fun A out s H ar us xs Q E _ _ _ _ _ ⟨_, vs, st, φ, _, _, po⟩ => False.elim po⟩⟩, fun vs st _ => rfl⟩
  | n + 1, A, gd, room => by
    refine ⟨room, gd, fun j f hj => ?_, S.cst, S.blt, S.exs, fun c d h => S.knd P w base (n + 1) c d h⟩
    obtain ⟨a, fd, N, ps, nm, qn, pa, bd, sc, h1, F, hc, hb⟩ := S.fns j f hj
    have G := fn_ir (P := P) (w := w) (mg := mg) (base := base) (C := C) (n := n + 1) F hc fun A gd room => tower S n A gd room
    rw [FT_succ hj]
    exact ⟨⟨a, fd, ps, h1, F.kp, hb, G⟩, fun vs st hl => by unfold denF; rw [if_neg hl]⟩
/-- a law's def, at the law's call -/
theorem top_fn {P : Program} {w : World} {K : PySem.W.Frag} {mg : Str → Option Value} {base : Heap} {L : Lw} {C : Str → Addr} (S : Stat K mg L C) (n : Nat) {j : Nat} {f : FnIR} (hj : L.tab j = some f) :
    ∃ (a : Addr) (fd : FuncData) (ps : List Str), mg (L.nm j) = some (.ref a) ∧ Binds K fd ps [] ∧ ps.length = f.np ∧ ∀ base : Heap, FnG P w K mg base (n + 2) a fd ps (spF K C f.np (FT L.tab (n + 1) j)) := by
  obtain ⟨a, fd, N, ps, nm, qn, pa, bd, sc, h1, F, hc, hb⟩ := S.fns j f hj
  refine ⟨a, fd, ps, h1, hb, ?_, fun base => ?_⟩
  · unfold chkD at hc
    simp only [Bool.and_eq_true, decide_eq_true_eq] at hc
    exact hc.1.1.1.2
  · rw [FT_succ hj]
    exact fn_ir (P := P) (w := w) (mg := mg) (base := base) (C := C) (n := n + 1) F hc fun A gd room => tower S n A gd room
end Rk

set_option Elab.async false
set_option linter.all false
set_option maxRecDepth 100000
set_option maxHeartbeats 4000000
namespace Rk
open PySem PySem.Spec PyProof.Rows L2
/-! ### what the head tells, as Stat -/
theorem stat_of {K : PySem.W.Frag} {h : Heap} {mg : Str → Option Value} {D : LawD} {ec : List Str} {subs : List Sub3} (X : K.In h) (G : h.Ns mainGlobals mg) (c : He.SaysD D.fa D.dd K) (ex : exB D.cst ec subs K = true) (hc : chkDs D.lw D.irs D.dd D.NN D.PP = true) (hb : AllBD (D.dd.zip D.PP))
    (hk : ∀ (P : Program) (w : World) (base : Heap) (n : Nat) (a : Addr) (fd : FuncData) (d : He.DefD) (p : List Str), (d, p) ∈ D.dd.zip D.PP → d.name = D.knm → FunD K d.name d.qual d.params d.body d.scope [] [] a fd → (∀ t ∈ ec, ExcC K (He.ga K t)) → (∀ t ∈ subs, PySem.W.kitOne K (.ref (He.ga K t.1)) (.ref (He.ga K t.2.1)) = some t.2.2) → (∀ x ∈ bltNames, mg x = none) → (∀ x ∈ D.exs, mg x = some (.ref (He.ga K x))) → FnK P w K mg base (He.ga K) D.kh (n + 1) a fd p)
    (hkn : D.kh.isEmpty = true ∨ ∃ d p, (d, p) ∈ D.dd.zip D.PP ∧ d.name = D.knm ∧ d.dfl = [] ∧ d.kwd = [] ∧ d.at_ = (d.name, none) ∧ BD d p) : Stat K mg D.lw (He.ga K) := by
  unfold exB at ex
  simp only [Bool.and_eq_true, List.all_eq_true, decide_eq_true_eq] at ex
  obtain ⟨⟨e1, e2⟩, e3⟩ := ex
  have free : ∀ x ∈ bltNames, mg x = none := fun x hx => He.free_ok X G (c.facts (f := .free x) (by unfold LawD.fa; simp [hx]))
  have exg : ∀ x ∈ D.exs, mg x = some (.ref (He.ga K x)) := fun x hx => He.glo_ok X G (c.facts (f := .glo x) (by unfold LawD.fa; simp [hx]))
  have dfn : ∀ d p, (d, p) ∈ D.dd.zip D.PP → d.dfl = [] → d.kwd = [] → d.at_ = (d.name, none) → BD d p → ∃ fd, mg d.name = some (.ref (He.ga K d.name)) ∧ FunD K d.name d.qual d.params d.body d.scope [] [] (He.ga K d.name) fd ∧ Binds K fd p [] := fun d p hm h1 h2 h3 hbd => by
    have hd : d ∈ D.dd := (List.of_mem_zip hm).1
    obtain ⟨fd, F⟩ := c.defs hd
    have e1 : d.dvs K = [] := by unfold He.DefD.dvs; rw [h1]; rfl
    have e2 : d.kws K = [] := by unfold He.DefD.kws; rw [h2]; rfl
    have e3 : He.fAd K d.at_ = He.ga K d.name := by rw [h3]; rfl
    rw [e1, e2, e3] at F
    exact ⟨fd, He.glo_ok X G (c.facts (f := .glo d.name) (by unfold LawD.fa; simp; exact .inl ⟨d, hd, rfl⟩)), F, F.bindsN hbd⟩
  refine ⟨fun j f hj => ?_, fun x d hx => ?_, free, fun x hx => ?_, fun P w base n x d hx => ?_⟩
  · obtain ⟨d, N, p, h1, h2, h3, h4, h5, h6⟩ := chkDs_ok hc hb j f hj
    have hd : d ∈ D.dd := List.mem_of_getElem? h1
    obtain ⟨fd, F⟩ := c.defs hd
    have e1 : d.dvs K = [] := by unfold He.DefD.dvs; rw [h2]; rfl
    have e2 : d.kws K = [] := by unfold He.DefD.kws; rw [h3]; rfl
    have e3 : He.fAd K d.at_ = He.ga K d.name := by rw [h4]; rfl
    rw [e1, e2, e3] at F
    refine ⟨_, fd, N, p, _, _, _, _, _, ?_, F, h5, F.bindsN h6⟩
    show mg ((D.dd.map (·.name)).getD j ("" : Str)) = _
    have : (D.dd.map (·.name)).getD j ("" : Str) = d.name := by
      rw [List.getD_eq_getElem?_getD, List.getElem?_map, h1]
      rfl
    rw [this]
    exact He.glo_ok X G (c.facts (f := .glo d.name) (by unfold LawD.fa; simp; exact .inl ⟨d, hd, rfl⟩))
  · have q := e1 (x, d) hx
    unfold gcstB at q
    split at q
    · rename_i v e
      obtain ⟨y, r, z⟩ := cstK_ok d v q
      exact ⟨y, v, PySem.W.mg_of X G e, r, z⟩
    · cases q
  · have q : (He.Fa.exc x).ok K = true := c.facts (by unfold LawD.fa; simp [show x ∈ D.exs from hx])
    obtain ⟨q1, q⟩ := He.ba q
    obtain ⟨q2, q⟩ := He.ba q
    obtain ⟨q3, q4⟩ := He.ba q
    exact ⟨exg x hx, q2, of_decide_eq_true q3, of_decide_eq_true q4, q1⟩
  · have hx : (x, d) ∈ D.kh := hx
    have hne : D.kh.isEmpty = false := by
      cases e : D.kh with
      | nil => rw [e] at hx; cases hx
      | cons _ _ => rfl
    rcases hkn with z | ⟨d', p, hm, hn, h1, h2, h3, h4⟩
    · rw [hne] at z; cases z
    · obtain ⟨fd, g, F, b⟩ := dfn d' p hm h1 h2 h3 h4
      refine ⟨He.glo_ok X G (c.facts (f := .glo D.kc) (by unfold LawD.fa; rw [hne]; simp)), of_decide_eq_true (show (He.Fa.exm x D.kc true).ok K = true from c.facts (by unfold LawD.fa; simp only [List.mem_append, List.mem_map]; exact .inl (.inr ⟨(x, d), hx, rfl⟩))), _, fd, p, ?_, F.kp, b, hk P w base n _ fd d' p hm hn F (fun t ht => excB_ok (e2 t ht)) e3 free exg⟩
      show mg D.knm = _
      rw [← hn]
      exact g
/-! ### a law's call -/
theorem walkG {l : PySem.W.OpenLaw} {n k : Nat} {q : Program} {loose : List Str} {XP : (Str → Option Value) → Heap → Prop} {YP : World → Heap → Prop} {d : DefRec}
    (hn : l.most = some n) (hn2 : n ≤ sizeLine) (hdf : d.params.defaults = []) (hr : Room k callerA)
    (F : ∀ (w : World) (mg : Str → Option Value) (fa : Addr) (h : Heap), YP w h → h.Ns mainGlobals mg → mg d.name = some (.ref fa) →
      ∃ (K : PySem.W.Frag) (C : Str → Addr) (fd : FuncData) (f : Fn) (x : Str), K.In h ∧ Binds K fd [x] [] ∧ (∀ ns : List Int, ns.length ≤ n → ∃ st, f [.f (ns.map PyData.int)] [] = .ok (.p (.bool true)) st) ∧
        ∀ base : Heap, FnG l.prog w K mg base k fa fd [x] (spF K C 1 f)) :
    PySem.W.WalkO q loose XP YP l.row.toRowW d [] (fun f vs => PySem.call f vs) := by
  refine Att.attach_call hn hdf fun w s0 s1 mg mb fa o pm cd doc a vs ns G Y ho hd hcd hmg hobj hints hlen hgen => ?_
  obtain ⟨K, C, fd, f, x, KX, hbind, hsp, hF⟩ := F w mg fa _ Y G.T.g hmg
  have vi := vals_ints hints
  have lenV := hints.length
  have main : ∀ H : Hp, Only H → SqL K H a (ns.map V.int) → HOk l.prog w H s1.heap → (∀ b, H b ≠ none → b = a) → (H a ≠ none → K.lookup a = none) →
      codeAny (model l.prog w) callerA (.call (.ref fa) ⟨[.ref a], []⟩) (fun r s' => r = .ok (.ret (.bool true)) ∧ OldK s1.heap s'.heap ∧ s'.os = s1.os ∧ AllBare s'.gens) s1 := by
    intro H only hS hok one unk
    have notD : ∀ {b : Addr} {ob : Obj} {es : Array DictEntry} {ep : Nat}, s1.heap.get? b = some ob → ob.data = .dict es ep → H b = none := by
      intro b ob es ep e1 e2
      rcases hb : H b with _ | u
      · rfl
      · exfalso
        cases one b (by rw [hb]; exact Option.some_ne_none u)
        rw [hobj] at e1
        cases e1
        exact Data.noConfusion e2
    have up : ∀ {b : Addr} {ob : Obj}, s1.heap.get? b = some ob → H b = none → (hidT s1.heap H).get? b = some ob := hidT_get
    have ns2 : ∀ {b : Addr} {m : Str → Option Value}, s1.heap.Ns b m → (hidT s1.heap H).Ns b m := by
      rintro b m ⟨ob, es, ep, e1, e2, e3⟩
      exact ⟨ob, es, ep, up e1 (notD e1 e2), e2, e3⟩
    have inB : K.In (hidT s1.heap H) := by
      intro b ob e
      refine up (KX b ob e) ?_
      rcases hb : H b with _ | u
      · rfl
      · exfalso
        cases one b (by rw [hb]; exact Option.some_ne_none u)
        rw [unk (by rw [hb]; exact Option.some_ne_none u)] at e
        cases e
    obtain ⟨mc, l1, l2⟩ := G.T.nolimit
    have md : Mod K mg (hidT s1.heap H) := ⟨inB, ns2 G.T.g, ⟨mb, ns2 G.T.b, G.T.builtins⟩, ⟨mc, ns2 l1, l2⟩⟩
    have en : Env0 l.prog w K mg (hidT s1.heap H) callerA [] s1 H := ⟨rfl, md, fun b ob e => of_hidT e, Nat.le_of_eq (hidT_size _ _), trivial, fun b hb => (List.not_mem_nil hb).elim, hok, .of_eq hgen⟩
    have rv : Rv K H [] (.ref a) (.f (ns.map PyData.int)) := by
      rcases hS with h | h
      · exact .f h (fun z => by cases z) .ints
      · exact .fk (fun H' => .inr h) .ints
    obtain ⟨stf, hst⟩ := hsp ns hlen
    have want : spF K C 1 f [.ref a] H (fun v _ => v = .bl true) (fun _ _ _ => False) := ⟨rfl, [.f (ns.map PyData.int)], [], [], .cons rv .nil, ⟨.nil, List.nodup_nil⟩, by
      rw [hst]
      exact fun y H' φ' _ _ ry => by
        cases ry with
        | p hd => cases hd; rfl⟩
    have bb := hbind s1 [.ref a] (fun b ob e => KX b ob e) rfl
    rw [List.append_nil] at bb
    refine codeAny_mono ((hF _).run callerA [] s1 H ⟨[.ref a], []⟩ [.ref a] [.ref a] _ _ rfl hr en bb (.cons rfl .nil) want) fun r s2 z => ?_
    cases r with
    | error e =>
      obtain ⟨_, _, _, _, _, _, _, _, _, _, _, _, bad⟩ := z
      exact bad.elim
    | ok fl =>
      cases fl with
      | next => exact False.elim z
      | brk => exact False.elim z
      | cont => exact False.elim z
      | ret u =>
        obtain ⟨v, H2, os, bare, un, hok2, rr, qq⟩ := z
        have qq : v = .bl true := qq
        subst qq
        have ru : u = Value.bool true := rr
        subst ru
        refine ⟨rfl, OldK.of_keep fun b ob e => ?_, os, bare⟩
        rcases only b with hb | ⟨o1, xs, hb⟩
        · exact un.keep b ob e hb (fun z => (List.not_mem_nil z).elim) (List.not_mem_nil)
        · obtain ⟨y1, _⟩ := hok b _ hb
          obtain ⟨y2, _⟩ := hok2 b _ (un.frzs b o1 _ hb)
          rw [y1] at e
          cases e
          exact y2
  rcases hk : K.lookup a with _ | ob
  · let own : Obj := { cls := .type "list", data := .seq vs.toArray }
    let H0 : Hp := fun b => if b = a then some (.frz own (.lst (ns.map V.int))) else none
    have at0 : H0 a = some (.frz own (.lst (ns.map V.int))) := if_pos rfl
    have off : ∀ {b : Addr}, b ≠ a → H0 b = none := fun hb => if_neg hb
    refine main H0 (fun b => ?_) (.inl (.inr ⟨own, at0⟩)) (fun b u z => ?_) (fun b z => Classical.byContradiction fun hb => z (off hb)) fun _ => hk
    · rcases Classical.em (b = a) with rfl | hb
      · exact .inr ⟨_, _, at0⟩
      · exact .inl (off hb)
    · rcases Classical.em (b = a) with rfl | hb
      · rw [at0] at z
        cases z
        exact ⟨hobj, by rw [List.length_map]; exact Nat.le_trans hlen hn2, vs, _, vi, hobj⟩
      · rw [off hb] at z
        cases z
  · have e := KX a ob hk
    rw [hobj] at e
    cases e
    exact main (fun _ => none) (fun _ => .inl rfl) (.inr ⟨_, vs.toArray, _, hk, rfl, rfl, rfl, by rw [List.size_toArray, lenV]; exact Nat.le_trans hlen hn2, by rw [List.toList_toArray]; exact vi⟩) (fun b u z => nomatch (show (none : Option HO) = some u from z)) (fun b z => (z rfl).elim) fun z => (z rfl).elim
end Rk

set_option Elab.async false
set_option linter.all false
set_option maxRecDepth 100000
set_option maxHeartbeats 4000000
namespace Rk
open PySem PySem.Spec PyProof.Rows L2
/-! ### the def that names an exception which a suite holds -/
section
variable {X : Cx} {W : WX} {C : Str → Addr}
theorem cntV : ∀ {vs : List V} {us : List Value} {y : V}, Vals vs us → vs.all flatV = true → us.countP (eqU y) = vs.countP fun z => eqV z y
  | [], _, _, .nil, _ => rfl
  | v :: vs, u :: us, y, .cons r t, h => by
    rw [List.all_cons, Bool.and_eq_true] at h
    rw [List.countP_cons, List.countP_cons, cntV t h.2, eqU_of r h.1]
def rCntF (K : PySem.W.Frag) : V → List V → Hp → VK → Prop := fun x xs H Q => ∃ (a : Addr) (ys : List V) (y : V), x = V.ref a ∧ xs = [y] ∧ SqL K H a ys ∧ flatV y = true ∧ ys.all flatV = true ∧ Q (.int ((ys.countP fun z => eqV z y : Nat) : Int)) H
theorem mt_cntF : MtR X "list.count" (rCntF X.K) := by
  rintro pins s σ H x xs v us Q I rx rxs ⟨a, ys, y, rfl, rfl, hs, fy, fys, q⟩
  cases rx
  obtain ⟨u, rfl, ru⟩ := rxs.one
  obtain ⟨its, rv, ⟨⟨cl, dd, da, sl⟩, n, ho, hc, hdn, hd⟩, hlen⟩ := I.list hs
  simp only at hc hd
  subst hc hd
  refine call_meets PySem.F.slot_list_count ⟨_, ho, rfl⟩ PySem.F.entry_list_count (PySem.F.args_list_count_2 _ _) (SeqAt.list_countAt a its.toArray n dd sl u (eqU y)) ⟨ho, fun w hw => mem_eqAt ru fy rv fys w (by simpa using hw), ?_⟩
  refine ⟨.int ((ys.countP fun z => eqV z y : Nat) : Int), H, I.tok _, ⟨s.toks, ?_⟩, q⟩
  show Value.int ((its.toArray.toList.countP (eqU y) : Nat) : Int) s.toks = _
  rw [List.toList_toArray, cntV rv fys]
theorem flat_bools : ∀ bs : List Bool, (bs.map V.bl).all flatV = true
  | [] => rfl
  | b :: bs => by rw [List.map_cons, List.all_cons, flat_bools bs]; rfl
theorem cnt_bools : ∀ bs : List Bool, ((bs.map V.bl).countP fun z => eqV z (.bl true)) = bs.countP id
  | [] => rfl
  | b :: bs => by
    rw [List.map_cons, List.countP_cons, List.countP_cons, cnt_bools bs]
    cases b <;> rfl
def boolsAt (e : Env) (i : Nat) : Option (List Bool) := match e[i]? with
  | some (some (.p (.list ds))) => boolsD ds
  | _ => none
theorem bools_rd {K : PySem.W.Frag} {H : Hp} {φ : List Addr} {σ : L2.St} {e : Env} {i : Nat} {bs : List Bool} (re : Re K H φ σ e) (h : boolsAt e i = some bs) : ∃ a, σ[i]? = some (some (.ref a)) ∧ SqL K H a (bs.map V.bl) ∧ H a = some (.lst (bs.map V.bl)) := by
  unfold boolsAt at h
  split at h
  · rename_i ds he
    obtain ⟨x, h1, h2⟩ := re.get i _ he
    cases h2 with
    | p hd =>
      cases hd with
      | lst q1 q2 q3 =>
        obtain ⟨z1, z2⟩ := DqA.of_bools q3 h
        subst z1
        exact ⟨_, h1, SqL.of q1, q1⟩
  · cases h
theorem s_count {i : Nat} {x : Str} {np ap cp bp : Pos} {j : Nat} (hl : (ap.endLine == cp.line) = true) (hv : PE X (.Name x np) (tVar i)) : SE X W C (.Call (.Attribute (.Name x np) "count" ap) [.Constant (.bool true) j bp] [] cp) (fun e => match boolsAt e i with
    | some bs => M.ret (.p (.int ((bs.countP id : Nat) : Int)))
    | none => M.no) := by
  have pa : PA X [.Constant (.bool true) j bp] (tCons (tC (.bl true)) tNil) := pa_cons pe_bl pa_nil (star_cons rfl)
  refine weakE (pe_bm PySem.F.plainAttrs_list PySem.F.slot_list_count PySem.F.type_list_count mt_cntF hv pa rfl (few1 rfl) hl (star_cons rfl) (star_none rfl)) fun σ H Q ⟨e, st, φ, re, rt, po⟩ => ?_
  dsimp only at po
  cases hb : boolsAt e i with
  | some bs =>
    rw [hb] at po
    obtain ⟨a, h1, h2, h3⟩ := bools_rd re hb
    refine ⟨_, h1, ty_lst h3, a, bs.map V.bl, .bl true, rfl, rfl, h2, rfl, flat_bools bs, ?_⟩
    rw [cnt_bools]
    exact hereD rt (.int _) po
  | none => rw [hb] at po; exact False.elim po
theorem s_index {i : Nat} {x : Str} {np ap cp bp : Pos} {j : Nat} (hl : (ap.endLine == cp.line) = true) (hv : PE X (.Name x np) (tVar i)) : SE X W C (.Call (.Attribute (.Name x np) "index" ap) [.Constant (.bool true) j bp] [] cp) (fun e => match (boolsAt e i).bind fun bs => bs.findIdx? id with
    | some k => M.ret (.p (.int ((k : Nat) : Int)))
    | none => M.no) := by
  have pa : PA X [.Constant (.bool true) j bp] (tCons (tC (.bl true)) tNil) := pa_cons pe_bl pa_nil (star_cons rfl)
  refine weakE (pe_bm PySem.F.plainAttrs_list PySem.F.slot_list_index PySem.F.type_list_index mt_index hv pa rfl (few1 rfl) hl (star_cons rfl) (star_none rfl)) fun σ H Q ⟨e, st, φ, re, rt, po⟩ => ?_
  dsimp only at po
  cases hk : (boolsAt e i).bind fun bs => bs.findIdx? id with
  | none => rw [hk] at po; exact False.elim po
  | some k =>
    rw [hk] at po
    obtain ⟨bs, hb, hk⟩ := Option.bind_eq_some_iff.mp hk
    obtain ⟨a, h1, h2, h3⟩ := bools_rd re hb
    obtain ⟨hlt, ht, hno⟩ := List.findIdx?_eq_some_iff_getElem.mp hk
    refine ⟨_, h1, ty_lst h3, a, bs.map V.bl, .bl true, k, .bl bs[k], rfl, rfl, h2, rfl, flat_bools bs, by rw [List.getElem?_map, List.getElem?_eq_getElem hlt]; rfl, ?_, fun m z hm hz => ?_, hereD rt (.int _) po⟩
    · have ht : bs[k] = true := ht
      rw [ht]
      rfl
    · rw [List.getElem?_map, List.getElem?_eq_getElem (Nat.lt_trans hm hlt)] at hz
      cases hz
      have := hno m hm
      have this : bs[m] = false := by simpa using this
      rw [this]
      rfl
/-- isinstance(error, c), the error pinned -/
def mIsx (i a : Nat) (b : Bool) : Env → M Val := fun e => match e[i]? with
  | some (some (.x a')) => if a' = a then M.ret (.p (.bool b)) else M.no
  | _ => M.no
theorem call_isx {a D : Addr} {oe : Obj} (F : ExcC X.K D) (hp : (a, oe) ∈ X.pn) (hz : Zc (.ref D) none oe) (hf : ∃ vs, oe.data = .fields vs) : CallR X (.builtin "isinstance") (rIsE X.K D a) := by
  rintro pins s σ H xs us Q I r ⟨c, cv, b, rfl, hcv, e, q⟩
  obtain ⟨ua, uc, rfl, ra, rc⟩ : ∃ ua uc, us = [ua, uc] ∧ RelV (.ref a) ua ∧ RelV c uc := by
    cases r with
    | cons r1 r => cases r with
      | cons r2 r => cases r; exact ⟨_, _, rfl, r1, r2⟩
  cases ra
  rw [hcv _ rc]
  obtain ⟨hget, _⟩ := I.pin (a, oe) (List.mem_append_left _ hp)
  obtain ⟨vs, hv⟩ := hf
  have J : PySem.W.InstAt s.heap a oe D none := by
    rcases oe with ⟨f1, f2, f3, f4⟩
    obtain ⟨g1, g2⟩ := hz
    dsimp only at g1 g2 hv
    subst g1; subst g2; subst hv
    exact ⟨hget, rfl, rfl, trivial⟩
  exact PySem.W.kia_one (PySem.W.handS_kitx_exc F.hg F.hk F.hs F.hd F.ha F.hn F.ht F.hm) I.kIn J e (fun z => nomatch z) fun tk => ⟨.bl b, H, I.kept (t' := tk) fun _ _ z => z, rfl, q⟩
theorem s_isx {a D cl : Addr} {oe : Obj} {i : Nat} {er c : Str} {b : Bool} {p1 p2 p3 p4 : Pos} (F : ExcC X.K D) (hp : (a, oe) ∈ X.pn) (hz : Zc (.ref D) none oe) (hf : ∃ vs, oe.data = .fields vs) (hb : PySem.W.kitOne X.K (.ref D) (.ref cl) = some b)
    (hg : Gl X "isinstance") (hm : X.mg "isinstance" = none) (hv : PE X (.Name er p2) (tVar i)) (gc : Gl X c) (dc : (c == ("__debug__" : Str)) = false) (mc : X.mg c = some (.ref cl)) : SE X W C (.Call (.Name "isinstance" p1) [.Name er p2, .Name c p3] [] p4) (mIsx i a b) := by
  have pc : PE X (.Name c p3) (tC (.ref cl)) := pe_glob gc mc rfl dc
  have pa : PA X [.Name er p2, .Name c p3] (tCons (tVar i) (tCons (tC (.ref cl)) tNil)) := pa_cons hv (pa_cons pc pa_nil (star_cons rfl)) (star_cons rfl)
  refine weakE (pe_callB (call_isx F hp hz hf) hg hm boot_isi pa (by decide) (by decide) (star_cons rfl) (star_none rfl)) fun σ H Q ⟨e, st, φ, re, rt, po⟩ => ?_
  have key : ∃ a', e[i]? = some (some (.x a')) ∧ a' = a := by
    unfold mIsx at po
    cases he : e[i]? with
    | none => rw [he] at po; exact False.elim po
    | some o =>
      rw [he] at po
      cases o with
      | none => exact False.elim po
      | some v =>
        cases v with
        | x a' =>
          refine ⟨a', rfl, ?_⟩
          dsimp only at po
          by_cases h : a' = a
          · exact h
          · rw [if_neg h] at po; exact False.elim po
        | _ => exact False.elim po
  obtain ⟨a', he, ea⟩ := key
  subst ea
  have e1 : mIsx i a' b e st = .ok (.p (.bool b)) st := by unfold mIsx; rw [he]; dsimp only; rw [if_pos rfl]; rfl
  rw [e1] at po
  obtain ⟨x, h1, h2⟩ := re.get i _ he
  cases h2
  exact ⟨_, h1, .ref cl, .ref cl, b, rfl, fun u h => h, hb, hereD rt (.bl b) po⟩
/-! ### lists of such -/
theorem sa_strs : ∀ {ws : List Str} {es : List Expr}, (ws.length = es.length ∧ ∀ p ∈ ws.zip es, ∃ j q, p.2 = Expr.Constant (.str p.1) j q) → SA X W C es (fun _ => M.ret ((ws.map PyData.str).map Val.p))
  | [], [], _ => sa_nil
  | [], _ :: _, ⟨h, _⟩ => by cases h
  | _ :: _, [], ⟨h, _⟩ => by cases h
  | w :: ws, e :: es, ⟨hl, h⟩ => by
    obtain ⟨j, q, h1⟩ := h (w, e) List.mem_cons_self
    have h1 : e = Expr.Constant (.str w) j q := h1
    subst h1
    exact sa_cons rfl (s_val pe_str fun _ _ => .str w) (sa_strs ⟨by simpa using hl, fun p hp => h p (List.mem_cons_of_mem _ hp)⟩)
def mIsxs (i a : Nat) : List Bool → Env → M (List Val)
  | [] => fun _ => M.ret []
  | b :: bs => fun e => M.bind (mIsx i a b e) fun v => M.bind (mIsxs i a bs e) fun vs => M.ret (v :: vs)
theorem sa_isxs {i a : Nat} : ∀ {bs : List Bool} {es : List Expr}, bs.length = es.length → (∀ p ∈ bs.zip es, nst p.2 = true ∧ SE X W C p.2 (mIsx i a p.1)) → SA X W C es (mIsxs i a bs)
  | [], [], _, _ => sa_nil
  | [], _ :: _, h, _ => by cases h
  | _ :: _, [], h, _ => by cases h
  | b :: bs, e :: es, hl, h => by
    obtain ⟨h1, h2⟩ := h (b, e) List.mem_cons_self
    exact sa_cons h1 h2 (sa_isxs (by simpa using hl) fun p hp => h p (List.mem_cons_of_mem _ hp))
theorem isxs_run {i a : Nat} {e : Env} {st : Store} (he : e[i]? = some (some (.x a))) : ∀ bs : List Bool, mIsxs i a bs e st = .ok ((bs.map PyData.bool).map Val.p) st
  | [] => rfl
  | b :: bs => by
    show ((mIsx i a b e) st).bind _ = _
    have h1 : mIsx i a b e st = .ok (.p (.bool b)) st := by unfold mIsx; rw [he]; dsimp only; rw [if_pos rfl]; rfl
    rw [h1]
    show ((mIsxs i a bs e) st).bind _ = _
    rw [isxs_run he bs]
    rfl
end
end Rk

set_option Elab.async false
set_option linter.all false
set_option maxRecDepth 100000
set_option maxHeartbeats 4000000
namespace Rk
open PySem PySem.Spec PyProof.Rows L2
structure KD where
  er : Str
  nn : Str
  ff : Str
  ws : List Str
  c1 : List Str
  c2 : List Str
  mo : Option Str
  bang : Str
  oth : Str
def isxB (S : Sc) (er c : Str) (e : Expr) : Bool := match e with
  | .Call (.Name f _) [.Name x _, .Name y _] [] _ => f == "isinstance" && glB S f && x == er && y == c && glB S c
  | _ => false
def strB (w : Str) (e : Expr) : Bool := match e with
  | .Constant (.str z) _ _ => z == w
  | _ => false
def listB {α : Type} (p : α → Expr → Bool) : List α → List Expr → Bool
  | [], [] => true
  | a :: r, e :: es => p a e && listB p r es
  | _, _ => false
theorem listB_ok {α : Type} {p : α → Expr → Bool} : ∀ {r : List α} {es : List Expr}, listB p r es = true → r.length = es.length ∧ ∀ q ∈ r.zip es, p q.1 q.2 = true
  | [], [], _ => ⟨rfl, fun q h => by cases h⟩
  | [], _ :: _, h => by cases h
  | _ :: _, [], h => by cases h
  | a :: r, e :: es, h => by
    unfold listB at h
    rw [Bool.and_eq_true] at h
    obtain ⟨h1, h2⟩ := listB_ok h.2
    refine ⟨by rw [List.length_cons, List.length_cons, h1], fun q hq => ?_⟩
    rcases List.mem_cons.mp (by simpa using hq) with rfl | hq
    · exact h.1
    · exact h2 q hq
def cntB (k : KD) (e : Expr) : Bool := match e with
  | .Compare (.Call (.Attribute (.Name x _) m ap) [.Constant (.bool true) _ _] [] cp) [.Eq] [.Constant (.int 1) _ _] _ => x == k.ff && m == "count" && (ap.endLine == cp.line)
  | _ => false
def testB (S : Sc) (k : KD) (e : Expr) : Bool := match k.mo with
  | none => cntB k e
  | some c => (match e with
    | .BoolOp .And [t, u] _ => cntB k t && isxB S k.er c u
    | _ => false)
def kindB (S : Sc) (k : KD) : List Stmt → Bool
  | [.Assign [.Name a pa] (.List es1 p1) q1, .Assign [.Name b pb] (.List es2 p2) q2, .Assign [.Name b2 pb2] (.BinOp (.Name b3 pb3) .Add (.List es3 p3) p4) q3,
      .Return (some (.IfExp t (.BinOp (.Constant (.str bang) _ _) .Add (.Subscript (.Name n5 _) (.Call (.Attribute (.Name n6 _) m ap) [.Constant (.bool true) _ _] [] cp) _) _) (.Constant (.str oth) _ _) _)) _] =>
    decide (S.N = [k.er, k.nn, k.ff]) && decide S.N.Nodup && visB S k.er && visB S k.nn && visB S k.ff && lclB S k.nn && lclB S k.ff &&
    (a == k.nn && b == k.ff && b2 == k.ff && b3 == k.ff && n5 == k.nn && n6 == k.ff && m == "index" && (ap.endLine == cp.line) && bang == k.bang && oth == k.oth) &&
    listB strB k.ws es1 && listB (isxB S k.er) k.c1 es2 && listB (isxB S k.er) k.c2 es3 && testB S k t &&
    plS S (.Name a pa) (.List es1 p1) q1.line && plS S (.Name b pb) (.List es2 p2) q2.line && plS S (.Name b2 pb2) (.BinOp (.Name b3 pb3) .Add (.List es3 p3) p4) q3.line && decide (k.ws.length ≤ 100 ∧ k.c1.length ≤ 100 ∧ k.c2.length ≤ 100)
  | _ => false
/-- the name of an exception, by what it is an instance of -/
def kindV (k : KD) (bs : List Bool) (mo : Option Bool) : Option PyData :=
  if bs.countP id = 1 ∧ mo ≠ some false then (bs.findIdx? id).bind fun i => (L2.atI (k.ws.map PyData.str) ((i : Nat) : Int)).bind fun z => binD .Add (.str k.bang) z
  else some (.str k.oth)
theorem datsV_map : ∀ (ds : List PyData) (st : Store), datsV (ds.map Val.p) st = some ds
  | [], _ => rfl
  | d :: ds, st => by
    show (datsV (ds.map Val.p) st).map (d :: ·) = _
    rw [datsV_map ds st]
    rfl
theorem boolsD_map : ∀ bs : List Bool, boolsD (bs.map PyData.bool) = some bs
  | [] => rfl
  | b :: bs => by
    show (boolsD (bs.map PyData.bool)).map (b :: ·) = _
    rw [boolsD_map bs]
    rfl
section
variable {X : Cx} {W : WX} {C : Str → Addr} {S : Sc}
def mLst (m : Env → M (List Val)) : Env → M Val := fun e => M.bind (m e) fun vs => fun st => (match datsV vs st with
    | some ds => if ds.length ≤ sizeLine then mkL false ds st else .no
    | none => .no)
theorem lst_run {m : Env → M (List Val)} {e : Env} {st : Store} {ds : List PyData} (h : m e st = .ok (ds.map Val.p) st) (hl : ds.length ≤ sizeLine) : mLst m e st = .ok (.p (.list ds)) st := by
  unfold mLst M.bind
  rw [h]
  show (match datsV (ds.map Val.p) st with
    | some ds => if ds.length ≤ sizeLine then mkL false ds st else .no
    | none => .no) = _
  rw [datsV_map]
  dsimp only
  rw [if_pos hl]
  rfl
def mVar (i : Nat) : Env → M Val := fun e => fun st => (match e[i]? with
    | some (some v) => .ok v st
    | _ => .no)
def mSet (i : Nat) (m : Env → M Val) : Env → Store → RsS := fun e st => lift e (m e st) fun v st1 => (match tgtV (.nm i) v e st1 with | some e1 => .ok (.nx e1) st1 | none => .no)
theorem set_run {i : Nat} {m : Env → M Val} {e : Env} {st : Store} {v : Val} (h : m e st = .ok v st) : mSet i m e st = .ok (.nx (e.set i (some v))) st := by
  unfold mSet
  rw [h]
  rfl
/-- isinstance(error, c) for each c of a list -/
theorem isx_sa {a : Addr} {oe : Obj} {er : Str} {D : Addr} (hsc : X.env.scope = S.sc) (F : ExcC X.K D) (hp : (a, oe) ∈ X.pn) (hz : Zc (.ref D) none oe) (hf : ∃ vs, oe.data = .fields vs) (hm : X.mg "isinstance" = none) (hv : ∀ p, PE X (.Name er p) (tVar 0))
    (g : Str → Bool) {c : Str} (hb : ∃ cl, X.mg c = some (.ref cl) ∧ PySem.W.kitOne X.K (.ref D) (.ref cl) = some (g c)) {e : Expr} (h : isxB S er c e = true) : nst e = true ∧ SE X W C e (mIsx 0 a (g c)) := by
  unfold isxB at h
  split at h
  · simp only [Bool.and_eq_true] at h
    obtain ⟨⟨⟨⟨h1, h2⟩, h3⟩, h4⟩, h5⟩ := h
    cases eq_of_beq h1
    cases eq_of_beq h3
    cases eq_of_beq h4
    obtain ⟨cl, m1, m2⟩ := hb
    exact ⟨rfl, s_isx F hp hz hf m2 (gl_of hsc h2).1 hm (hv _) (gl_of hsc h5).1 (gl_of hsc h5).2 m1⟩
  · cases h
theorem isx_plain {er c : Str} {e : Expr} (h : isxB S er c e = true) : plainT e = true := by
  unfold isxB at h
  split at h
  · rfl
  · cases h
theorem isxs_sa {a : Addr} {oe : Obj} {er : Str} {D : Addr} (hsc : X.env.scope = S.sc) (F : ExcC X.K D) (hp : (a, oe) ∈ X.pn) (hz : Zc (.ref D) none oe) (hf : ∃ vs, oe.data = .fields vs) (hm : X.mg "isinstance" = none) (hv : ∀ p, PE X (.Name er p) (tVar 0))
    (g : Str → Bool) {cs : List Str} (hb : ∀ c ∈ cs, ∃ cl, X.mg c = some (.ref cl) ∧ PySem.W.kitOne X.K (.ref D) (.ref cl) = some (g c)) {es : List Expr} (h : listB (isxB S er) cs es = true) : SA X W C es (mIsxs 0 a (cs.map g)) := by
  obtain ⟨hl, hq⟩ := listB_ok h
  refine sa_isxs (by rw [List.length_map, hl]) fun p hp' => ?_
  rw [List.zip_map_left] at hp'
  obtain ⟨q, q1, rfl⟩ := List.mem_map.mp hp'
  exact isx_sa hsc F hp hz hf hm hv g (hb q.1 (List.of_mem_zip q1).1) (hq q q1)
def mCnt : Env → M Val := fun e => match boolsAt e 2 with
    | some bs => M.ret (.p (.int ((bs.countP id : Nat) : Int)))
    | none => M.no
def mOne : Env → M Bool := fun e => cmpB (mCnt e) (M.ret (.p (.int 1))) (cmpD .Eq)
def mTst (a : Nat) (b : Option Bool) : Env → M Bool := match b with
  | none => fun e => M.tru (M.b (mOne e))
  | some b => fun e => M.tru (mAnd (fun e => M.b (mOne e)) (mIsx 0 a b) e)
def mIdx : Env → M Val := fun e => match (boolsAt e 2).bind fun bs => bs.findIdx? id with
    | some k => M.ret (.p (.int ((k : Nat) : Int)))
    | none => M.no
theorem cnt_sb {k : KD} {e : Expr} (hu : X.A.units + 64 < cLine) (hv2 : ∀ p, PE X (.Name k.ff p) (tVar 2)) (h : cntB k e = true) : SB X W C e mOne := by
  unfold cntB at h
  split at h
  · rw [Bool.and_eq_true, Bool.and_eq_true] at h
    cases eq_of_beq h.1.1
    cases eq_of_beq h.1.2
    exact sb_cmp (op_cmp hu .Eq) (s_count h.2 (hv2 _)) (s_val pe_int fun _ _ => .int 1) rfl
  · cases h
theorem one_run {e : Env} {bs : List Bool} (h : boolsAt e 2 = some bs) (st : Store) : mOne e st = .ok (decide (bs.countP id = 1)) st := by
  unfold mOne mCnt
  rw [h]
  show Rs.ok (PyData.eqv (.int ((bs.countP id : Nat) : Int)) (.int 1)) st = _
  congr 1
  show (((bs.countP id : Nat) : Int) == 1) = _
  by_cases q : bs.countP id = 1
  · rw [q]; rfl
  · rw [decide_eq_false q]
    refine beq_eq_false_iff_ne.mpr fun z => q ?_
    omega
theorem tst_run {a : Nat} {e : Env} {bs : List Bool} (h0 : e[0]? = some (some (.x a))) (h : boolsAt e 2 = some bs) (mo : Option Bool) (st : Store) : mTst a mo e st = .ok (decide (bs.countP id = 1 ∧ mo ≠ some false)) st := by
  cases mo with
  | none =>
    show M.tru (M.b (mOne e)) st = _
    rw [tru_b, one_run h]
    simp
  | some b =>
    show M.tru (mAnd (fun e => M.b (mOne e)) (mIsx 0 a b) e) st = _
    rw [tru_and, tru_b, one_run h]
    show (if decide (bs.countP id = 1) = true then M.tru (mIsx 0 a b e) st else .ok false st) = _
    have e1 : mIsx 0 a b e st = .ok (.p (.bool b)) st := by unfold mIsx; rw [h0]; dsimp only; rw [if_pos rfl]; rfl
    have e2 : M.tru (mIsx 0 a b e) st = .ok b st := by
      unfold M.tru M.bind
      rw [e1]
      rfl
    rw [e2]
    by_cases q : bs.countP id = 1
    · rw [if_pos (decide_eq_true q)]
      cases b <;> simp [q]
    · rw [if_neg (by simpa using q)]
      simp [q]
theorem mSeq_nx {a b : Env → Store → RsS} {e e1 : Env} {st st1 : Store} (h : a e st = .ok (.nx e1) st1) : mSeq a b e st = b e1 st1 := by
  unfold mSeq
  rw [h]
theorem mSeq_rt {a b : Env → Store → RsS} {e : Env} {st st1 : Store} {v : Val} (h : a e st = .ok (.rt v) st1) : mSeq a b e st = .ok (.rt v) st1 := by
  unfold mSeq
  rw [h]
theorem dat2_run {ma mb : M Val} {f : PyData → PyData → M Val} {x y : PyData} {st : Store} (h1 : ma st = .ok (.p x) st) (h2 : mb st = .ok (.p y) st) : M.dat2 ma mb f st = f x y st := by
  unfold M.dat2 M.bind
  rw [h1]
  show Rs.bind (mb st) _ = _
  rw [h2]
  rfl
theorem ret_run {r : Rs Val} {e : Env} {st : Store} {v : Val} (h : r = .ok v st) : lift e r (fun v st1 => .ok (.rt v) st1) = .ok (.rt v) st := by
  rw [h]
  rfl
theorem kind_ss {k : KD} {body : List Stmt} (h : kindB S k body = true) {a : Addr} {oe : Obj} {D : Addr} (hN : X.N = S.N) (hsc : X.env.scope = S.sc) (hfn : X.fn = S.fn) (hu : X.A.units + 64 < cLine) (F : ExcC X.K D) (hp : (a, oe) ∈ X.pn) (hz : Zc (.ref D) none oe) (hf : ∃ vs, oe.data = .fields vs) (hm : X.mg "isinstance" = none)
    (g : Str → Bool) (hb : ∀ c, c ∈ k.c1 ∨ c ∈ k.c2 ∨ k.mo = some c → ∃ cl, X.mg c = some (.ref cl) ∧ PySem.W.kitOne X.K (.ref D) (.ref cl) = some (g c)) {d : PyData} (hd : kindV k ((k.c1 ++ k.c2).map g) (k.mo.map g) = some d) :
    ∃ m, SSs X W C body m ∧ ∀ st, m [some (.x a), none, none] st = .ok (.rt (.p d)) st := by
  unfold kindB at h
  split at h
  · rename_i na pa es1 p1 q1 nb pb es2 p2 q2 nb2 pb2 nb3 pb3 es3 p3 p4 q3 t bang _ _ n5 _ n6 _ mm ap _ _ cp _ _ oth _ _ _ _
    simp only [Bool.and_eq_true, decide_eq_true_eq] at h
    obtain ⟨⟨⟨⟨⟨⟨⟨⟨⟨⟨⟨⟨⟨⟨⟨h1, h2⟩, v1⟩, v2⟩, v3⟩, l1⟩, l2⟩, e⟩, b1⟩, b2⟩, b3⟩, tb⟩, w1⟩, w2⟩, w3⟩, z1, z2, z3⟩ := h
    obtain ⟨⟨⟨⟨⟨⟨⟨⟨⟨e1, e2⟩, e3⟩, e4⟩, e5⟩, e6⟩, e7⟩, e8⟩, e9⟩, e10⟩ := e
    cases eq_of_beq e1; cases eq_of_beq e2; cases eq_of_beq e3; cases eq_of_beq e4; cases eq_of_beq e5; cases eq_of_beq e6; cases eq_of_beq e7; cases eq_of_beq e9; cases eq_of_beq e10
    have x1 := vis_of hsc v1
    have x2 := vis_of hsc v2
    have x3 := vis_of hsc v3
    have hNX : X.N = [k.er, k.nn, k.ff] := hN.trans h1
    have hv0 : ∀ p, PE X (.Name k.er p) (tVar 0) := fun p => pe_var (by rw [hNX]; rfl) x1.1 x1.2.1 x1.2.2
    have hv1 : ∀ p, PE X (.Name k.nn p) (tVar 1) := fun p => pe_var (by rw [hNX]; rfl) x2.1 x2.2.1 x2.2.2
    have hv2 : ∀ p, PE X (.Name k.ff p) (tVar 2) := fun p => pe_var (by rw [hNX]; rfl) x3.1 x3.2.1 x3.2.2
    have hnd : X.N.Nodup := by rw [hN]; exact h2
    have t1 : ∀ p, PG X (.Name k.nn p) (gT X.K (.nm 1)) := fun p => by unfold gT; exact pg_name hnd (by rw [hNX]; rfl) (.inl (lcl_of hsc l1)) (.inr (lcl_of hsc l1))
    have t2 : ∀ p, PG X (.Name k.ff p) (gT X.K (.nm 2)) := fun p => by unfold gT; exact pg_name hnd (by rw [hNX]; rfl) (.inl (lcl_of hsc l2)) (.inr (lcl_of hsc l2))
    obtain ⟨pl1, pl2, pl3⟩ := pl_of hsc w1
    obtain ⟨pl4, pl5, pl6⟩ := pl_of hsc w2
    obtain ⟨pl7, pl8, pl9⟩ := pl_of hsc w3
    obtain ⟨y1, y2⟩ := listB_ok b1
    have A1 : SA X W C es1 (fun _ => M.ret ((k.ws.map PyData.str).map Val.p)) := sa_strs ⟨y1, fun p hp => by
      have q := y2 p hp
      unfold strB at q
      split at q
      · rename_i z j pp hq
        exact ⟨j, pp, by rw [hq, eq_of_beq q]⟩
      · cases q⟩
    have A2 : SA X W C es2 (mIsxs 0 a (k.c1.map g)) := isxs_sa hsc F hp hz hf hm hv0 g (fun c hc => hb c (.inl hc)) b2
    have A3 : SA X W C es3 (mIsxs 0 a (k.c2.map g)) := isxs_sa hsc F hp hz hf hm hv0 g (fun c hc => hb c (.inr (.inl hc))) b3
    have S1 : SS X W C (.Assign [.Name k.nn pa] (.List es1 p1) q1) (mSet 1 (mLst fun _ => M.ret ((k.ws.map PyData.str).map Val.p))) := ss_asg (s_lst (m := false) A1) (t1 pa) pl2 pl3 pl1
    have S2 : SS X W C (.Assign [.Name k.ff pb] (.List es2 p2) q2) (mSet 2 (mLst (mIsxs 0 a (k.c1.map g)))) := ss_asg (s_lst (m := false) A2) (t2 pb) pl5 pl6 pl4
    have S3 : SS X W C (.Assign [.Name k.ff pb2] (.BinOp (.Name k.ff pb3) .Add (.List es3 p3) p4) q3) (mSet 2 fun e => M.dat2 (mVar 2 e) (mLst (mIsxs 0 a (k.c2.map g)) e) fun x y => mD false (binD .Add x y)) := ss_asg (s_op (op_bin false .Add) (s_var (hv2 pb3)) (s_lst (m := false) A3)) (t2 pb2) pl8 pl9 pl7
    have T4 : SB X W C t (mTst a (k.mo.map g)) := by
      unfold testB at tb
      split at tb
      · rename_i hmo
        rw [hmo]
        exact sb_b (cnt_sb hu hv2 tb)
      · rename_i c hmo
        rw [hmo]
        split at tb
        · rw [Bool.and_eq_true] at tb
          obtain ⟨n1, n2⟩ := isx_sa (W := W) (C := C) hsc F hp hz hf hm hv0 g (hb c (.inr (.inr hmo))) tb.2
          exact (sw_and (sb_b (cnt_sb hu hv2 tb.1)) (sw_one (sb_truth n2 (plain_true (isx_plain tb.2) X.env)))).pt
        · cases tb
    refine ⟨_, ss_cons S1 (ss_cons S2 (ss_cons S3 (ss_cons (ss_ret (s_ife T4 (s_op (op_bin false .Add) (s_val (d := .str k.bang) pe_str fun _ _ => .str _) (s_ix ix_any (s_var (hv1 _)) (s_index (i := 2) e8 (hv2 _)) (noslc rfl))) (s_val (d := .str k.oth) pe_str fun _ _ => .str _))) ss_nil))), fun st => ?_⟩
    have hz : (1000 : Nat) ≤ sizeLine := by decide
    have R1 := set_run (i := 1) (lst_run (m := fun _ => M.ret ((k.ws.map PyData.str).map Val.p)) (e := [some (.x a), none, none]) (st := st) rfl (by rw [List.length_map]; omega))
    have R2 := set_run (i := 2) (lst_run (e := [some (.x a), some (.p (.list (k.ws.map PyData.str))), none]) (st := st) (isxs_run (i := 0) (a := a) rfl (k.c1.map g)) (by rw [List.length_map, List.length_map]; omega))
    have L3 := lst_run (e := [some (.x a), some (.p (.list (k.ws.map PyData.str))), some (.p (.list ((k.c1.map g).map PyData.bool)))]) (st := st) (isxs_run (i := 0) (a := a) rfl (k.c2.map g)) (by rw [List.length_map, List.length_map]; omega)
    have A3 : (M.dat2 (mVar 2 [some (.x a), some (.p (.list (k.ws.map PyData.str))), some (.p (.list ((k.c1.map g).map PyData.bool)))]) (mLst (mIsxs 0 a (k.c2.map g)) [some (.x a), some (.p (.list (k.ws.map PyData.str))), some (.p (.list ((k.c1.map g).map PyData.bool)))]) fun x y => mD false (binD .Add x y)) st = .ok (.p (.list (((k.c1 ++ k.c2).map g).map PyData.bool))) st := by
      unfold M.dat2 M.bind
      show ((mLst (mIsxs 0 a (k.c2.map g)) [some (.x a), some (.p (.list (k.ws.map PyData.str))), some (.p (.list ((k.c1.map g).map PyData.bool)))] st).bind _) = _
      rw [L3]
      show mD false (if ((k.c1.map g).map PyData.bool).length + ((k.c2.map g).map PyData.bool).length ≤ sizeLine then some (.list ((k.c1.map g).map PyData.bool ++ (k.c2.map g).map PyData.bool)) else none) st = _
      rw [if_pos (by simp only [List.length_map]; omega), List.map_append, List.map_append]
      rfl
    have R3 := set_run (i := 2) (m := fun e => M.dat2 (mVar 2 e) (mLst (mIsxs 0 a (k.c2.map g)) e) fun x y => mD false (binD .Add x y)) (e := [some (.x a), some (.p (.list (k.ws.map PyData.str))), some (.p (.list ((k.c1.map g).map PyData.bool)))]) A3
    have hB : boolsAt [some (.x a), some (.p (.list (k.ws.map PyData.str))), some (.p (.list (((k.c1 ++ k.c2).map g).map PyData.bool)))] 2 = some ((k.c1 ++ k.c2).map g) := boolsD_map _
    have R4 := tst_run (e := [some (.x a), some (.p (.list (k.ws.map PyData.str))), some (.p (.list (((k.c1 ++ k.c2).map g).map PyData.bool)))]) (a := a) rfl hB (k.mo.map g) st
    refine (mSeq_nx R1).trans ((mSeq_nx R2).trans ((mSeq_nx R3).trans (mSeq_rt (v := .p d) ?_)))
    refine ret_run ?_
    show (mTst a (k.mo.map g) [some (.x a), some (.p (.list (k.ws.map PyData.str))), some (.p (.list (((k.c1 ++ k.c2).map g).map PyData.bool)))] st).bind _ = _
    rw [R4]
    unfold kindV at hd
    by_cases hc : ((k.c1 ++ k.c2).map g).countP id = 1 ∧ k.mo.map g ≠ some false
    · rw [if_pos hc] at hd
      rw [decide_eq_true hc]
      obtain ⟨i, hi, hd⟩ := Option.bind_eq_some_iff.mp hd
      obtain ⟨z, hz, hd⟩ := Option.bind_eq_some_iff.mp hd
      have hI : mIdx [some (.x a), some (.p (.list (k.ws.map PyData.str))), some (.p (.list (((k.c1 ++ k.c2).map g).map PyData.bool)))] st = .ok (.p (.int ((i : Nat) : Int))) st := by
        unfold mIdx
        rw [hB]
        show (match ((k.c1 ++ k.c2).map g).findIdx? id with
          | some k => M.ret (Val.p (.int ((k : Nat) : Int)))
          | none => M.no) st = _
        rw [hi]
        rfl
      show (M.dat2 (M.ret (.p (.str k.bang))) (M.dat2 (mVar 1 [some (.x a), some (.p (.list (k.ws.map PyData.str))), some (.p (.list (((k.c1 ++ k.c2).map g).map PyData.bool)))]) (mIdx [some (.x a), some (.p (.list (k.ws.map PyData.str))), some (.p (.list (((k.c1 ++ k.c2).map g).map PyData.bool)))]) fun x y => pD (idxD x y)) fun x y => mD false (binD .Add x y)) st = _
      refine (dat2_run (x := .str k.bang) (y := z) rfl ((dat2_run (x := .list (k.ws.map PyData.str)) (y := .int ((i : Nat) : Int)) rfl hI).trans ?_)).trans ?_
      · show pD (L2.atI (k.ws.map PyData.str) ((i : Nat) : Int)) st = _
        rw [hz]
        rfl
      · show mD false (binD .Add (.str k.bang) z) st = _
        rw [hd]
        cases d <;> rfl
    · rw [if_neg hc] at hd
      rw [decide_eq_false hc]
      cases hd
      rfl
  · cases h
end
end Rk

set_option Elab.async false
set_option linter.all false
set_option maxRecDepth 100000
set_option maxHeartbeats 4000000
namespace Rk
open PySem PySem.Spec PyProof.Rows L2
def gOf (subs : List Sub3) (c y : Str) : Bool := match subs.find? fun t => t.1 == c && t.2.1 == y with
  | some t => t.2.2
  | none => false
/-- the check of the names that an exception may get -/
def khB (k : KD) (exs ec : List Str) (subs : List Sub3) (kh : List (Str × PyData)) : Bool := kh.all fun p => ec.contains p.1 && ((k.c1 ++ k.c2 ++ k.mo.toList).all fun y => exs.contains y && subs.contains (p.1, y, gOf subs p.1 y)) && (match kindV k ((k.c1 ++ k.c2).map (gOf subs p.1)) (k.mo.map (gOf subs p.1)) with
  | some d => eqP d p.2
  | none => false)
def kfB (k : KD) (d : He.DefD) (p : List Str) : Bool := decide (p = [k.er]) && scopeB [k.er, k.nn, k.ff] p d.scope && kindB ⟨[k.er, k.nn, k.ff], d.scope, fun _ => true⟩ k d.body
theorem fnK_of {P : Program} {w : World} {K : PySem.W.Frag} {mg : Str → Option Value} {base : Heap} {n : Nat} {a0 : Addr} {fd : FuncData} {d : He.DefD} {p : List Str} {k : KD} {exs ec : List Str} {subs : List Sub3} {kh : List (Str × PyData)}
    (hc : kfB k d p = true) (hkh : khB k exs ec subs kh = true) (F : FunD K d.name d.qual d.params d.body d.scope [] [] a0 fd) (he : ∀ t ∈ ec, ExcC K (He.ga K t)) (hs : ∀ t ∈ subs, PySem.W.kitOne K (.ref (He.ga K t.1)) (.ref (He.ga K t.2.1)) = some t.2.2) (hb : ∀ x ∈ bltNames, mg x = none) (hx : ∀ x ∈ exs, mg x = some (.ref (He.ga K x))) :
    FnK P w K mg base (He.ga K) kh (n + 1) a0 fd p := by
  unfold kfB at hc
  rw [Bool.and_eq_true, Bool.and_eq_true] at hc
  obtain ⟨⟨hp, h2⟩, h3⟩ := hc
  have hp := of_decide_eq_true hp
  have Sx := scope_of h2
  obtain ⟨v7, o2, v1, v2, v3, v4, o1, v5, v6, sl, rfl, hK, hC, _, _⟩ := F.ex
  refine ⟨by rw [hp]; rfl, fun A out s H ar Q E a oe c r φ st gd room hpin hz hf hm en bind rt po => ?_⟩
  have hq := List.all_eq_true.mp hkh (c, r) hm
  rw [Bool.and_eq_true, Bool.and_eq_true, List.all_eq_true] at hq
  obtain ⟨⟨q1, q2⟩, q3⟩ := hq
  have inK : K.In s.heap := en.mod.kin.keeps fun b o z => (en.bs b o z).1
  have free : s.heap.NoLimit := en.mod.nolimit.keeps fun b o z => (en.bs b o z).1
  have kinds : ∀ y ∈ p.zip [Value.ref a], d.scope.names.lookup y.1 = some .local ∨ (d.scope.names.lookup y.1 = some .cell ∧ ((cellsFrom (s.heap.objs.size + 1) d.scope.names []).lookup y.1).isSome = true) := by
    rintro ⟨n, v⟩ hy
    exact (Sx.par n (List.of_mem_zip hy).1).imp id fun q => ⟨q, PySem.W.cellsFrom_some _ _ _ (.inl q)⟩
  have hdep : A.depth < recursionLimit := by have := room.dp; omega
  refine codeAny_call_function hdep (inK _ _ hK) rfl Sx.co Sx.gen rfl (PySem.W.codeRec_of inK hC) (bind _ _ _ _ (wpAny_newFunctionEnv_cells Sx.kind kinds fun env hv t1 cl => ?_))
  subst hv
  let X : Cx := L2H.cxH (L2.CX P w) P w K mg base [k.er, k.nn, k.ff] d.qual d.scope a0 v5 A out s H E (a, oe)
  have I0 : Inv X [] (L2.start [k.er, k.nn, k.ff] [.ref a]) H t1 := L2H.inv_startH (CX := L2.CX P w) (E := E) (qual := d.qual) (f := a0) (cd := v5) Sx hpin en (by rw [hp]; rfl) (.cons rfl .nil) cl
  have hkv : kindV k ((k.c1 ++ k.c2).map (gOf subs c)) (k.mo.map (gOf subs c)) = some r := by
    split at q3
    · rename_i d' e
      rw [e, eqP_eq _ _ q3]
    · cases q3
  obtain ⟨m, runs, hm2⟩ := kind_ss (X := X) (W := fun cls dd _ H' => False) (C := He.ga K) (S := ⟨[k.er, k.nn, k.ff], d.scope, fun _ => true⟩) h3 (a := a) (oe := oe) rfl rfl rfl (by have := room.un; show A.units + 3 + 64 < _; omega) (he c (List.contains_iff_mem.mp q1)) List.mem_cons_self hz hf (hb "isinstance" (by decide +kernel)) (gOf subs c) (fun y hy => by
      have hy' : y ∈ k.c1 ++ k.c2 ++ k.mo.toList := by
        rcases hy with z | z | z
        · simp [z]
        · simp [z]
        · simp [z]
      have z := q2 y hy'
      rw [Bool.and_eq_true] at z
      exact ⟨_, hx y (List.contains_iff_mem.mp z.1), hs (c, y, gOf subs c y) (List.contains_iff_mem.mp z.2)⟩) hkv
  have want : rdS X.K (He.ga K) (fun cls dd _ H' => False) m { nx := fun _ H' => Q .non H', rt := Q } (L2.start [k.er, k.nn, k.ff] [.ref a]) H := by
    refine ⟨[some (.x a), none, none], st, φ, ⟨rfl, fun i v e => ?_⟩, rt, ?_⟩
    · match i, e with
      | 0, e => cases e; exact ⟨.ref a, rfl, .x⟩
      | 1, e => cases e
      | 2, e => cases e
      | _ + 3, e => cases e
    · rw [hm2]
      exact fun x H' φ' s' rt' rv => po x H' φ' s' rt' rv
  refine ⟨free.keeps cl.toInCall.keep, codeAny_func (wpAny_mono (runs.run [] t1 _ H _ I0 want) (fun fl s2 z => ?_) fun e s2 z => z)⟩
  have done : ∀ {σ2 : L2.St} {H2 : Hp} {x : V} {u : Value}, Inv X [] σ2 H2 s2 → RelV x u → Q x H2 → CE out P w H s Q u s2 :=
    fun {σ2 H2 x u} J rx qx => ⟨x, H2, J.os, J.bare, J.base, J.hok, rx, qx⟩
  cases fl with
  | ret u => obtain ⟨x, σ2, H2, J, rx, qx⟩ := z; exact done J rx qx
  | next => obtain ⟨σ2, H2, J, qx⟩ := z; exact done (x := V.non) (u := Value.none) J rfl qx
  | brk => obtain ⟨_, _, _, q⟩ := z; exact False.elim q
  | cont => obtain ⟨_, _, _, q⟩ := z; exact False.elim q
/-- all that is to be checked of a law's tables -/
def allB (D : LawD) (k : KD) (ec : List Str) (subs : List Sub3) : Bool := chkDs D.lw D.irs D.dd D.NN D.PP && khB k D.exs ec subs D.kh && ((D.dd.zip D.PP).all fun q => !(q.1.name == D.knm) || (kfB k q.1 q.2 && q.1.dfl.isEmpty && q.1.kwd.isEmpty && q.1.at_ == (q.1.name, none))) && (D.kh.isEmpty || (D.dd.zip D.PP).any fun q => q.1.name == D.knm)
theorem bd_of : ∀ {l : List (He.DefD × List Str)}, AllBD l → ∀ q ∈ l, BD q.1 q.2
  | [], _, q, h => by cases h
  | p :: r, hb, q, h => by
    rcases List.mem_cons.mp h with rfl | h
    · exact hb.1
    · exact bd_of hb.2 q h
theorem law_stat {K : PySem.W.Frag} {h : Heap} {mg : Str → Option Value} {D : LawD} {k : KD} {ec : List Str} {subs : List Sub3} (X : K.In h) (G : h.Ns mainGlobals mg) (c : He.SaysD D.fa D.dd K) (ex : exB D.cst ec subs K = true) (hc : allB D k ec subs = true) (hb : AllBD (D.dd.zip D.PP)) : Stat K mg D.lw (He.ga K) := by
  unfold allB at hc
  rw [Bool.and_eq_true, Bool.and_eq_true, Bool.and_eq_true, List.all_eq_true] at hc
  obtain ⟨⟨⟨h1, h2⟩, h3⟩, h4⟩ := hc
  have kd : ∀ d p, (d, p) ∈ D.dd.zip D.PP → d.name = D.knm → kfB k d p = true ∧ d.dfl = [] ∧ d.kwd = [] ∧ d.at_ = (d.name, none) := fun d p hm hn => by
    have q := h3 (d, p) hm
    rw [Bool.or_eq_true] at q
    rcases q with q | q
    · simp [hn] at q
    · simp only [Bool.and_eq_true] at q
      exact ⟨q.1.1.1, List.isEmpty_iff.mp q.1.1.2, List.isEmpty_iff.mp q.1.2, eq_of_beq q.2⟩
  refine stat_of X G c ex h1 hb (fun P w base n a fd d p hm hn F he hs hbl hxs => fnK_of (kd d p hm hn).1 h2 F he hs hbl hxs) ?_
  rw [Bool.or_eq_true] at h4
  rcases h4 with z | z
  · exact .inl z
  · obtain ⟨⟨d, p⟩, hm, hn⟩ := List.any_eq_true.mp z
    have hn : d.name = D.knm := eq_of_beq hn
    obtain ⟨_, k2, k3, k4⟩ := kd d p hm hn
    exact .inr ⟨d, p, hm, hn, k2, k3, k4, bd_of hb _ hm⟩
/-- a law, from its meaning -/
theorem law_walk {l : PySem.W.OpenLaw} {n dep : Nat} {q : Program} {loose : List Str} {XP : (Str → Option Value) → Heap → Prop} {d : DefRec} {D : LawD} {k : KD} {ec : List Str} {subs : List Sub3} {lim j : Nat} {f : FnIR}
    (hn : l.most = some n) (hn2 : n ≤ sizeLine) (hdf : d.params.defaults = []) (hr : Room (dep + 2) callerA) (hc : allB D k ec subs = true) (hb : AllBD (D.dd.zip D.PP)) (hj : D.irs[j]? = some f) (hnp : f.np = 1) (hnm : d.name = D.lw.nm j)
    (H : ∀ ns : List Int, ns.length ≤ n → ∃ st, FT D.lw.tab (dep + 1) j [.f (ns.map PyData.int)] [] = .ok (.p (.bool true)) st) :
    PySem.W.WalkO q loose XP (fun w h => (hookE lim D.fa D.dd (exB D.cst ec subs)).says w h) l.row.toRowW d [] (fun f vs => PySem.call f vs) := by
  refine walkG hn hn2 hdf hr fun w mg fa h ⟨K, KX, c1, c2⟩ G hm => ?_
  have S := law_stat KX G c1 c2 hc hb
  obtain ⟨a, fd, ps, m1, bi, hl, hF⟩ := top_fn (base := h) (P := l.prog) (w := w) S dep hj
  have ea : some (Value.ref fa) = some (Value.ref a) := by rw [← hm, ← m1, hnm]
  cases ea
  obtain ⟨x, hx⟩ : ∃ x, ps = [x] := by
    rw [hnp] at hl
    match ps, hl with
    | [x], _ => exact ⟨x, rfl⟩
  subst hx
  refine ⟨K, He.ga K, fd, FT D.lw.tab (dep + 1) j, x, KX, bi, H, fun base => ?_⟩
  have q := hF base
  rw [hnp] at q
  exact q
end Rk

set_option Elab.async false
set_option linter.all false
set_option maxRecDepth 100000
set_option maxHeartbeats 1000000
namespace Rk
open PySem
/-! ### evaluation, node by node -/
section
variable {T : Nat → Fn} {e : Env} {st : Store} {α β : Type}
theorem bind_ok {a : α} {f : α → M β} : Rs.bind (.ok a st) f = f a st := id rfl
theorem bind_ex {c : Str} {f : α → M β} : Rs.bind (.ex c st : Rs α) f = .ex c st := id rfl
theorem bind_no {f : α → M β} : Rs.bind (.no : Rs α) f = .no := id rfl
def D1 (v : Val) (st : Store) (f : PyData → M Val) : Rs Val := match asD v st with
  | some d => f d st
  | none => .no
theorem D1_p {d : PyData} {f : PyData → M Val} : D1 (.p d) st f = f d st := id rfl
theorem as_l {k : Nat} {xs : List PyData} (h : st[k]? = some xs) : asD (.l k) st = some (.list xs) := by
  show (st[k]?).map PyData.list = _
  rw [h]
  rfl
theorem as_p {d : PyData} : asD (.p d) st = some d := id rfl
theorem D1_l {k : Nat} {f : PyData → M Val} {xs : List PyData} (h : st[k]? = some xs) : D1 (.l k) st f = f (.list xs) st := by
  unfold D1
  rw [as_l h]
def D2 (v u : Val) (st : Store) (f : PyData → PyData → M Val) : Rs Val := match asD v st, asD u st with
  | some d, some d' => f d d' st
  | _, _ => .no
theorem D2_pp {x y : PyData} {f : PyData → PyData → M Val} : D2 (.p x) (.p y) st f = f x y st := id rfl
theorem D2_lp {k : Nat} {y : PyData} {f : PyData → PyData → M Val} {xs : List PyData} (h : st[k]? = some xs) : D2 (.l k) (.p y) st f = f (.list xs) y st := by
  unfold D2
  rw [as_l h, as_p]
theorem D2_pl {k : Nat} {y : PyData} {f : PyData → PyData → M Val} {xs : List PyData} (h : st[k]? = some xs) : D2 (.p y) (.l k) st f = f y (.list xs) st := by
  unfold D2
  rw [as_l h, as_p]
theorem D2_ll {k l : Nat} {f : PyData → PyData → M Val} {xs ys : List PyData} (h : st[k]? = some xs) (h2 : st[l]? = some ys) : D2 (.l k) (.l l) st f = f (.list xs) (.list ys) st := by
  unfold D2
  rw [as_l h, as_l h2]
theorem mD_some {m : Bool} {d : PyData} : mD m (some d) st = mkD m d st := id rfl
theorem mkD_f {d : PyData} : mkD false d st = .ok (.p d) st := id rfl
theorem mkD_tl {xs : List PyData} : mkD true (.list xs) st = .ok (.l st.length) (st ++ [xs]) := id rfl
theorem pD_some {d : PyData} : pD (some d) st = .ok (.p d) st := id rfl
theorem dE_cst {d : PyData} : denE T (.cst d) e st = .ok (.p d) st := id rfl
theorem dE_glob {x : Str} {d : PyData} : denE T (.glob x d) e st = .ok (.p d) st := id rfl
def vR (o : Option (Option Val)) (st : Store) : Rs Val := match o with
  | some (some v) => .ok v st
  | _ => .no
theorem vR_ok {v : Val} : vR (some (some v)) st = .ok v st := id rfl
theorem dE_var {i : Nat} : denE T (.var i) e st = vR e[i]? st := id rfl
theorem dE_bin {m : Bool} {op : Operator} {a b : E} : denE T (.bin m op a b) e st = (denE T a e st).bind fun v st1 => (denE T b e st1).bind fun u st2 => D2 v u st2 fun x y => mD m (binD op x y) := id rfl
def negV : PyData → M Val
  | .int i => M.ret (.p (.int (-i)))
  | _ => M.no
theorem negV_int {i : Int} : negV (.int i) st = .ok (.p (.int (-i))) st := id rfl
theorem dE_neg {a : E} : denE T (.neg a) e st = (denE T a e st).bind fun v st1 => D1 v st1 negV := by
  show (denE T a e st).bind _ = (denE T a e st).bind _
  congr 1
/-- a value's truth -/
def tR (v : Val) (st : Store) : Rs Bool := match truV v st with
  | some b => .ok b st
  | none => .no
theorem tR_bool {b : Bool} : tR (.p (.bool b)) st = .ok b st := id rfl
theorem tR_int {i : Int} : tR (.p (.int i)) st = .ok (i != 0) st := id rfl
theorem tR_none : tR (.p .none) st = .ok false st := id rfl
theorem tR_list {xs : List PyData} : tR (.p (.list xs)) st = .ok (!xs.isEmpty) st := id rfl
theorem tR_tup {xs : List PyData} : tR (.p (.tuple xs)) st = .ok (!xs.isEmpty) st := id rfl
theorem tR_l {k : Nat} {xs : List PyData} (h : st[k]? = some xs) : tR (.l k) st = .ok (!xs.isEmpty) st := by
  unfold tR truV
  rw [as_l h]
  rfl
/-- a truth that is asked for -/
theorem tru_E {r : M Val} : M.tru r st = (r st).bind tR := id rfl
theorem dE_not {a : E} : denE T (.not a) e st = (denE T a e st).bind fun v st1 => (tR v st1).bind fun b st2 => .ok (.p (.bool (!b))) st2 := by
  show (((denE T a e st).bind tR).bind fun b st => (Rs.ok (!b) st : Rs Bool)).bind (fun b st => (Rs.ok (Val.p (.bool b)) st : Rs Val)) = _
  cases denE T a e st with
  | ok v st1 => 
    show (((tR v st1)).bind fun b st => (Rs.ok (!b) st : Rs Bool)).bind (fun b st => (Rs.ok (Val.p (.bool b)) st : Rs Val)) = (tR v st1).bind _
    cases tR v st1 <;> rfl
  | ex c st1 => rfl
  | no => rfl
def andR (v : Val) (b : Bool) (r : Rs Val) (st : Store) : Rs Val := if b then r else .ok v st
def orR (v : Val) (b : Bool) (r : Rs Val) (st : Store) : Rs Val := if b then .ok v st else r
theorem andR_t {v : Val} {r : Rs Val} : andR v true r st = r := id rfl
theorem andR_f {v : Val} {r : Rs Val} : andR v false r st = .ok v st := id rfl
theorem orR_t {v : Val} {r : Rs Val} : orR v true r st = .ok v st := id rfl
theorem orR_f {v : Val} {r : Rs Val} : orR v false r st = r := id rfl
theorem andR_b {b c : Bool} : andR (.p (.bool b)) b (.ok (.p (.bool c)) st) st = .ok (.p (.bool (b && c))) st := by cases b <;> rfl
theorem orR_b {b c : Bool} : orR (.p (.bool b)) b (.ok (.p (.bool c)) st) st = .ok (.p (.bool (b || c))) st := by cases b <;> rfl
theorem dE_and {a b : E} : denE T (.and a b) e st = (denE T a e st).bind fun v st1 => (tR v st1).bind fun k st2 => andR v k (denE T b e st2) st2 := by
  show (denE T a e st).bind _ = (denE T a e st).bind _
  congr 1
  funext v st1
  unfold tR
  cases h : truV v st1 with
  | none => rfl
  | some k => cases k <;> rfl
theorem dE_or {a b : E} : denE T (.or a b) e st = (denE T a e st).bind fun v st1 => (tR v st1).bind fun k st2 => orR v k (denE T b e st2) st2 := by
  show (denE T a e st).bind _ = (denE T a e st).bind _
  congr 1
  funext v st1
  unfold tR
  cases h : truV v st1 with
  | none => rfl
  | some k => cases k <;> rfl
def oB (o : Option Bool) (st : Store) : Rs Val := match o with
  | some b => .ok (.p (.bool b)) st
  | none => .no
theorem oB_some {b : Bool} : oB (some b) st = .ok (.p (.bool b)) st := id rfl
theorem dE_cmp {op : CmpOp} {a b : E} : denE T (.cmp op a b) e st = (denE T a e st).bind fun v st1 => (denE T b e st1).bind fun u st2 => D2 v u st2 fun x y st3 => oB (cmpD op x y) st3 := by
  show (((denE T a e st).bind _)).bind _ = _
  cases denE T a e st with
  | ex c st1 => rfl
  | no => rfl
  | ok v st1 =>
    show (((denE T b e st1).bind _)).bind _ = (denE T b e st1).bind _
    cases denE T b e st1 with
    | ex c st1 => rfl
    | no => rfl
    | ok u st2 =>
      show Rs.bind (match asD v st2, asD u st2 with
        | some d, some d' => (match cmpD op d d' with
          | some b => .ok b st2
          | none => .no)
        | _, _ => .no) _ = D2 v u st2 _
      unfold D2
      cases asD v st2 with
      | none => rfl
      | some d =>
        cases asD u st2 with
        | none => rfl
        | some d' =>
          show Rs.bind (match cmpD op d d' with
            | some b => .ok b st2
            | none => .no) _ = oB (cmpD op d d') st2
          cases cmpD op d d' <;> rfl
/-- a op b op' c -/
def chR (b : Bool) (r : Rs Val) (st : Store) : Rs Val := if b then r else .ok (.p (.bool false)) st
theorem chR_t {r : Rs Val} : chR true r st = r := id rfl
theorem chR_f {r : Rs Val} : chR false r st = .ok (.p (.bool false)) st := id rfl
theorem chR_b {b c : Bool} : chR b (.ok (.p (.bool c)) st) st = .ok (.p (.bool (b && c))) st := by cases b <;> rfl
def oC (o : Option Bool) (st : Store) (f : Bool → Rs Val) : Rs Val := match o with
  | some b => f b
  | none => .no
theorem oC_some {b : Bool} {f : Bool → Rs Val} : oC (some b) st f = f b := id rfl
theorem dE_chain {op op' : CmpOp} {a b c : E} : denE T (.chain op op' a b c) e st = (denE T a e st).bind fun v st1 => (denE T b e st1).bind fun u st2 => D2 v u st2 fun x y st3 => oC (cmpD op x y) st3 fun k => chR k ((denE T c e st3).bind fun w st4 => D2 u w st4 fun x y st5 => oB (cmpD op' x y) st5) st3 := by
  show M.b (chB (denE T a e) (denE T b e) (denE T c e) (cmpD op) (cmpD op')) st = _
  unfold M.b chB M.bind
  cases denE T a e st with
  | ex c st1 => rfl
  | no => rfl
  | ok v st1 =>
    simp only [Rs.bind]
    cases denE T b e st1 with
    | ex c st1 => rfl
    | no => rfl
    | ok u st2 =>
      simp only [D2]
      cases asD v st2 with
      | none => rfl
      | some d =>
        cases hu : asD u st2 with
        | none => rfl
        | some d' =>
          dsimp only
          cases cmpD op d d' with
          | none => rfl
          | some k =>
            cases k with
            | false => rfl
            | true =>
              simp only [oC, chR, if_true]
              cases denE T c e st2 with
              | ex c st1 => rfl
              | no => rfl
              | ok w st3 =>
                simp only [D2]
                cases asD u st3 with
                | none => rfl
                | some d =>
                  cases asD w st3 with
                  | none => rfl
                  | some d' =>
                    dsimp only
                    cases h : cmpD op' d d' <;> simp [oB, M.ret]
def ifR {α : Type} (b : Bool) (x y : α) : α := if b then x else y
theorem ifR_t {x y : α} : ifR true x y = x := id rfl
theorem ifR_f {x y : α} : ifR false x y = y := id rfl
theorem dE_ife {c a b : E} : denE T (.ife c a b) e st = (denE T c e st).bind fun v st1 => (tR v st1).bind fun k st2 => ifR k (denE T a e st2) (denE T b e st2) := by
  show (((denE T c e st).bind tR)).bind _ = _
  cases denE T c e st with
  | ex c st1 => rfl
  | no => rfl
  | ok v st1 =>
    show (tR v st1).bind _ = (tR v st1).bind _
    congr 1
    funext k st2
    cases k <;> rfl
theorem dE_call {j : Nat} {as : Es} : denE T (.call j as) e st = (denEs T as e st).bind fun vs st1 => T j vs st1 := id rfl
theorem dE_b1 {m : Bool} {f : B1} {a : E} : denE T (.b1 m f a) e st = (denE T a e st).bind fun v st1 => D1 v st1 fun x => mD m (b1D f x) := id rfl
theorem dE_b2 {f : B2} {a b : E} : denE T (.b2 f a b) e st = (denE T a e st).bind fun v st1 => (denE T b e st1).bind fun u st2 => D2 v u st2 fun x y => pD (b2D f x y) := id rfl
theorem dE_idx {a i : E} : denE T (.idx a i) e st = (denE T a e st).bind fun v st1 => (denE T i e st1).bind fun u st2 => D2 v u st2 fun x y => pD (idxD x y) := id rfl
theorem dE_isi {t : Ty} {a : E} : denE T (.isi t a) e st = (denE T a e st).bind fun v st1 => D1 v st1 fun x st2 => oB (tyD t x) st2 := by
  show (((denE T a e st).bind _)).bind _ = _
  cases denE T a e st with
  | ex c st1 => rfl
  | no => rfl
  | ok v st1 =>
    show Rs.bind (match asD v st1 with
      | some d => (match tyD t d with
        | some b => .ok b st1
        | none => .no)
      | none => .no) _ = D1 v st1 _
    unfold D1
    cases asD v st1 with
    | none => rfl
    | some d =>
      show Rs.bind (match tyD t d with
        | some b => .ok b st1
        | none => .no) _ = oB (tyD t d) st1
      cases tyD t d <;> rfl
/-- values that are data -/
def tupR (vs : List Val) (st : Store) : Rs Val := match datsV vs st with
  | some ds => if ds.length ≤ sizeLine then .ok (.p (.tuple ds)) st else .no
  | none => .no
def lstR (m : Bool) (vs : List Val) (st : Store) : Rs Val := match datsV vs st with
  | some ds => if ds.length ≤ sizeLine then mkL m ds st else .no
  | none => .no
theorem dats_nil : datsV [] st = some [] := id rfl
theorem dats_cons {d : PyData} {r : List Val} : datsV (.p d :: r) st = (datsV r st).map (d :: ·) := id rfl
theorem tupR_ok {vs : List Val} {ds : List PyData} (h : datsV vs st = some ds) (hl : ds.length ≤ 100000) : tupR vs st = .ok (.p (.tuple ds)) st := by
  unfold tupR
  rw [h]
  dsimp only
  rw [if_pos (Nat.le_trans hl (by decide))]
theorem lstR_ok {vs : List Val} {ds : List PyData} (h : datsV vs st = some ds) (hl : ds.length ≤ 100000) : lstR false vs st = .ok (.p (.list ds)) st := by
  unfold lstR
  rw [h]
  dsimp only
  rw [if_pos (Nat.le_trans hl (by decide))]
  rfl
theorem lstR_ok2 {vs : List Val} {ds : List PyData} (h : datsV vs st = some ds) (hl : ds.length ≤ 100000) : lstR true vs st = .ok (.l st.length) (st ++ [ds]) := by
  unfold lstR
  rw [h]
  dsimp only
  rw [if_pos (Nat.le_trans hl (by decide))]
  rfl
section
variable {st : Store}
theorem tp0 : tupR [] st = .ok (.p (.tuple [])) st := tupR_ok rfl (by simp)
theorem ls0 : lstR false [] st = .ok (.p (.list [])) st := lstR_ok rfl (by simp)
theorem tp1 {a : PyData} : tupR [.p a] st = .ok (.p (.tuple [a])) st := tupR_ok rfl (by simp)
theorem ls1 {a : PyData} : lstR false [.p a] st = .ok (.p (.list [a])) st := lstR_ok rfl (by simp)
theorem tp2 {a b : PyData} : tupR [.p a, .p b] st = .ok (.p (.tuple [a, b])) st := tupR_ok rfl (by simp)
theorem ls2 {a b : PyData} : lstR false [.p a, .p b] st = .ok (.p (.list [a, b])) st := lstR_ok rfl (by simp)
theorem tp3 {a b c : PyData} : tupR [.p a, .p b, .p c] st = .ok (.p (.tuple [a, b, c])) st := tupR_ok rfl (by simp)
theorem ls3 {a b c : PyData} : lstR false [.p a, .p b, .p c] st = .ok (.p (.list [a, b, c])) st := lstR_ok rfl (by simp)
theorem tp4 {a b c d : PyData} : tupR [.p a, .p b, .p c, .p d] st = .ok (.p (.tuple [a, b, c, d])) st := tupR_ok rfl (by simp)
theorem ls4 {a b c d : PyData} : lstR false [.p a, .p b, .p c, .p d] st = .ok (.p (.list [a, b, c, d])) st := lstR_ok rfl (by simp)
theorem tp5 {a b c d e : PyData} : tupR [.p a, .p b, .p c, .p d, .p e] st = .ok (.p (.tuple [a, b, c, d, e])) st := tupR_ok rfl (by simp)
theorem ls5 {a b c d e : PyData} : lstR false [.p a, .p b, .p c, .p d, .p e] st = .ok (.p (.list [a, b, c, d, e])) st := lstR_ok rfl (by simp)
theorem tp6 {a b c d e f : PyData} : tupR [.p a, .p b, .p c, .p d, .p e, .p f] st = .ok (.p (.tuple [a, b, c, d, e, f])) st := tupR_ok rfl (by simp)
theorem ls6 {a b c d e f : PyData} : lstR false [.p a, .p b, .p c, .p d, .p e, .p f] st = .ok (.p (.list [a, b, c, d, e, f])) st := lstR_ok rfl (by simp)
theorem tp7 {a b c d e f g : PyData} : tupR [.p a, .p b, .p c, .p d, .p e, .p f, .p g] st = .ok (.p (.tuple [a, b, c, d, e, f, g])) st := tupR_ok rfl (by simp)
theorem ls7 {a b c d e f g : PyData} : lstR false [.p a, .p b, .p c, .p d, .p e, .p f, .p g] st = .ok (.p (.list [a, b, c, d, e, f, g])) st := lstR_ok rfl (by simp)
theorem tp8 {a b c d e f g h : PyData} : tupR [.p a, .p b, .p c, .p d, .p e, .p f, .p g, .p h] st = .ok (.p (.tuple [a, b, c, d, e, f, g, h])) st := tupR_ok rfl (by simp)
theorem ls8 {a b c d e f g h : PyData} : lstR false [.p a, .p b, .p c, .p d, .p e, .p f, .p g, .p h] st = .ok (.p (.list [a, b, c, d, e, f, g, h])) st := lstR_ok rfl (by simp)
theorem tp9 {a b c d e f g h i : PyData} : tupR [.p a, .p b, .p c, .p d, .p e, .p f, .p g, .p h, .p i] st = .ok (.p (.tuple [a, b, c, d, e, f, g, h, i])) st := tupR_ok rfl (by simp)
theorem ls9 {a b c d e f g h i : PyData} : lstR false [.p a, .p b, .p c, .p d, .p e, .p f, .p g, .p h, .p i] st = .ok (.p (.list [a, b, c, d, e, f, g, h, i])) st := lstR_ok rfl (by simp)
theorem tp10 {a b c d e f g h i j : PyData} : tupR [.p a, .p b, .p c, .p d, .p e, .p f, .p g, .p h, .p i, .p j] st = .ok (.p (.tuple [a, b, c, d, e, f, g, h, i, j])) st := tupR_ok rfl (by simp)
theorem ls10 {a b c d e f g h i j : PyData} : lstR false [.p a, .p b, .p c, .p d, .p e, .p f, .p g, .p h, .p i, .p j] st = .ok (.p (.list [a, b, c, d, e, f, g, h, i, j])) st := lstR_ok rfl (by simp)
theorem tp11 {a b c d e f g h i j k : PyData} : tupR [.p a, .p b, .p c, .p d, .p e, .p f, .p g, .p h, .p i, .p j, .p k] st = .ok (.p (.tuple [a, b, c, d, e, f, g, h, i, j, k])) st := tupR_ok rfl (by simp)
theorem ls11 {a b c d e f g h i j k : PyData} : lstR false [.p a, .p b, .p c, .p d, .p e, .p f, .p g, .p h, .p i, .p j, .p k] st = .ok (.p (.list [a, b, c, d, e, f, g, h, i, j, k])) st := lstR_ok rfl (by simp)
theorem tp12 {a b c d e f g h i j k l : PyData} : tupR [.p a, .p b, .p c, .p d, .p e, .p f, .p g, .p h, .p i, .p j, .p k, .p l] st = .ok (.p (.tuple [a, b, c, d, e, f, g, h, i, j, k, l])) st := tupR_ok rfl (by simp)
theorem ls12 {a b c d e f g h i j k l : PyData} : lstR false [.p a, .p b, .p c, .p d, .p e, .p f, .p g, .p h, .p i, .p j, .p k, .p l] st = .ok (.p (.list [a, b, c, d, e, f, g, h, i, j, k, l])) st := lstR_ok rfl (by simp)
end
theorem dE_tup {as : Es} : denE T (.tup as) e st = (denEs T as e st).bind tupR := id rfl
theorem dE_lst {m : Bool} {as : Es} : denE T (.lst m as) e st = (denEs T as e st).bind (lstR m) := id rfl
theorem dEs_nil : denEs T .nil e st = .ok [] st := id rfl
theorem dEs_cons {a : E} {r : Es} : denEs T (.cons a r) e st = (denE T a e st).bind fun v st1 => (denEs T r e st1).bind fun vs st2 => .ok (v :: vs) st2 := id rfl
theorem dT_none : denT T .none e st = .ok true st := id rfl
theorem dT_some {a : E} : denT T (.some a) e st = (denE T a e st).bind tR := id rfl
/-! statements -/
def nxS (r : RsS) (f : Env → Store → RsS) : RsS := match r with
  | .ok (.nx e1) st1 => f e1 st1
  | r => r
theorem nxS_nx {e1 : Env} {f : Env → Store → RsS} : nxS (.ok (.nx e1) st) f = f e1 st := id rfl
theorem nxS_rt {v : Val} {f : Env → Store → RsS} : nxS (.ok (.rt v) st) f = .ok (.rt v) st := id rfl
theorem nxS_ex {c : Str} {f : Env → Store → RsS} : nxS (.ex c e st) f = .ex c e st := id rfl
theorem nxS_bk {e1 : Env} {f : Env → Store → RsS} : nxS (.ok (.bk e1) st) f = .ok (.bk e1) st := id rfl
theorem nxS_ct {e1 : Env} {f : Env → Store → RsS} : nxS (.ok (.ct e1) st) f = .ok (.ct e1) st := id rfl
theorem dSs_nil : denSs T .nil e st = .ok (.nx e) st := id rfl
theorem dSs_cons {s : S} {r : Ss} : denSs T (.cons s r) e st = nxS (denS T s e st) (denSs T r) := id rfl
theorem lift_ok {a : α} {f : α → Store → RsS} : lift e (.ok a st) f = f a st := id rfl
theorem lift_ex {c : Str} {f : α → Store → RsS} : lift e (.ex c st) f = .ex c e st := id rfl
def oE (o : Option Env) (st : Store) : RsS := match o with
  | some e1 => .ok (.nx e1) st
  | none => .no
theorem oE_some {e1 : Env} : oE (some e1) st = .ok (.nx e1) st := id rfl
theorem dS_asg {t : Tg} {a : E} : denS T (.asg t a) e st = lift e (denE T a e st) fun v st1 => oE (tgtV t v e st1) st1 := id rfl
theorem dS_par {is : List Nat} {as : Es} : denS T (.par is as) e st = lift e (denEs T as e st) fun vs st1 => oE (setAll is vs e) st1 := id rfl
theorem dS_ret {a : E} : denS T (.ret a) e st = lift e (denE T a e st) fun v st1 => .ok (.rt v) st1 := id rfl
theorem dS_retN : denS T .retN e st = .ok (.rt (.p .none)) st := id rfl
theorem dS_ex {a : E} : denS T (.ex a) e st = lift e (denE T a e st) fun _ st1 => .ok (.nx e) st1 := id rfl
theorem dS_raise {c : Str} : denS T (.raise c) e st = .ex c e st := id rfl
theorem dS_brk : denS T .brk e st = .ok (.bk e) st := id rfl
theorem dS_cnt : denS T .cnt e st = .ok (.ct e) st := id rfl
theorem dS_pass : denS T .pass e st = .ok (.nx e) st := id rfl
theorem dS_ife {c : E} {a b : Ss} : denS T (.ife c a b) e st = lift e ((denE T c e st).bind tR) fun k st1 => ifR k (denSs T a e st1) (denSs T b e st1) := by
  show lift e ((denE T c e st).bind tR) _ = _
  congr 1
theorem dS_for {t : Tg} {it : It} {b : Ss} : denS T (.for_ t it b) e st = lift e (denI T it e st) fun xs st1 => forL (fun d e => tgt t d e) (fun e st => denSs T b e st) xs e st1 := id rfl
theorem dS_for_run {t : Tg} {it : It} {b : Ss} {xs : List PyData} {st1 : Store} {r : RsS} (h : denI T it e st = .ok xs st1) (h2 : forL (fun d e => tgt t d e) (fun e st => denSs T b e st) xs e st1 = r) : denS T (.for_ t it b) e st = r := by
  rw [dS_for, h]
  exact h2
theorem dS_whl {c : E} {b : Ss} : denS T (.whl c b) e st = whlN (fun e st => (denE T c e st).bind tR) (fun e st => denSs T b e st) fuelW e st := id rfl
theorem tgt_nm {i : Nat} {v : Val} : tgtV (.nm i) v e st = some (e.set i (some v)) := id rfl
theorem wipe_nil : wipeE e [] = e := id rfl
theorem wipe_cons {i : Nat} {r : List Nat} : wipeE e (i :: r) = (wipeE e r).set i none := id rfl
theorem tgt1 {i : Nat} {d : PyData} : tgt (.nm i) d e = some (e.set i (some (.p d))) := id rfl
theorem tgt2 {i j : Nat} {a b : PyData} : tgtV (.tp [.nm i, .nm j]) (.p (.tuple [a, b])) e st = some ((e.set i (some (.p a))).set j (some (.p b))) := id rfl
theorem tgt3 {i j k : Nat} {a b c : PyData} : tgtV (.tp [.nm i, .nm j, .nm k]) (.p (.tuple [a, b, c])) e st = some (((e.set i (some (.p a))).set j (some (.p b))).set k (some (.p c))) := id rfl
theorem tgt4 {i j k l : Nat} {a b c d : PyData} : tgtV (.tp [.nm i, .nm j, .nm k, .nm l]) (.p (.tuple [a, b, c, d])) e st = some ((((e.set i (some (.p a))).set j (some (.p b))).set k (some (.p c))).set l (some (.p d))) := id rfl
theorem set_nil : setAll [] [] e = some e := id rfl
theorem set_cons {i : Nat} {is : List Nat} {v : Val} {vs : List Val} : setAll (i :: is) (v :: vs) e = (setAll is vs e).map fun e' => e'.set i (some v) := id rfl
/-! iterations -/
def iI (o : Option (List PyData)) (st : Store) : Rs (List PyData) := match o with
  | some xs => .ok xs st
  | none => .no
theorem iI_some {xs : List PyData} : iI (some xs) st = .ok xs st := id rfl
theorem ofO_eq {o : Option (List PyData)} : ofO o st = iI o st := by cases o <;> rfl
theorem dI_seq {a : E} : denI T (.seq a) e st = (denE T a e st).bind fun v st1 => iI (iterV v) st1 := by
  show (denE T a e st).bind _ = (denE T a e st).bind _
  congr 1
  funext v st1
  exact ofO_eq
def nI (o : Option Int) (st : Store) : Rs (List PyData) := match o with
  | some n => iI (rngD 0 n) st
  | none => .no
theorem nI_some {n : Int} : nI (some n) st = iI (rngD 0 n) st := id rfl
theorem dI_rng1 {a : E} : denI T (.rng1 a) e st = (denE T a e st).bind fun v st1 => nI (intV v) st1 := by
  show (denE T a e st).bind _ = (denE T a e st).bind _
  congr 1
  funext v st1
  cases h : intV v with
  | none => rfl
  | some n => exact ofO_eq
theorem int_int {i : Int} : intV (.p (.int i)) = some i := id rfl
theorem it_list {xs : List PyData} : iterV (.p (.list xs)) = some xs := id rfl
theorem it_tup {xs : List PyData} : iterV (.p (.tuple xs)) = some xs := id rfl
theorem it_f {xs : List PyData} : iterV (.f xs) = some xs := id rfl
/-! a def -/
theorem fin_p {rm : Bool} {n : Nat} {d : PyData} : fin rm n (.p d) st = .ok (.p d) (st.take n) := id rfl
def endF (rm : Bool) (n : Nat) (r : RsS) : Rs Val := match r with
  | .ok (.nx _) st1 => fin rm n (.p .none) st1
  | .ok (.rt v) st1 => fin rm n v st1
  | .ex c _ st1 => .ex c (st1.take n)
  | _ => .no
theorem endF_nx {rm : Bool} {n : Nat} : endF rm n (.ok (.nx e) st) = fin rm n (.p .none) st := id rfl
theorem endF_rt {rm : Bool} {n : Nat} {v : Val} : endF rm n (.ok (.rt v) st) = fin rm n v st := id rfl
theorem endF_ex {rm : Bool} {n : Nat} {c : Str} : endF rm n (.ex c e st) = .ex c (st.take n) := id rfl
theorem denF_eq {f : FnIR} {vs : List Val} (h : vs.length = f.np) : denF T f vs st = endF f.rm st.length (denSs T f.body (vs.map some ++ List.replicate (f.nn - f.np) none) st) := by
  unfold denF
  rw [if_pos h]
  rfl
end
/-! ### operations -/
theorem nat_c0 : ((0 : Nat) : Int) = 0 := id rfl
theorem nat_c1 : ((1 : Nat) : Int) = 1 := id rfl
theorem nat_c2 : ((2 : Nat) : Int) = 2 := id rfl
theorem nat_c3 : ((3 : Nat) : Int) = 3 := id rfl
theorem nat_c4 : ((4 : Nat) : Int) = 4 := id rfl
theorem nat_c5 : ((5 : Nat) : Int) = 5 := id rfl
theorem o_add {i j : Int} : binD .Add (.int i) (.int j) = some (.int (i + j)) := id rfl
theorem o_sub {i j : Int} : binD .Sub (.int i) (.int j) = some (.int (i - j)) := id rfl
theorem o_mul {i j : Int} (h : mulOk i j = true) : binD .Mult (.int i) (.int j) = some (.int (i * j)) := if_pos h
theorem o_mod {i j : Int} (h : 0 < j) : binD .Mod (.int i) (.int j) = some (.int (i % j)) := if_pos (decide_eq_true h)
theorem o_div {i j : Int} (h : divOk j = true) : binD .FloorDiv (.int i) (.int j) = some (.int (i / j)) := if_pos h
theorem c_lt {i j : Int} : cmpD .Lt (.int i) (.int j) = some (decide (i < j)) := id rfl
theorem c_le {i j : Int} : cmpD .LtE (.int i) (.int j) = some (decide (i ≤ j)) := id rfl
theorem c_gt {i j : Int} : cmpD .Gt (.int i) (.int j) = some (decide (j < i)) := id rfl
theorem c_ge {i j : Int} : cmpD .GtE (.int i) (.int j) = some (decide (j ≤ i)) := id rfl
theorem c_eqi {i j : Int} : cmpD .Eq (.int i) (.int j) = some (decide (i = j)) := by
  show some (PyData.eqv (.int i) (.int j)) = _
  congr 1
theorem c_nei {i j : Int} : cmpD .NotEq (.int i) (.int j) = some (!decide (i = j)) := by
  show some (!PyData.eqv (.int i) (.int j)) = _
  congr 1
theorem abs_eq (n : Int) : (if n < 0 then -n else n) = (n.natAbs : Int) := by split <;> omega
theorem u_abs {i : Int} : b1D .abs (.int i) = some (.int (i.natAbs : Int)) := by
  show some (PyData.int (if i < 0 then -i else i)) = _
  rw [abs_eq]
theorem c_isf {xs : List PyData} : cmpD .Is (.tuple xs) .none = some false := id rfl
theorem c_isn : cmpD .Is .none .none = some true := id rfl
theorem c_inf {xs : List PyData} : cmpD .IsNot (.tuple xs) .none = some true := id rfl
theorem c_inn : cmpD .IsNot .none .none = some false := id rfl
theorem c_iss {x : Str} : cmpD .Is (.str x) .none = some false := id rfl
theorem c_ins {x : Str} : cmpD .IsNot (.str x) .none = some true := id rfl
theorem u_int {i : Int} : b1D .int (.int i) = some (.int i) := id rfl
theorem u_lenl {xs : List PyData} : b1D .len (.list xs) = some (.int xs.length) := id rfl
theorem u_lent {xs : List PyData} : b1D .len (.tuple xs) = some (.int xs.length) := id rfl
theorem u_tupl {xs : List PyData} : b1D .tup (.list xs) = some (.tuple xs) := id rfl
theorem u_tupt {xs : List PyData} : b1D .tup (.tuple xs) = some (.tuple xs) := id rfl
/-- an item at a written place -/
theorem x_tup {xs : List PyData} {i : Int} : idxD (.tuple xs) (.int i) = L2.atI xs i := id rfl
theorem x_lst {xs : List PyData} {i : Int} : idxD (.list xs) (.int i) = L2.atI xs i := id rfl
theorem at_nat {α : Type} {xs : List α} {k : Nat} {x : α} (h : xs[k]? = some x) : L2.atI xs (k : Int) = some x := by
  have hk := (List.getElem?_eq_some_iff.mp h).1
  unfold L2.atI L2.ixN
  rw [if_pos (by omega), if_pos (by omega)]
  exact h
section
variable {α : Type} {x y z w : α}
theorem a1_0 : L2.atI [x] 0 = some x := id rfl
theorem a2_0 : L2.atI [x, y] 0 = some x := id rfl
theorem a2_1 : L2.atI [x, y] 1 = some y := id rfl
theorem a3_0 : L2.atI [x, y, z] 0 = some x := id rfl
theorem a3_1 : L2.atI [x, y, z] 1 = some y := id rfl
theorem a3_2 : L2.atI [x, y, z] 2 = some z := id rfl
theorem a4_0 : L2.atI [x, y, z, w] 0 = some x := id rfl
theorem a4_1 : L2.atI [x, y, z, w] 1 = some y := id rfl
theorem a4_2 : L2.atI [x, y, z, w] 2 = some z := id rfl
theorem a4_3 : L2.atI [x, y, z, w] 3 = some w := id rfl
end
/-! ### rules of loops -/
section
variable {test : Env → M Bool} {body : Env → Store → RsS} {tg : PyData → Env → Option Env}
theorem whl_succ {n : Nat} {e : Env} {st : Store} : whlN test body (n + 1) e st = lift e (test e st) fun b st1 => if b then (match body e st1 with
      | .ok (.nx e2) st2 => whlN test body n e2 st2
      | .ok (.ct e2) st2 => whlN test body n e2 st2
      | .ok (.bk e2) st2 => .ok (.nx e2) st2
      | .ok (.rt v) st2 => .ok (.rt v) st2
      | .ex c e2 st2 => .ex c e2 st2
      | .no => .no) else .ok (.nx e) st1 := id rfl
theorem whl_rule (P : Nat → Env → Store → Prop) (post : Env → Store → Prop)
    (step : ∀ m e st, P m e st → (test e st = .ok false st ∧ post e st) ∨ (test e st = .ok true st ∧ ∃ e2 st2 m', (body e st = .ok (.nx e2) st2 ∨ body e st = .ok (.ct e2) st2) ∧ m' < m ∧ P m' e2 st2)) :
    ∀ n m e st, m < n → P m e st → ∃ e2 st2, whlN test body n e st = .ok (.nx e2) st2 ∧ post e2 st2
  | 0, m, _, _, h, _ => absurd h (Nat.not_lt_zero m)
  | n + 1, m, e, st, h, hp => by
    rw [whl_succ]
    rcases step m e st hp with ⟨h1, h2⟩ | ⟨h1, e2, st2, m', h2, h3, h4⟩
    · rw [h1]
      exact ⟨e, st, rfl, h2⟩
    · rw [h1]
      obtain ⟨e3, st3, h5, h6⟩ := whl_rule P post step n m' e2 st2 (by omega) h4
      refine ⟨e3, st3, ?_, h6⟩
      rw [lift_ok, if_pos rfl]
      rcases h2 with h2 | h2 <;> rw [h2] <;> exact h5
theorem forL_go {x : PyData} {r : List PyData} {e e1 e2 : Env} {st st2 : Store} (h1 : tg x e = some e1) (h2 : body e1 st = .ok (.nx e2) st2) : forL tg body (x :: r) e st = forL tg body r e2 st2 := by
  conv => lhs; unfold forL
  rw [h1]
  dsimp only
  rw [h2]
theorem forL_goc {x : PyData} {r : List PyData} {e e1 e2 : Env} {st st2 : Store} (h1 : tg x e = some e1) (h2 : body e1 st = .ok (.ct e2) st2) : forL tg body (x :: r) e st = forL tg body r e2 st2 := by
  conv => lhs; unfold forL
  rw [h1]
  dsimp only
  rw [h2]
theorem forL_bk {x : PyData} {r : List PyData} {e e1 e2 : Env} {st st2 : Store} (h1 : tg x e = some e1) (h2 : body e1 st = .ok (.bk e2) st2) : forL tg body (x :: r) e st = .ok (.nx e2) st2 := by
  conv => lhs; unfold forL
  rw [h1]
  dsimp only
  rw [h2]
theorem forL_rt {x : PyData} {r : List PyData} {e e1 : Env} {v : Val} {st st2 : Store} (h1 : tg x e = some e1) (h2 : body e1 st = .ok (.rt v) st2) : forL tg body (x :: r) e st = .ok (.rt v) st2 := by
  conv => lhs; unfold forL
  rw [h1]
  dsimp only
  rw [h2]
theorem forL_nil {e : Env} {st : Store} : forL tg body [] e st = .ok (.nx e) st := id rfl
theorem fuel_big {m : Nat} (h : m < 2 ^ 9000) : m < fuelW := by unfold fuelW; exact h
/-- a for without an end of its own -/
theorem for_rule (P : Nat → Env → Store → Prop) : ∀ (xs : List PyData) (k : Nat) (e : Env) (st : Store), P k e st →
    (∀ i x e st, xs[i]? = some x → P (k + i) e st → ∃ e1 e2 st2, tg x e = some e1 ∧ (body e1 st = .ok (.nx e2) st2 ∨ body e1 st = .ok (.ct e2) st2) ∧ P (k + i + 1) e2 st2) →
    ∃ e2 st2, forL tg body xs e st = .ok (.nx e2) st2 ∧ P (k + xs.length) e2 st2
  | [], k, e, st, hp, _ => ⟨e, st, rfl, hp⟩
  | x :: xs, k, e, st, hp, step => by
    obtain ⟨e1, e2, st2, h1, h2, h3⟩ := step 0 x e st rfl hp
    obtain ⟨e3, st3, h4, h5⟩ := for_rule P xs (k + 1) e2 st2 h3 fun i x e st hx hp => by
      have hp' : P (k + (i + 1)) e st := by rw [show k + (i + 1) = k + 1 + i by omega]; exact hp
      obtain ⟨e1, e2, st2, q1, q2, q3⟩ := step (i + 1) x e st (by simpa using hx) hp'
      exact ⟨e1, e2, st2, q1, q2, by rw [show k + 1 + i + 1 = k + (i + 1) + 1 by omega]; exact q3⟩
    refine ⟨e3, st3, ?_, by rw [List.length_cons, show k + (xs.length + 1) = k + 1 + xs.length by omega]; exact h5⟩
    unfold forL
    rw [h1]
    dsimp only
    rcases h2 with h2 | h2 <;> rw [h2] <;> exact h4
end
end Rk

set_option Elab.async false
set_option linter.all false
set_option maxRecDepth 100000
set_option maxHeartbeats 1000000
set_option exponentiation.threshold 20000
namespace Rk
open PySem
local macro_rules | `(tactic| walk_at "ev") => `(tactic| simp only [tp0, ls0, tp1, ls1, tp2, ls2, tp3, ls3, tp4, ls4, tp5, ls5, tp6, ls6, tp7, ls7, tp8, ls8, tp9, ls9, tp10, ls10, tp11, ls11, tp12, ls12, denF_eq, dSs_nil, dSs_cons, nxS_nx, nxS_rt, nxS_ex, nxS_bk, nxS_ct, lift_ok, lift_ex, oE_some, dS_asg, dS_par, dS_ret, dS_retN, dS_ex, dS_raise, dS_brk, dS_cnt, dS_pass, dS_ife, tgt_nm, set_nil, set_cons, dI_seq, dI_rng1, nI_some, iI_some, int_int, it_list, it_tup, it_f, fin_p, endF_nx, endF_rt, endF_ex, bind_ok, bind_ex, D1_p, D2_pp, mD_some, mkD_f, pD_some, dE_cst, dE_glob, dE_var, vR_ok, dE_bin, dE_neg, negV_int, tR_bool, tR_int, tR_none, tR_list, tR_tup, dE_not, dE_and, dE_or, andR_t, andR_f, orR_t, orR_f, andR_b, orR_b, oB_some, dE_cmp, dE_chain, chR_t, chR_f, chR_b, oC_some, dE_ife, ifR_t, ifR_f, dE_call, dE_b1, dE_b2, dE_idx, dE_isi, dE_tup, dE_lst, dEs_nil, dEs_cons, dats_nil, dats_cons, dT_none, dT_some, o_add, o_sub, c_lt, c_le, c_gt, c_ge, c_eqi, c_nei, u_abs, u_int, u_lenl, u_lent, u_tupl, u_tupt, x_tup, x_lst, a1_0, a2_0, a2_1, a3_0, a3_1, a3_2, a4_0, a4_1, a4_2, a4_3, List.length_cons, List.length_nil, List.map_cons, List.map_nil, List.replicate, List.cons_append, List.nil_append, List.getElem?_cons_zero, List.getElem?_cons_succ, List.set_cons_zero, List.set_cons_succ, Option.map_some, Nat.reduceSub, Nat.reduceAdd, List.take_length, List.isEmpty_nil, List.isEmpty_cons, Bool.not_true, Bool.not_false])
/-! ### the greatest common part -/
def iCommon : FnIR := ⟨2, 2, false, (.cons (.whl (.var 1) (.cons (.par [0, 1] (.cons (.var 1) (.cons (.bin false .Mod (.var 0) (.var 1)) .nil))) .nil)) (.cons (.ret (.var 0)) .nil))⟩
theorem o_modN {a b : Nat} (h : 0 < b) : binD .Mod (.int (a : Int)) (.int (b : Int)) = some (.int ((a % b : Nat) : Int)) := (o_mod (by omega)).trans rfl
theorem common_ok {T : Nat → Fn} (a b : Nat) (hb : b < 2 ^ 9000) (st : Store) : denF T iCommon [.p (.int (a : Int)), .p (.int (b : Int))] st = .ok (.p (.int ((Nat.gcd a b : Nat) : Int))) st := by
  rw [denF_eq (by rfl)]
  show endF false st.length (denSs T (.cons _ _) [some (.p (.int (a : Int))), some (.p (.int (b : Int)))] st) = _
  rw [dSs_cons, dS_whl]
  obtain ⟨e2, st2, h1, a', ⟨rfl, rfl⟩, rfl⟩ := whl_rule (test := fun e st => (denE T (.var 1) e st).bind tR)
    (body := fun e st => denSs T (.cons (.par [0, 1] (.cons (.var 1) (.cons (.bin false .Mod (.var 0) (.var 1)) .nil))) .nil) e st)
    (fun m e st' => st' = st ∧ ∃ a' b' : Nat, e = [some (.p (.int (a' : Int))), some (.p (.int (b' : Int)))] ∧ b' = m ∧ Nat.gcd a' b' = Nat.gcd a b)
    (fun e st' => ∃ a' : Nat, (st' = st ∧ e = [some (.p (.int (a' : Int))), some (.p (.int 0))]) ∧ a' = Nat.gcd a b)
    (by
      rintro m e st' ⟨rfl, a', b', rfl, rfl, hg⟩
      rcases Nat.eq_zero_or_pos b' with rfl | hb'
      · exact .inl ⟨rfl, a', ⟨rfl, rfl⟩, by rw [← hg, Nat.gcd_zero_right]⟩
      · refine .inr ⟨?_, [some (.p (.int (b' : Int))), some (.p (.int ((a' % b' : Nat) : Int)))], st', a' % b', .inl ?_, Nat.mod_lt _ hb', rfl, b', a' % b', rfl, rfl, ?_⟩
        · walk_at "ev"
          rw [show ((b' : Int) != 0) = true by simp; omega]
        · have := o_modN (a := a') hb'
          walk_at "ev"
          rw [this]
          walk_at "ev"
        · rw [← hg, Nat.gcd_comm a' b', Nat.gcd_rec b' a', Nat.gcd_comm]) fuelW b _ st (fuel_big hb) ⟨rfl, a, b, rfl, rfl, rfl⟩
  rw [h1]
  walk_at "ev"

/-! the law's own, by a for -/
def iLCommon : FnIR := ⟨2, 3, false, (.cons (.for_ (.nm 2) (.rng1 (.cst (.int 100000))) (.cons (.ife (.cmp .Eq (.var 1) (.cst (.int 0))) (.cons .brk .nil) .nil) (.cons (.par [0, 1] (.cons (.var 1) (.cons (.bin false .Mod (.b1 false .int (.var 0)) (.var 1)) .nil))) .nil))) (.cons (.ret (.var 0)) .nil))⟩
def rngL (n : Nat) : List PyData := (List.range n).map fun (k : Nat) => PyData.int (k : Int)
theorem rng0 {n : Nat} (h : n < 2 ^ 62) : rngD 0 (n : Int) = some (rngL n) := by
  unfold rngD rngL
  rw [if_pos (by omega)]
  simp
theorem rngL_len {n : Nat} : (rngL n).length = n := by unfold rngL; simp
def lcB : Ss := (.cons (.ife (.cmp .Eq (.var 1) (.cst (.int 0))) (.cons .brk .nil) .nil) (.cons (.par [0, 1] (.cons (.var 1) (.cons (.bin false .Mod (.b1 false .int (.var 0)) (.var 1)) .nil))) .nil))
theorem lc_stop {T : Nat → Fn} {a : Nat} {x : PyData} {xs : List PyData} {o : Option Val} {st : Store} : forL (fun d e => tgt (.nm 2) d e) (fun e st => denSs T lcB e st) (x :: xs) [some (.p (.int (a : Int))), some (.p (.int 0)), o] st = .ok (.nx [some (.p (.int (a : Int))), some (.p (.int 0)), some (.p x)]) st := by
  refine forL_bk rfl ?_
  unfold lcB
  walk_at "ev"
  rfl
theorem lc_step {T : Nat → Fn} {a b : Nat} (hb : 0 < b) {x : PyData} {xs : List PyData} {o : Option Val} {st : Store} : forL (fun d e => tgt (.nm 2) d e) (fun e st => denSs T lcB e st) (x :: xs) [some (.p (.int (a : Int))), some (.p (.int (b : Int))), o] st =
    forL (fun d e => tgt (.nm 2) d e) (fun e st => denSs T lcB e st) xs [some (.p (.int (b : Int))), some (.p (.int ((a % b : Nat) : Int))), some (.p x)] st := by
  have e1 : denSs T lcB [some (.p (.int (a : Int))), some (.p (.int (b : Int))), some (.p x)] st = .ok (.nx [some (.p (.int (b : Int))), some (.p (.int ((a % b : Nat) : Int))), some (.p x)]) st := by
    have h1 : decide ((b : Int) = 0) = false := decide_eq_false (by omega)
    have h2 := o_modN (a := a) hb
    unfold lcB
    walk_at "ev"
    rw [h1]
    walk_at "ev"
    rw [h2]
    walk_at "ev"
  exact forL_go rfl e1
theorem lc_loop {T : Nat → Fn} {st : Store} : ∀ (k a b : Nat) (xs : List PyData) (o : Option Val), b < 2 ^ k → 2 * k < xs.length → ∃ o', forL (fun d e => tgt (.nm 2) d e) (fun e st => denSs T lcB e st) xs [some (.p (.int (a : Int))), some (.p (.int (b : Int))), o] st = .ok (.nx [some (.p (.int ((Nat.gcd a b : Nat) : Int))), some (.p (.int 0)), o']) st
  | k, a, 0, x :: xs, o, _, _ => ⟨_, by rw [Nat.gcd_zero_right]; exact lc_stop⟩
  | k, a, b, [], o, _, h => by simp at h
  | 0, a, b + 1, x :: xs, o, h, _ => by simp at h
  | k + 1, a, b + 1, [x], o, h, hl => by simp at hl
  | k + 1, a, b + 1, x :: y :: xs, o, h, hl => by
    have hg : Nat.gcd a (b + 1) = Nat.gcd (b + 1) (a % (b + 1)) := by rw [Nat.gcd_comm a, Nat.gcd_rec, Nat.gcd_comm]
    rw [lc_step (Nat.succ_pos b)]
    rcases Nat.eq_zero_or_pos (a % (b + 1)) with hr | hr
    · rw [hg, hr, Nat.gcd_zero_right]
      exact ⟨_, lc_stop⟩
    · rw [lc_step hr, hg, Nat.gcd_comm (b + 1), Nat.gcd_rec, Nat.gcd_comm ((b + 1) % (a % (b + 1)))]
      refine lc_loop k _ _ xs _ ?_ (by simp at hl; omega)
      have h1 : a % (b + 1) < b + 1 := Nat.mod_lt _ (Nat.succ_pos b)
      have h2 : (b + 1) % (a % (b + 1)) < a % (b + 1) := Nat.mod_lt _ hr
      have h3 := Nat.div_add_mod (b + 1) (a % (b + 1))
      have h4 : 1 ≤ (b + 1) / (a % (b + 1)) := Nat.div_pos (Nat.le_of_lt h1) hr
      have h5 : a % (b + 1) ≤ a % (b + 1) * ((b + 1) / (a % (b + 1))) := Nat.le_mul_of_pos_right _ h4
      rw [Nat.pow_succ] at h
      show (b + 1) % (a % (b + 1)) < 2 ^ k
      omega
theorem lcommon_ok {T : Nat → Fn} (a b : Nat) (hb : b < 2 ^ 9000) (st : Store) : denF T iLCommon [.p (.int (a : Int)), .p (.int (b : Int))] st = .ok (.p (.int ((Nat.gcd a b : Nat) : Int))) st := by
  rw [denF_eq (by rfl)]
  show endF false st.length (denSs T (.cons (.for_ (.nm 2) (.rng1 (.cst (.int 100000))) lcB) (.cons (.ret (.var 0)) .nil)) [some (.p (.int (a : Int))), some (.p (.int (b : Int))), none]  st) = _
  obtain ⟨o, h⟩ := lc_loop (T := T) (st := st) 9000 a b (rngL 100000) none hb (by rw [rngL_len]; omega)
  have hr : rngD 0 100000 = some (rngL 100000) := rng0 (n := 100000) (by decide)
  rw [dSs_cons, dS_for]
  walk_at "ev"
  rw [hr]
  walk_at "ev"
  rw [h]
  walk_at "ev"
/-! ### fractions -/
/-- a fraction, as the program has it -/
def frP (q : Rat) : PyData := .tuple [.int q.num, .int (q.den : Int)]
def iLeast (c : Nat) : FnIR := ⟨2, 3, false, (.cons (.asg (.nm 2) (.call c (.cons (.b1 false .abs (.var 0)) (.cons (.var 1) .nil)))) (.cons (.ret (.tup (.cons (.bin false .FloorDiv (.var 0) (.var 2)) (.cons (.bin false .FloorDiv (.var 1) (.var 2)) .nil)))) .nil))⟩
theorem divOk_of {j : Int} (h : 0 < j) (h2 : j < 2 ^ 9000) : divOk j = true := by
  unfold divOk
  rw [Bool.and_eq_true]
  refine ⟨decide_eq_true h, decide_eq_true ?_⟩
  rw [Nat.log2_lt (by omega)]
  have : ((j.natAbs : Nat) : Int) < ((2 ^ 9000 : Nat) : Int) := by
    rw [Int.natAbs_of_nonneg (Int.le_of_lt h)]
    exact h2
  omega
theorem least_ok {T : Nat → Fn} {c : Nat} (hc : ∀ (a b : Nat) (st : Store), b < 2 ^ 9000 → T c [.p (.int (a : Int)), .p (.int (b : Int))] st = .ok (.p (.int ((Nat.gcd a b : Nat) : Int))) st) {n d : Int} (hd : 0 < d) (hz : d < 2 ^ 9000) (st : Store) :
    denF T (iLeast c) [.p (.int n), .p (.int d)] st = .ok (.p (frP (Rat.divInt n d))) st := by
  rw [denF_eq (by rfl)]
  obtain ⟨m, rfl⟩ : ∃ m : Nat, d = (m : Int) := ⟨d.toNat, by omega⟩
  have hm : m < 2 ^ 9000 := by
    have : ((m : Nat) : Int) < ((2 ^ 9000 : Nat) : Int) := hz
    omega
  have hg0 : 0 < Nat.gcd n.natAbs m := Nat.gcd_pos_of_pos_right _ (by omega)
  have hgl : Nat.gcd n.natAbs m ≤ m := Nat.gcd_le_right _ (by omega)
  have hk : divOk ((Nat.gcd n.natAbs m : Nat) : Int) = true := divOk_of (by omega) (by
    have : ((Nat.gcd n.natAbs m : Nat) : Int) < ((2 ^ 9000 : Nat) : Int) := by omega
    exact this)
  have e1 := hc n.natAbs m st hm
  have e2 : (Rat.divInt n (m : Int)).num = n / ((Nat.gcd n.natAbs m : Nat) : Int) := by
    rw [Rat.num_divInt, Int.sign_eq_one_of_pos hd, Int.one_mul]
    congr 2
    rw [Nat.gcd_comm]
    rfl
  have e3 : (((Rat.divInt n (m : Int)).den : Nat) : Int) = (m : Int) / ((Nat.gcd n.natAbs m : Nat) : Int) := by
    rw [Rat.den_divInt, if_neg (by omega)]
    show (((m : Int).natAbs / Nat.gcd (m : Int).natAbs n.natAbs : Nat) : Int) = _
    rw [Nat.gcd_comm, Int.natAbs_natCast]
    rfl
  unfold frP
  rw [e2, e3]
  unfold iLeast
  walk_at "ev"
  rw [e1]
  walk_at "ev"
  rw [o_div hk, o_div hk]
  walk_at "ev"
end Rk

set_option Elab.async false
set_option linter.all false
set_option maxRecDepth 100000
set_option maxHeartbeats 1000000
set_option exponentiation.threshold 20000
namespace Rk
open PySem
local macro_rules | `(tactic| walk_at "ev") => `(tactic| simp only [tp0, ls0, tp1, ls1, tp2, ls2, tp3, ls3, tp4, ls4, tp5, ls5, tp6, ls6, tp7, ls7, tp8, ls8, tp9, ls9, tp10, ls10, tp11, ls11, tp12, ls12, denF_eq, dSs_nil, dSs_cons, nxS_nx, nxS_rt, nxS_ex, nxS_bk, nxS_ct, lift_ok, lift_ex, oE_some, dS_asg, dS_par, dS_ret, dS_retN, dS_ex, dS_raise, dS_brk, dS_cnt, dS_pass, dS_ife, tgt_nm, set_nil, set_cons, dI_seq, dI_rng1, nI_some, iI_some, int_int, it_list, it_tup, it_f, fin_p, endF_nx, endF_rt, endF_ex, bind_ok, bind_ex, D1_p, D2_pp, mD_some, mkD_f, pD_some, dE_cst, dE_glob, dE_var, vR_ok, dE_bin, dE_neg, negV_int, tR_bool, tR_int, tR_none, tR_list, tR_tup, dE_not, dE_and, dE_or, andR_t, andR_f, orR_t, orR_f, andR_b, orR_b, oB_some, dE_cmp, dE_chain, chR_t, chR_f, chR_b, oC_some, dE_ife, ifR_t, ifR_f, dE_call, dE_b1, dE_b2, dE_idx, dE_isi, dE_tup, dE_lst, dEs_nil, dEs_cons, dats_nil, dats_cons, dT_none, dT_some, o_add, o_sub, c_lt, c_le, c_gt, c_ge, c_eqi, c_nei, u_abs, u_int, u_lenl, u_lent, u_tupl, u_tupt, x_tup, x_lst, a1_0, a2_0, a2_1, a3_0, a3_1, a3_2, a4_0, a4_1, a4_2, a4_3, List.length_cons, List.length_nil, List.map_cons, List.map_nil, List.replicate, List.cons_append, List.nil_append, List.getElem?_cons_zero, List.getElem?_cons_succ, List.set_cons_zero, List.set_cons_succ, Option.map_some, Nat.reduceSub, Nat.reduceAdd, List.take_length, List.isEmpty_nil, List.isEmpty_cons, Bool.not_true, Bool.not_false])
/-! ### sizes -/
theorem log_le {n b : Nat} (h : n < 2 ^ b) : n.log2 ≤ b := by
  rcases Nat.eq_zero_or_pos n with rfl | hn
  · exact Nat.zero_le _
  · exact Nat.le_of_lt ((Nat.log2_lt (by omega)).mpr h)
theorem mulOk_of {i j : Int} {a b : Nat} (h1 : i.natAbs < 2 ^ a) (h2 : j.natAbs < 2 ^ b) (h : a + b < 1000000) : mulOk i j = true := by
  unfold mulOk
  have := log_le h1
  have := log_le h2
  exact decide_eq_true (by omega)
def SzR (b : Nat) (q : Rat) : Prop := q.num.natAbs < 2 ^ b ∧ q.den < 2 ^ b
abbrev Sm (q : Rat) : Prop := SzR 4000 q
theorem pow_mono {a b : Nat} (h : a ≤ b) : 2 ^ a ≤ 2 ^ b := Nat.pow_le_pow_right (by decide) h
theorem SzR.mono {a b : Nat} {q : Rat} (h : SzR a q) (hab : a ≤ b) : SzR b q := ⟨Nat.lt_of_lt_of_le h.1 (pow_mono hab), Nat.lt_of_lt_of_le h.2 (pow_mono hab)⟩
theorem SzR.pos {a : Nat} {q : Rat} (h : SzR a q) : 0 < a := by
  rcases Nat.eq_zero_or_pos a with rfl | h'
  · have := h.2
    have := q.den_pos
    omega
  · exact h'
theorem mul_lt {x y a b : Nat} (h1 : x < 2 ^ a) (h2 : y < 2 ^ b) : x * y < 2 ^ (a + b) := by
  rw [Nat.pow_add]
  rcases Nat.eq_zero_or_pos y with rfl | hy
  · rw [Nat.mul_zero]; exact Nat.mul_pos (Nat.two_pow_pos a) (Nat.two_pow_pos b)
  · exact Nat.lt_of_lt_of_le (Nat.mul_lt_mul_of_pos_right h1 hy) (Nat.mul_le_mul_left _ (Nat.le_of_lt h2))
theorem sz_mkRat {b : Nat} {n : Int} {d : Nat} (h1 : n.natAbs < 2 ^ b) (h2 : d < 2 ^ b) (hb : 0 < b) : SzR b (mkRat n d) := by
  constructor
  · rw [Rat.num_mkRat]
    split
    · exact Nat.two_pow_pos b
    · exact Nat.lt_of_le_of_lt (Int.natAbs_ediv_le_natAbs _ _) h1
  · rw [Rat.den_mkRat]
    split
    · exact Nat.lt_of_lt_of_le (by decide : 1 < 2 ^ 1) (pow_mono hb)
    · exact Nat.lt_of_le_of_lt (Nat.div_le_self _ _) h2
theorem sz_add {a b : Nat} {p q : Rat} (h1 : SzR a p) (h2 : SzR b q) : SzR (a + b + 1) (p + q) := by
  rw [Rat.add_def']
  have m1 := mul_lt h1.1 h2.2
  have m2 := mul_lt h2.1 h1.2
  have m3 := mul_lt h1.2 h2.2
  rw [Nat.add_comm b a] at m2
  refine sz_mkRat ?_ ?_ (by omega)
  · refine Nat.lt_of_le_of_lt (Int.natAbs_add_le _ _) ?_
    rw [Int.natAbs_mul, Int.natAbs_mul, Int.natAbs_natCast, Int.natAbs_natCast, Nat.pow_succ]
    omega
  · rw [Nat.pow_succ]; omega
theorem sz_neg {a : Nat} {p : Rat} (h1 : SzR a p) : SzR a (-p) := by
  refine ⟨?_, ?_⟩
  · rw [Rat.neg_num, Int.natAbs_neg]; exact h1.1
  · rw [Rat.neg_den]; exact h1.2
theorem sz_sub {a b : Nat} {p q : Rat} (h1 : SzR a p) (h2 : SzR b q) : SzR (a + b + 1) (p - q) := by
  rw [Rat.sub_eq_add_neg]
  exact sz_add h1 (sz_neg h2)
theorem sz_mul {a b : Nat} {p q : Rat} (h1 : SzR a p) (h2 : SzR b q) : SzR (a + b) (p * q) := by
  rw [Rat.mul_def']
  have := h1.pos
  refine sz_mkRat ?_ (mul_lt h1.2 h2.2) (by omega)
  rw [Int.natAbs_mul]
  exact mul_lt h1.1 h2.1
theorem sz_inv {a : Nat} {p : Rat} (h : SzR a p) : SzR a p⁻¹ := by
  refine ⟨?_, ?_⟩
  · rw [Rat.num_inv, Int.natAbs_mul, Int.natAbs_natCast]
    have h3 : p.num.sign.natAbs ≤ 1 := by
      rcases Int.lt_trichotomy p.num 0 with z | z | z
      · rw [Int.sign_eq_neg_one_of_neg z]; decide
      · rw [z]; decide
      · rw [Int.sign_eq_one_of_pos z]; decide
    exact Nat.lt_of_le_of_lt (Nat.le_trans (Nat.mul_le_mul_right _ h3) (by omega)) h.2
  · rw [Rat.den_inv]
    split
    · exact Nat.lt_of_lt_of_le (by decide : 1 < 2 ^ 1) (pow_mono h.pos)
    · exact h.1
theorem sz_div {a b : Nat} {p q : Rat} (h1 : SzR a p) (h2 : SzR b q) : SzR (a + b) (p / q) := by
  rw [Rat.div_def]
  exact sz_mul h1 (sz_inv h2)
theorem add_eq (p q : Rat) : Rat.divInt (p.num * (q.den : Int) + q.num * (p.den : Int)) ((p.den : Int) * (q.den : Int)) = p + q := by
  show Rat.divInt _ ((p.den * q.den : Nat) : Int) = _
  rw [Rat.divInt_ofNat, ← Rat.add_def']
theorem sub_eq (p q : Rat) : Rat.divInt (p.num * (q.den : Int) - q.num * (p.den : Int)) ((p.den : Int) * (q.den : Int)) = p - q := by
  show Rat.divInt _ ((p.den * q.den : Nat) : Int) = _
  rw [Rat.divInt_ofNat, ← Rat.sub_def']
theorem mul_eq (p q : Rat) : Rat.divInt (p.num * q.num) ((p.den : Int) * (q.den : Int)) = p * q := by
  show Rat.divInt _ ((p.den * q.den : Nat) : Int) = _
  rw [Rat.divInt_ofNat, ← Rat.mul_def']

/-! ### the four, as defs -/
section
variable {T : Nat → Fn} {L : Nat}
/-- what the def of least terms promises -/
abbrev LeastP (T : Nat → Fn) (L : Nat) : Prop := ∀ (n d : Int) (st : Store), 0 < d → d < 2 ^ 9000 → T L [.p (.int n), .p (.int d)] st = .ok (.p (frP (Rat.divInt n d))) st
def iAdd (L : Nat) : FnIR := ⟨2, 2, false, (.cons (.ret (.call L (.cons (.bin false .Add (.bin false .Mult (.idx (.var 0) (.cst (.int 0))) (.idx (.var 1) (.cst (.int 1)))) (.bin false .Mult (.idx (.var 1) (.cst (.int 0))) (.idx (.var 0) (.cst (.int 1))))) (.cons (.bin false .Mult (.idx (.var 0) (.cst (.int 1))) (.idx (.var 1) (.cst (.int 1)))) .nil)))) .nil)⟩
def iSub (L : Nat) : FnIR := ⟨2, 2, false, (.cons (.ret (.call L (.cons (.bin false .Sub (.bin false .Mult (.idx (.var 0) (.cst (.int 0))) (.idx (.var 1) (.cst (.int 1)))) (.bin false .Mult (.idx (.var 1) (.cst (.int 0))) (.idx (.var 0) (.cst (.int 1))))) (.cons (.bin false .Mult (.idx (.var 0) (.cst (.int 1))) (.idx (.var 1) (.cst (.int 1)))) .nil)))) .nil)⟩
def iMul (L : Nat) : FnIR := ⟨2, 2, false, (.cons (.ret (.call L (.cons (.bin false .Mult (.idx (.var 0) (.cst (.int 0))) (.idx (.var 1) (.cst (.int 0)))) (.cons (.bin false .Mult (.idx (.var 0) (.cst (.int 1))) (.idx (.var 1) (.cst (.int 1)))) .nil)))) .nil)⟩
theorem den_pos' (p : Rat) : (0 : Int) < (p.den : Int) := by have := p.den_pos; omega
theorem dd_pos (p q : Rat) : (0 : Int) < (p.den : Int) * (q.den : Int) := Int.mul_pos (den_pos' p) (den_pos' q)
theorem dd_lt {p q : Rat} (hp : Sm p) (hq : Sm q) : (p.den : Int) * (q.den : Int) < 2 ^ 9000 := by
  have h := mul_lt hp.2 hq.2
  have h2 : p.den * q.den < 2 ^ 9000 := Nat.lt_of_lt_of_le h (pow_mono (by decide))
  have h3 : ((p.den * q.den : Nat) : Int) < ((2 ^ 9000 : Nat) : Int) := Int.ofNat_lt.mpr h2
  exact h3
theorem m_nd {p q : Rat} (hp : Sm p) (hq : Sm q) : binD .Mult (.int p.num) (.int (q.den : Int)) = some (.int (p.num * (q.den : Int))) := o_mul (mulOk_of hp.1 (by rw [Int.natAbs_natCast]; exact hq.2) (by decide))
theorem m_dd {p q : Rat} (hp : Sm p) (hq : Sm q) : binD .Mult (.int (p.den : Int)) (.int (q.den : Int)) = some (.int ((p.den : Int) * (q.den : Int))) := o_mul (mulOk_of (by rw [Int.natAbs_natCast]; exact hp.2) (by rw [Int.natAbs_natCast]; exact hq.2) (by decide))
theorem m_nn {p q : Rat} (hp : Sm p) (hq : Sm q) : binD .Mult (.int p.num) (.int q.num) = some (.int (p.num * q.num)) := o_mul (mulOk_of hp.1 hq.1 (by decide))
theorem m_dn {p q : Rat} (hp : Sm p) (hq : Sm q) : binD .Mult (.int (p.den : Int)) (.int q.num) = some (.int ((p.den : Int) * q.num)) := o_mul (mulOk_of (by rw [Int.natAbs_natCast]; exact hp.2) hq.1 (by decide))
theorem add_ok (hL : LeastP T L) {p q : Rat} (hp : Sm p) (hq : Sm q) (st : Store) : denF T (iAdd L) [.p (frP p), .p (frP q)] st = .ok (.p (frP (p + q))) st := by
  rw [denF_eq (by rfl)]
  unfold iAdd frP
  walk_at "ev"
  rw [m_nd hp hq, m_nd hq hp, m_dd hp hq]
  walk_at "ev"
  rw [hL _ _ _ (dd_pos p q) (dd_lt hp hq), add_eq]
  walk_at "ev"
  rfl
theorem sub_ok (hL : LeastP T L) {p q : Rat} (hp : Sm p) (hq : Sm q) (st : Store) : denF T (iSub L) [.p (frP p), .p (frP q)] st = .ok (.p (frP (p - q))) st := by
  rw [denF_eq (by rfl)]
  unfold iSub frP
  walk_at "ev"
  rw [m_nd hp hq, m_nd hq hp, m_dd hp hq]
  walk_at "ev"
  rw [hL _ _ _ (dd_pos p q) (dd_lt hp hq), sub_eq]
  walk_at "ev"
  rfl
theorem mul_ok (hL : LeastP T L) {p q : Rat} (hp : Sm p) (hq : Sm q) (st : Store) : denF T (iMul L) [.p (frP p), .p (frP q)] st = .ok (.p (frP (p * q))) st := by
  rw [denF_eq (by rfl)]
  unfold iMul frP
  walk_at "ev"
  rw [m_nn hp hq, m_dd hp hq]
  walk_at "ev"
  rw [hL _ _ _ (dd_pos p q) (dd_lt hp hq), mul_eq]
  walk_at "ev"
  rfl
/-! a quotient: the program's, the law's -/
def iBy (L : Nat) : FnIR := ⟨2, 3, false, (.cons (.asg (.nm 2) (.ife (.cmp .Gt (.idx (.var 1) (.cst (.int 0))) (.cst (.int 0))) (.cst (.int 1)) (.neg (.cst (.int 1))))) (.cons (.ret (.call L (.cons (.bin false .Mult (.bin false .Mult (.var 2) (.idx (.var 0) (.cst (.int 0)))) (.idx (.var 1) (.cst (.int 1)))) (.cons (.bin false .Mult (.idx (.var 0) (.cst (.int 1))) (.b1 false .abs (.idx (.var 1) (.cst (.int 0))))) .nil)))) .nil))⟩
def iLBy (L : Nat) : FnIR := ⟨2, 2, false, (.cons (.ret (.call L (.cons (.bin false .Mult (.idx (.var 0) (.cst (.int 0))) (.idx (.var 1) (.cst (.int 1)))) (.cons (.bin false .Mult (.idx (.var 0) (.cst (.int 1))) (.idx (.var 1) (.cst (.int 0)))) .nil)))) .nil)⟩
theorem rat_eq (p : Rat) : p = (p.num : Rat) / (p.den : Rat) := by
  have := Rat.mkRat_eq_div p.num p.den
  rw [Rat.mkRat_self] at this
  exact this
theorem num_pos' {q : Rat} (h : 0 < q) : 0 < q.num := by
  have h1 : 0 ≤ q.num := Rat.num_nonneg.mpr (Rat.le_of_lt h)
  have h2 : q.num ≠ 0 := fun z => by
    have := Rat.num_eq_zero.mp z
    rw [this] at h
    exact absurd h (by decide)
  omega
theorem div_eq (p q : Rat) (h : 0 < q) : Rat.divInt (p.num * (q.den : Int)) ((p.den : Int) * q.num) = p / q := by
  rw [Rat.divInt_eq_div, Rat.intCast_mul, Rat.intCast_mul]
  conv => rhs; rw [rat_eq p, rat_eq q]
  have h1 : (p.den : Rat) ≠ 0 := by have := p.den_nz; intro z; exact this (Rat.natCast_inj.mp z)
  have h2 : (q.den : Rat) ≠ 0 := by have := q.den_nz; intro z; exact this (Rat.natCast_inj.mp z)
  have h3 : (q.num : Rat) ≠ 0 := by
    have := num_pos' h
    intro z
    have := Rat.intCast_eq_zero_iff.mp z
    omega
  rw [Rat.intCast_natCast, Rat.intCast_natCast]
  grind
theorem lby_ok (hL : LeastP T L) {p q : Rat} (hp : Sm p) (hq : Sm q) (h : 0 < q) (st : Store) : denF T (iLBy L) [.p (frP p), .p (frP q)] st = .ok (.p (frP (p / q))) st := by
  have hn := num_pos' h
  have hz : (p.den : Int) * q.num < 2 ^ 9000 := by
    have h1 := mul_lt hp.2 hq.1
    have h2 : p.den * q.num.natAbs < 2 ^ 9000 := Nat.lt_of_lt_of_le h1 (pow_mono (by decide))
    have h3 : ((p.den * q.num.natAbs : Nat) : Int) < ((2 ^ 9000 : Nat) : Int) := Int.ofNat_lt.mpr h2
    rw [Int.natCast_mul, Int.natAbs_of_nonneg (Int.le_of_lt hn)] at h3
    exact h3
  rw [denF_eq (by rfl)]
  unfold iLBy frP
  walk_at "ev"
  rw [m_nd hp hq, m_dn hp hq]
  walk_at "ev"
  rw [hL _ _ _ (Int.mul_pos (den_pos' p) hn) hz, div_eq p q h]
  walk_at "ev"
  rfl
end
end Rk

set_option Elab.async false
set_option linter.all false
set_option maxRecDepth 100000
set_option maxHeartbeats 1000000
set_option exponentiation.threshold 20000
namespace Rk
open PySem
local macro_rules | `(tactic| walk_at "ev") => `(tactic| simp only [tp0, ls0, tp1, ls1, tp2, ls2, tp3, ls3, tp4, ls4, tp5, ls5, tp6, ls6, tp7, ls7, tp8, ls8, tp9, ls9, tp10, ls10, tp11, ls11, tp12, ls12, denF_eq, dSs_nil, dSs_cons, nxS_nx, nxS_rt, nxS_ex, nxS_bk, nxS_ct, lift_ok, lift_ex, oE_some, dS_asg, dS_par, dS_ret, dS_retN, dS_ex, dS_raise, dS_brk, dS_cnt, dS_pass, dS_ife, tgt_nm, set_nil, set_cons, dI_seq, dI_rng1, nI_some, iI_some, int_int, it_list, it_tup, it_f, fin_p, endF_nx, endF_rt, endF_ex, bind_ok, bind_ex, D1_p, D2_pp, mD_some, mkD_f, pD_some, dE_cst, dE_glob, dE_var, vR_ok, dE_bin, dE_neg, negV_int, tR_bool, tR_int, tR_none, tR_list, tR_tup, dE_not, dE_and, dE_or, andR_t, andR_f, orR_t, orR_f, andR_b, orR_b, oB_some, dE_cmp, dE_chain, chR_t, chR_f, chR_b, oC_some, dE_ife, ifR_t, ifR_f, dE_call, dE_b1, dE_b2, dE_idx, dE_isi, dE_tup, dE_lst, dEs_nil, dEs_cons, dats_nil, dats_cons, dT_none, dT_some, o_add, o_sub, c_lt, c_le, c_gt, c_ge, c_eqi, c_nei, u_abs, u_int, u_lenl, u_lent, u_tupl, u_tupt, x_tup, x_lst, a1_0, a2_0, a2_1, a3_0, a3_1, a3_2, a4_0, a4_1, a4_2, a4_3, List.length_cons, List.length_nil, List.map_cons, List.map_nil, List.replicate, List.cons_append, List.nil_append, List.getElem?_cons_zero, List.getElem?_cons_succ, List.set_cons_zero, List.set_cons_succ, Option.map_some, Nat.reduceSub, Nat.reduceAdd, List.take_length, List.isEmpty_nil, List.isEmpty_cons, Bool.not_true, Bool.not_false])
/-! ### drawn numbers -/
theorem for_ruleB {body : Env → Store → RsS} {tg : PyData → Env → Option Env} (P : Nat → Env → Store → Prop) (post : Env → Store → Prop) : ∀ (xs : List PyData) (k : Nat) (e : Env) (st : Store), P k e st → (∀ e st, P (k + xs.length) e st → post e st) →
    (∀ i x e st, xs[i]? = some x → P (k + i) e st → ∃ e1 e2 st2, tg x e = some e1 ∧ ((body e1 st = .ok (.nx e2) st2 ∧ P (k + i + 1) e2 st2) ∨ (body e1 st = .ok (.bk e2) st2 ∧ post e2 st2))) →
    ∃ e2 st2, forL tg body xs e st = .ok (.nx e2) st2 ∧ post e2 st2
  | [], k, e, st, hp, hpost, _ => ⟨e, st, rfl, hpost e st hp⟩
  | x :: xs, k, e, st, hp, hpost, step => by
    obtain ⟨e1, e2, st2, h1, ⟨h2, h3⟩ | ⟨h2, h3⟩⟩ := step 0 x e st rfl hp
    · obtain ⟨e3, st3, h4, h5⟩ := for_ruleB P post xs (k + 1) e2 st2 h3 (fun e st hp => hpost e st (by rw [List.length_cons, show k + (xs.length + 1) = k + 1 + xs.length by omega]; exact hp)) fun i x e st hx hp => by
        have hp' : P (k + (i + 1)) e st := by rw [show k + (i + 1) = k + 1 + i by omega]; exact hp
        obtain ⟨e1, e2, st2, q1, q2⟩ := step (i + 1) x e st (by simpa using hx) hp'
        rw [show k + (i + 1) + 1 = k + 1 + i + 1 by omega] at q2
        exact ⟨e1, e2, st2, q1, q2⟩
      exact ⟨e3, st3, by rw [forL_go h1 h2]; exact h4, h5⟩
    · exact ⟨e2, st2, forL_bk h1 h2, h3⟩
/-- small numbers, drawn -/
def Dr (xs : List PyData) : Prop := ∀ d ∈ xs, ∃ n : Int, d = .int n ∧ 0 ≤ n ∧ n < 1000
theorem Dr.nil : Dr [] := fun d h => by cases h
theorem Dr.app {xs ys : List PyData} (h1 : Dr xs) (h2 : Dr ys) : Dr (xs ++ ys) := fun d h => (List.mem_append.mp h).elim (h1 d) (h2 d)
theorem Dr.one {n : Int} (h1 : 0 ≤ n) (h2 : n < 1000) : Dr [.int n] := fun d h => ⟨n, List.mem_singleton.mp h, h1, h2⟩
theorem Dr.rev {xs : List PyData} (h : Dr xs) : Dr xs.reverse := fun d hd => h d (List.mem_reverse.mp hd)
theorem Dr.mod (n : Int) : Dr [.int (n % 1000)] := Dr.one (Int.emod_nonneg _ (by decide)) (Int.emod_lt_of_pos _ (by decide))
section
variable {T : Nat → Fn} {e : Env} {st : Store}
theorem dE_pop {a : E} {k : Nat} {st1 : Store} {xs : List PyData} {d : PyData} (h : denE T a e st = .ok (.l k) st1) (hx : st1[k]? = some xs) (hd : xs[xs.length - 1]? = some d) : denE T (.pop a) e st = .ok (.p d) (st1.set k xs.dropLast) := by
  show (denE T a e st).bind _ = _
  rw [h]
  show (match st1[k]? with
      | some xs => (match xs[xs.length - 1]? with
        | some d => Rs.ok (Val.p d) (st1.set k xs.dropLast)
        | none => .no)
      | none => .no) = _
  rw [hx]
  dsimp only
  rw [hd]
theorem dE_append {a b : E} {k : Nat} {d : PyData} {st1 st2 : Store} {xs : List PyData} (h : denE T a e st = .ok (.l k) st1) (h2 : denE T b e st1 = .ok (.p d) st2) (hx : st2[k]? = some xs) (hl : xs.length < 100000) : denE T (.append a b) e st = .ok (.p .none) (st2.set k (xs ++ [d])) := by
  show (denE T a e st).bind _ = _
  rw [h]
  show (denE T b e st1).bind _ = _
  rw [h2]
  show (match Val.p d, st2[k]? with
      | .p d, some xs => if xs.length < sizeLine then Rs.ok (Val.p .none) (st2.set k (xs ++ [d])) else .no
      | _, _ => .no) = _
  rw [hx]
  dsimp only
  rw [if_pos (Nat.lt_of_lt_of_le hl (by decide))]
theorem dE_extend {a b : E} {k : Nat} {ds : List PyData} {st1 st2 : Store} {xs : List PyData} (h : denE T a e st = .ok (.l k) st1) (h2 : denE T b e st1 = .ok (.p (.list ds)) st2) (hx : st2[k]? = some xs) (hl : xs.length + ds.length ≤ 100000) : denE T (.extend a b) e st = .ok (.p .none) (st2.set k (xs ++ ds)) := by
  show (denE T a e st).bind _ = _
  rw [h]
  show (denE T b e st1).bind _ = _
  rw [h2]
  show (match Val.p (.list ds), st2[k]? with
      | .p (.list ds), some xs => if xs.length + ds.length ≤ sizeLine then Rs.ok (Val.p .none) (st2.set k (xs ++ ds)) else .no
      | _, _ => .no) = _
  rw [hx]
  dsimp only
  rw [if_pos (Nat.le_trans hl (by decide))]
theorem dE_reverse {a : E} {k : Nat} {st1 : Store} {xs : List PyData} (h : denE T a e st = .ok (.l k) st1) (hx : st1[k]? = some xs) : denE T (.reverse a) e st = .ok (.p .none) (st1.set k xs.reverse) := by
  show (denE T a e st).bind _ = _
  rw [h]
  show (match st1[k]? with
      | some xs => Rs.ok (Val.p .none) (st1.set k xs.reverse)
      | none => .no) = _
  rw [hx]
end
def iNext : FnIR := ⟨1, 1, false, (.cons (.ife (.var 0) (.cons (.ret (.pop (.var 0))) .nil) .nil) (.cons (.ret (.cst (.int 0))) .nil))⟩
/-- what the def of the next number promises -/
abbrev NextP (T : Nat → Fn) (N : Nat) : Prop := ∀ (k : Nat) (xs : List PyData) (st : Store), st[k]? = some xs → Dr xs → ∃ n : Int, 0 ≤ n ∧ n < 1000 ∧ T N [.l k] st = .ok (.p (.int n)) (st.set k xs.dropLast)
theorem take_set_len {st : Store} {k : Nat} {xs : List PyData} : (st.set k xs).take st.length = st.set k xs := by
  rw [List.take_of_length_le]
  rw [List.length_set]
  exact Nat.le_refl _
theorem set_same {α : Type} {l : List α} {k : Nat} {x : α} (h : l[k]? = some x) : l.set k x = l := by
  obtain ⟨hk, e⟩ := List.getElem?_eq_some_iff.mp h
  rw [← e]
  exact List.set_getElem_self hk
theorem next_ok {T : Nat → Fn} (k : Nat) (xs : List PyData) (st : Store) (h : st[k]? = some xs) (hd : Dr xs) : ∃ n : Int, 0 ≤ n ∧ n < 1000 ∧ denF T iNext [.l k] st = .ok (.p (.int n)) (st.set k xs.dropLast) := by
  rw [denF_eq (by rfl)]
  unfold iNext
  walk_at "ev"
  rw [tR_l h]
  cases xs with
  | nil =>
    walk_at "ev"
    refine ⟨0, by decide, by decide, ?_⟩
    rw [List.dropLast_nil]
    congr 1
    exact (set_same h).symm
  | cons x r =>
    have hl : (x :: r)[(x :: r).length - 1]? = some ((x :: r).getLast (List.cons_ne_nil _ _)) := by rw [← List.getLast?_eq_getElem?, List.getLast?_eq_getLast]
    obtain ⟨n, e, h1, h2⟩ := hd _ (List.getLast_mem (List.cons_ne_nil x r))
    rw [e] at hl
    have q := dE_pop (T := T) (a := .var 0) (e := [some (.l k)]) (st := st) rfl h hl
    refine ⟨n, h1, h2, ?_⟩
    walk_at "ev"
    rw [q]
    walk_at "ev"
    rw [take_set_len]

/-! ### the script's numbers -/
def iNumber : FnIR := ⟨1, 1, false, (.cons (.ife (.cmp .Lt (.var 0) (.cst (.int 0))) (.cons (.ret (.bin false .Sub (.cst (.int 0)) (.var 0))) .nil) .nil) (.cons (.ret (.var 0)) .nil))⟩
theorem number_ok {T : Nat → Fn} (n : Int) (st : Store) : denF T iNumber [.p (.int n)] st = .ok (.p (.int (n.natAbs : Int))) st := by
  rw [denF_eq (by rfl)]
  unfold iNumber
  walk_at "ev"
  rcases Int.lt_or_le n 0 with h | h
  · rw [decide_eq_true h]
    walk_at "ev"
    congr 3
    omega
  · rw [decide_eq_false (by omega)]
    walk_at "ev"
    congr 3
    omega
def iDraws (N : Nat) : FnIR := ⟨1, 7, true, (.cons (.asg (.nm 1) (.lst true .nil)) (.cons (.for_ (.nm 2) (.seq (.var 0)) (.cons (.asg (.nm 3) (.call N (.cons (.var 2) .nil))) (.cons (.ife (.cmp .GtE (.var 3) (.cst (.int 1000000000000000000))) (.cons (.for_ (.nm 4) (.rng1 (.cst (.int 60))) (.cons (.ife (.cmp .Eq (.var 3) (.cst (.int 0))) (.cons .brk .nil) .nil) (.cons (.ex (.append (.var 1) (.bin false .Mod (.b1 false .int (.var 3)) (.cst (.int 1000))))) (.cons (.asg (.nm 3) (.bin false .FloorDiv (.var 3) (.cst (.int 1000)))) .nil)))) .nil) (.cons (.asg (.nm 5) (.bin false .Mod (.b1 false .int (.bin false .Add (.bin false .Mult (.var 3) (.cst (.int 48271))) (.cst (.int 11)))) (.cst (.int 2147483647)))) (.cons (.asg (.nm 6) (.bin false .Mod (.b1 false .int (.bin false .Add (.bin false .Mult (.var 5) (.cst (.int 69621))) (.var 3))) (.cst (.int 2147483629)))) (.cons (.ex (.extend (.var 1) (.lst false (.cons (.bin false .Mod (.b1 false .int (.var 3)) (.cst (.int 1000))) (.cons (.bin false .Mod (.b1 false .int (.var 5)) (.cst (.int 1000))) (.cons (.bin false .Mod (.b1 false .int (.var 6)) (.cst (.int 1000))) .nil)))))) .nil)))) .nil))) (.cons (.ex (.reverse (.var 1))) (.cons (.ret (.var 1)) .nil))))⟩
theorem last_get {st : Store} {xs : List PyData} : (st ++ [xs])[st.length]? = some xs := by rw [List.getElem?_append_right (Nat.le_refl _), Nat.sub_self]; rfl
theorem last_set {st : Store} {xs ys : List PyData} : (st ++ [xs]).set st.length ys = st ++ [ys] := by rw [List.set_append_right _ _ (Nat.le_refl _), Nat.sub_self]; rfl
/-- many numbers of one cell -/
theorem dr_inner {T : Nat → Fn} {st : Store} {fs : List PyData} {c o5 o6 : Option Val} (acc : List PyData) (h : Dr acc) (hl : acc.length ≤ 10000) (r : Int) (hr : 0 ≤ r) (o4 : Option Val) :
    ∃ e2 st2, forL (fun d e => tgt (.nm 4) d e) (fun e st => denSs T (.cons (.ife (.cmp .Eq (.var 3) (.cst (.int 0))) (.cons .brk .nil) .nil) (.cons (.ex (.append (.var 1) (.bin false .Mod (.b1 false .int (.var 3)) (.cst (.int 1000))))) (.cons (.asg (.nm 3) (.bin false .FloorDiv (.var 3) (.cst (.int 1000)))) .nil))) e st) (rngL 60) [some (.f fs), some (.l st.length), c, some (.p (.int r)), o4, o5, o6] (st ++ [acc]) = .ok (.nx e2) st2 ∧
      ∃ acc' r' o4', (st2 = st ++ [acc'] ∧ e2 = [some (.f fs), some (.l st.length), c, some (.p (.int r')), o4', o5, o6]) ∧ Dr acc' ∧ acc'.length ≤ acc.length + 60 := by
  refine for_ruleB (fun i e st2 => ∃ acc' r' o4', (st2 = st ++ [acc'] ∧ e = [some (.f fs), some (.l st.length), c, some (.p (.int r')), o4', o5, o6]) ∧ Dr acc' ∧ acc'.length ≤ acc.length + i ∧ 0 ≤ r') _ (rngL 60) 0 _ _ ⟨acc, r, o4, ⟨rfl, rfl⟩, h, by omega, hr⟩ (fun e st2 ⟨a, r', o, h1, h2, h3, _⟩ => ⟨a, r', o, h1, h2, by rw [rngL_len] at h3; omega⟩) ?_
  rintro i x e st2 hx ⟨a, r', o, ⟨rfl, rfl⟩, h2, h3, h4⟩
  have hi : i < 60 := by
    have := (List.getElem?_eq_some_iff.mp hx).1
    rw [rngL_len] at this
    exact this
  refine ⟨[some (.f fs), some (.l st.length), c, some (.p (.int r')), some (.p x), o5, o6], ?_⟩
  rcases Int.lt_or_eq_of_le h4 with hr' | hr'
  · have e1 : decide (r' = 0) = false := decide_eq_false (by omega)
    have q := dE_append (T := T) (a := .var 1) (b := .bin false .Mod (.b1 false .int (.var 3)) (.cst (.int 1000))) (e := [some (.f fs), some (.l st.length), c, some (.p (.int r')), some (.p x), o5, o6]) (st := st ++ [a]) (k := st.length) (d := .int (r' % 1000)) (st1 := st ++ [a]) (st2 := st ++ [a]) rfl (by walk_at "ev"; rw [o_mod (by decide)]; walk_at "ev") last_get (by omega)
    refine ⟨[some (.f fs), some (.l st.length), c, some (.p (.int (r' / 1000))), some (.p x), o5, o6], st ++ [a ++ [.int (r' % 1000)]], rfl, .inl ⟨?_, a ++ [.int (r' % 1000)], r' / 1000, some (.p x), ⟨rfl, rfl⟩, h2.app (Dr.mod r'), by simp; omega, by omega⟩⟩
    walk_at "ev"
    rw [e1]
    walk_at "ev"
    rw [q, last_set]
    walk_at "ev"
    rw [o_div (by decide)]
    walk_at "ev"
  · refine ⟨[some (.f fs), some (.l st.length), c, some (.p (.int r')), some (.p x), o5, o6], st ++ [a], rfl, .inr ⟨?_, a, r', some (.p x), ⟨rfl, rfl⟩, h2, by omega⟩⟩
    rw [← hr']
    walk_at "ev"
    rfl

theorem drmod3 (a b c : Int) : Dr [.int (a % 1000), .int (b % 1000), .int (c % 1000)] := (Dr.mod a).app ((Dr.mod b).app (Dr.mod c))
theorem draws_ok {T : Nat → Fn} {N : Nat} (hN : ∀ (n : Int) (st : Store), T N [.p (.int n)] st = .ok (.p (.int (n.natAbs : Int))) st) (ns : List Int) (hl : ns.length ≤ 63) (st : Store) :
    ∃ xs, denF T (iDraws N) [.f (ns.map PyData.int)] st = .ok (.l st.length) (st ++ [xs]) ∧ Dr xs ∧ xs.length ≤ 3780 := by
  rw [denF_eq (by rfl)]
  unfold iDraws
  walk_at "ev"
  have e0 : lstR true [] st = .ok (.l st.length) (st ++ [[]]) := lstR_ok2 rfl (by decide)
  rw [e0]
  walk_at "ev"
  obtain ⟨e2, st2, h1, acc, c, o3, o4, o5, o6, ⟨rfl, rfl⟩, h2, h3⟩ := for_rule (tg := fun d e => tgt (.nm 2) d e) (body := fun e st => denSs T (.cons (.asg (.nm 3) (.call N (.cons (.var 2) .nil))) (.cons (.ife (.cmp .GtE (.var 3) (.cst (.int 1000000000000000000))) (.cons (.for_ (.nm 4) (.rng1 (.cst (.int 60))) (.cons (.ife (.cmp .Eq (.var 3) (.cst (.int 0))) (.cons .brk .nil) .nil) (.cons (.ex (.append (.var 1) (.bin false .Mod (.b1 false .int (.var 3)) (.cst (.int 1000))))) (.cons (.asg (.nm 3) (.bin false .FloorDiv (.var 3) (.cst (.int 1000)))) .nil)))) .nil) (.cons (.asg (.nm 5) (.bin false .Mod (.b1 false .int (.bin false .Add (.bin false .Mult (.var 3) (.cst (.int 48271))) (.cst (.int 11)))) (.cst (.int 2147483647)))) (.cons (.asg (.nm 6) (.bin false .Mod (.b1 false .int (.bin false .Add (.bin false .Mult (.var 5) (.cst (.int 69621))) (.var 3))) (.cst (.int 2147483629)))) (.cons (.ex (.extend (.var 1) (.lst false (.cons (.bin false .Mod (.b1 false .int (.var 3)) (.cst (.int 1000))) (.cons (.bin false .Mod (.b1 false .int (.var 5)) (.cst (.int 1000))) (.cons (.bin false .Mod (.b1 false .int (.var 6)) (.cst (.int 1000))) .nil)))))) .nil)))) .nil)) e st)
    (fun i e st2 => ∃ acc c o3 o4 o5 o6, (st2 = st ++ [acc] ∧ e = [some (.f (ns.map PyData.int)), some (.l st.length), c, o3, o4, o5, o6]) ∧ Dr acc ∧ acc.length ≤ 60 * i) (ns.map PyData.int) 0 [some (.f (ns.map PyData.int)), some (.l st.length), none, none, none, none, none] (st ++ [[]]) ⟨[], none, none, none, none, none, ⟨rfl, rfl⟩, Dr.nil, by simp⟩ (by
      rintro i x e st2 hx ⟨acc, c, o3, o4, o5, o6, ⟨rfl, rfl⟩, h2, h3⟩
      have hi : i < 63 := by
        have := (List.getElem?_eq_some_iff.mp hx).1
        rw [List.length_map] at this
        omega
      rw [List.getElem?_map] at hx
      obtain ⟨n, _, rfl⟩ := Option.map_eq_some_iff.mp hx
      refine ⟨[some (.f (ns.map PyData.int)), some (.l st.length), some (.p (.int n)), o3, o4, o5, o6], ?_⟩
      by_cases hb : (1000000000000000000 : Int) ≤ (n.natAbs : Int)
      · obtain ⟨e3, st3, q1, acc', r', o4', ⟨rfl, rfl⟩, q2, q3⟩ := dr_inner (T := T) (st := st) (fs := ns.map PyData.int) (c := some (.p (.int n))) (o5 := o5) (o6 := o6) acc h2 (by omega) (n.natAbs : Int) (by omega) o4
        refine ⟨_, _, rfl, .inl ?_, acc', some (.p (.int n)), some (.p (.int r')), o4', o5, o6, ⟨rfl, rfl⟩, q2, by omega⟩
        have hr : rngD 0 60 = some (rngL 60) := rng0 (n := 60) (by decide)
        have hb' : decide ((1000000000000000000 : Int) ≤ (n.natAbs : Int)) = true := decide_eq_true hb
        walk_at "ev"
        rw [hN]
        walk_at "ev"
        rw [hb']
        walk_at "ev"
        rw [dS_for_run (by walk_at "ev"; rw [hr]; walk_at "ev") q1]
        walk_at "ev"
      · have hb' : decide ((1000000000000000000 : Int) ≤ (n.natAbs : Int)) = false := decide_eq_false hb
        have s1 : n.natAbs < 2 ^ 60 := by omega
        have m1 : binD .Mult (.int (n.natAbs : Int)) (.int 48271) = some (.int ((n.natAbs : Int) * 48271)) := o_mul (mulOk_of (a := 60) (b := 20) (by rw [Int.natAbs_natCast]; exact s1) (by decide) (by decide))
        have k1 : 0 ≤ ((n.natAbs : Int) * 48271 + 11) % 2147483647 := Int.emod_nonneg _ (by decide)
        have k2 : ((n.natAbs : Int) * 48271 + 11) % 2147483647 < 2147483647 := Int.emod_lt_of_pos _ (by decide)
        have m2 : binD .Mult (.int (((n.natAbs : Int) * 48271 + 11) % 2147483647)) (.int 69621) = some (.int ((((n.natAbs : Int) * 48271 + 11) % 2147483647) * 69621)) := o_mul (mulOk_of (a := 60) (b := 20) (by omega) (by decide) (by decide))
        have z := dE_extend (T := T) (a := .var 1) (b := .lst false (.cons (.bin false .Mod (.b1 false .int (.var 3)) (.cst (.int 1000))) (.cons (.bin false .Mod (.b1 false .int (.var 5)) (.cst (.int 1000))) (.cons (.bin false .Mod (.b1 false .int (.var 6)) (.cst (.int 1000))) .nil))))
          (e := [some (.f (ns.map PyData.int)), some (.l st.length), some (.p (.int n)), some (.p (.int (n.natAbs : Int))), o4, some (.p (.int (((n.natAbs : Int) * 48271 + 11) % 2147483647))), some (.p (.int (((((n.natAbs : Int) * 48271 + 11) % 2147483647) * 69621 + (n.natAbs : Int)) % 2147483629)))]) (st := st ++ [acc]) (k := st.length) (st1 := st ++ [acc]) (st2 := st ++ [acc]) (xs := acc)
          (ds := [.int ((n.natAbs : Int) % 1000), .int ((((n.natAbs : Int) * 48271 + 11) % 2147483647) % 1000), .int ((((((n.natAbs : Int) * 48271 + 11) % 2147483647) * 69621 + (n.natAbs : Int)) % 2147483629) % 1000)]) rfl (by walk_at "ev"; rw [o_mod (by decide), o_mod (by decide), o_mod (by decide)]; walk_at "ev") last_get (by simp; omega)
        refine ⟨_, _, rfl, .inl ?_, acc ++ [.int ((n.natAbs : Int) % 1000), .int ((((n.natAbs : Int) * 48271 + 11) % 2147483647) % 1000), .int ((((((n.natAbs : Int) * 48271 + 11) % 2147483647) * 69621 + (n.natAbs : Int)) % 2147483629) % 1000)], some (.p (.int n)), some (.p (.int (n.natAbs : Int))), o4, some (.p (.int (((n.natAbs : Int) * 48271 + 11) % 2147483647))), some (.p (.int (((((n.natAbs : Int) * 48271 + 11) % 2147483647) * 69621 + (n.natAbs : Int)) % 2147483629))), ⟨rfl, rfl⟩, h2.app (drmod3 _ _ _), by simp; omega⟩
        walk_at "ev"
        rw [hN]
        walk_at "ev"
        rw [hb']
        walk_at "ev"
        rw [m1]
        walk_at "ev"
        rw [o_mod (by decide)]
        walk_at "ev"
        rw [m2]
        walk_at "ev"
        rw [o_mod (by decide)]
        walk_at "ev"
        rw [z, last_set]
        walk_at "ev")
  rw [dS_for_run (by walk_at "ev") h1]
  walk_at "ev"
  rw [dE_reverse (T := T) (a := .var 1) (k := st.length) (st1 := st ++ [acc]) (xs := acc) rfl last_get, last_set]
  walk_at "ev"
  refine ⟨acc.reverse, ?_, h2.rev, by rw [List.length_reverse]; simp at h3; omega⟩
  unfold fin
  dsimp only
  rw [if_neg (Nat.lt_irrefl _), last_get]
  dsimp only
  rw [if_pos rfl, List.take_left]

/-! ### more numbers -/
def iMore (N : Nat) : FnIR := ⟨2, 5, true, (.cons (.asg (.nm 2) (.bin false .Add (.bin false .Add (.bin false .Mult (.cst (.int 1000)) (.call N (.cons (.var 0) .nil))) (.call N (.cons (.var 0) .nil))) (.cst (.int 1)))) (.cons (.asg (.nm 3) (.lst true .nil)) (.cons (.for_ (.nm 4) (.rng1 (.var 1)) (.cons (.asg (.nm 2) (.bin false .Mod (.b1 false .int (.bin false .Add (.bin false .Mult (.var 2) (.cst (.int 48271))) (.cst (.int 12345)))) (.cst (.int 2147483647)))) (.cons (.ex (.append (.var 3) (.bin false .Mod (.b1 false .int (.bin false .FloorDiv (.var 2) (.cst (.int 7)))) (.cst (.int 1000))))) .nil))) (.cons (.ret (.bin true .Add (.var 3) (.var 0))) .nil))))⟩
theorem more_ok {T : Nat → Fn} {N : Nat} (hN : NextP T N) (m : Nat) (hm : m ≤ 1000) (k : Nat) (xs : List PyData) (st : Store) (h : st[k]? = some xs) (hd : Dr xs) (hl : xs.length ≤ 10000) :
    ∃ ys, denF T (iMore N) [.l k, .p (.int (m : Int))] st = .ok (.l st.length) (st.set k xs.dropLast.dropLast ++ [ys]) ∧ Dr ys ∧ ys.length ≤ 11000 := by
  have hk : k < st.length := (List.getElem?_eq_some_iff.mp h).1
  obtain ⟨n1, a1, b1, c1⟩ := hN k xs st h hd
  have hd2 : Dr xs.dropLast := fun d hd' => hd d ((List.dropLast_sublist _).subset hd')
  have g2 : (st.set k xs.dropLast)[k]? = some xs.dropLast := List.getElem?_set_self hk
  obtain ⟨n2, a2, b2, c2⟩ := hN k xs.dropLast _ g2 hd2
  rw [List.set_set] at c2
  have hd3 : Dr xs.dropLast.dropLast := fun d hd' => hd2 d ((List.dropLast_sublist _).subset hd')
  have g3 : (st.set k xs.dropLast.dropLast)[k]? = some xs.dropLast.dropLast := List.getElem?_set_self hk
  have hlen : (st.set k xs.dropLast.dropLast).length = st.length := List.length_set
  generalize hs : st.set k xs.dropLast.dropLast = st' at *
  have m1 : binD .Mult (.int 1000) (.int n1) = some (.int (1000 * n1)) := o_mul (mulOk_of (a := 20) (b := 20) (by decide) (by omega) (by decide))
  have hr : rngD 0 (m : Int) = some (rngL m) := rng0 (by omega)
  obtain ⟨e2, st2, h1, acc, seed, o, ⟨rfl, rfl⟩, s1, s2, s3, s4⟩ := for_rule (tg := fun d e => tgt (.nm 4) d e) (body := fun e st => denSs T (.cons (.asg (.nm 2) (.bin false .Mod (.b1 false .int (.bin false .Add (.bin false .Mult (.var 2) (.cst (.int 48271))) (.cst (.int 12345)))) (.cst (.int 2147483647)))) (.cons (.ex (.append (.var 3) (.bin false .Mod (.b1 false .int (.bin false .FloorDiv (.var 2) (.cst (.int 7)))) (.cst (.int 1000))))) .nil)) e st)
    (fun i e st2 => ∃ acc seed o, (st2 = st' ++ [acc] ∧ e = [some (.l k), some (.p (.int (m : Int))), some (.p (.int seed)), some (.l st'.length), o]) ∧ 0 ≤ seed ∧ seed < 2147483647 ∧ Dr acc ∧ acc.length = i) (rngL m) 0 [some (.l k), some (.p (.int (m : Int))), some (.p (.int (1000 * n1 + n2 + 1))), some (.l st'.length), none] (st' ++ [[]]) ⟨[], _, none, ⟨rfl, rfl⟩, by omega, by omega, Dr.nil, rfl⟩ (by
      rintro i x e st2 hx ⟨acc, seed, o, ⟨rfl, rfl⟩, s1, s2, s3, s4⟩
      have hi : i < m := by
        have := (List.getElem?_eq_some_iff.mp hx).1
        rw [rngL_len] at this
        exact this
      have m2 : binD .Mult (.int seed) (.int 48271) = some (.int (seed * 48271)) := o_mul (mulOk_of (a := 40) (b := 20) (by omega) (by decide) (by decide))
      have k1 : 0 ≤ (seed * 48271 + 12345) % 2147483647 := Int.emod_nonneg _ (by decide)
      have k2 : (seed * 48271 + 12345) % 2147483647 < 2147483647 := Int.emod_lt_of_pos _ (by decide)
      have z := dE_append (T := T) (a := .var 3) (b := .bin false .Mod (.b1 false .int (.bin false .FloorDiv (.var 2) (.cst (.int 7)))) (.cst (.int 1000))) (e := [some (.l k), some (.p (.int (m : Int))), some (.p (.int ((seed * 48271 + 12345) % 2147483647))), some (.l st'.length), some (.p x)]) (st := st' ++ [acc]) (k := st'.length) (d := .int ((((seed * 48271 + 12345) % 2147483647) / 7) % 1000)) (st1 := st' ++ [acc]) (st2 := st' ++ [acc]) (xs := acc) rfl
        (by walk_at "ev"; rw [o_div (by decide)]; walk_at "ev"; rw [o_mod (by decide)]; walk_at "ev") last_get (by omega)
      refine ⟨[some (.l k), some (.p (.int (m : Int))), some (.p (.int seed)), some (.l st'.length), some (.p x)], _, _, rfl, .inl ?_, acc ++ [.int ((((seed * 48271 + 12345) % 2147483647) / 7) % 1000)], (seed * 48271 + 12345) % 2147483647, some (.p x), ⟨rfl, rfl⟩, k1, k2, s3.app (Dr.mod _), by rw [List.length_append, s4]; rfl⟩
      walk_at "ev"
      rw [m2]
      walk_at "ev"
      rw [o_mod (by decide)]
      walk_at "ev"
      rw [z, last_set]
      walk_at "ev")
  refine ⟨acc ++ xs.dropLast.dropLast, ?_, s3.app hd3, ?_⟩
  · rw [denF_eq (by rfl)]
    unfold iMore
    walk_at "ev"
    rw [c1]
    walk_at "ev"
    rw [m1]
    walk_at "ev"
    rw [c2]
    walk_at "ev"
    have e0 : lstR true [] st' = .ok (.l st'.length) (st' ++ [[]]) := lstR_ok2 rfl (by decide)
    rw [e0]
    walk_at "ev"
    rw [dS_for_run (by walk_at "ev"; rw [hr]; walk_at "ev") h1]
    walk_at "ev"
    have gk : (st' ++ [acc])[k]? = some xs.dropLast.dropLast := by rw [List.getElem?_append_left (by omega)]; exact g3
    rw [D2_ll last_get gk]
    have eA : binD .Add (.list acc) (.list xs.dropLast.dropLast) = some (.list (acc ++ xs.dropLast.dropLast)) := by
      show (if acc.length + xs.dropLast.dropLast.length ≤ sizeLine then _ else _) = _
      rw [if_pos]
      have : (100000 : Nat) ≤ sizeLine := by decide
      simp only [List.length_dropLast, s4, rngL_len]
      omega
    rw [eA, mD_some, mkD_tl]
    walk_at "ev"
    unfold fin
    dsimp only
    rw [if_neg (by simp; omega)]
    rw [List.getElem?_append_right (Nat.le_refl _), Nat.sub_self]
    dsimp only [List.getElem?_cons_zero]
    rw [if_pos rfl]
    rw [List.append_assoc, ← hlen, List.take_left]
  · rw [List.length_append, s4, rngL_len, List.length_dropLast, List.length_dropLast]
    omega
end Rk

set_option Elab.async false
set_option linter.all false
set_option maxRecDepth 100000
set_option maxHeartbeats 1000000
set_option exponentiation.threshold 20000
namespace Rk
open PySem
local macro_rules | `(tactic| walk_at "ev") => `(tactic| simp only [tp0, ls0, tp1, ls1, tp2, ls2, tp3, ls3, tp4, ls4, tp5, ls5, tp6, ls6, tp7, ls7, tp8, ls8, tp9, ls9, tp10, ls10, tp11, ls11, tp12, ls12, denF_eq, dSs_nil, dSs_cons, nxS_nx, nxS_rt, nxS_ex, nxS_bk, nxS_ct, lift_ok, lift_ex, oE_some, dS_asg, dS_par, dS_ret, dS_retN, dS_ex, dS_raise, dS_brk, dS_cnt, dS_pass, dS_ife, tgt_nm, set_nil, set_cons, dI_seq, dI_rng1, nI_some, iI_some, int_int, it_list, it_tup, it_f, fin_p, endF_nx, endF_rt, endF_ex, bind_ok, bind_ex, D1_p, D2_pp, mD_some, mkD_f, pD_some, dE_cst, dE_glob, dE_var, vR_ok, dE_bin, dE_neg, negV_int, tR_bool, tR_int, tR_none, tR_list, tR_tup, dE_not, dE_and, dE_or, andR_t, andR_f, orR_t, orR_f, andR_b, orR_b, oB_some, dE_cmp, dE_chain, chR_t, chR_f, chR_b, oC_some, dE_ife, ifR_t, ifR_f, dE_call, dE_b1, dE_b2, dE_idx, dE_isi, dE_tup, dE_lst, dEs_nil, dEs_cons, dats_nil, dats_cons, dT_none, dT_some, o_add, o_sub, c_lt, c_le, c_gt, c_ge, c_eqi, c_nei, u_abs, u_int, u_lenl, u_lent, u_tupl, u_tupt, x_tup, x_lst, a1_0, a2_0, a2_1, a3_0, a3_1, a3_2, a4_0, a4_1, a4_2, a4_3, List.length_cons, List.length_nil, List.map_cons, List.map_nil, List.replicate, List.cons_append, List.nil_append, List.getElem?_cons_zero, List.getElem?_cons_succ, List.set_cons_zero, List.set_cons_succ, Option.map_some, Nat.reduceSub, Nat.reduceAdd, List.take_length, List.isEmpty_nil, List.isEmpty_cons, Bool.not_true, Bool.not_false])
/-! ### the program's quotient, fractions told apart -/
section
variable {T : Nat → Fn} {L c : Nat}
theorem num_ne {q : Rat} (h : q ≠ 0) : q.num ≠ 0 := fun z => h (Rat.num_eq_zero.mp z)
theorem div_eq' (p q : Rat) (h : q ≠ 0) : Rat.divInt (p.num * (q.den : Int)) ((p.den : Int) * q.num) = p / q := by
  rw [Rat.divInt_eq_div, Rat.intCast_mul, Rat.intCast_mul]
  conv => rhs; rw [rat_eq p, rat_eq q]
  have h1 : (p.den : Rat) ≠ 0 := by have := p.den_nz; intro z; exact this (Rat.natCast_inj.mp z)
  have h2 : (q.den : Rat) ≠ 0 := by have := q.den_nz; intro z; exact this (Rat.natCast_inj.mp z)
  have h3 : (q.num : Rat) ≠ 0 := fun z => num_ne h (Rat.intCast_eq_zero_iff.mp z)
  rw [Rat.intCast_natCast, Rat.intCast_natCast]
  grind
theorem dn_lt {p q : Rat} (hp : Sm p) (hq : Sm q) : (p.den : Int) * (q.num.natAbs : Int) < 2 ^ 9000 := by
  have h1 := mul_lt hp.2 hq.1
  have h2 : p.den * q.num.natAbs < 2 ^ 9000 := Nat.lt_of_lt_of_le h1 (pow_mono (by decide))
  have h3 : ((p.den * q.num.natAbs : Nat) : Int) < ((2 ^ 9000 : Nat) : Int) := Int.ofNat_lt.mpr h2
  exact h3
theorem by_ok (hL : LeastP T L) {p q : Rat} (hp : Sm p) (hq : Sm q) (h : q ≠ 0) (st : Store) : denF T (iBy L) [.p (frP p), .p (frP q)] st = .ok (.p (frP (p / q))) st := by
  have hn := num_ne h
  have hpos : (0 : Int) < (p.den : Int) * (q.num.natAbs : Int) := Int.mul_pos (den_pos' p) (by omega)
  have m3 : binD .Mult (.int (p.den : Int)) (.int (q.num.natAbs : Int)) = some (.int ((p.den : Int) * (q.num.natAbs : Int))) := o_mul (mulOk_of (a := 4000) (b := 4000) (by rw [Int.natAbs_natCast]; exact hp.2) (by rw [Int.natAbs_natCast]; exact hq.1) (by decide))
  rw [denF_eq (by rfl)]
  unfold iBy frP
  walk_at "ev"
  by_cases hs : 0 < q.num
  · have m1 : binD .Mult (.int 1) (.int p.num) = some (.int (1 * p.num)) := o_mul (mulOk_of (a := 1) (b := 4000) (by decide) hp.1 (by decide))
    have m2 : binD .Mult (.int (1 * p.num)) (.int (q.den : Int)) = some (.int (1 * p.num * (q.den : Int))) := o_mul (mulOk_of (a := 4000) (b := 4000) (by rw [Int.one_mul]; exact hp.1) (by rw [Int.natAbs_natCast]; exact hq.2) (by decide))
    rw [decide_eq_true hs]
    walk_at "ev"
    rw [m1]
    walk_at "ev"
    rw [m2, m3]
    walk_at "ev"
    rw [hL _ _ _ hpos (dn_lt hp hq), Int.one_mul, Int.natAbs_of_nonneg (Int.le_of_lt hs), div_eq' p q h]
    walk_at "ev"
    rfl
  · have m1 : binD .Mult (.int (-1)) (.int p.num) = some (.int (-1 * p.num)) := o_mul (mulOk_of (a := 1) (b := 4000) (by decide) hp.1 (by decide))
    have m2 : binD .Mult (.int (-1 * p.num)) (.int (q.den : Int)) = some (.int (-1 * p.num * (q.den : Int))) := o_mul (mulOk_of (a := 4000) (b := 4000) (by rw [Int.natAbs_mul]; show 1 * p.num.natAbs < _; rw [Nat.one_mul]; exact hp.1) (by rw [Int.natAbs_natCast]; exact hq.2) (by decide))
    rw [decide_eq_false hs]
    walk_at "ev"
    rw [m1]
    walk_at "ev"
    rw [m2, m3]
    walk_at "ev"
    have e1 : (q.num.natAbs : Int) = -q.num := by omega
    have e2 : -1 * p.num * (q.den : Int) = -(p.num * (q.den : Int)) := by rw [Int.neg_mul, Int.one_mul, Int.neg_mul]
    have e3 : (p.den : Int) * -q.num = -((p.den : Int) * q.num) := Int.mul_neg _ _
    rw [hL _ _ _ hpos (dn_lt hp hq), e1, e2, e3, Rat.neg_divInt_neg, div_eq' p q h]
    walk_at "ev"
    rfl
/-- what the def of the greatest common part promises -/
abbrev CommonP (T : Nat → Fn) (c : Nat) : Prop := ∀ (a b : Nat) (st : Store), b < 2 ^ 9000 → T c [.p (.int (a : Int)), .p (.int (b : Int))] st = .ok (.p (.int ((Nat.gcd a b : Nat) : Int))) st
def iIsFr (c : Nat) : FnIR := ⟨1, 1, false, (.cons (.ret (.and (.cmp .Eq (.b1 false .len (.var 0)) (.cst (.int 2))) (.and (.cmp .Gt (.idx (.var 0) (.cst (.int 1))) (.cst (.int 0))) (.cmp .Eq (.call c (.cons (.b1 false .abs (.idx (.var 0) (.cst (.int 0)))) (.cons (.idx (.var 0) (.cst (.int 1))) .nil))) (.cst (.int 1)))))) .nil)⟩
theorem isfr_ok (hc : CommonP T c) {q : Rat} (hq : Sm q) (st : Store) : denF T (iIsFr c) [.p (frP q)] st = .ok (.p (.bool true)) st := by
  have h1 : decide ((0 : Int) < (q.den : Int)) = true := decide_eq_true (den_pos' q)
  have h2 := hc q.num.natAbs q.den st (Nat.lt_of_lt_of_le hq.2 (pow_mono (by decide)))
  rw [show Nat.gcd q.num.natAbs q.den = 1 from q.reduced] at h2
  rw [denF_eq (by rfl)]
  unfold iIsFr frP
  walk_at "ev"
  rw [h1]
  rw [h2]
  walk_at "ev"
  rfl
def iLIsFr (L : Nat) : FnIR := ⟨1, 1, false, (.cons (.ret (.and (.cmp .Eq (.b1 false .len (.var 0)) (.cst (.int 2))) (.and (.cmp .Gt (.idx (.var 0) (.cst (.int 1))) (.cst (.int 0))) (.cmp .Eq (.call L (.cons (.idx (.var 0) (.cst (.int 0))) (.cons (.idx (.var 0) (.cst (.int 1))) .nil))) (.var 0))))) .nil)⟩
/-! == of fractions -/
theorem fr_inj {p q : Rat} (h : frP p = frP q) : p = q := by
  unfold frP at h
  injection h with h
  injection h with h1 h2
  injection h2 with h2 _
  injection h1 with h1
  injection h2 with h2
  exact Rat.ext h1 (by omega)
theorem eqv_fr (p q : Rat) : PyData.eqv (frP p) (frP q) = decide (p = q) := by
  show (p.num == q.num && (((p.den : Int) == (q.den : Int)) && true)) = _
  by_cases h : p = q
  · subst h
    simp
  · rw [decide_eq_false h]
    cases e1 : p.num == q.num with
    | false => rfl
    | true =>
      cases e2 : ((p.den : Int) == (q.den : Int)) with
      | false => rfl
      | true => exact absurd (Rat.ext (eq_of_beq e1) (by have := eq_of_beq e2; omega)) h
theorem c_eqfr (p q : Rat) : cmpD .Eq (frP p) (frP q) = some (decide (p = q)) := by
  show eqD (frP p) (frP q) = _
  unfold eqD
  rw [if_pos (.inr ⟨rfl, rfl⟩), eqv_fr]
theorem c_nefr (p q : Rat) : cmpD .NotEq (frP p) (frP q) = some (!decide (p = q)) := by
  show (eqD (frP p) (frP q)).map (!·) = _
  rw [show eqD (frP p) (frP q) = some (decide (p = q)) from c_eqfr p q]
  rfl
theorem lisfr_ok (hL : LeastP T L) {q : Rat} (hq : Sm q) (st : Store) : denF T (iLIsFr L) [.p (frP q)] st = .ok (.p (.bool true)) st := by
  have h1 : decide ((0 : Int) < (q.den : Int)) = true := decide_eq_true (den_pos' q)
  have hz : (q.den : Int) < 2 ^ 9000 := by
    have h2 : q.den < 2 ^ 9000 := Nat.lt_of_lt_of_le hq.2 (pow_mono (by decide))
    have h3 : ((q.den : Nat) : Int) < ((2 ^ 9000 : Nat) : Int) := Int.ofNat_lt.mpr h2
    exact h3
  have h2 := hL q.num q.den st (den_pos' q) hz
  rw [Rat.num_divInt_den] at h2
  rw [denF_eq (by rfl)]
  unfold iLIsFr
  have e0 : frP q = .tuple [.int q.num, .int (q.den : Int)] := rfl
  rw [e0]
  walk_at "ev"
  rw [h1, h2, ← e0]
  walk_at "ev"
  rw [c_eqfr]
  walk_at "ev"
  simp
end
end Rk

set_option Elab.async false
set_option linter.all false
set_option maxRecDepth 100000
set_option maxHeartbeats 1000000
set_option exponentiation.threshold 20000
namespace Rk
open PySem
local macro_rules | `(tactic| walk_at "ev") => `(tactic| simp only [tp0, ls0, tp1, ls1, tp2, ls2, tp3, ls3, tp4, ls4, tp5, ls5, tp6, ls6, tp7, ls7, tp8, ls8, tp9, ls9, tp10, ls10, tp11, ls11, tp12, ls12, denF_eq, dSs_nil, dSs_cons, nxS_nx, nxS_rt, nxS_ex, nxS_bk, nxS_ct, lift_ok, lift_ex, oE_some, dS_asg, dS_par, dS_ret, dS_retN, dS_ex, dS_raise, dS_brk, dS_cnt, dS_pass, dS_ife, tgt_nm, set_nil, set_cons, dI_seq, dI_rng1, nI_some, iI_some, int_int, it_list, it_tup, it_f, fin_p, endF_nx, endF_rt, endF_ex, bind_ok, bind_ex, D1_p, D2_pp, mD_some, mkD_f, pD_some, dE_cst, dE_glob, dE_var, vR_ok, dE_bin, dE_neg, negV_int, tR_bool, tR_int, tR_none, tR_list, tR_tup, dE_not, dE_and, dE_or, andR_t, andR_f, orR_t, orR_f, andR_b, orR_b, oB_some, dE_cmp, dE_chain, chR_t, chR_f, chR_b, oC_some, dE_ife, ifR_t, ifR_f, dE_call, dE_b1, dE_b2, dE_idx, dE_isi, dE_tup, dE_lst, dEs_nil, dEs_cons, dats_nil, dats_cons, dT_none, dT_some, o_add, o_sub, c_lt, c_le, c_gt, c_ge, c_eqi, c_nei, u_abs, u_int, u_lenl, u_lent, u_tupl, u_tupt, x_tup, x_lst, a1_0, a2_0, a2_1, a3_0, a3_1, a3_2, a4_0, a4_1, a4_2, a4_3, List.length_cons, List.length_nil, List.map_cons, List.map_nil, List.replicate, List.cons_append, List.nil_append, List.getElem?_cons_zero, List.getElem?_cons_succ, List.set_cons_zero, List.set_cons_succ, Option.map_some, Nat.reduceSub, Nat.reduceAdd, List.take_length, List.isEmpty_nil, List.isEmpty_cons, Bool.not_true, Bool.not_false])
theorem frP_def (q : Rat) : frP q = .tuple [.int q.num, .int (q.den : Int)] := id rfl
theorem fr_1 : PyData.tuple [.int 1, .int 1] = frP 1 := id rfl
theorem fr_0 : PyData.tuple [.int 0, .int 1] = frP 0 := id rfl
theorem fr_2 : PyData.tuple [.int 2, .int 1] = frP 2 := id rfl
theorem fr_h : PyData.tuple [.int 1, .int 2] = frP (1 / 2) := by
  rw [frP_def, show (1 / 2 : Rat).num = 1 by decide +kernel, show (1 / 2 : Rat).den = 2 by decide +kernel]
  rfl
theorem x_f0 (q : Rat) : idxD (frP q) (.int 0) = some (.int q.num) := id rfl
theorem x_f1 (q : Rat) : idxD (frP q) (.int 1) = some (.int (q.den : Int)) := id rfl
theorem u_tupf (q : Rat) : b1D .tup (frP q) = some (frP q) := id rfl
theorem u_lenf (q : Rat) : b1D .len (frP q) = some (.int 2) := id rfl
theorem c_isfr (q : Rat) : cmpD .Is (frP q) .none = some false := id rfl
theorem c_infr (q : Rat) : cmpD .IsNot (frP q) .none = some true := id rfl
theorem sz_c1 : SzR 1 (1 : Rat) := ⟨by decide, by decide⟩
theorem sz_c0 : SzR 1 (0 : Rat) := ⟨by decide, by decide⟩
theorem sz_c2 : SzR 2 (2 : Rat) := ⟨by decide, by decide⟩
theorem sz_ch : SzR 2 (1 / 2 : Rat) := ⟨by decide +kernel, by decide +kernel⟩
end Rk

set_option Elab.async false
set_option linter.all false
set_option maxRecDepth 100000
set_option maxHeartbeats 1000000
set_option exponentiation.threshold 20000
namespace Rk
open PySem
local macro_rules | `(tactic| walk_at "ev") => `(tactic| simp only [tp0, ls0, tp1, ls1, tp2, ls2, tp3, ls3, tp4, ls4, tp5, ls5, tp6, ls6, tp7, ls7, tp8, ls8, tp9, ls9, tp10, ls10, tp11, ls11, tp12, ls12, denF_eq, dSs_nil, dSs_cons, nxS_nx, nxS_rt, nxS_ex, nxS_bk, nxS_ct, lift_ok, lift_ex, oE_some, dS_asg, dS_par, dS_ret, dS_retN, dS_ex, dS_raise, dS_brk, dS_cnt, dS_pass, dS_ife, tgt_nm, set_nil, set_cons, dI_seq, dI_rng1, nI_some, iI_some, int_int, it_list, it_tup, it_f, fin_p, endF_nx, endF_rt, endF_ex, bind_ok, bind_ex, D1_p, D2_pp, mD_some, mkD_f, pD_some, dE_cst, dE_glob, dE_var, vR_ok, dE_bin, dE_neg, negV_int, tR_bool, tR_int, tR_none, tR_list, tR_tup, dE_not, dE_and, dE_or, andR_t, andR_f, orR_t, orR_f, andR_b, orR_b, oB_some, dE_cmp, dE_chain, chR_t, chR_f, chR_b, oC_some, dE_ife, ifR_t, ifR_f, dE_call, dE_b1, dE_b2, dE_idx, dE_isi, dE_tup, dE_lst, dEs_nil, dEs_cons, dats_nil, dats_cons, dT_none, dT_some, o_add, o_sub, c_lt, c_le, c_gt, c_ge, c_eqi, c_nei, u_abs, u_int, u_lenl, u_lent, u_tupl, u_tupt, x_tup, x_lst, a1_0, a2_0, a2_1, a3_0, a3_1, a3_2, a4_0, a4_1, a4_2, a4_3, List.length_cons, List.length_nil, List.map_cons, List.map_nil, List.replicate, List.cons_append, List.nil_append, List.getElem?_cons_zero, List.getElem?_cons_succ, List.set_cons_zero, List.set_cons_succ, Option.map_some, Nat.reduceSub, Nat.reduceAdd, List.take_length, List.isEmpty_nil, List.isEmpty_cons, Bool.not_true, Bool.not_false])
/-! ### comprehensions, switches, try -/
section
variable {T : Nat → Fn} {e : Env} {st : Store}
theorem compL_pure {tg : PyData → Env → Option Env} {test : Env → M Bool} {elt : Env → M Val} {e0 : Env} {f : PyData → PyData} {b : PyData → Bool} : ∀ (xs acc : List PyData), (∀ x ∈ xs, ∃ e1, tg x e0 = some e1 ∧ ∀ st', test e1 st' = .ok (b x) st' ∧ (b x = true → elt e1 st' = .ok (.p (f x)) st')) → acc.length + xs.length ≤ 100000 →
    compL tg test elt e0 st.length xs (st ++ [acc]) = .ok () (st ++ [acc ++ (xs.filter b).map f])
  | [], acc, _, _ => by rw [List.filter_nil, List.map_nil, List.append_nil]; rfl
  | x :: xs, acc, h, hl => by
    obtain ⟨e1, h1, h2⟩ := h x List.mem_cons_self
    have ih := fun acc hl => compL_pure xs acc (fun y hy => h y (List.mem_cons_of_mem _ hy)) hl
    rw [List.length_cons] at hl
    unfold compL
    rw [h1]
    dsimp only
    rw [(h2 _).1]
    cases hb : b x with
    | false =>
      rw [List.filter_cons_of_neg (by rw [hb]; exact Bool.false_ne_true)]
      exact ih acc (by omega)
    | true =>
      rw [List.filter_cons_of_pos hb]
      dsimp only
      rw [(h2 _).2 hb]
      dsimp only
      have g : (st ++ [acc])[st.length]? = some acc := last_get
      rw [g]
      dsimp only
      rw [if_pos (Nat.lt_of_lt_of_le (by omega : acc.length < 100000) (by decide)), last_set, ih (acc ++ [f x]) (by rw [List.length_append]; simp only [List.length_cons, List.length_nil]; omega)]
      rw [List.map_cons, List.append_assoc]
      rfl
theorem compM_pure {tg : PyData → Env → Option Env} {test : Env → M Bool} {elt : Env → M Val} {e0 : Env} {f : PyData → PyData} {b : PyData → Bool} {xs : List PyData} (h : ∀ x ∈ xs, ∃ e1, tg x e0 = some e1 ∧ ∀ st', test e1 st' = .ok (b x) st' ∧ (b x = true → elt e1 st' = .ok (.p (f x)) st')) (hl : xs.length ≤ 100000) :
    compM false tg test elt e0 xs st = .ok (.p (.list ((xs.filter b).map f))) st := by
  unfold compM
  rw [compL_pure xs [] h (by simpa using hl)]
  dsimp only
  rw [List.nil_append, last_get]
  dsimp only
  rw [if_neg Bool.false_ne_true, List.take_left]
theorem dE_comp {own : List Nat} {t : Tg} {it : It} {el : E} {xs : List PyData} {st1 : Store} (f : PyData → PyData) (hi : denI T it e st = .ok xs st1) (h : ∀ x ∈ xs, ∃ e1, tgt t x (wipeE e own) = some e1 ∧ ∀ st', denE T el e1 st' = .ok (.p (f x)) st') (hl : xs.length ≤ 100000) :
    denE T (.comp false own t it .none el) e st = .ok (.p (.list (xs.map f))) st1 := by
  show (denI T it e st).bind _ = _
  rw [hi]
  show compM false _ _ _ _ xs st1 = _
  rw [compM_pure (f := f) (b := fun _ => true) (fun x hx => by obtain ⟨e1, h1, h2⟩ := h x hx; exact ⟨e1, h1, fun st' => ⟨rfl, fun _ => h2 st'⟩⟩) hl]
  rw [List.filter_eq_self.mpr (fun _ _ => rfl)]
theorem dE_compF {own : List Nat} {t : Tg} {it : It} {c el : E} {xs : List PyData} {st1 : Store} (f : PyData → PyData) (b : PyData → Bool) (hi : denI T it e st = .ok xs st1) (h : ∀ x ∈ xs, ∃ e1, tgt t x (wipeE e own) = some e1 ∧ ∀ st', (denE T c e1 st').bind tR = .ok (b x) st' ∧ (b x = true → denE T el e1 st' = .ok (.p (f x)) st')) (hl : xs.length ≤ 100000) :
    denE T (.comp false own t it (.some c) el) e st = .ok (.p (.list ((xs.filter b).map f))) st1 := by
  show (denI T it e st).bind _ = _
  rw [hi]
  exact compM_pure (f := f) (b := b) h hl
theorem dE_sw {js : List Nat} {i : E} {as : Es} {n : Int} {j : Nat} {st1 : Store} (hi : denE T i e st = .ok (.p (.int n)) st1) (hj : L2.atI js n = some j) : denE T (.sw js i as) e st = (denEs T as e st1).bind fun vs st2 => T j vs st2 := by
  show (denE T i e st).bind _ = _
  rw [hi]
  show (match L2.atI js n with
      | some j => M.bind (denEs T as e) fun vs => T j vs
      | none => M.no) st1 = _
  rw [hj]
  rfl
theorem dS_try {b : Ss} {i : Nat} {h : List (Str × PyData)} : denS T (.try_ b i h) e st = (match denSs T b e st with
    | .ex c' _ st' => (match h.lookup c' with
      | some d => .ok (.rt (.p d)) st'
      | none => .no)
    | r => r) := id rfl
theorem dS_try_rt {b : Ss} {i : Nat} {h : List (Str × PyData)} {v : Val} {st1 : Store} (hb : denSs T b e st = .ok (.rt v) st1) : denS T (.try_ b i h) e st = .ok (.rt v) st1 := by
  rw [dS_try, hb]
theorem dS_try_ex {b : Ss} {i : Nat} {h : List (Str × PyData)} {c : Str} {e1 : Env} {d : PyData} {st1 : Store} (hb : denSs T b e st = .ex c e1 st1) (hc : h.lookup c = some d) : denS T (.try_ b i h) e st = .ok (.rt (.p d)) st1 := by
  rw [dS_try, hb]
  dsimp only
  rw [hc]
/-- len, all of lists that are written out -/
theorem bools_cons {b : Bool} {r : List PyData} : boolsD (.bool b :: r) = (boolsD r).map (b :: ·) := id rfl
theorem u_all {xs : List PyData} {bs : List Bool} (h : boolsD xs = some bs) : b1D .all (.list xs) = some (.bool (bs.all id)) := by
  show (boolsD xs).map (fun bs => PyData.bool (bs.all id)) = _
  rw [h]
  rfl
theorem boolsD_mapf (f : PyData → Bool) : ∀ xs : List PyData, boolsD (xs.map fun x => .bool (f x)) = some (xs.map f)
  | [] => rfl
  | x :: xs => by rw [List.map_cons, bools_cons, boolsD_mapf f xs]; rfl
end
end Rk

set_option Elab.async false
set_option linter.all false
set_option maxRecDepth 100000
set_option maxHeartbeats 1000000
set_option exponentiation.threshold 20000
namespace Rk
open PySem
local macro_rules | `(tactic| walk_at "ev") => `(tactic| simp only [tp0, ls0, tp1, ls1, tp2, ls2, tp3, ls3, tp4, ls4, tp5, ls5, tp6, ls6, tp7, ls7, tp8, ls8, tp9, ls9, tp10, ls10, tp11, ls11, tp12, ls12, denF_eq, dSs_nil, dSs_cons, nxS_nx, nxS_rt, nxS_ex, nxS_bk, nxS_ct, lift_ok, lift_ex, oE_some, dS_asg, dS_par, dS_ret, dS_retN, dS_ex, dS_raise, dS_brk, dS_cnt, dS_pass, dS_ife, tgt_nm, set_nil, set_cons, dI_seq, dI_rng1, nI_some, iI_some, int_int, it_list, it_tup, it_f, fin_p, endF_nx, endF_rt, endF_ex, bind_ok, bind_ex, D1_p, D2_pp, mD_some, mkD_f, pD_some, dE_cst, dE_glob, dE_var, vR_ok, dE_bin, dE_neg, negV_int, tR_bool, tR_int, tR_none, tR_list, tR_tup, dE_not, dE_and, dE_or, andR_t, andR_f, orR_t, orR_f, andR_b, orR_b, oB_some, dE_cmp, dE_chain, chR_t, chR_f, chR_b, oC_some, dE_ife, ifR_t, ifR_f, dE_call, dE_b1, dE_b2, dE_idx, dE_isi, dE_tup, dE_lst, dEs_nil, dEs_cons, dats_nil, dats_cons, dT_none, dT_some, o_add, o_sub, c_lt, c_le, c_gt, c_ge, c_eqi, c_nei, u_abs, u_int, u_lenl, u_lent, u_tupl, u_tupt, x_tup, x_lst, a1_0, a2_0, a2_1, a3_0, a3_1, a3_2, a4_0, a4_1, a4_2, a4_3, List.length_cons, List.length_nil, List.map_cons, List.map_nil, List.replicate, List.cons_append, List.nil_append, List.getElem?_cons_zero, List.getElem?_cons_succ, List.set_cons_zero, List.set_cons_succ, Option.map_some, Nat.reduceSub, Nat.reduceAdd, List.take_length, List.isEmpty_nil, List.isEmpty_cons, Bool.not_true, Bool.not_false])
/-! ### roots -/
def rootB : Ss := (.cons (.asg (.nm 3) (.bin false .FloorDiv (.bin false .Add (.var 1) (.var 2)) (.cst (.int 2)))) (.cons (.ife (.cmp .LtE (.bin false .Mult (.var 3) (.var 3)) (.var 0)) (.cons (.asg (.nm 1) (.var 3)) .nil) (.cons (.asg (.nm 2) (.var 3)) .nil)) .nil))
def rootC : E := (.cmp .Gt (.bin false .Sub (.var 2) (.var 1)) (.cst (.int 1)))
def iRoot : FnIR := ⟨1, 4, false, (.cons (.par [1, 2] (.cons (.cst (.int 0)) (.cons (.bin false .Add (.var 0) (.cst (.int 1))) .nil))) (.cons (.whl rootC rootB) (.cons (.ret (.var 1)) .nil)))⟩
theorem root_ok {T : Nat → Fn} (n : Nat) (hn : n < 2 ^ 8000) (st : Store) : ∃ r : Nat, r * r ≤ n ∧ n < (r + 1) * (r + 1) ∧ denF T iRoot [.p (.int (n : Int))] st = .ok (.p (.int (r : Int))) st := by
  obtain ⟨e2, st2, h1, lo, o, ⟨hs, rfl⟩, h2, h3⟩ := whl_rule (test := fun e st => (denE T rootC e st).bind tR) (body := fun e st => denSs T rootB e st)
    (fun m e st' => ∃ (lo hi : Nat) (o : Option Val), (st' = st ∧ e = [some (.p (.int (n : Int))), some (.p (.int (lo : Int))), some (.p (.int (hi : Int))), o]) ∧ lo * lo ≤ n ∧ n < hi * hi ∧ lo < hi ∧ hi ≤ n + 1 ∧ hi - lo = m)
    (fun e st' => ∃ (lo : Nat) (o : Option Val), (st' = st ∧ e = [some (.p (.int (n : Int))), some (.p (.int (lo : Int))), some (.p (.int ((lo + 1 : Nat) : Int))), o]) ∧ lo * lo ≤ n ∧ n < (lo + 1) * (lo + 1))
    (by
      rintro m e st' ⟨lo, hi, o, ⟨rfl, rfl⟩, h1, h2, h3, h4, h5⟩
      by_cases hd : hi = lo + 1
      · subst hd
        have d : decide ((1 : Int) < ((lo + 1 : Nat) : Int) - (lo : Int)) = false := decide_eq_false (by omega)
        refine .inl ⟨?_, lo, o, ⟨rfl, rfl⟩, h1, h2⟩
        unfold rootC
        walk_at "ev"
        rw [d]
      · have d : decide ((1 : Int) < (hi : Int) - (lo : Int)) = true := decide_eq_true (by omega)
        have hm : ((lo : Int) + (hi : Int)) / 2 = (((lo + hi) / 2 : Nat) : Int) := by omega
        have hb : (lo + hi) / 2 < 2 ^ 8001 := by
          have : n + 1 < 2 ^ 8001 := Nat.lt_of_le_of_lt hn (by decide)
          omega
        have hmul : binD .Mult (.int (((lo + hi) / 2 : Nat) : Int)) (.int (((lo + hi) / 2 : Nat) : Int)) = some (.int ((((lo + hi) / 2 : Nat) : Int) * (((lo + hi) / 2 : Nat) : Int))) := o_mul (mulOk_of (a := 8001) (b := 8001) (by rw [Int.natAbs_natCast]; exact hb) (by rw [Int.natAbs_natCast]; exact hb) (by decide))
        refine .inr ⟨?_, ?_⟩
        · unfold rootC
          walk_at "ev"
          rw [d]
        · by_cases hq : (lo + hi) / 2 * ((lo + hi) / 2) ≤ n
          · refine ⟨[some (.p (.int (n : Int))), some (.p (.int (((lo + hi) / 2 : Nat) : Int))), some (.p (.int (hi : Int))), some (.p (.int (((lo + hi) / 2 : Nat) : Int)))], st', hi - (lo + hi) / 2, .inl ?_, by omega, (lo + hi) / 2, hi, _, ⟨rfl, rfl⟩, hq, h2, by omega, h4, rfl⟩
            have dq : decide ((((lo + hi) / 2 : Nat) : Int) * (((lo + hi) / 2 : Nat) : Int) ≤ (n : Int)) = true := decide_eq_true (by
              have : (((lo + hi) / 2 * ((lo + hi) / 2) : Nat) : Int) ≤ (n : Int) := Int.ofNat_le.mpr hq
              rw [Int.natCast_mul] at this
              exact this)
            unfold rootB
            walk_at "ev"
            rw [o_div (by decide), hm]
            walk_at "ev"
            rw [hmul]
            walk_at "ev"
            rw [dq]
            walk_at "ev"
          · refine ⟨[some (.p (.int (n : Int))), some (.p (.int (lo : Int))), some (.p (.int (((lo + hi) / 2 : Nat) : Int))), some (.p (.int (((lo + hi) / 2 : Nat) : Int)))], st', (lo + hi) / 2 - lo, .inl ?_, by omega, lo, (lo + hi) / 2, _, ⟨rfl, rfl⟩, h1, by omega, by omega, by omega, rfl⟩
            have dq : decide ((((lo + hi) / 2 : Nat) : Int) * (((lo + hi) / 2 : Nat) : Int) ≤ (n : Int)) = false := decide_eq_false (fun z => hq (by
              rw [← Int.natCast_mul] at z
              exact Int.ofNat_le.mp z))
            unfold rootB
            walk_at "ev"
            rw [o_div (by decide), hm]
            walk_at "ev"
            rw [hmul]
            walk_at "ev"
            rw [dq]
            walk_at "ev") fuelW (n + 1 - 0) [some (.p (.int (n : Int))), some (.p (.int ((0 : Nat) : Int))), some (.p (.int ((n + 1 : Nat) : Int))), none] st (fuel_big (Nat.lt_of_le_of_lt hn (by decide))) ⟨0, n + 1, none, ⟨rfl, rfl⟩, Nat.zero_le _, by rw [Nat.mul_add, Nat.mul_one, Nat.add_mul]; omega, by omega, Nat.le_refl _, rfl⟩
  rw [hs] at h1
  refine ⟨lo, h2, h3, ?_⟩
  have hw : denS T (.whl rootC rootB) [some (.p (.int (n : Int))), some (.p (.int 0)), some (.p (.int ((n : Int) + 1))), none] st = .ok (.nx [some (.p (.int (n : Int))), some (.p (.int (lo : Int))), some (.p (.int ((lo + 1 : Nat) : Int))), o]) st := by
    rw [dS_whl]
    exact h1
  rw [denF_eq (by rfl)]
  unfold iRoot
  walk_at "ev"
  rw [hw]
  walk_at "ev"
theorem sq_unique {r k n : Nat} (h1 : r * r ≤ n) (h2 : n < (r + 1) * (r + 1)) (h3 : n = k * k) : r = k := by
  subst h3
  rcases Nat.lt_trichotomy r k with h | h | h
  · have : (r + 1) * (r + 1) ≤ k * k := Nat.mul_le_mul h h
    omega
  · exact h
  · have : (k + 1) * (k + 1) ≤ r * r := Nat.mul_le_mul h h
    have : k * k < (k + 1) * (k + 1) := by rw [Nat.add_mul, Nat.mul_add]; omega
    omega
abbrev RootP (T : Nat → Fn) (R : Nat) : Prop := ∀ (n : Nat) (st : Store), n < 2 ^ 8000 → ∃ r : Nat, r * r ≤ n ∧ n < (r + 1) * (r + 1) ∧ T R [.p (.int (n : Int))] st = .ok (.p (.int (r : Int))) st
def iExRoot (R : Nat) : FnIR := ⟨1, 3, false, (.cons (.par [1, 2] (.cons (.call R (.cons (.idx (.var 0) (.cst (.int 0))) .nil)) (.cons (.call R (.cons (.idx (.var 0) (.cst (.int 1))) .nil)) .nil))) (.cons (.ret (.ife (.cmp .Eq (.tup (.cons (.bin false .Mult (.var 1) (.var 1)) (.cons (.bin false .Mult (.var 2) (.var 2)) .nil))) (.b1 false .tup (.var 0))) (.tup (.cons (.var 1) (.cons (.var 2) .nil))) (.cst .none))) .nil))⟩
theorem eqv_2 (a b c d : Int) : cmpD .Eq (.tuple [.int a, .int b]) (.tuple [.int c, .int d]) = some (decide (a = c ∧ b = d)) := by
  show some (PyData.eqv (.tuple [.int a, .int b]) (.tuple [.int c, .int d])) = _
  congr 1
  show ((a == c) && ((b == d) && true)) = _
  rw [Bool.and_true, Bool.decide_and]
  rfl
/-- the root of a square, None of another fraction -/
theorem exroot_ok {T : Nat → Fn} {R : Nat} (hR : RootP T R) {q : Rat} (hq : Sm q) (h0 : 0 ≤ q) (st : Store) : (∃ k : Rat, 0 ≤ k ∧ k * k = q ∧ SzR 4000 k ∧ denF T (iExRoot R) [.p (frP q)] st = .ok (.p (frP k)) st) ∨ ((∀ a b : Nat, ¬ (q.num = ((a * a : Nat) : Int) ∧ q.den = b * b)) ∧ denF T (iExRoot R) [.p (frP q)] st = .ok (.p .none) st) := by
  have hn : 0 ≤ q.num := Rat.num_nonneg.mpr h0
  have en : ((q.num.toNat : Nat) : Int) = q.num := Int.toNat_of_nonneg hn
  have b1 : q.num.toNat < 2 ^ 4000 := by have := hq.1; omega
  obtain ⟨r, r1, r2, r3⟩ := hR q.num.toNat st (Nat.lt_of_lt_of_le b1 (pow_mono (by decide)))
  obtain ⟨s, s1, s2, s3⟩ := hR q.den st (Nat.lt_of_lt_of_le hq.2 (pow_mono (by decide)))
  rw [en] at r3
  have rb : r < 2 ^ 4000 := by
    rcases Nat.eq_zero_or_pos r with h | h
    · rw [h]; exact Nat.two_pow_pos _
    · exact Nat.lt_of_le_of_lt (Nat.le_trans (Nat.le_mul_of_pos_right r h) r1) b1
  have sb : s < 2 ^ 4000 := by
    rcases Nat.eq_zero_or_pos s with h | h
    · rw [h]; exact Nat.two_pow_pos _
    · exact Nat.lt_of_le_of_lt (Nat.le_trans (Nat.le_mul_of_pos_right s h) s1) hq.2
  have m1 : binD .Mult (.int (r : Int)) (.int (r : Int)) = some (.int ((r : Int) * (r : Int))) := o_mul (mulOk_of (a := 4000) (b := 4000) (by rw [Int.natAbs_natCast]; exact rb) (by rw [Int.natAbs_natCast]; exact rb) (by decide))
  have m2 : binD .Mult (.int (s : Int)) (.int (s : Int)) = some (.int ((s : Int) * (s : Int))) := o_mul (mulOk_of (a := 4000) (b := 4000) (by rw [Int.natAbs_natCast]; exact sb) (by rw [Int.natAbs_natCast]; exact sb) (by decide))
  have run : ∀ b, decide ((r : Int) * (r : Int) = q.num ∧ (s : Int) * (s : Int) = (q.den : Int)) = b → denF T (iExRoot R) [.p (frP q)] st = .ok (ifR b (.p (.tuple [.int (r : Int), .int (s : Int)])) (.p .none)) st := by
    intro b hb
    rw [denF_eq (by rfl)]
    unfold iExRoot frP
    walk_at "ev"
    rw [r3]
    walk_at "ev"
    rw [s3]
    walk_at "ev"
    rw [m1, m2]
    walk_at "ev"
    rw [eqv_2, hb]
    cases b <;> walk_at "ev"
  by_cases hb : (r : Int) * (r : Int) = q.num ∧ (s : Int) * (s : Int) = (q.den : Int)
  · have e2 : s * s = q.den := by have := hb.2; rw [← Int.natCast_mul] at this; exact Int.ofNat.inj this
    have spos : 0 < s := Nat.pos_of_ne_zero fun z => by rw [z] at e2; exact q.den_nz e2.symm
    have e1 : r * r = q.num.natAbs := by
      have := hb.1
      rw [← Int.natCast_mul] at this
      omega
    have cop : Nat.Coprime r s := by
      have : Nat.Coprime (r * r) (s * s) := by rw [e1, e2]; exact q.reduced
      exact Nat.Coprime.coprime_mul_right (Nat.Coprime.coprime_mul_right_right this)
    refine .inl ⟨⟨(r : Int), s, by omega, by rw [Int.natAbs_natCast]; exact cop⟩, ?_, ?_, ⟨by show (r : Int).natAbs < _; rw [Int.natAbs_natCast]; exact rb, sb⟩, run true (decide_eq_true hb)⟩
    · exact Rat.num_nonneg.mp (by show (0 : Int) ≤ (r : Int); omega)
    · have e3 : ∀ k : Rat, k * k = k ^ 2 := fun k => by grind
      rw [e3]
      refine Rat.ext ?_ ?_
      · rw [Rat.num_pow]
        show (r : Int) ^ 2 = _
        rw [← hb.1, Int.pow_succ, Int.pow_succ, Int.pow_zero, Int.one_mul]
      · rw [Rat.den_pow]
        show s ^ 2 = _
        rw [← e2, Nat.pow_succ, Nat.pow_succ, Nat.pow_zero, Nat.one_mul]
  · refine .inr ⟨fun a b ⟨h1, h2⟩ => hb ?_, run false (decide_eq_false hb)⟩
    have ea : r = a := sq_unique r1 r2 (by omega)
    have eb : s = b := sq_unique s1 s2 h2
    subst ea; subst eb
    exact ⟨by rw [h1, Int.natCast_mul], by rw [h2, Int.natCast_mul]⟩
end Rk

set_option Elab.async false
set_option linter.all false
set_option maxRecDepth 100000
set_option maxHeartbeats 1000000
set_option exponentiation.threshold 20000
namespace Rk
open PySem
local macro_rules | `(tactic| walk_at "ev") => `(tactic| simp only [tp0, ls0, tp1, ls1, tp2, ls2, tp3, ls3, tp4, ls4, tp5, ls5, tp6, ls6, tp7, ls7, tp8, ls8, tp9, ls9, tp10, ls10, tp11, ls11, tp12, ls12, denF_eq, dSs_nil, dSs_cons, nxS_nx, nxS_rt, nxS_ex, nxS_bk, nxS_ct, lift_ok, lift_ex, oE_some, dS_asg, dS_par, dS_ret, dS_retN, dS_ex, dS_raise, dS_brk, dS_cnt, dS_pass, dS_ife, tgt_nm, set_nil, set_cons, dI_seq, dI_rng1, nI_some, iI_some, int_int, it_list, it_tup, it_f, fin_p, endF_nx, endF_rt, endF_ex, bind_ok, bind_ex, D1_p, D2_pp, mD_some, mkD_f, pD_some, dE_cst, dE_glob, dE_var, vR_ok, dE_bin, dE_neg, negV_int, tR_bool, tR_int, tR_none, tR_list, tR_tup, dE_not, dE_and, dE_or, andR_t, andR_f, orR_t, orR_f, andR_b, orR_b, oB_some, dE_cmp, dE_chain, chR_t, chR_f, chR_b, oC_some, dE_ife, ifR_t, ifR_f, dE_call, dE_b1, dE_b2, dE_idx, dE_isi, dE_tup, dE_lst, dEs_nil, dEs_cons, dats_nil, dats_cons, dT_none, dT_some, o_add, o_sub, c_lt, c_le, c_gt, c_ge, c_eqi, c_nei, u_abs, u_int, u_lenl, u_lent, u_tupl, u_tupt, x_tup, x_lst, a1_0, a2_0, a2_1, a3_0, a3_1, a3_2, a4_0, a4_1, a4_2, a4_3, List.length_cons, List.length_nil, List.map_cons, List.map_nil, List.replicate, List.cons_append, List.nil_append, List.getElem?_cons_zero, List.getElem?_cons_succ, List.set_cons_zero, List.set_cons_succ, Option.map_some, Nat.reduceSub, Nat.reduceAdd, List.take_length, List.isEmpty_nil, List.isEmpty_cons, Bool.not_true, Bool.not_false])
/-! ### repr: what can be shown -/
structure Sh (n k : Nat) (d : PyData) : Prop where
  lay : d.canLay0 = true
  dep : d.depth ≤ k
  sho : d.showable = true
  len : d.shown.length ≤ n
theorem Sh.mono {n k n' k' : Nat} {d : PyData} (h : Sh n k d) (h1 : n ≤ n') (h2 : k ≤ k') : Sh n' k' d := ⟨h.lay, Nat.le_trans h.dep h2, h.sho, Nat.le_trans h.len h1⟩
theorem Sh.ok {n k : Nat} {d : PyData} (h : Sh n k d) (h1 : n ≤ 100000) (h2 : k ≤ 60) : showOk d = true := by
  unfold showOk
  rw [h.lay, h.sho, decide_eq_true (Nat.le_trans h.dep h2), decide_eq_true (Nat.le_trans (Nat.le_trans h.len h1) (by decide))]
  rfl
theorem sh_int {i : Int} (h : i.natAbs < 2 ^ 1900) : Sh 1921 0 (.int i) := by
  have hl : i.natAbs.log2 < 1920 := Nat.lt_of_le_of_lt (log_le h) (by decide)
  refine ⟨rfl, Nat.le_refl _, decide_eq_true hl, ?_⟩
  show (Str.ofString (toString i)).length ≤ 1921
  rw [ofString_length]
  exact int_text_length_le (by decide) hl
theorem sh_none : Sh 4 0 .none := ⟨rfl, Nat.le_refl _, rfl, by decide⟩
theorem sh_bool (b : Bool) : Sh 5 0 (.bool b) := ⟨rfl, Nat.le_refl _, rfl, by cases b <;> decide⟩
theorem sh_strK {s : Str} {n : Nat} (h1 : (PyData.str s).canLay0 = true) (h2 : (PyData.str s).shown.length ≤ n) : Sh n 0 (.str s) := ⟨h1, Nat.le_refl _, rfl, h2⟩
theorem canLayAll_of : ∀ {xs : List PyData}, (∀ x ∈ xs, x.canLay0 = true) → PyData.canLayAll0 xs = true
  | [], _ => rfl
  | x :: xs, h => by
    unfold PyData.canLayAll0
    rw [h x List.mem_cons_self, canLayAll_of fun y hy => h y (List.mem_cons_of_mem _ hy)]
    rfl
theorem showAll_of : ∀ {xs : List PyData}, (∀ x ∈ xs, x.showable = true) → PyData.showableAll xs = true
  | [], _ => rfl
  | x :: xs, h => by
    unfold PyData.showableAll
    rw [h x List.mem_cons_self, showAll_of fun y hy => h y (List.mem_cons_of_mem _ hy)]
    rfl
theorem depthAll_of {k : Nat} : ∀ {xs : List PyData}, (∀ x ∈ xs, x.depth ≤ k) → PyData.depthAll xs ≤ k
  | [], _ => Nat.zero_le _
  | x :: xs, h => by
    unfold PyData.depthAll
    exact Nat.max_le.mpr ⟨h x List.mem_cons_self, depthAll_of fun y hy => h y (List.mem_cons_of_mem _ hy)⟩
theorem piled_le {n : Nat} : ∀ {xs : List PyData}, (∀ x ∈ xs, x.shown.length ≤ n) → piled (PyData.shownAll xs) ≤ (n + 2) * xs.length
  | [], _ => Nat.zero_le _
  | x :: xs, h => by
    unfold PyData.shownAll
    rw [piled_cons, List.length_cons, Nat.mul_add, Nat.mul_one]
    have h1 := h x List.mem_cons_self
    have h2 := piled_le fun y hy => h y (List.mem_cons_of_mem _ hy)
    omega
theorem textFrom_le : ∀ (ts : List Str) (k : Nat) (acc : Str), (textFrom k acc ts).length ≤ acc.length + piled ts
  | [], k, acc => by unfold textFrom; rw [piled_nil]; exact Nat.le_refl _
  | t :: ts, k, acc => by
    unfold textFrom
    refine Nat.le_trans (textFrom_le ts _ _) ?_
    rw [piled_cons, Str.length_append, Str.length_append]
    have : (Str.ofString (if k > 0 then ", " else "")).length ≤ 2 := by split <;> decide
    omega
theorem sh_list {n k : Nat} {xs : List PyData} (h : ∀ x ∈ xs, Sh n k x) : Sh ((n + 2) * xs.length + 2) (k + 1) (.list xs) := by
  refine ⟨canLayAll_of fun x hx => (h x hx).lay, Nat.succ_le_succ (depthAll_of fun x hx => (h x hx).dep), showAll_of fun x hx => (h x hx).sho, ?_⟩
  show (listText (PyData.shownAll xs)).length ≤ _
  unfold listText
  rw [Str.length_append]
  have h1 := textFrom_le (PyData.shownAll xs) 0 "["
  have h2 := piled_le (n := n) (xs := xs) fun x hx => (h x hx).len
  have h3 : (("[" : Str)).length = 1 := rfl
  have h4 : (("]" : Str)).length = 1 := rfl
  omega
theorem sh_tup {n k : Nat} {xs : List PyData} (h : ∀ x ∈ xs, Sh n k x) : Sh ((n + 2) * xs.length + 3) (k + 1) (.tuple xs) := by
  refine ⟨canLayAll_of fun x hx => (h x hx).lay, Nat.succ_le_succ (depthAll_of fun x hx => (h x hx).dep), showAll_of fun x hx => (h x hx).sho, ?_⟩
  show (tupleText (PyData.shownAll xs)).length ≤ _
  have h2 := piled_le (n := n) (xs := xs) fun x hx => (h x hx).len
  have h3 : (("(" : Str)).length = 1 := rfl
  unfold tupleText
  rw [Str.length_append, Str.length_append, h3]
  have h4 : (Str.ofString (if (PyData.shownAll xs).length == 1 then ",)" else ")")).length ≤ 2 := by split <;> decide
  by_cases he : PyData.shownAll xs = []
  · rw [he]
    have : (Str.join ", " []).length = 0 := rfl
    have h5 : (Str.ofString (if ([] : List Str).length == 1 then ",)" else ")")).length ≤ 2 := by decide
    omega
  · have := join_length_add _ he
    omega
theorem sh_fr {q : Rat} (h : SzR 1900 q) : Sh 4000 1 (frP q) := by
  refine (sh_tup (n := 1921) (k := 0) fun x hx => ?_).mono (by simp) (Nat.le_refl _)
  rcases List.mem_cons.mp hx with rfl | hx
  · exact sh_int h.1
  · cases List.mem_singleton.mp hx
    exact sh_int (by rw [Int.natAbs_natCast]; exact h.2)
theorem u_repr {d : PyData} (h : showOk d = true) : b1D .repr d = some (.str d.shown) := by
  show (if showOk d then some (PyData.str d.shown) else none) = _
  rw [if_pos h]
theorem c_nes (x y : Str) : cmpD .NotEq (.str x) (.str y) = some (!(x == y)) := id rfl
theorem c_eqs (x y : Str) : cmpD .Eq (.str x) (.str y) = some (x == y) := id rfl
/-- repr(a) != repr(b), both the same -/
theorem dE_reprs {T : Nat → Fn} {e : Env} {st : Store} {a b : E} {d : PyData} (ha : denE T a e st = .ok (.p d) st) (hb : denE T b e st = .ok (.p d) st) (h : showOk d = true) : denE T (.cmp .NotEq (.b1 false .repr a) (.b1 false .repr b)) e st = .ok (.p (.bool false)) st := by
  rw [dE_cmp, dE_b1, ha, bind_ok, D1_p, u_repr h, mD_some, mkD_f, bind_ok, dE_b1, hb, bind_ok, D1_p, u_repr h, mD_some, mkD_f, bind_ok, D2_pp, c_nes]
  show Rs.ok (Val.p (.bool (!(d.shown == d.shown)))) st = _
  rw [beq_self_eq_true]
  rfl

/-! comprehensions over what stands for data -/
section
variable {T : Nat → Fn} {e : Env} {st : Store} {α : Type}
theorem compL_A {tg : PyData → Env → Option Env} {test : Env → M Bool} {elt : Env → M Val} {e0 : Env} {g f : α → PyData} {b : α → Bool} : ∀ (zs : List α) (acc : List PyData), (∀ z ∈ zs, ∃ e1, tg (g z) e0 = some e1 ∧ ∀ st', test e1 st' = .ok (b z) st' ∧ (b z = true → elt e1 st' = .ok (.p (f z)) st')) → acc.length + zs.length ≤ 100000 →
    compL tg test elt e0 st.length (zs.map g) (st ++ [acc]) = .ok () (st ++ [acc ++ (zs.filter b).map f])
  | [], acc, _, _ => by rw [List.filter_nil, List.map_nil, List.map_nil, List.append_nil]; rfl
  | z :: zs, acc, h, hl => by
    obtain ⟨e1, h1, h2⟩ := h z List.mem_cons_self
    have ih := fun acc hl => compL_A zs acc (fun y hy => h y (List.mem_cons_of_mem _ hy)) hl
    rw [List.length_cons] at hl
    rw [List.map_cons]
    unfold compL
    rw [h1]
    dsimp only
    rw [(h2 _).1]
    cases hb : b z with
    | false =>
      rw [List.filter_cons_of_neg (by rw [hb]; exact Bool.false_ne_true)]
      exact ih acc (by omega)
    | true =>
      rw [List.filter_cons_of_pos hb]
      dsimp only
      rw [(h2 _).2 hb]
      dsimp only
      have gg : (st ++ [acc])[st.length]? = some acc := last_get
      rw [gg]
      dsimp only
      rw [if_pos (Nat.lt_of_lt_of_le (by omega : acc.length < 100000) (by decide)), last_set, ih (acc ++ [f z]) (by rw [List.length_append]; simp only [List.length_cons, List.length_nil]; omega)]
      rw [List.map_cons, List.append_assoc]
      rfl
theorem compM_A {tg : PyData → Env → Option Env} {test : Env → M Bool} {elt : Env → M Val} {e0 : Env} {g f : α → PyData} {b : α → Bool} {zs : List α} (h : ∀ z ∈ zs, ∃ e1, tg (g z) e0 = some e1 ∧ ∀ st', test e1 st' = .ok (b z) st' ∧ (b z = true → elt e1 st' = .ok (.p (f z)) st')) (hl : zs.length ≤ 100000) :
    compM false tg test elt e0 (zs.map g) st = .ok (.p (.list ((zs.filter b).map f))) st := by
  unfold compM
  rw [compL_A zs [] h (by simpa using hl)]
  dsimp only
  rw [List.nil_append, last_get]
  dsimp only
  rw [if_neg Bool.false_ne_true, List.take_left]
theorem compA {own : List Nat} {t : Tg} {it : It} {el : E} {st1 : Store} (zs : List α) (g f : α → PyData) (hi : denI T it e st = .ok (zs.map g) st1) (h : ∀ z ∈ zs, ∃ e1, tgt t (g z) (wipeE e own) = some e1 ∧ ∀ st', denE T el e1 st' = .ok (.p (f z)) st') (hl : zs.length ≤ 100000) :
    denE T (.comp false own t it .none el) e st = .ok (.p (.list (zs.map f))) st1 := by
  show (denI T it e st).bind _ = _
  rw [hi]
  show compM false _ _ _ _ (zs.map g) st1 = _
  rw [compM_A (f := f) (b := fun _ => true) (fun z hz => by obtain ⟨e1, h1, h2⟩ := h z hz; exact ⟨e1, h1, fun st' => ⟨rfl, fun _ => h2 st'⟩⟩) hl]
  rw [List.filter_eq_self.mpr (fun _ _ => rfl)]
theorem compAF {own : List Nat} {t : Tg} {it : It} {c el : E} {st1 : Store} (zs : List α) (g f : α → PyData) (b : α → Bool) (hi : denI T it e st = .ok (zs.map g) st1) (h : ∀ z ∈ zs, ∃ e1, tgt t (g z) (wipeE e own) = some e1 ∧ ∀ st', (denE T c e1 st').bind tR = .ok (b z) st' ∧ (b z = true → denE T el e1 st' = .ok (.p (f z)) st')) (hl : zs.length ≤ 100000) :
    denE T (.comp false own t it (.some c) el) e st = .ok (.p (.list ((zs.filter b).map f))) st1 := by
  show (denI T it e st).bind _ = _
  rw [hi]
  exact compM_A (g := g) (f := f) (b := b) h hl
/-- the names behind a set -/
theorem set_other {i j : Nat} {o : Option Val} {v : Option (Option Val)} (h : e[j]? = v) (hij : (i == j) = false) : (e.set i o)[j]? = v := by
  rw [List.getElem?_set_ne (by simpa using hij)]
  exact h
theorem set_here {i : Nat} {o : Option Val} (h : i < e.length) : (e.set i o)[i]? = some o := List.getElem?_set_self h
end
end Rk

set_option Elab.async false
set_option linter.all false
set_option maxRecDepth 100000
set_option maxHeartbeats 1000000
set_option exponentiation.threshold 20000
namespace Rk
open PySem
local macro_rules | `(tactic| walk_at "ev") => `(tactic| simp only [tp0, ls0, tp1, ls1, tp2, ls2, tp3, ls3, tp4, ls4, tp5, ls5, tp6, ls6, tp7, ls7, tp8, ls8, tp9, ls9, tp10, ls10, tp11, ls11, tp12, ls12, denF_eq, dSs_nil, dSs_cons, nxS_nx, nxS_rt, nxS_ex, nxS_bk, nxS_ct, lift_ok, lift_ex, oE_some, dS_asg, dS_par, dS_ret, dS_retN, dS_ex, dS_raise, dS_brk, dS_cnt, dS_pass, dS_ife, tgt_nm, set_nil, set_cons, dI_seq, dI_rng1, nI_some, iI_some, int_int, it_list, it_tup, it_f, fin_p, endF_nx, endF_rt, endF_ex, bind_ok, bind_ex, D1_p, D2_pp, mD_some, mkD_f, pD_some, dE_cst, dE_glob, dE_var, vR_ok, dE_bin, dE_neg, negV_int, tR_bool, tR_int, tR_none, tR_list, tR_tup, dE_not, dE_and, dE_or, andR_t, andR_f, orR_t, orR_f, andR_b, orR_b, oB_some, dE_cmp, dE_chain, chR_t, chR_f, chR_b, oC_some, dE_ife, ifR_t, ifR_f, dE_call, dE_b1, dE_b2, dE_idx, dE_isi, dE_tup, dE_lst, dEs_nil, dEs_cons, dats_nil, dats_cons, dT_none, dT_some, o_add, o_sub, c_lt, c_le, c_gt, c_ge, c_eqi, c_nei, u_abs, u_int, u_lenl, u_lent, u_tupl, u_tupt, x_tup, x_lst, a1_0, a2_0, a2_1, a3_0, a3_1, a3_2, a4_0, a4_1, a4_2, a4_3, List.length_cons, List.length_nil, List.map_cons, List.map_nil, List.replicate, List.cons_append, List.nil_append, List.getElem?_cons_zero, List.getElem?_cons_succ, List.set_cons_zero, List.set_cons_succ, Option.map_some, Nat.reduceSub, Nat.reduceAdd, List.take_length, List.isEmpty_nil, List.isEmpty_cons, Bool.not_true, Bool.not_false])
/-! ### unrolled comprehensions and loops -/
section
variable {T : Nat → Fn} {e : Env} {st : Store} {α : Type}
def oN (o : Option Env) (f : Env → Rs Unit) : Rs Unit := match o with
  | some e1 => f e1
  | none => .no
theorem oN_some {e1 : Env} {f : Env → Rs Unit} : oN (some e1) f = f e1 := id rfl
def cPut (k : Nat) (v : Val) (f : Store → Rs Unit) (st : Store) : Rs Unit := match v with
  | .p d => (match st[k]? with
    | some acc => if acc.length < sizeLine then f (st.set k (acc ++ [d])) else .no
    | none => .no)
  | _ => .no
theorem cPut_ok {k : Nat} {d : PyData} {acc : List PyData} {f : Store → Rs Unit} (h : st[k]? = some acc) (hl : acc.length < 100000) : cPut k (.p d) f st = f (st.set k (acc ++ [d])) := by
  unfold cPut
  dsimp only
  rw [h]
  dsimp only
  rw [if_pos (Nat.lt_of_lt_of_le hl (by decide))]
theorem cPut_l {d : PyData} {acc : List PyData} {f : Store → Rs Unit} (hl : acc.length < 100000) : cPut st.length (.p d) f (st ++ [acc]) = f (st ++ [acc ++ [d]]) := by
  rw [cPut_ok last_get hl, last_set]
theorem cPut_2 {a xs : List PyData} {d : PyData} {acc : List PyData} {f : Store → Rs Unit} (hl : acc.length < 100000) : cPut 2 (.p d) f [a, xs, acc] = f [a, xs, acc ++ [d]] := cPut_ok rfl hl
theorem cPut_3 {a xs b : List PyData} {d : PyData} {acc : List PyData} {f : Store → Rs Unit} (hl : acc.length < 100000) : cPut 3 (.p d) f [a, xs, b, acc] = f [a, xs, b, acc ++ [d]] := cPut_ok rfl hl
/-- what is not a value is nothing -/
def bindN (r : Rs Val) (f : Val → Store → Rs Unit) : Rs Unit := match r with
  | .ok a st => f a st
  | _ => .no
theorem bindN_ok {v : Val} {f : Val → Store → Rs Unit} : bindN (.ok v st) f = f v st := id rfl
def cE (T : Nat → Fn) (t : Tg) (el : E) (e0 : Env) (k : Nat) (xs : List PyData) (st : Store) : Rs Unit := compL (fun d e => tgt t d e) (fun e => denT T .none e) (fun e => denE T el e) e0 k xs st
theorem cE_nil {t : Tg} {el : E} {k : Nat} : cE T t el e k [] st = .ok () st := id rfl
theorem cE_cons {t : Tg} {el : E} {k : Nat} {x : PyData} {r : List PyData} : cE T t el e k (x :: r) st = oN (tgt t x e) fun e1 => bindN (denE T el e1 st) fun v st2 => cPut k v (fun st3 => cE T t el e k r st3) st2 := by
  show compL _ _ _ e k (x :: r) st = _
  unfold compL
  cases h1 : tgt t x e with
  | none => rfl
  | some e1 =>
    dsimp only
    show (match denE T el e1 st with
        | .ok (.p d) st2 => _
        | _ => _) = bindN (denE T el e1 st) _
    cases h2 : denE T el e1 st with
    | no => rfl
    | ex c s => rfl
    | ok v s =>
      cases v with
      | p d => rfl
      | l k => rfl
      | f k => rfl
      | x k => rfl
def cEnd (n : Nat) (r : Rs Unit) : Rs Val := match r with
  | .ok _ st2 => (match st2[n]? with
    | some acc => .ok (.p (.list acc)) (st2.take n)
    | none => .no)
  | _ => .no
theorem cEnd_l {acc : List PyData} : cEnd st.length (.ok () (st ++ [acc])) = .ok (.p (.list acc)) st := by
  unfold cEnd
  dsimp only
  rw [last_get]
  dsimp only
  rw [List.take_left]
theorem cEnd_2 {a xs acc : List PyData} : cEnd 2 (.ok () [a, xs, acc]) = .ok (.p (.list acc)) [a, xs] := id rfl
theorem cEnd_3 {a xs b acc : List PyData} : cEnd 3 (.ok () [a, xs, b, acc]) = .ok (.p (.list acc)) [a, xs, b] := id rfl
theorem dE_compE {own : List Nat} {t : Tg} {it : It} {el : E} : denE T (.comp false own t it .none el) e st = (denI T it e st).bind fun xs st1 => cEnd st1.length (cE T t el (wipeE e own) st1.length xs (st1 ++ [[]])) := by
  show (denI T it e st).bind _ = _
  cases denI T it e st with
  | no => rfl
  | ex c s => rfl
  | ok xs s =>
    show compM false _ _ _ _ xs s = cEnd s.length (compL _ _ _ _ _ _ _)
    unfold compM cEnd
    cases compL (fun d e => tgt t d e) (fun e => denT T .none e) (fun e => denE T el e) (wipeE e own) s.length xs (s ++ [[]]) with
    | no => rfl
    | ex c s => rfl
    | ok u s2 =>
      dsimp only
      cases s2[s.length]? <;> rfl
theorem len2 {a b : List PyData} : ([a, b] : Store).length = 2 := id rfl
theorem len3 {a b c : List PyData} : ([a, b, c] : Store).length = 3 := id rfl
/-! for -/
def oF (o : Option Env) (f : Env → RsS) : RsS := match o with
  | some e1 => f e1
  | none => .no
theorem oF_some {e1 : Env} {f : Env → RsS} : oF (some e1) f = f e1 := id rfl
def lpR (r : RsS) (f : Env → Store → RsS) : RsS := match r with
  | .ok (.nx e2) st2 => f e2 st2
  | .ok (.ct e2) st2 => f e2 st2
  | .ok (.bk e2) st2 => .ok (.nx e2) st2
  | .ok (.rt v) st2 => .ok (.rt v) st2
  | .ex c e2 st2 => .ex c e2 st2
  | .no => .no
theorem lpR_nx {f : Env → Store → RsS} : lpR (.ok (.nx e) st) f = f e st := id rfl
theorem lpR_ct {f : Env → Store → RsS} : lpR (.ok (.ct e) st) f = f e st := id rfl
theorem lpR_bk {f : Env → Store → RsS} : lpR (.ok (.bk e) st) f = .ok (.nx e) st := id rfl
theorem lpR_rt {v : Val} {f : Env → Store → RsS} : lpR (.ok (.rt v) st) f = .ok (.rt v) st := id rfl
theorem lpR_ex {c : Str} {f : Env → Store → RsS} : lpR (.ex c e st) f = .ex c e st := id rfl
def fE (T : Nat → Fn) (t : Tg) (b : Ss) (xs : List PyData) (e : Env) (st : Store) : RsS := forL (fun d e => tgt t d e) (fun e st => denSs T b e st) xs e st
theorem fE_nil {t : Tg} {b : Ss} : fE T t b [] e st = .ok (.nx e) st := id rfl
theorem fE_cons {t : Tg} {b : Ss} {x : PyData} {r : List PyData} : fE T t b (x :: r) e st = oF (tgt t x e) fun e1 => lpR (denSs T b e1 st) fun e2 st2 => fE T t b r e2 st2 := by
  show forL _ _ (x :: r) e st = _
  unfold forL
  cases tgt t x e with
  | none => rfl
  | some e1 =>
    dsimp only [oF]
    show (match denSs T b e1 st with
      | .ok (.nx e2) st2 => _
      | .ok (.ct e2) st2 => _
      | .ok (.bk e2) st2 => _
      | .ok (.rt v) st2 => _
      | .ex c e2 st2 => _
      | .no => _) = lpR (denSs T b e1 st) _
    cases denSs T b e1 st with
    | no => rfl
    | ex c e s => rfl
    | ok fl s => cases fl <;> rfl
theorem dS_forE {t : Tg} {it : It} {b : Ss} : denS T (.for_ t it b) e st = lift e (denI T it e st) fun xs st1 => fE T t b xs e st1 := id rfl
theorem tg2 {i j : Nat} {a b : PyData} : tgt (.tp [.nm i, .nm j]) (.tuple [a, b]) e = some ((e.set i (some (.p a))).set j (some (.p b))) := id rfl
theorem tg3 {i j k : Nat} {a b c : PyData} : tgt (.tp [.nm i, .nm j, .nm k]) (.tuple [a, b, c]) e = some (((e.set i (some (.p a))).set j (some (.p b))).set k (some (.p c))) := id rfl
/-! lists of what is true -/
theorem boolsD_mapA (b : α → Bool) : ∀ zs : List α, boolsD (zs.map fun z => .bool (b z)) = some (zs.map b)
  | [] => rfl
  | z :: zs => by rw [List.map_cons, bools_cons, boolsD_mapA b zs]; rfl
theorem u_allA (b : α → Bool) (zs : List α) : b1D .all (.list (zs.map fun z => .bool (b z))) = some (.bool (zs.all b)) := by
  rw [u_all (boolsD_mapA b zs)]
  congr 2
  rw [List.all_map]
  rfl
/-! signs -/
theorem n_le (q : Rat) : decide (q.num ≤ 0) = decide (q ≤ 0) := by
  congr 1
  rw [← Rat.not_lt, ← Int.not_lt]
  exact propext (not_congr ⟨fun h => by
    have h1 : 0 ≤ q := Rat.num_nonneg.mp (Int.le_of_lt h)
    rcases Rat.le_iff_lt_or_eq.mp h1 with z | z
    · exact z
    · rw [← z] at h; exact absurd h (by decide), num_pos'⟩)
theorem n_ge (q : Rat) : decide (0 ≤ q.num) = decide (0 ≤ q) := by
  congr 1
  exact propext Rat.num_nonneg
theorem n_gt (q : Rat) : decide (0 < q.num) = decide (0 < q) := by
  have h := n_le q
  rw [decide_eq_decide] at h ⊢
  rw [← Rat.not_le, ← Int.not_le, h]
theorem n_lt (q : Rat) : decide (q.num < 0) = decide (q < 0) := by
  have h := n_ge q
  rw [decide_eq_decide] at h ⊢
  rw [← Rat.not_le, ← Int.not_le, h]
end
end Rk

set_option Elab.async false
set_option linter.all false
set_option maxRecDepth 100000
set_option maxHeartbeats 1000000
set_option exponentiation.threshold 20000
namespace Rk
open PySem
local macro_rules | `(tactic| walk_at "ev") => `(tactic| simp only [tp0, ls0, tp1, ls1, tp2, ls2, tp3, ls3, tp4, ls4, tp5, ls5, tp6, ls6, tp7, ls7, tp8, ls8, tp9, ls9, tp10, ls10, tp11, ls11, tp12, ls12, denF_eq, dSs_nil, dSs_cons, nxS_nx, nxS_rt, nxS_ex, nxS_bk, nxS_ct, lift_ok, lift_ex, oE_some, dS_asg, dS_par, dS_ret, dS_retN, dS_ex, dS_raise, dS_brk, dS_cnt, dS_pass, dS_ife, tgt_nm, set_nil, set_cons, dI_seq, dI_rng1, nI_some, iI_some, int_int, it_list, it_tup, it_f, fin_p, endF_nx, endF_rt, endF_ex, bind_ok, bind_ex, D1_p, D2_pp, mD_some, mkD_f, pD_some, dE_cst, dE_glob, dE_var, vR_ok, dE_bin, dE_neg, negV_int, tR_bool, tR_int, tR_none, tR_list, tR_tup, dE_not, dE_and, dE_or, andR_t, andR_f, orR_t, orR_f, andR_b, orR_b, oB_some, dE_cmp, dE_chain, chR_t, chR_f, chR_b, oC_some, dE_ife, ifR_t, ifR_f, dE_call, dE_b1, dE_b2, dE_idx, dE_isi, dE_tup, dE_lst, dEs_nil, dEs_cons, dats_nil, dats_cons, dT_none, dT_some, o_add, o_sub, c_lt, c_le, c_gt, c_ge, c_eqi, c_nei, u_abs, u_int, u_lenl, u_lent, u_tupl, u_tupt, x_tup, x_lst, a1_0, a2_0, a2_1, a3_0, a3_1, a3_2, a4_0, a4_1, a4_2, a4_3, List.length_cons, List.length_nil, List.map_cons, List.map_nil, List.replicate, List.cons_append, List.nil_append, List.getElem?_cons_zero, List.getElem?_cons_succ, List.set_cons_zero, List.set_cons_succ, Option.map_some, Nat.reduceSub, Nat.reduceAdd, List.take_length, List.isEmpty_nil, List.isEmpty_cons, Bool.not_true, Bool.not_false])
/-! ### drawing, in any law: the store is a :: xs :: r, the numbers at 1 -/
section
variable {T : Nat → Fn} {e : Env}
theorem nxr {N : Nat} (hN : NextP T N) (a xs : List PyData) (r : Store) (hd : Dr xs) : ∃ (n : Int) (ys : List PyData), 0 ≤ n ∧ n < 1000 ∧ Dr ys ∧ T N [.l 1] (a :: xs :: r) = .ok (.p (.int n)) (a :: ys :: r) := by
  obtain ⟨n, h1, h2, h3⟩ := hN 1 xs (a :: xs :: r) rfl hd
  exact ⟨n, xs.dropLast, h1, h2, fun d hd' => hd d ((List.dropLast_sublist _).subset hd'), h3⟩
theorem least_sm {L : Nat} (hL : LeastP T L) (i d : Int) (st : Store) (h1 : 0 < d) (h2 : d ≤ 1000000) : T L [.p (.int i), .p (.int d)] st = .ok (.p (frP (Rat.divInt i d))) st := hL i d st h1 (Int.lt_of_le_of_lt h2 (by
  have h3 : ((1000000 : Nat) : Int) < ((2 ^ 9000 : Nat) : Int) := Int.ofNat_lt.mpr (by decide)
  exact h3))
theorem bnd {i d : Int} (hd : 0 < d) : (Rat.divInt i d).num.natAbs ≤ i.natAbs ∧ ((Rat.divInt i d).den : Int) ≤ d := by
  obtain ⟨m, rfl⟩ : ∃ m : Nat, d = (m : Int) := ⟨d.toNat, by omega⟩
  rw [Rat.divInt_ofNat]
  constructor
  · rw [Rat.num_mkRat]
    split
    · exact Nat.zero_le _
    · exact Int.natAbs_ediv_le_natAbs _ _
  · rw [Rat.den_mkRat]
    split
    · omega
    · exact Int.ofNat_le.mpr (Nat.div_le_self _ _)
theorem divInt_pos {i d : Int} (hi : 0 < i) (hd : 0 < d) : 0 < Rat.divInt i d := by
  rw [Rat.divInt_eq_div, Rat.div_def]
  exact Rat.mul_pos (Rat.intCast_pos.mpr hi) (Rat.inv_pos.mpr (Rat.intCast_pos.mpr hd))
theorem divInt_nn {i d : Int} (hi : 0 ≤ i) (hd : 0 < d) : 0 ≤ Rat.divInt i d := by
  rw [Rat.divInt_eq_div, Rat.div_def]
  exact Rat.mul_nonneg (Rat.intCast_nonneg.mpr hi) (Rat.le_of_lt (Rat.inv_pos.mpr (Rat.intCast_pos.mpr hd)))
theorem divInt_mul {i d : Int} (hd : 0 < d) : Rat.divInt i d * (d : Rat) = (i : Rat) := by
  rw [Rat.divInt_eq_div]
  have : (d : Rat) ≠ 0 := fun z => by have := Rat.intCast_eq_zero_iff.mp z; omega
  grind
/-- a small fraction above 0 -/
def Fq (n d : Int) (k : Rat) : Prop := 0 < k ∧ k.num ≤ n ∧ (k.den : Int) ≤ d
theorem Fq.of {n m i d : Int} (h1 : 1 ≤ i) (h2 : i ≤ n) (h3 : 1 ≤ d) (h4 : d ≤ m) : Fq n m (Rat.divInt i d) := by
  have b := bnd (i := i) (d := d) (by omega)
  have p := divInt_pos (i := i) (d := d) (by omega) (by omega)
  have := num_pos' p
  exact ⟨p, by omega, by omega⟩
theorem Fq.mono {n d n' d' : Int} {k : Rat} (h : Fq n d k) (h1 : n ≤ n') (h2 : d ≤ d') : Fq n' d' k := ⟨h.1, Int.le_trans h.2.1 h1, Int.le_trans h.2.2 h2⟩
theorem Fq.sz {n d : Int} {k : Rat} {b : Nat} (h : Fq n d k) (h1 : n.toNat < 2 ^ b) (h2 : d.toNat < 2 ^ b) : SzR b k := by
  have := num_pos' h.1
  have := h.2.1
  have := h.2.2
  exact ⟨by omega, by omega⟩
theorem szi {b : Nat} {i d : Int} (hd : 0 < d) (h1 : i.natAbs < 2 ^ b) (h2 : d.natAbs < 2 ^ b) : SzR b (Rat.divInt i d) := by
  have q := bnd (i := i) (d := d) hd
  exact ⟨by omega, by omega⟩
/-- a list, drawn thing by thing -/
theorem compD {α : Type} {el : E} {i : Nat} {e0 : Env} (P : α → Prop) (g : α → PyData) (a : List PyData)
    (h : ∀ z xs acc, Dr xs → ∃ x ys, P x ∧ Dr ys ∧ denE T el (e0.set i (some (.p z))) [a, xs, acc] = .ok (.p (g x)) [a, ys, acc]) : ∀ (zs xs acc : List PyData), Dr xs → acc.length + zs.length ≤ 1000 →
    ∃ (L : List α) (ys : List PyData), L.length = zs.length ∧ (∀ x ∈ L, P x) ∧ Dr ys ∧ cE T (.nm i) el e0 2 zs [a, xs, acc] = .ok () [a, ys, acc ++ L.map g]
  | [], xs, acc, hd, _ => ⟨[], xs, rfl, (fun x hx => absurd hx List.not_mem_nil), hd, by rw [List.map_nil, List.append_nil]; rfl⟩
  | z :: zs, xs, acc, hd, hl => by
    rw [List.length_cons] at hl
    obtain ⟨x, ys, px, hd1, r⟩ := h z xs acc hd
    obtain ⟨L, ys2, h1, h2, h3, h4⟩ := compD P g a h zs ys (acc ++ [g x]) hd1 (by rw [List.length_append]; simp only [List.length_cons, List.length_nil]; omega)
    refine ⟨x :: L, ys2, by rw [List.length_cons, List.length_cons, h1], fun y hy => ?_, h3, ?_⟩
    · rcases List.mem_cons.mp hy with rfl | hy
      · exact px
      · exact h2 y hy
    · rw [cE_cons, tgt1, oN_some, r, bindN_ok, cPut_2 (by omega), h4, List.append_assoc]
      rfl
theorem comp_draw {α : Type} {own : List Nat} {el n : E} {i : Nat} {k : Nat} {a xs xs2 : List PyData} (P : α → Prop) (g : α → PyData) (hi : denI T (.rng1 n) e [a, xs] = .ok (rngL k) [a, xs2]) (hk : k ≤ 900) (hd : Dr xs2)
    (h : ∀ z xs acc, Dr xs → ∃ x ys, P x ∧ Dr ys ∧ denE T el ((wipeE e own).set i (some (.p z))) [a, xs, acc] = .ok (.p (g x)) [a, ys, acc]) :
    ∃ (L : List α) (ys : List PyData), L.length = k ∧ (∀ x ∈ L, P x) ∧ Dr ys ∧ denE T (.comp false own (.nm i) (.rng1 n) .none el) e [a, xs] = .ok (.p (.list (L.map g))) [a, ys] := by
  obtain ⟨L, ys, h1, h2, h3, h4⟩ := compD (T := T) P g a h (rngL k) xs2 [] hd (by rw [rngL_len]; simp only [List.length_nil]; omega)
  rw [rngL_len] at h1
  refine ⟨L, ys, h1, h2, h3, ?_⟩
  rw [dE_compE, hi, bind_ok]
  show cEnd 2 (cE T (.nm i) el (wipeE e own) 2 (rngL k) [a, xs2, []]) = _
  rw [h4]
  rfl
theorem rngN {k : Int} {n : Nat} (h : k = (n : Int)) (h2 : n < 1000) : rngD 0 k = some (rngL n) := by
  rw [h]
  exact rng0 (by omega)
theorem c_neb (a b : Bool) : cmpD .NotEq (.bool a) (.bool b) = some (!(a == b)) := by cases a <;> cases b <;> rfl
theorem c_eqb (a b : Bool) : cmpD .Eq (.bool a) (.bool b) = some (a == b) := by cases a <;> cases b <;> rfl
theorem c_isT (b : Bool) : cmpD .Is (.bool b) (.bool true) = some b := by cases b <;> rfl
theorem c_isF (b : Bool) : cmpD .Is (.bool b) (.bool false) = some (!b) := by cases b <;> rfl
theorem c_insT (b : Bool) : cmpD .IsNot (.bool b) (.bool true) = some (!b) := by cases b <;> rfl
theorem c_insF (b : Bool) : cmpD .IsNot (.bool b) (.bool false) = some b := by cases b <;> rfl
theorem nx_step {T : Nat → Fn} {s : S} {r : Ss} {st : Store} {e1 : Env} {st1 : Store} {R : RsS} (h : denS T s e st = .ok (.nx e1) st1) (h2 : denSs T r e1 st1 = R) : denSs T (.cons s r) e st = R := by
  rw [dSs_cons, h]
  exact h2
end
end Rk

set_option Elab.async false
set_option linter.all false
set_option maxRecDepth 100000
set_option maxHeartbeats 1000000
set_option exponentiation.threshold 20000
namespace Rk
open PySem
local macro_rules | `(tactic| walk_at "ev") => `(tactic| simp only [tp0, ls0, tp1, ls1, tp2, ls2, tp3, ls3, tp4, ls4, tp5, ls5, tp6, ls6, tp7, ls7, tp8, ls8, tp9, ls9, tp10, ls10, tp11, ls11, tp12, ls12, denF_eq, dSs_nil, dSs_cons, nxS_nx, nxS_rt, nxS_ex, nxS_bk, nxS_ct, lift_ok, lift_ex, oE_some, dS_asg, dS_par, dS_ret, dS_retN, dS_ex, dS_raise, dS_brk, dS_cnt, dS_pass, dS_ife, tgt_nm, set_nil, set_cons, dI_seq, dI_rng1, nI_some, iI_some, int_int, it_list, it_tup, it_f, fin_p, endF_nx, endF_rt, endF_ex, bind_ok, bind_ex, D1_p, D2_pp, mD_some, mkD_f, pD_some, dE_cst, dE_glob, dE_var, vR_ok, dE_bin, dE_neg, negV_int, tR_bool, tR_int, tR_none, tR_list, tR_tup, dE_not, dE_and, dE_or, andR_t, andR_f, orR_t, orR_f, andR_b, orR_b, oB_some, dE_cmp, dE_chain, chR_t, chR_f, chR_b, oC_some, dE_ife, ifR_t, ifR_f, dE_call, dE_b1, dE_b2, dE_idx, dE_isi, dE_tup, dE_lst, dEs_nil, dEs_cons, dats_nil, dats_cons, dT_none, dT_some, o_add, o_sub, c_lt, c_le, c_gt, c_ge, c_eqi, c_nei, u_abs, u_int, u_lenl, u_lent, u_tupl, u_tupt, x_tup, x_lst, a1_0, a2_0, a2_1, a3_0, a3_1, a3_2, a4_0, a4_1, a4_2, a4_3, List.length_cons, List.length_nil, List.map_cons, List.map_nil, List.replicate, List.cons_append, List.nil_append, List.getElem?_cons_zero, List.getElem?_cons_succ, List.set_cons_zero, List.set_cons_succ, Option.map_some, Nat.reduceSub, Nat.reduceAdd, List.take_length, List.isEmpty_nil, List.isEmpty_cons, Bool.not_true, Bool.not_false])
/-! ### over a list of the store that stays as it is -/
section
variable {T : Nat → Fn} {e : Env} {st : Store} {α : Type}
theorem compLH_pure {tg : PyData → Env → Option Env} {test : Env → M Bool} {elt : Env → M Val} {e0 : Env} {k : Nat} {ys : List PyData} {g f : α → PyData} {b : α → Bool} (hk : st[k]? = some ys) : ∀ (zs : List α) (n i : Nat) (acc : List PyData), ys.drop i = zs.map g → zs.length < n → (∀ z ∈ zs, ∃ e1, tg (g z) e0 = some e1 ∧ ∀ st', test e1 st' = .ok (b z) st' ∧ (b z = true → elt e1 st' = .ok (.p (f z)) st')) → acc.length + zs.length ≤ 100000 →
    compLH tg test elt e0 st.length k n i (st ++ [acc]) = .ok () (st ++ [acc ++ (zs.filter b).map f])
  | _, 0, _, _, _, h, _, _ => absurd h (Nat.not_lt_zero _)
  | [], n + 1, i, acc, hd, _, _, _ => by
    have hl := (List.getElem?_eq_some_iff.mp hk).1
    have hx : ys[i]? = none := by
      rw [List.map_nil] at hd
      have := congrArg List.length hd
      rw [List.length_drop, List.length_nil] at this
      exact List.getElem?_eq_none_iff.mpr (by omega)
    unfold compLH
    rw [List.getElem?_append_left hl, hk]
    dsimp only
    rw [hx, List.filter_nil, List.map_nil, List.append_nil]
  | z :: zs, n + 1, i, acc, hd, hn, h, hl0 => by
    have hl := (List.getElem?_eq_some_iff.mp hk).1
    rw [List.map_cons] at hd
    have hx : ys[i]? = some (g z) := by
      have : (ys.drop i)[0]? = some (g z) := by rw [hd]; rfl
      rw [List.getElem?_drop] at this
      exact this
    have hd2 : ys.drop (i + 1) = zs.map g := by
      rw [← List.drop_drop, hd]
      rfl
    obtain ⟨e1, h1, h2⟩ := h z List.mem_cons_self
    rw [List.length_cons] at hn hl0
    have ih := fun acc hl => compLH_pure hk zs n (i + 1) acc hd2 (by omega) (fun y hy => h y (List.mem_cons_of_mem _ hy)) hl
    unfold compLH
    rw [List.getElem?_append_left hl, hk]
    dsimp only
    rw [hx]
    dsimp only
    rw [h1]
    dsimp only
    rw [(h2 _).1]
    cases hb : b z with
    | false =>
      rw [List.filter_cons_of_neg (by rw [hb]; exact Bool.false_ne_true)]
      exact ih acc (by omega)
    | true =>
      rw [List.filter_cons_of_pos hb]
      dsimp only
      rw [(h2 _).2 hb]
      dsimp only
      rw [last_get]
      dsimp only
      rw [if_pos (Nat.lt_of_lt_of_le (by omega : acc.length < 100000) (by decide)), last_set, ih (acc ++ [f z]) (by rw [List.length_append]; simp only [List.length_cons, List.length_nil]; omega)]
      rw [List.map_cons, List.append_assoc]
      rfl
/-- [el for x in (a list of the store) if c] -/
theorem compHF {own : List Nat} {t : Tg} {j k : Nat} {c el : E} {zs : List α} {g f : α → PyData} {b : α → Bool} (hj : hndV e j = some k) (hk : st[k]? = some (zs.map g)) (h : ∀ z ∈ zs, ∃ e1, tgt t (g z) (wipeE e own) = some e1 ∧ ∀ st', (denE T c e1 st').bind tR = .ok (b z) st' ∧ (b z = true → denE T el e1 st' = .ok (.p (f z)) st')) (hl : zs.length ≤ 100000) :
    denE T (.compH false own t j (.some c) el) e st = .ok (.p (.list ((zs.filter b).map f))) st := by
  show (match hndV e j with
    | some k => compMH false _ _ _ _ k st
    | none => .no) = _
  rw [hj]
  dsimp only
  unfold compMH
  rw [hk]
  dsimp only
  rw [compLH_pure (tg := fun d e => tgt t d e) (test := fun e => denT T (.some c) e) (elt := fun e => denE T el e) (e0 := wipeE e own) (b := b) (f := f) hk zs _ 0 [] (by rw [List.drop_zero]) (by rw [List.length_map]; omega) h (by simpa using hl)]
  dsimp only
  rw [List.nil_append, last_get]
  dsimp only
  rw [if_neg Bool.false_ne_true, List.take_left]
theorem compHA {own : List Nat} {t : Tg} {j k : Nat} {el : E} {zs : List α} {g f : α → PyData} (hj : hndV e j = some k) (hk : st[k]? = some (zs.map g)) (h : ∀ z ∈ zs, ∃ e1, tgt t (g z) (wipeE e own) = some e1 ∧ ∀ st', denE T el e1 st' = .ok (.p (f z)) st') (hl : zs.length ≤ 100000) :
    denE T (.compH false own t j .none el) e st = .ok (.p (.list (zs.map f))) st := by
  show (match hndV e j with
    | some k => compMH false _ _ _ _ k st
    | none => .no) = _
  rw [hj]
  dsimp only
  unfold compMH
  rw [hk]
  dsimp only
  rw [compLH_pure (tg := fun d e => tgt t d e) (test := fun e => denT T .none e) (elt := fun e => denE T el e) (e0 := wipeE e own) (f := f) (b := fun _ => true) hk zs _ 0 [] (by rw [List.drop_zero]) (by rw [List.length_map]; omega) (fun z hz => by obtain ⟨e1, h1, h2⟩ := h z hz; exact ⟨e1, h1, fun st' => ⟨rfl, fun _ => h2 st'⟩⟩) (by simpa using hl)]
  dsimp only
  rw [List.nil_append, last_get]
  dsimp only
  rw [if_neg Bool.false_ne_true, List.take_left, List.filter_eq_self.mpr (fun _ _ => rfl)]
theorem hnd_eq {j k : Nat} (h : e[j]? = some (some (.l k))) : hndV e j = some k := by unfold hndV; rw [h]
theorem dS_parT {is : List Nat} {as : Es} : denS T (.parT is as) e st = lift e (denEs T as e st) fun vs st1 => if vs.length ≤ sizeLine then oE (setL is vs e) st1 else .no := id rfl
theorem setL_nil : setL [] [] e = some e := id rfl
theorem setL_cons {i : Nat} {is : List Nat} {v : Val} {vs : List Val} : setL (i :: is) (v :: vs) e = setL is vs (e.set i (some v)) := id rfl
/-- counting -/
theorem filter_count (k : Nat) (f : Nat → Bool) (h1 : ∀ j, j < k → f j = true) (h2 : ∀ j, k ≤ j → f j = false) : ∀ n : Nat, ((List.range n).filter f).length = min k n
  | 0 => by simp
  | n + 1 => by
    rw [List.range_succ, List.filter_append, List.length_append, filter_count k f h1 h2 n]
    by_cases h : n < k
    · rw [List.filter_cons_of_pos (h1 n h), List.filter_nil]
      simp only [List.length_cons, List.length_nil]
      omega
    · rw [List.filter_cons_of_neg (by rw [h2 n (by omega)]; exact Bool.false_ne_true), List.filter_nil]
      simp only [List.length_nil]
      omega
theorem rngL_range' (n : Nat) : rngL n = (List.range' 0 n).map fun (k : Nat) => PyData.int (k : Int) := by
  unfold rngL
  rw [List.range_eq_range']
/-- drawing into a list behind others -/
theorem get_r {a xs acc : List PyData} {r : Store} : (a :: xs :: (r ++ [acc]))[r.length + 2]? = some acc := by
  rw [List.getElem?_cons_succ, List.getElem?_cons_succ, List.getElem?_append_right (Nat.le_refl _), Nat.sub_self]
  rfl
theorem set_r {a xs acc acc' : List PyData} {r : Store} : (a :: xs :: (r ++ [acc])).set (r.length + 2) acc' = a :: xs :: (r ++ [acc']) := by
  rw [List.set_cons_succ, List.set_cons_succ, List.set_append_right _ _ (Nat.le_refl _), Nat.sub_self]
  rfl
theorem compDr {el : E} {i : Nat} {e0 : Env} (P : α → Prop) (g : α → PyData) (a : List PyData) (r : Store)
    (h : ∀ z xs acc, Dr xs → ∃ x ys, P x ∧ Dr ys ∧ denE T el (e0.set i (some (.p z))) (a :: xs :: (r ++ [acc])) = .ok (.p (g x)) (a :: ys :: (r ++ [acc]))) : ∀ (zs xs acc : List PyData), Dr xs → acc.length + zs.length ≤ 1000 →
    ∃ (L : List α) (ys : List PyData), L.length = zs.length ∧ (∀ x ∈ L, P x) ∧ Dr ys ∧ cE T (.nm i) el e0 (r.length + 2) zs (a :: xs :: (r ++ [acc])) = .ok () (a :: ys :: (r ++ [acc ++ L.map g]))
  | [], xs, acc, hd, _ => ⟨[], xs, rfl, (fun x hx => absurd hx List.not_mem_nil), hd, by rw [List.map_nil, List.append_nil]; rfl⟩
  | z :: zs, xs, acc, hd, hl => by
    rw [List.length_cons] at hl
    obtain ⟨x, ys, px, hd1, e1⟩ := h z xs acc hd
    obtain ⟨L, ys2, h1, h2, h3, h4⟩ := compDr P g a r h zs ys (acc ++ [g x]) hd1 (by rw [List.length_append]; simp only [List.length_cons, List.length_nil]; omega)
    refine ⟨x :: L, ys2, by rw [List.length_cons, List.length_cons, h1], fun y hy => ?_, h3, ?_⟩
    · rcases List.mem_cons.mp hy with rfl | hy
      · exact px
      · exact h2 y hy
    · rw [cE_cons, tgt1, oN_some, e1, bindN_ok, cPut_ok get_r (by omega), set_r, h4, List.append_assoc]
      rfl
theorem comp_drawR {own : List Nat} {el n : E} {i : Nat} {k : Nat} {a xs xs2 : List PyData} {r : Store} (P : α → Prop) (g : α → PyData) (hi : denI T (.rng1 n) e (a :: xs :: r) = .ok (rngL k) (a :: xs2 :: r)) (hk : k ≤ 900) (hd : Dr xs2)
    (h : ∀ z xs acc, Dr xs → ∃ x ys, P x ∧ Dr ys ∧ denE T el ((wipeE e own).set i (some (.p z))) (a :: xs :: (r ++ [acc])) = .ok (.p (g x)) (a :: ys :: (r ++ [acc]))) :
    ∃ (L : List α) (ys : List PyData), L.length = k ∧ (∀ x ∈ L, P x) ∧ Dr ys ∧ denE T (.comp false own (.nm i) (.rng1 n) .none el) e (a :: xs :: r) = .ok (.p (.list (L.map g))) (a :: ys :: r) := by
  obtain ⟨L, ys, h1, h2, h3, h4⟩ := compDr (T := T) P g a r h (rngL k) xs2 [] hd (by rw [rngL_len]; simp only [List.length_nil]; omega)
  rw [rngL_len] at h1
  refine ⟨L, ys, h1, h2, h3, ?_⟩
  rw [dE_compE, hi, bind_ok]
  show cEnd (r.length + 2) (cE T (.nm i) el (wipeE e own) (r.length + 2) (rngL k) (a :: xs2 :: (r ++ [[]]))) = _
  rw [h4]
  unfold cEnd
  dsimp only
  rw [get_r]
  dsimp only
  rw [List.nil_append, List.take_succ_cons, List.take_succ_cons, List.take_left]
/-- [*found, here] -/
theorem star_last {i : Nat} {b : E} {d : PyData} {xs : List PyData} (h : e[i]? = some (some (.l st.length))) (h2 : denE T b e (st ++ [xs]) = .ok (.p d) (st ++ [xs])) (hl : xs.length ≤ 1000) : denE T (.lst false (.star (.var i) (.cons b .nil))) e (st ++ [xs]) = .ok (.p (.list (xs ++ [d]))) (st ++ [xs]) := by
  have dts : ∀ ys : List PyData, datsV (ys.map Val.p ++ [.p d]) (st ++ [xs]) = some (ys ++ [d]) := by
    intro ys
    induction ys with
    | nil => rfl
    | cons y ys ih =>
      show (datsV (ys.map Val.p ++ [.p d]) (st ++ [xs])).map (y :: ·) = _
      rw [ih]
      rfl
  have es : denEs T (.star (.var i) (.cons b .nil)) e (st ++ [xs]) = .ok (xs.map Val.p ++ [.p d]) (st ++ [xs]) := by
    show mStar (denE T (.var i)) (denEs T (.cons b .nil)) e (st ++ [xs]) = _
    unfold mStar M.bind
    rw [dE_var, h, vR_ok, bind_ok]
    show (match (st ++ [xs])[st.length]? with
      | some ds => (Rs.bind (denEs T (.cons b .nil) e (st ++ [xs])) fun vs => M.ret (ds.map Val.p ++ vs))
      | none => .no) = _
    rw [last_get]
    dsimp only
    rw [dEs_cons, h2, bind_ok, dEs_nil, bind_ok, bind_ok]
    rfl
  rw [dE_lst, es, bind_ok]
  exact lstR_ok (dts xs) (by rw [List.length_append]; simp only [List.length_cons, List.length_nil]; omega)
theorem parT2 {i j : Nat} {as : Es} {v w : Val} {st1 : Store} (h : denEs T as e st = .ok [v, w] st1) : denS T (.parT [i, j] as) e st = .ok (.nx ((e.set i (some v)).set j (some w))) st1 := by
  rw [dS_parT, h, lift_ok, if_pos (Nat.le_trans (by simp : _ ≤ 100) (by decide))]
  rfl
theorem parT3 {i j k : Nat} {as : Es} {v w u : Val} {st1 : Store} (h : denEs T as e st = .ok [v, w, u] st1) : denS T (.parT [i, j, k] as) e st = .ok (.nx (((e.set i (some v)).set j (some w)).set k (some u))) st1 := by
  rw [dS_parT, h, lift_ok, if_pos (Nat.le_trans (by simp : _ ≤ 100) (by decide))]
  rfl
theorem ls0T : lstR true [] st = .ok (.l st.length) (st ++ [[]]) := lstR_ok2 rfl (by simp)
theorem ls1T {x : PyData} : lstR true [.p x] st = .ok (.l st.length) (st ++ [[x]]) := lstR_ok2 rfl (by simp)
theorem len4 {a b c d : List PyData} : ([a, b, c, d] : Store).length = 4 := id rfl
theorem tgl2 {i j : Nat} {x y : PyData} : tgtV (.tp [.nm i, .nm j]) (.p (.list [x, y])) e st = some ((e.set i (some (.p x))).set j (some (.p y))) := id rfl
theorem tgl3 {i j k : Nat} {x y z : PyData} : tgtV (.tp [.nm i, .nm j, .nm k]) (.p (.list [x, y, z])) e st = some (((e.set i (some (.p x))).set j (some (.p y))).set k (some (.p z))) := id rfl
theorem tgl4 {i j k l : Nat} {x y z u : PyData} : tgtV (.tp [.nm i, .nm j, .nm k, .nm l]) (.p (.list [x, y, z, u])) e st = some ((((e.set i (some (.p x))).set j (some (.p y))).set k (some (.p z))).set l (some (.p u))) := id rfl
/-- two lists side by side; parts of lists -/
def zI (v u : Val) : M (List PyData) := match v, u with
  | .p (.list xs), .p (.list ys) => M.ret (zip2D xs ys)
  | .p (.tuple xs), .p (.tuple ys) => M.ret (zip2D xs ys)
  | _, _ => M.no
theorem zI_t {xs ys : List PyData} : zI (.p (.tuple xs)) (.p (.tuple ys)) st = .ok (zip2D xs ys) st := id rfl
theorem zI_l {xs ys : List PyData} : zI (.p (.list xs)) (.p (.list ys)) st = .ok (zip2D xs ys) st := id rfl
theorem dI_zip2 {a b : E} : denI T (.zip2 a b) e st = (denE T a e st).bind fun v st1 => (denE T b e st1).bind fun u st2 => zI v u st2 := id rfl
def slR (v : Val) (l h : Option Int) (st : Store) : Rs Val := match asD v st with
  | some d => pD (slcD d l h) st
  | none => .no
theorem slR_p {d : PyData} {l h : Option Int} : slR (.p d) l h st = pD (slcD d l h) st := id rfl
theorem dE_slcE {a : E} {lo hi : Eo} : denE T (.slc a lo hi) e st = (denE T a e st).bind fun v st1 => (denO T lo e st1).bind fun l st2 => (denO T hi e st2).bind fun h st3 => slR v l h st3 := id rfl
theorem dO_none : denO T .none e st = .ok none st := id rfl
def inO (v : Val) (st : Store) : Rs (Option Int) := match intV v with
  | some i => .ok (some i) st
  | none => .no
theorem inO_i {i : Int} : inO (.p (.int i)) st = .ok (some i) st := id rfl
theorem dO_some {a : E} : denO T (.some a) e st = (denE T a e st).bind inO := by
  show (denE T a e st).bind _ = (denE T a e st).bind _
  congr 1
  funext v st1
  unfold inO
  cases intV v <;> rfl
theorem sIx_1 {n : Nat} : HT.sIx (n + 1) 0 (some 1) = 1 := by
  unfold HT.sIx
  simp
theorem cut_1 (x : PyData) (r : List PyData) : cutL (x :: r) (some 1) none = r := by
  unfold cutL
  rw [List.length_cons, sIx_1, show HT.sIx (r.length + 1) (r.length + 1) none = r.length + 1 from rfl, List.drop_succ_cons, List.drop_zero, Nat.add_sub_cancel, List.take_length]
theorem slc_1t (x : PyData) (r : List PyData) : slcD (.tuple (x :: r)) (some 1) none = some (.tuple r) := by
  show some (PyData.tuple (cutL (x :: r) (some 1) none)) = _
  rw [cut_1]
theorem slc_1l (x : PyData) (r : List PyData) : slcD (.list (x :: r)) (some 1) none = some (.list r) := by
  show some (PyData.list (cutL (x :: r) (some 1) none)) = _
  rw [cut_1]
end
end Rk

set_option Elab.async false
set_option linter.all false
set_option maxRecDepth 100000
set_option maxHeartbeats 0
set_option exponentiation.threshold 20000
namespace Law03
open PySem Rk
/-! the defs of the row, as meaning -/
def kh : List (Str × PyData) := [("NotLine", .str "!line"), ("NotTable", .str "!table"), ("NotPlan", .str "!plan"), ("NotPaper", .str "!paper"), ("BadNumber", .str "!number"), ("NoAnswer", .str "!none"), ("TooLarge", .str "!large")]
/-- common -/
def f0 : FnIR := ⟨2, 2, false, (.cons (.whl (.var 1) (.cons (.par [0, 1] (.cons (.var 1) (.cons (.bin false .Mod (.var 0) (.var 1)) .nil))) .nil)) (.cons (.ret (.var 0)) .nil))⟩
/-- least_terms -/
def f1 : FnIR := ⟨2, 3, false, (.cons (.asg (.nm 2) (.call 0 (.cons (.b1 false .abs (.var 0)) (.cons (.var 1) .nil)))) (.cons (.ret (.tup (.cons (.bin false .FloorDiv (.var 0) (.var 2)) (.cons (.bin false .FloorDiv (.var 1) (.var 2)) .nil)))) .nil))⟩
/-- add -/
def f2 : FnIR := ⟨2, 2, false, (.cons (.ret (.call 1 (.cons (.bin false .Add (.bin false .Mult (.idx (.var 0) (.cst (.int 0))) (.idx (.var 1) (.cst (.int 1)))) (.bin false .Mult (.idx (.var 1) (.cst (.int 0))) (.idx (.var 0) (.cst (.int 1))))) (.cons (.bin false .Mult (.idx (.var 0) (.cst (.int 1))) (.idx (.var 1) (.cst (.int 1)))) .nil)))) .nil)⟩
/-- less -/
def f3 : FnIR := ⟨2, 2, false, (.cons (.ret (.call 1 (.cons (.bin false .Sub (.bin false .Mult (.idx (.var 0) (.cst (.int 0))) (.idx (.var 1) (.cst (.int 1)))) (.bin false .Mult (.idx (.var 1) (.cst (.int 0))) (.idx (.var 0) (.cst (.int 1))))) (.cons (.bin false .Mult (.idx (.var 0) (.cst (.int 1))) (.idx (.var 1) (.cst (.int 1)))) .nil)))) .nil)⟩
/-- times -/
def f4 : FnIR := ⟨2, 2, false, (.cons (.ret (.call 1 (.cons (.bin false .Mult (.idx (.var 0) (.cst (.int 0))) (.idx (.var 1) (.cst (.int 0)))) (.cons (.bin false .Mult (.idx (.var 0) (.cst (.int 1))) (.idx (.var 1) (.cst (.int 1)))) .nil)))) .nil)⟩
/-- by -/
def f5 : FnIR := ⟨2, 3, false, (.cons (.asg (.nm 2) (.ife (.cmp .Gt (.idx (.var 1) (.cst (.int 0))) (.cst (.int 0))) (.cst (.int 1)) (.neg (.cst (.int 1))))) (.cons (.ret (.call 1 (.cons (.bin false .Mult (.bin false .Mult (.var 2) (.idx (.var 0) (.cst (.int 0)))) (.idx (.var 1) (.cst (.int 1)))) (.cons (.bin false .Mult (.idx (.var 0) (.cst (.int 1))) (.b1 false .abs (.idx (.var 1) (.cst (.int 0))))) .nil)))) .nil))⟩
/-- is_fraction -/
def f6 : FnIR := ⟨1, 1, false, (.cons (.ret (.and (.cmp .Eq (.b1 false .len (.var 0)) (.cst (.int 2))) (.and (.cmp .Gt (.idx (.var 0) (.cst (.int 1))) (.cst (.int 0))) (.cmp .Eq (.call 0 (.cons (.b1 false .abs (.idx (.var 0) (.cst (.int 0)))) (.cons (.idx (.var 0) (.cst (.int 1))) .nil))) (.cst (.int 1)))))) .nil)⟩
/-- is_chance -/
def f7 : FnIR := ⟨1, 1, false, (.cons (.ret (.and (.call 6 (.cons (.var 0) .nil)) (.chain .LtE .LtE (.cst (.int 0)) (.idx (.var 0) (.cst (.int 0))) (.idx (.var 0) (.cst (.int 1)))))) .nil)⟩
/-- check_spring -/
def f8 : FnIR := ⟨1, 1, false, (.cons (.ife (.not (.call 7 (.cons (.var 0) .nil))) (.cons (.raise "BadNumber") .nil) .nil) .nil)⟩
/-- check_above -/
def f9 : FnIR := ⟨1, 2, false, (.cons (.ife (.not (.b1 false .all (.comp false [1] (.nm 1) (.seq (.var 0)) .none (.and (.call 6 (.cons (.var 1) .nil)) (.cmp .Gt (.idx (.var 1) (.cst (.int 0))) (.cst (.int 0))))))) (.cons (.raise "BadNumber") .nil) .nil) .nil)⟩
/-- check_two -/
def f10 : FnIR := ⟨3, 4, false, (.cons (.for_ (.nm 3) (.seq (.tup (.cons (.var 0) (.cons (.var 1) .nil)))) (.cons (.ife (.or (.cmp .NotEq (.b1 false .len (.var 3)) (.cst (.int 2))) (.not (.call 6 (.cons (.idx (.var 3) (.cst (.int 0))) .nil)))) (.cons (.raise "BadNumber") .nil) .nil) (.cons (.ex (.call 9 (.cons (.lst false (.cons (.idx (.var 3) (.cst (.int 1))) .nil)) .nil))) .nil))) (.cons (.ex (.call 8 (.cons (.var 2) .nil))) .nil))⟩
/-- after_of -/
def f11 : FnIR := ⟨3, 10, false, (.cons (.asg (.tp [(.tp [(.nm 6), (.nm 7)]), (.tp [(.nm 8), (.nm 9)])]) (.tup (.cons (.var 0) (.cons (.var 1) .nil)))) (.cons (.asg (.nm 3) (.call 2 (.cons (.var 7) (.cons (.var 9) .nil)))) (.cons (.asg (.nm 4) (.call 2 (.cons (.call 4 (.cons (.var 6) (.cons (.var 7) .nil))) (.cons (.call 4 (.cons (.var 8) (.cons (.var 9) .nil))) .nil)))) (.cons (.asg (.nm 5) (.call 4 (.cons (.var 2) (.cons (.call 3 (.cons (.var 8) (.cons (.var 6) .nil))) .nil)))) (.cons (.ret (.tup (.cons (.call 5 (.cons (.call 2 (.cons (.var 4) (.cons (.call 4 (.cons (.var 9) (.cons (.var 5) .nil))) .nil))) (.cons (.var 3) .nil))) (.cons (.call 5 (.cons (.call 3 (.cons (.var 4) (.cons (.call 4 (.cons (.var 7) (.cons (.var 5) .nil))) .nil))) (.cons (.var 3) .nil))) .nil)))) .nil)))))⟩
/-- after_loss -/
def f12 : FnIR := ⟨3, 3, false, (.cons (.ex (.call 10 (.cons (.var 0) (.cons (.var 1) (.cons (.var 2) .nil))))) (.cons (.ret (.call 11 (.cons (.var 0) (.cons (.var 1) (.cons (.var 2) .nil))))) .nil))⟩
/-- loss_by -/
def f13 : FnIR := ⟨3, 5, false, (.cons (.ex (.call 10 (.cons (.var 0) (.cons (.var 1) (.cons (.var 2) .nil))))) (.cons (.asg (.nm 3) (.call 3 (.cons (.idx (.var 0) (.cst (.int 0))) (.cons (.idx (.var 1) (.cst (.int 0))) .nil)))) (.cons (.asg (.nm 4) (.call 5 (.cons (.call 4 (.cons (.idx (.var 0) (.cst (.int 1))) (.cons (.idx (.var 1) (.cst (.int 1))) .nil))) (.cons (.call 2 (.cons (.idx (.var 0) (.cst (.int 1))) (.cons (.idx (.var 1) (.cst (.int 1))) .nil))) .nil)))) (.cons (.ret (.call 4 (.cons (.call 4 (.cons (.var 4) (.cons (.call 3 (.cons (.tup (.cons (.cst (.int 1)) (.cons (.cst (.int 1)) .nil))) (.cons (.call 4 (.cons (.var 2) (.cons (.var 2) .nil))) .nil))) .nil))) (.cons (.call 4 (.cons (.var 3) (.cons (.var 3) .nil))) .nil)))) .nil))))⟩
/-- check_loose -/
def f14 : FnIR := ⟨1, 1, false, (.cons (.ex (.call 8 (.cons (.var 0) .nil))) (.cons (.ife (.cmp .Eq (.idx (.var 0) (.cst (.int 0))) (.idx (.var 0) (.cst (.int 1)))) (.cons (.raise "BadNumber") .nil) .nil) .nil))⟩
/-- falls_time -/
def f15 : FnIR := ⟨1, 1, false, (.cons (.ex (.call 14 (.cons (.var 0) .nil))) (.cons (.ret (.call 5 (.cons (.call 2 (.cons (.tup (.cons (.cst (.int 1)) (.cons (.cst (.int 1)) .nil))) (.cons (.var 0) .nil))) (.cons (.call 3 (.cons (.tup (.cons (.cst (.int 1)) (.cons (.cst (.int 1)) .nil))) (.cons (.var 0) .nil))) .nil)))) .nil))⟩
/-- falls_way -/
def f16 : FnIR := ⟨2, 3, false, (.cons (.ex (.call 9 (.cons (.lst false (.cons (.var 0) .nil)) .nil))) (.cons (.ex (.call 14 (.cons (.var 1) .nil))) (.cons (.asg (.nm 2) (.call 4 (.cons (.var 1) (.cons (.var 1) .nil)))) (.cons (.ret (.call 4 (.cons (.var 0) (.cons (.call 5 (.cons (.call 2 (.cons (.tup (.cons (.cst (.int 1)) (.cons (.cst (.int 1)) .nil))) (.cons (.var 2) .nil))) (.cons (.call 3 (.cons (.tup (.cons (.cst (.int 1)) (.cons (.cst (.int 1)) .nil))) (.cons (.var 2) .nil))) .nil))) .nil)))) .nil))))⟩
/-- height_after -/
def f17 : FnIR := ⟨3, 5, false, (.cons (.ex (.call 9 (.cons (.lst false (.cons (.var 0) .nil)) .nil))) (.cons (.ex (.call 8 (.cons (.var 1) .nil))) (.cons (.ife (.not (.chain .LtE .LtE (.cst (.int 0)) (.var 2) (.glob "MOST_BOUNCES" (.int 100)))) (.cons (.raise "BadNumber") .nil) .nil) (.cons (.asg (.nm 3) (.b1 false .tup (.var 0))) (.cons (.for_ (.nm 4) (.rng1 (.var 2)) (.cons (.asg (.nm 3) (.call 4 (.cons (.var 3) (.cons (.call 4 (.cons (.var 1) (.cons (.var 1) .nil))) .nil)))) .nil)) (.cons (.ret (.var 3)) .nil))))))⟩
/-- bounces_by -/
def f18 : FnIR := ⟨2, 5, false, (.cons (.ex (.call 8 (.cons (.var 0) .nil))) (.cons (.ife (.or (.not (.call 6 (.cons (.var 1) .nil))) (.or (.cmp .Lt (.idx (.var 1) (.cst (.int 0))) (.cst (.int 0))) (.cmp .Lt (.idx (.call 3 (.cons (.tup (.cons (.glob "MOST_TIME" (.int 1000)) (.cons (.cst (.int 1)) .nil))) (.cons (.var 1) .nil))) (.cst (.int 0))) (.cst (.int 0))))) (.cons (.raise "BadNumber") .nil) .nil) (.cons (.ife (.and (.cmp .Lt (.idx (.var 0) (.cst (.int 0))) (.idx (.var 0) (.cst (.int 1)))) (.cmp .GtE (.idx (.call 3 (.cons (.var 1) (.cons (.call 5 (.cons (.call 2 (.cons (.tup (.cons (.cst (.int 1)) (.cons (.cst (.int 1)) .nil))) (.cons (.var 0) .nil))) (.cons (.call 3 (.cons (.tup (.cons (.cst (.int 1)) (.cons (.cst (.int 1)) .nil))) (.cons (.var 0) .nil))) .nil))) .nil))) (.cst (.int 0))) (.cst (.int 0)))) (.cons (.raise "NoAnswer") .nil) .nil) (.cons (.asg (.nm 2) (.cst (.int 0))) (.cons (.asg (.nm 3) (.tup (.cons (.cst (.int 1)) (.cons (.cst (.int 1)) .nil)))) (.cons (.asg (.nm 4) (.tup (.cons (.cst (.int 2)) (.cons (.cst (.int 1)) .nil)))) (.cons (.whl (.cmp .GtE (.idx (.call 3 (.cons (.var 1) (.cons (.var 3) .nil))) (.cst (.int 0))) (.cst (.int 0))) (.cons (.aug 2 .Add (.cst (.int 1))) (.cons (.asg (.nm 4) (.call 4 (.cons (.var 4) (.cons (.var 0) .nil)))) (.cons (.asg (.nm 3) (.call 2 (.cons (.var 3) (.cons (.var 4) .nil)))) .nil)))) (.cons (.ret (.var 2)) .nil))))))))⟩
/-- check_chain -/
def f19 : FnIR := ⟨2, 2, false, (.cons (.ife (.not (.chain .LtE .LtE (.glob "FEWEST_CHAIN" (.int 2)) (.b1 false .len (.var 0)) (.glob "MOST_CHAIN" (.int 30)))) (.cons (.raise "BadNumber") .nil) .nil) (.cons (.ex (.call 9 (.cons (.var 0) .nil))) (.cons (.ex (.call 8 (.cons (.var 1) .nil))) .nil)))⟩
/-- chain_of -/
def f20 : FnIR := ⟨2, 7, false, (.cons (.asg (.nm 2) (.lst true .nil)) (.cons (.asg (.nm 3) (.tup (.cons (.cst (.int 1)) (.cons (.cst (.int 1)) .nil)))) (.cons (.for_ (.tp [(.nm 4), (.nm 5)]) (.zip2 (.var 0) (.slc (.var 0) (.some (.cst (.int 1))) .none)) (.cons (.asg (.tp [(.nm 6), (.nm 3)]) (.call 11 (.cons (.tup (.cons (.var 3) (.cons (.var 4) .nil))) (.cons (.tup (.cons (.tup (.cons (.cst (.int 0)) (.cons (.cst (.int 1)) .nil))) (.cons (.var 5) .nil))) (.cons (.var 1) .nil))))) (.cons (.ex (.append (.var 2) (.var 6))) .nil))) (.cons (.ret (.lst false (.star (.var 2) (.cons (.var 3) .nil)))) .nil))))⟩
/-- chain_speed -/
def f21 : FnIR := ⟨2, 2, false, (.cons (.ex (.call 19 (.cons (.var 0) (.cons (.var 1) .nil)))) (.cons (.ret (.idx (.call 20 (.cons (.var 0) (.cons (.var 1) .nil))) (.neg (.cst (.int 1))))) .nil))⟩
/-- chain_speeds -/
def f22 : FnIR := ⟨2, 2, false, (.cons (.ex (.call 19 (.cons (.var 0) (.cons (.var 1) .nil)))) (.cons (.ret (.b1 false .tup (.call 20 (.cons (.var 0) (.cons (.var 1) .nil))))) .nil))⟩
/-- is_better_between -/
def f23 : FnIR := ⟨4, 5, false, (.cons (.ex (.call 9 (.cons (.lst false (.cons (.var 0) (.cons (.var 1) (.cons (.var 2) (.cons (.var 3) .nil))))) .nil))) (.cons (.asg (.nm 4) (.call 4 (.cons (.var 0) (.cons (.var 1) .nil)))) (.cons (.ret (.cmp .GtE (.idx (.call 3 (.cons (.call 2 (.cons (.var 3) (.cons (.call 5 (.cons (.var 4) (.cons (.var 3) .nil))) .nil))) (.cons (.call 2 (.cons (.var 2) (.cons (.call 5 (.cons (.var 4) (.cons (.var 2) .nil))) .nil))) .nil))) (.cst (.int 0))) (.cst (.int 0)))) .nil)))⟩
/-- walls_time -/
def f24 : FnIR := ⟨2, 5, false, (.cons (.ex (.call 14 (.cons (.var 0) .nil))) (.cons (.ife (.or (.cmp .Eq (.idx (.var 0) (.cst (.int 0))) (.cst (.int 0))) (.not (.chain .LtE .LtE (.cst (.int 1)) (.var 1) (.glob "MOST_BOUNCES" (.int 100))))) (.cons (.raise "BadNumber") .nil) .nil) (.cons (.asg (.nm 2) (.tup (.cons (.cst (.int 0)) (.cons (.cst (.int 1)) .nil)))) (.cons (.asg (.nm 3) (.tup (.cons (.cst (.int 1)) (.cons (.cst (.int 1)) .nil)))) (.cons (.for_ (.nm 4) (.rng1 (.var 1)) (.cons (.asg (.nm 2) (.call 2 (.cons (.var 2) (.cons (.var 3) .nil)))) (.cons (.asg (.nm 3) (.call 5 (.cons (.var 3) (.cons (.var 0) .nil)))) .nil))) (.cons (.ret (.var 2)) .nil))))))⟩
/-- _law_number -/
def f25 : FnIR := ⟨1, 1, false, (.cons (.ife (.cmp .Lt (.var 0) (.cst (.int 0))) (.cons (.ret (.bin false .Sub (.cst (.int 0)) (.var 0))) .nil) .nil) (.cons (.ret (.var 0)) .nil))⟩
/-- _law_draws -/
def f26 : FnIR := ⟨1, 7, true, (.cons (.asg (.nm 1) (.lst true .nil)) (.cons (.for_ (.nm 2) (.seq (.var 0)) (.cons (.asg (.nm 3) (.call 25 (.cons (.var 2) .nil))) (.cons (.ife (.cmp .GtE (.var 3) (.cst (.int 1000000000000000000))) (.cons (.for_ (.nm 4) (.rng1 (.cst (.int 60))) (.cons (.ife (.cmp .Eq (.var 3) (.cst (.int 0))) (.cons .brk .nil) .nil) (.cons (.ex (.append (.var 1) (.bin false .Mod (.b1 false .int (.var 3)) (.cst (.int 1000))))) (.cons (.asg (.nm 3) (.bin false .FloorDiv (.var 3) (.cst (.int 1000)))) .nil)))) .nil) (.cons (.asg (.nm 5) (.bin false .Mod (.b1 false .int (.bin false .Add (.bin false .Mult (.var 3) (.cst (.int 48271))) (.cst (.int 11)))) (.cst (.int 2147483647)))) (.cons (.asg (.nm 6) (.bin false .Mod (.b1 false .int (.bin false .Add (.bin false .Mult (.var 5) (.cst (.int 69621))) (.var 3))) (.cst (.int 2147483629)))) (.cons (.ex (.extend (.var 1) (.lst false (.cons (.bin false .Mod (.b1 false .int (.var 3)) (.cst (.int 1000))) (.cons (.bin false .Mod (.b1 false .int (.var 5)) (.cst (.int 1000))) (.cons (.bin false .Mod (.b1 false .int (.var 6)) (.cst (.int 1000))) .nil)))))) .nil)))) .nil))) (.cons (.ex (.reverse (.var 1))) (.cons (.ret (.var 1)) .nil))))⟩
/-- _law_flat -/
def f27 : FnIR := ⟨1, 3, false, (.cons (.asg (.nm 1) (.lst true .nil)) (.cons (.for_ (.nm 2) (.seq (.var 0)) (.cons (.ex (.extend (.var 1) (.var 2))) .nil)) (.cons (.ret (.var 1)) .nil)))⟩
/-- _law_next -/
def f28 : FnIR := ⟨1, 1, false, (.cons (.ife (.var 0) (.cons (.ret (.pop (.var 0))) .nil) .nil) (.cons (.ret (.cst (.int 0))) .nil))⟩
/-- _law_more -/
def f29 : FnIR := ⟨2, 5, true, (.cons (.asg (.nm 2) (.bin false .Add (.bin false .Add (.bin false .Mult (.cst (.int 1000)) (.call 28 (.cons (.var 0) .nil))) (.call 28 (.cons (.var 0) .nil))) (.cst (.int 1)))) (.cons (.asg (.nm 3) (.lst true .nil)) (.cons (.for_ (.nm 4) (.rng1 (.var 1)) (.cons (.asg (.nm 2) (.bin false .Mod (.b1 false .int (.bin false .Add (.bin false .Mult (.var 2) (.cst (.int 48271))) (.cst (.int 12345)))) (.cst (.int 2147483647)))) (.cons (.ex (.append (.var 3) (.bin false .Mod (.b1 false .int (.bin false .FloorDiv (.var 2) (.cst (.int 7)))) (.cst (.int 1000))))) .nil))) (.cons (.ret (.bin true .Add (.var 3) (.var 0))) .nil))))⟩
/-- _law_pick -/
def f30 : FnIR := ⟨2, 2, false, (.cons (.ret (.idx (.var 1) (.bin false .Mod (.b1 false .int (.call 28 (.cons (.var 0) .nil))) (.b1 false .len (.var 1))))) .nil)⟩
/-- _law_common -/
def f31 : FnIR := ⟨2, 3, false, (.cons (.for_ (.nm 2) (.rng1 (.cst (.int 20000))) (.cons (.ife (.cmp .Eq (.var 1) (.cst (.int 0))) (.cons (.ret (.var 0)) .nil) .nil) (.cons (.par [0, 1] (.cons (.var 1) (.cons (.bin false .Mod (.b1 false .int (.var 0)) (.b1 false .int (.var 1))) .nil))) .nil))) (.cons (.ret (.cst (.int 1))) .nil))⟩
/-- _law_lowest -/
def f32 : FnIR := ⟨2, 3, false, (.cons (.asg (.nm 2) (.call 31 (.cons (.b1 false .abs (.var 0)) (.cons (.var 1) .nil)))) (.cons (.ret (.tup (.cons (.bin false .FloorDiv (.var 0) (.var 2)) (.cons (.bin false .FloorDiv (.var 1) (.var 2)) .nil)))) .nil))⟩
/-- _law_add -/
def f33 : FnIR := ⟨2, 2, false, (.cons (.ret (.call 32 (.cons (.bin false .Add (.bin false .Mult (.idx (.var 0) (.cst (.int 0))) (.idx (.var 1) (.cst (.int 1)))) (.bin false .Mult (.idx (.var 1) (.cst (.int 0))) (.idx (.var 0) (.cst (.int 1))))) (.cons (.bin false .Mult (.idx (.var 0) (.cst (.int 1))) (.idx (.var 1) (.cst (.int 1)))) .nil)))) .nil)⟩
/-- _law_less -/
def f34 : FnIR := ⟨2, 2, false, (.cons (.ret (.call 32 (.cons (.bin false .Sub (.bin false .Mult (.idx (.var 0) (.cst (.int 0))) (.idx (.var 1) (.cst (.int 1)))) (.bin false .Mult (.idx (.var 1) (.cst (.int 0))) (.idx (.var 0) (.cst (.int 1))))) (.cons (.bin false .Mult (.idx (.var 0) (.cst (.int 1))) (.idx (.var 1) (.cst (.int 1)))) .nil)))) .nil)⟩
/-- _law_times -/
def f35 : FnIR := ⟨2, 2, false, (.cons (.ret (.call 32 (.cons (.bin false .Mult (.idx (.var 0) (.cst (.int 0))) (.idx (.var 1) (.cst (.int 0)))) (.cons (.bin false .Mult (.idx (.var 0) (.cst (.int 1))) (.idx (.var 1) (.cst (.int 1)))) .nil)))) .nil)⟩
/-- _law_by -/
def f36 : FnIR := ⟨2, 2, false, (.cons (.ret (.call 32 (.cons (.bin false .Mult (.idx (.var 0) (.cst (.int 0))) (.idx (.var 1) (.cst (.int 1)))) (.cons (.bin false .Mult (.idx (.var 0) (.cst (.int 1))) (.idx (.var 1) (.cst (.int 0)))) .nil)))) .nil)⟩
/-- _law_total -/
def f37 : FnIR := ⟨1, 3, false, (.cons (.asg (.nm 1) (.tup (.cons (.cst (.int 0)) (.cons (.cst (.int 1)) .nil)))) (.cons (.for_ (.nm 2) (.seq (.var 0)) (.cons (.asg (.nm 1) (.call 33 (.cons (.var 1) (.cons (.var 2) .nil)))) .nil)) (.cons (.ret (.var 1)) .nil)))⟩
/-- _law_rate -/
def f38 : FnIR := ⟨1, 1, false, (.cons (.ret (.call 32 (.cons (.bin false .Add (.cst (.int 1)) (.bin false .Mod (.b1 false .int (.call 28 (.cons (.var 0) .nil))) (.cst (.int 5)))) (.cons (.bin false .Add (.cst (.int 1)) (.bin false .Mod (.b1 false .int (.call 28 (.cons (.var 0) .nil))) (.cst (.int 4)))) .nil)))) .nil)⟩
/-- _law_raised -/
def f39 : FnIR := ⟨2, 4, false, (.cons (.asg (.nm 2) (.tup (.cons (.cst (.int 1)) (.cons (.cst (.int 1)) .nil)))) (.cons (.for_ (.nm 3) (.rng1 (.var 1)) (.cons (.asg (.nm 2) (.call 35 (.cons (.var 2) (.cons (.var 0) .nil)))) .nil)) (.cons (.ret (.var 2)) .nil)))⟩
/-- _law_part -/
def f40 : FnIR := ⟨2, 2, false, (.cons (.ret (.call 32 (.cons (.bin false .Mult (.bin false .Mult (.idx (.var 0) (.cst (.int 0))) (.idx (.var 1) (.cst (.int 1)))) (.ife (.cmp .Gt (.idx (.var 1) (.cst (.int 0))) (.cst (.int 0))) (.cst (.int 1)) (.bin false .Sub (.cst (.int 0)) (.cst (.int 1))))) (.cons (.bin false .Mult (.idx (.var 0) (.cst (.int 1))) (.b1 false .abs (.idx (.var 1) (.cst (.int 0))))) .nil)))) .nil)⟩
/-- _law_speeds -/
def f41 : FnIR := ⟨3, 10, true, (.cons (.asg (.tp [(.tp [(.nm 6), (.nm 7)]), (.tp [(.nm 8), (.nm 9)])]) (.tup (.cons (.var 0) (.cons (.var 1) .nil)))) (.cons (.par [3, 4, 5] (.cons (.call 33 (.cons (.var 7) (.cons (.var 9) .nil))) (.cons (.call 33 (.cons (.call 35 (.cons (.var 6) (.cons (.var 7) .nil))) (.cons (.call 35 (.cons (.var 8) (.cons (.var 9) .nil))) .nil))) (.cons (.call 35 (.cons (.var 2) (.cons (.call 34 (.cons (.var 8) (.cons (.var 6) .nil))) .nil))) .nil)))) (.cons (.ret (.tup (.cons (.call 40 (.cons (.call 33 (.cons (.var 4) (.cons (.call 35 (.cons (.var 9) (.cons (.var 5) .nil))) .nil))) (.cons (.var 3) .nil))) (.cons (.call 40 (.cons (.call 34 (.cons (.var 4) (.cons (.call 35 (.cons (.var 7) (.cons (.var 5) .nil))) .nil))) (.cons (.var 3) .nil))) .nil)))) .nil)))⟩
/-- _law_live -/
def f42 : FnIR := ⟨2, 2, false, (.cons (.ret (.call 33 (.cons (.call 35 (.cons (.idx (.var 0) (.cst (.int 1))) (.cons (.call 35 (.cons (.idx (.var 0) (.cst (.int 0))) (.cons (.idx (.var 0) (.cst (.int 0))) .nil))) .nil))) (.cons (.call 35 (.cons (.idx (.var 1) (.cst (.int 1))) (.cons (.call 35 (.cons (.idx (.var 1) (.cst (.int 0))) (.cons (.idx (.var 1) (.cst (.int 0))) .nil))) .nil))) .nil)))) .nil)⟩
/-- _law_asked -/
def f43 : FnIR := ⟨5, 6, false, (.cons (.try_ (.cons (.ife (.cmp .Lt (.var 0) (.cst (.int 2))) (.cons (.ret (.sw [12, 13] (.var 0) (.cons (.var 1) (.cons (.var 2) (.cons (.var 3) .nil))))) .nil) .nil) (.cons (.ife (.cmp .Lt (.var 0) (.cst (.int 3))) (.cons (.ret (.call 15 (.cons (.var 1) .nil))) .nil) .nil) (.cons (.ife (.cmp .Lt (.var 0) (.cst (.int 8))) (.cons (.ret (.sw [16, 18, 21, 22, 24] (.bin false .Sub (.var 0) (.cst (.int 3))) (.cons (.var 1) (.cons (.var 2) .nil)))) .nil) .nil) (.cons (.ret (.ife (.cmp .Eq (.var 0) (.cst (.int 8))) (.call 17 (.cons (.var 1) (.cons (.var 2) (.cons (.var 3) .nil)))) (.call 23 (.cons (.var 1) (.cons (.var 2) (.cons (.var 3) (.cons (.var 4) .nil))))))) .nil)))) 5 kh) .nil)⟩
/-- _law_refuses -/
def f44 : FnIR := ⟨0, 13, false, (.cons (.asg (.tp [(.nm 2), (.nm 3), (.nm 4)]) (.tup (.cons (.tup (.cons (.cst (.int 1)) (.cons (.cst (.int 1)) .nil))) (.cons (.tup (.cons (.cst (.int 0)) (.cons (.cst (.int 1)) .nil))) (.cons (.tup (.cons (.cst (.int 1)) (.cons (.cst (.int 2)) .nil))) .nil))))) (.cons (.asg (.tp [(.nm 5), (.nm 6)]) (.tup (.cons (.tup (.cons (.var 2) (.cons (.var 2) .nil))) (.cons (.lst false (.cons (.tup (.cons (.neg (.cst (.int 1))) (.cons (.cst (.int 2)) .nil))) (.cons (.tup (.cons (.cst (.int 3)) (.cons (.cst (.int 2)) .nil))) (.cons (.tup (.cons (.cst (.int 2)) (.cons (.cst (.int 4)) .nil))) .nil)))) .nil)))) (.cons (.asg (.nm 0) (.call 27 (.cons (.comp false [7] (.nm 7) (.seq (.lst false (.cons (.cst (.int 0)) (.cons (.cst (.int 1)) .nil)))) .none (.comp false [8] (.nm 8) (.seq (.lst false (.cons (.tup (.cons (.var 2) .nil)) (.cons (.tup (.cons (.tup (.cons (.cst (.int 2)) (.cons (.cst (.int 4)) .nil))) (.cons (.var 2) .nil))) (.cons (.tup (.cons (.var 2) (.cons (.var 3) .nil))) (.cons (.tup (.cons (.var 2) (.cons (.tup (.cons (.neg (.cst (.int 1))) (.cons (.cst (.int 1)) .nil))) .nil))) .nil)))))) .none (.call 43 (.cons (.var 7) (.cons (.var 8) (.cons (.var 5) (.cons (.var 4) (.cons (.cst .none) .nil)))))))) .nil))) (.cons (.asg (.nm 0) (.bin false .Add (.var 0) (.call 27 (.cons (.comp false [7] (.nm 7) (.seq (.lst false (.cons (.cst (.int 0)) (.cons (.cst (.int 1)) .nil)))) .none (.comp false [8] (.nm 8) (.seq (.lst false (.cons (.tup (.cons (.var 2) .nil)) (.cons (.tup (.cons (.tup (.cons (.cst (.int 2)) (.cons (.cst (.int 4)) .nil))) (.cons (.var 2) .nil))) (.cons (.tup (.cons (.var 2) (.cons (.var 3) .nil))) .nil))))) .none (.call 43 (.cons (.var 7) (.cons (.var 5) (.cons (.var 8) (.cons (.var 4) (.cons (.cst .none) .nil)))))))) .nil)))) (.cons (.asg (.nm 0) (.bin false .Add (.var 0) (.call 27 (.cons (.comp false [7] (.nm 7) (.seq (.lst false (.cons (.cst (.int 0)) (.cons (.cst (.int 1)) .nil)))) .none (.comp false [8] (.nm 8) (.seq (.var 6)) .none (.call 43 (.cons (.var 7) (.cons (.var 5) (.cons (.var 5) (.cons (.var 8) (.cons (.cst .none) .nil)))))))) .nil)))) (.cons (.asg (.nm 0) (.bin false .Add (.bin false .Add (.var 0) (.comp false [8] (.nm 8) (.seq (.bin false .Add (.var 6) (.lst false (.cons (.var 2) .nil)))) .none (.call 43 (.cons (.cst (.int 2)) (.cons (.var 8) (.cons (.cst .none) (.cons (.cst .none) (.cons (.cst .none) .nil)))))))) (.comp false [8] (.nm 8) (.seq (.bin false .Add (.var 6) (.lst false (.cons (.var 2) .nil)))) .none (.call 43 (.cons (.cst (.int 3)) (.cons (.var 2) (.cons (.var 8) (.cons (.cst .none) (.cons (.cst .none) .nil))))))))) (.cons (.asg (.nm 0) (.bin false .Add (.var 0) (.comp false [8] (.nm 8) (.seq (.lst false (.cons (.var 3) (.cons (.tup (.cons (.neg (.cst (.int 1))) (.cons (.cst (.int 1)) .nil))) (.cons (.tup (.cons (.cst (.int 2)) (.cons (.cst (.int 4)) .nil))) .nil))))) .none (.call 43 (.cons (.cst (.int 3)) (.cons (.var 8) (.cons (.var 4) (.cons (.cst .none) (.cons (.cst .none) .nil))))))))) (.cons (.asg (.nm 0) (.bin false .Add (.bin false .Add (.var 0) (.comp false [8] (.nm 8) (.seq (.var 6)) .none (.call 43 (.cons (.cst (.int 4)) (.cons (.var 8) (.cons (.var 2) (.cons (.cst .none) (.cons (.cst .none) .nil)))))))) (.comp false [8] (.nm 8) (.seq (.lst false (.cons (.tup (.cons (.neg (.cst (.int 1))) (.cons (.cst (.int 2)) .nil))) (.cons (.tup (.cons (.cst (.int 2)) (.cons (.cst (.int 4)) .nil))) (.cons (.tup (.cons (.cst (.int 1001)) (.cons (.cst (.int 1)) .nil))) .nil))))) .none (.call 43 (.cons (.cst (.int 4)) (.cons (.var 4) (.cons (.var 8) (.cons (.cst .none) (.cons (.cst .none) .nil))))))))) (.cons (.asg (.nm 0) (.bin false .Add (.var 0) (.call 27 (.cons (.comp false [7] (.nm 7) (.seq (.lst false (.cons (.cst (.int 5)) (.cons (.cst (.int 6)) .nil)))) .none (.comp false [8] (.nm 8) (.seq (.lst false (.cons (.tup .nil) (.cons (.tup (.cons (.var 2) .nil)) (.cons (.bin false .Mult (.tup (.cons (.var 2) .nil)) (.cst (.int 31))) (.cons (.tup (.cons (.var 2) (.cons (.var 3) .nil))) (.cons (.tup (.cons (.var 2) (.cons (.tup (.cons (.cst (.int 2)) (.cons (.cst (.int 4)) .nil))) .nil))) .nil))))))) .none (.call 43 (.cons (.var 7) (.cons (.var 8) (.cons (.var 4) (.cons (.cst .none) (.cons (.cst .none) .nil)))))))) .nil)))) (.cons (.asg (.nm 0) (.bin false .Add (.var 0) (.call 27 (.cons (.comp false [7] (.nm 7) (.seq (.lst false (.cons (.cst (.int 5)) (.cons (.cst (.int 6)) .nil)))) .none (.comp false [8] (.nm 8) (.seq (.var 6)) .none (.call 43 (.cons (.var 7) (.cons (.var 5) (.cons (.var 8) (.cons (.cst .none) (.cons (.cst .none) .nil)))))))) .nil)))) (.cons (.asg (.nm 0) (.bin false .Add (.bin false .Add (.var 0) (.comp false [8] (.nm 8) (.seq (.bin false .Add (.var 6) (.lst false (.cons (.var 2) (.cons (.var 3) .nil))))) .none (.call 43 (.cons (.cst (.int 7)) (.cons (.var 8) (.cons (.cst (.int 1)) (.cons (.cst .none) (.cons (.cst .none) .nil)))))))) (.comp false [8] (.nm 8) (.seq (.lst false (.cons (.cst (.int 0)) (.cons (.cst (.int 101)) .nil)))) .none (.call 43 (.cons (.cst (.int 7)) (.cons (.var 4) (.cons (.var 8) (.cons (.cst .none) (.cons (.cst .none) .nil))))))))) (.cons (.asg (.nm 0) (.bin false .Add (.bin false .Add (.var 0) (.comp false [8] (.nm 8) (.seq (.lst false (.cons (.var 3) (.cons (.tup (.cons (.neg (.cst (.int 1))) (.cons (.cst (.int 1)) .nil))) (.cons (.tup (.cons (.cst (.int 2)) (.cons (.cst (.int 4)) .nil))) .nil))))) .none (.call 43 (.cons (.cst (.int 8)) (.cons (.var 8) (.cons (.var 4) (.cons (.cst (.int 1)) (.cons (.cst .none) .nil)))))))) (.comp false [8] (.nm 8) (.seq (.var 6)) .none (.call 43 (.cons (.cst (.int 8)) (.cons (.var 2) (.cons (.var 8) (.cons (.cst (.int 1)) (.cons (.cst .none) .nil))))))))) (.cons (.asg (.nm 0) (.bin false .Add (.var 0) (.comp false [8] (.nm 8) (.seq (.lst false (.cons (.neg (.cst (.int 1))) (.cons (.cst (.int 101)) .nil)))) .none (.call 43 (.cons (.cst (.int 8)) (.cons (.var 2) (.cons (.var 4) (.cons (.var 8) (.cons (.cst .none) .nil))))))))) (.cons (.asg (.nm 1) (.call 27 (.cons (.comp false [9] (.nm 9) (.rng1 (.cst (.int 4))) .none (.comp false [8] (.nm 8) (.seq (.lst false (.cons (.var 3) (.cons (.tup (.cons (.cst (.int 2)) (.cons (.cst (.int 4)) .nil))) .nil)))) .none (.comp false [12] (.nm 12) (.rng1 (.cst (.int 4))) .none (.ife (.cmp .Eq (.var 12) (.var 9)) (.var 8) (.var 2))))) .nil))) (.cons (.ife (.cmp .NotEq (.comp false [10] (.nm 10) (.seq (.lst false (.cons (.tup (.cons (.cst (.int 3)) (.cons (.cst (.int 1)) .nil))) (.cons (.tup (.cons (.cst (.int 4)) (.cons (.cst (.int 1)) .nil))) .nil)))) .none (.call 43 (.cons (.cst (.int 4)) (.cons (.var 4) (.cons (.var 10) (.cons (.cst .none) (.cons (.cst .none) .nil))))))) (.bin false .Mult (.lst false (.cons (.cst (.str "!none")) .nil)) (.cst (.int 2)))) (.cons (.ret (.cst (.bool false))) .nil) .nil) (.cons (.ret (.and (.cmp .Eq (.var 0) (.bin false .Mult (.lst false (.cons (.cst (.str "!number")) .nil)) (.cst (.int 68)))) (.cmp .Eq (.comp false [11] (.nm 11) (.seq (.var 1)) .none (.call 43 (.cons (.cst (.int 9)) (.cons (.idx (.var 11) (.cst (.int 0))) (.cons (.idx (.var 11) (.cst (.int 1))) (.cons (.idx (.var 11) (.cst (.int 2))) (.cons (.idx (.var 11) (.cst (.int 3))) .nil))))))) (.bin false .Mult (.lst false (.cons (.cst (.str "!number")) .nil)) (.cst (.int 8)))))) .nil))))))))))))))))⟩
/-- the law, statement by statement; names: 0:script 1:draws 2:low 3:e 4:pair 5:spring 6:square 7:n 8:due 9:sums 10:turn 11:t 12:far 13:masses 14:at 15:ends 16:middle 17:one 18:nought 19:half 20:speeds 21:later 22:answers 23:whole 24:h 25:here 26:m 27:k 28:x 29:y 30:first 31:wall 32:gone 33:told -/
def r45_29 : Ss := .nil
def s45_28 : Rk.S := (.ret (.call 44 .nil))
def r45_28 : Ss := .cons s45_28 r45_29
theorem e45_28 {T : Nat → Fn} {e : Rk.Env} {st : Store} : denSs T r45_28 e st = nxS (denS T s45_28 e st) (denSs T r45_29) := id rfl
def s45_27 : Rk.S := (.ife (.cmp .Gt (.idx (.var 3) (.cst (.int 0))) (.cst (.int 0))) (.cons (.asg (.nm 31) (.bin false .Add (.cst (.int 1)) (.bin false .Mod (.b1 false .int (.call 28 (.cons (.var 1) .nil))) (.cst (.int 6))))) (.cons (.asg (.nm 8) (.call 37 (.cons (.comp false [14] (.nm 14) (.rng1 (.var 31)) .none (.call 36 (.cons (.var 17) (.cons (.call 39 (.cons (.var 3) (.cons (.var 14) .nil))) .nil)))) .nil))) (.cons (.ife (.cmp .NotEq (.b1 false .repr (.call 43 (.cons (.cst (.int 7)) (.cons (.var 3) (.cons (.var 31) (.cons (.cst .none) (.cons (.cst .none) .nil))))))) (.b1 false .repr (.var 8))) (.cons (.ret (.cst (.bool false))) .nil) .nil) .nil))) .nil)
def r45_27 : Ss := .cons s45_27 r45_28
theorem e45_27 {T : Nat → Fn} {e : Rk.Env} {st : Store} : denSs T r45_27 e st = nxS (denS T s45_27 e st) (denSs T r45_28) := id rfl
def s45_26 : Rk.S := (.ife (.cmp .IsNot (.call 23 (.cons (.call 35 (.cons (.var 28) (.cons (.var 28) .nil))) (.cons (.call 35 (.cons (.var 29) (.cons (.var 29) .nil))) (.cons (.call 35 (.cons (.var 28) (.cons (.var 29) .nil))) (.cons (.var 27) .nil))))) (.cst (.bool true))) (.cons (.ret (.cst (.bool false))) .nil) .nil)
def r45_26 : Ss := .cons s45_26 r45_27
theorem e45_26 {T : Nat → Fn} {e : Rk.Env} {st : Store} : denSs T r45_26 e st = nxS (denS T s45_26 e st) (denSs T r45_27) := id rfl
def s45_25 : Rk.S := (.ife (.or (.cmp .NotEq (.b1 false .repr (.call 43 (.cons (.cst (.int 9)) (.cons (.var 26) (.cons (.var 27) (.cons (.var 28) (.cons (.var 29) .nil))))))) (.b1 false .repr (.cmp .GtE (.idx (.call 34 (.cons (.idx (.var 15) (.cst (.int 0))) (.cons (.idx (.var 15) (.cst (.int 1))) .nil))) (.cst (.int 0))) (.cst (.int 0))))) (.cmp .NotEq (.b1 false .repr (.call 43 (.cons (.cst (.int 9)) (.cons (.var 26) (.cons (.var 27) (.cons (.var 29) (.cons (.var 28) .nil))))))) (.b1 false .repr (.cmp .GtE (.idx (.call 34 (.cons (.idx (.var 15) (.cst (.int 1))) (.cons (.idx (.var 15) (.cst (.int 0))) .nil))) (.cst (.int 0))) (.cst (.int 0)))))) (.cons (.ret (.cst (.bool false))) .nil) .nil)
def r45_25 : Ss := .cons s45_25 r45_26
theorem e45_25 {T : Nat → Fn} {e : Rk.Env} {st : Store} : denSs T r45_25 e st = nxS (denS T s45_25 e st) (denSs T r45_26) := id rfl
def s45_24 : Rk.S := (.for_ (.nm 16) (.seq (.lst false (.cons (.var 28) (.cons (.var 29) (.cons (.var 26) (.cons (.call 35 (.cons (.var 26) (.cons (.var 27) .nil))) .nil)))))) (.cons (.asg (.nm 30) (.idx (.call 41 (.cons (.tup (.cons (.var 17) (.cons (.var 26) .nil))) (.cons (.tup (.cons (.var 18) (.cons (.var 16) .nil))) (.cons (.var 17) .nil)))) (.cst (.int 1)))) (.cons (.ex (.append (.var 15) (.idx (.call 41 (.cons (.tup (.cons (.var 30) (.cons (.var 16) .nil))) (.cons (.tup (.cons (.var 18) (.cons (.var 27) .nil))) (.cons (.var 17) .nil)))) (.cst (.int 1))))) .nil)))
def r45_24 : Ss := .cons s45_24 r45_25
theorem e45_24 {T : Nat → Fn} {e : Rk.Env} {st : Store} : denSs T r45_24 e st = nxS (denS T s45_24 e st) (denSs T r45_25) := id rfl
def s45_23 : Rk.S := (.asg (.nm 15) (.lst true .nil))
def r45_23 : Ss := .cons s45_23 r45_24
theorem e45_23 {T : Nat → Fn} {e : Rk.Env} {st : Store} : denSs T r45_23 e st = nxS (denS T s45_23 e st) (denSs T r45_24) := id rfl
def s45_22 : Rk.S := (.asg (.tp [(.nm 26), (.nm 27), (.nm 28), (.nm 29)]) (.comp false [10] (.nm 10) (.rng1 (.cst (.int 4))) .none (.call 38 (.cons (.var 1) .nil))))
def r45_22 : Ss := .cons s45_22 r45_23
theorem e45_22 {T : Nat → Fn} {e : Rk.Env} {st : Store} : denSs T r45_22 e st = nxS (denS T s45_22 e st) (denSs T r45_23) := id rfl
def s45_21 : Rk.S := (.ife (.cmp .NotEq (.b1 false .repr (.lst false (.cons (.call 43 (.cons (.cst (.int 5)) (.cons (.var 13) (.cons (.var 3) (.cons (.cst .none) (.cons (.cst .none) .nil)))))) (.cons (.call 43 (.cons (.cst (.int 6)) (.cons (.var 13) (.cons (.var 3) (.cons (.cst .none) (.cons (.cst .none) .nil)))))) .nil)))) (.b1 false .repr (.lst false (.cons (.var 25) (.cons (.b1 false .tup (.bin false .Add (.var 20) (.lst false (.cons (.var 25) .nil)))) .nil))))) (.cons (.ret (.cst (.bool false))) .nil) .nil)
def r45_21 : Ss := .cons s45_21 r45_22
theorem e45_21 {T : Nat → Fn} {e : Rk.Env} {st : Store} : denSs T r45_21 e st = nxS (denS T s45_21 e st) (denSs T r45_22) := id rfl
def s45_20 : Rk.S := (.for_ (.nm 14) (.rng1 (.bin false .Sub (.b1 false .len (.var 13)) (.cst (.int 1)))) (.cons (.asg (.tp [(.nm 32), (.nm 25)]) (.call 41 (.cons (.tup (.cons (.var 25) (.cons (.idx (.var 13) (.var 14)) .nil))) (.cons (.tup (.cons (.var 18) (.cons (.idx (.var 13) (.bin false .Add (.var 14) (.cst (.int 1)))) .nil))) (.cons (.var 3) .nil))))) (.cons (.ex (.append (.var 20) (.var 32))) .nil)))
def r45_20 : Ss := .cons s45_20 r45_21
theorem e45_20 {T : Nat → Fn} {e : Rk.Env} {st : Store} : denSs T r45_20 e st = nxS (denS T s45_20 e st) (denSs T r45_21) := id rfl
def s45_19 : Rk.S := (.parT [25, 20] (.cons (.var 17) (.cons (.lst true .nil) .nil)))
def r45_19 : Ss := .cons s45_19 r45_20
theorem e45_19 {T : Nat → Fn} {e : Rk.Env} {st : Store} : denSs T r45_19 e st = nxS (denS T s45_19 e st) (denSs T r45_20) := id rfl
def s45_18 : Rk.S := (.asg (.nm 13) (.b1 false .tup (.comp false [10] (.nm 10) (.rng1 (.bin false .Add (.cst (.int 2)) (.bin false .Mod (.b1 false .int (.call 28 (.cons (.var 1) .nil))) (.cst (.int 5))))) .none (.call 38 (.cons (.var 1) .nil)))))
def r45_18 : Ss := .cons s45_18 r45_19
theorem e45_18 {T : Nat → Fn} {e : Rk.Env} {st : Store} : denSs T r45_18 e st = nxS (denS T s45_18 e st) (denSs T r45_19) := id rfl
def s45_17 : Rk.S := (.ife (.cmp .NotEq (.b1 false .repr (.call 43 (.cons (.cst (.int 4)) (.cons (.var 17) (.cons (.tup (.cons (.var 12) (.cons (.cst (.int 1)) .nil))) (.cons (.cst .none) (.cons (.cst .none) .nil))))))) (.b1 false .repr (.bin false .FloorDiv (.b1 false .int (.bin false .Add (.var 12) (.cst (.int 1)))) (.cst (.int 2))))) (.cons (.ret (.cst (.bool false))) .nil) .nil)
def r45_17 : Ss := .cons s45_17 r45_18
theorem e45_17 {T : Nat → Fn} {e : Rk.Env} {st : Store} : denSs T r45_17 e st = nxS (denS T s45_17 e st) (denSs T r45_18) := id rfl
def s45_16 : Rk.S := (.asg (.nm 12) (.bin false .Mod (.b1 false .int (.call 28 (.cons (.var 1) .nil))) (.cst (.int 50))))
def r45_16 : Ss := .cons s45_16 r45_17
theorem e45_16 {T : Nat → Fn} {e : Rk.Env} {st : Store} : denSs T r45_16 e st = nxS (denS T s45_16 e st) (denSs T r45_17) := id rfl
def s45_15 : Rk.S := (.for_ (.nm 11) (.seq (.lst false (.cons (.call 32 (.cons (.bin false .Mod (.b1 false .int (.call 28 (.cons (.var 1) .nil))) (.cst (.int 12))) (.cons (.cst (.int 4)) .nil))) (.cons (.idx (.var 9) (.bin false .Mod (.b1 false .int (.call 28 (.cons (.var 1) .nil))) (.cst (.int 4)))) (.cons (.var 18) (.cons (.call 33 (.cons (.var 23) (.cons (.var 19) .nil))) (.cons (.var 23) .nil))))))) (.cons (.ife (.cmp .Gt (.idx (.call 34 (.cons (.var 23) (.cons (.var 11) .nil))) (.cst (.int 0))) (.cst (.int 0))) (.cons (.asg (.nm 8) (.b1 false .len (.compH false [33] (.nm 33) 9 (.some (.cmp .GtE (.idx (.call 34 (.cons (.var 11) (.cons (.var 33) .nil))) (.cst (.int 0))) (.cst (.int 0)))) (.var 33)))) (.cons (.ife (.and (.cmp .Lt (.var 8) (.cst (.int 13))) (.cmp .NotEq (.b1 false .repr (.call 43 (.cons (.cst (.int 4)) (.cons (.var 3) (.cons (.var 11) (.cons (.cst .none) (.cons (.cst .none) .nil))))))) (.b1 false .repr (.var 8)))) (.cons (.ret (.cst (.bool false))) .nil) .nil) .nil)) (.cons (.ife (.cmp .NotEq (.call 43 (.cons (.cst (.int 4)) (.cons (.var 3) (.cons (.var 11) (.cons (.cst .none) (.cons (.cst .none) .nil)))))) (.cst (.str "!none"))) (.cons (.ret (.cst (.bool false))) .nil) .nil) .nil)) .nil))
def r45_15 : Ss := .cons s45_15 r45_16
theorem e45_15 {T : Nat → Fn} {e : Rk.Env} {st : Store} : denSs T r45_15 e st = nxS (denS T s45_15 e st) (denSs T r45_16) := id rfl
def s45_14 : Rk.S := (.for_ (.nm 10) (.rng1 (.cst (.int 12))) (.cons (.ex (.append (.var 9) (.call 33 (.cons (.idx (.var 9) (.neg (.cst (.int 1)))) (.cons (.call 35 (.cons (.tup (.cons (.cst (.int 2)) (.cons (.cst (.int 1)) .nil))) (.cons (.call 39 (.cons (.var 3) (.cons (.bin false .Add (.var 10) (.cst (.int 1))) .nil))) .nil))) .nil))))) .nil))
def r45_14 : Ss := .cons s45_14 r45_15
theorem e45_14 {T : Nat → Fn} {e : Rk.Env} {st : Store} : denSs T r45_14 e st = nxS (denS T s45_14 e st) (denSs T r45_15) := id rfl
def s45_13 : Rk.S := (.asg (.nm 9) (.lst true (.cons (.var 17) .nil)))
def r45_13 : Ss := .cons s45_13 r45_14
theorem e45_13 {T : Nat → Fn} {e : Rk.Env} {st : Store} : denSs T r45_13 e st = nxS (denS T s45_13 e st) (denSs T r45_14) := id rfl
def s45_12 : Rk.S := (.ife (.cmp .NotEq (.b1 false .repr (.lst false (.cons (.call 43 (.cons (.cst (.int 2)) (.cons (.var 3) (.cons (.cst .none) (.cons (.cst .none) (.cons (.cst .none) .nil)))))) (.cons (.call 43 (.cons (.cst (.int 3)) (.cons (.var 24) (.cons (.var 3) (.cons (.cst .none) (.cons (.cst .none) .nil)))))) (.cons (.call 43 (.cons (.cst (.int 8)) (.cons (.var 24) (.cons (.var 3) (.cons (.var 7) (.cons (.cst .none) .nil)))))) .nil))))) (.b1 false .repr (.var 8))) (.cons (.ret (.cst (.bool false))) .nil) .nil)
def r45_12 : Ss := .cons s45_12 r45_13
theorem e45_12 {T : Nat → Fn} {e : Rk.Env} {st : Store} : denSs T r45_12 e st = nxS (denS T s45_12 e st) (denSs T r45_13) := id rfl
def s45_11 : Rk.S := (.asg (.nm 8) (.lst false (.cons (.var 23) (.cons (.call 35 (.cons (.var 24) (.cons (.call 36 (.cons (.call 33 (.cons (.var 17) (.cons (.var 6) .nil))) (.cons (.call 34 (.cons (.var 17) (.cons (.var 6) .nil))) .nil))) .nil))) (.cons (.call 35 (.cons (.var 24) (.cons (.call 39 (.cons (.var 6) (.cons (.var 7) .nil))) .nil))) .nil)))))
def r45_11 : Ss := .cons s45_11 r45_12
theorem e45_11 {T : Nat → Fn} {e : Rk.Env} {st : Store} : denSs T r45_11 e st = nxS (denS T s45_11 e st) (denSs T r45_12) := id rfl
def s45_10 : Rk.S := (.asg (.nm 7) (.bin false .Mod (.b1 false .int (.call 28 (.cons (.var 1) .nil))) (.cst (.int 8))))
def r45_10 : Ss := .cons s45_10 r45_11
theorem e45_10 {T : Nat → Fn} {e : Rk.Env} {st : Store} : denSs T r45_10 e st = nxS (denS T s45_10 e st) (denSs T r45_11) := id rfl
def s45_9 : Rk.S := (.asg (.nm 6) (.call 35 (.cons (.var 3) (.cons (.var 3) .nil))))
def r45_9 : Ss := .cons s45_9 r45_10
theorem e45_9 {T : Nat → Fn} {e : Rk.Env} {st : Store} : denSs T r45_9 e st = nxS (denS T s45_9 e st) (denSs T r45_10) := id rfl
def s45_8 : Rk.S := (.par [23, 24] (.cons (.call 36 (.cons (.call 33 (.cons (.var 17) (.cons (.var 3) .nil))) (.cons (.call 34 (.cons (.var 17) (.cons (.var 3) .nil))) .nil))) (.cons (.call 38 (.cons (.var 1) .nil)) .nil)))
def r45_8 : Ss := .cons s45_8 r45_9
theorem e45_8 {T : Nat → Fn} {e : Rk.Env} {st : Store} : denSs T r45_8 e st = nxS (denS T s45_8 e st) (denSs T r45_9) := id rfl
def s45_7 : Rk.S := (.for_ (.nm 5) (.seq (.lst false (.cons (.var 3) (.cons (.var 17) (.cons (.var 18) .nil))))) (.cons (.asg (.nm 20) (.call 41 (.cons (.idx (.var 4) (.cst (.int 0))) (.cons (.idx (.var 4) (.cst (.int 1))) (.cons (.var 5) .nil))))) (.cons (.asg (.nm 21) (.comp false [14] (.nm 14) (.rng1 (.cst (.int 2))) .none (.tup (.cons (.idx (.var 20) (.var 14)) (.cons (.idx (.idx (.var 4) (.var 14)) (.cst (.int 1))) .nil))))) (.cons (.asg (.nm 22) (.lst false (.cons (.call 43 (.cons (.cst (.int 0)) (.cons (.idx (.var 4) (.cst (.int 0))) (.cons (.idx (.var 4) (.cst (.int 1))) (.cons (.var 5) (.cons (.cst .none) .nil)))))) (.cons (.call 43 (.cons (.cst (.int 1)) (.cons (.idx (.var 4) (.cst (.int 0))) (.cons (.idx (.var 4) (.cst (.int 1))) (.cons (.var 5) (.cons (.cst .none) .nil)))))) .nil)))) (.cons (.ife (.cmp .NotEq (.b1 false .repr (.var 22)) (.b1 false .repr (.lst false (.cons (.var 20) (.cons (.call 34 (.cons (.call 42 (.cons (.idx (.var 4) (.cst (.int 0))) (.cons (.idx (.var 4) (.cst (.int 1))) .nil))) (.cons (.call 42 (.cons (.idx (.var 21) (.cst (.int 0))) (.cons (.idx (.var 21) (.cst (.int 1))) .nil))) .nil))) .nil))))) (.cons (.ret (.cst (.bool false))) .nil) .nil) (.cons (.ife (.and (.cmp .Eq (.var 5) (.var 18)) (.cmp .NotEq (.idx (.var 20) (.cst (.int 0))) (.idx (.var 20) (.cst (.int 1))))) (.cons (.ret (.cst (.bool false))) .nil) .nil) .nil))))))
def r45_7 : Ss := .cons s45_7 r45_8
theorem e45_7 {T : Nat → Fn} {e : Rk.Env} {st : Store} : denSs T r45_7 e st = nxS (denS T s45_7 e st) (denSs T r45_8) := id rfl
def s45_6 : Rk.S := (.asg (.nm 4) (.comp false [10] (.nm 10) (.rng1 (.cst (.int 2))) .none (.tup (.cons (.call 32 (.cons (.bin false .Sub (.bin false .Mod (.b1 false .int (.call 28 (.cons (.var 1) .nil))) (.cst (.int 9))) (.cst (.int 4))) (.cons (.bin false .Add (.cst (.int 1)) (.bin false .Mod (.b1 false .int (.call 28 (.cons (.var 1) .nil))) (.cst (.int 3)))) .nil))) (.cons (.call 38 (.cons (.var 1) .nil)) .nil)))))
def r45_6 : Ss := .cons s45_6 r45_7
theorem e45_6 {T : Nat → Fn} {e : Rk.Env} {st : Store} : denSs T r45_6 e st = nxS (denS T s45_6 e st) (denSs T r45_7) := id rfl
def s45_5 : Rk.S := (.asg (.nm 3) (.call 32 (.cons (.bin false .Mod (.b1 false .int (.call 28 (.cons (.var 1) .nil))) (.var 2)) (.cons (.var 2) .nil))))
def r45_5 : Ss := .cons s45_5 r45_6
theorem e45_5 {T : Nat → Fn} {e : Rk.Env} {st : Store} : denSs T r45_5 e st = nxS (denS T s45_5 e st) (denSs T r45_6) := id rfl
def s45_4 : Rk.S := (.asg (.nm 2) (.bin false .Add (.cst (.int 2)) (.bin false .Mod (.b1 false .int (.call 28 (.cons (.var 1) .nil))) (.cst (.int 6)))))
def r45_4 : Ss := .cons s45_4 r45_5
theorem e45_4 {T : Nat → Fn} {e : Rk.Env} {st : Store} : denSs T r45_4 e st = nxS (denS T s45_4 e st) (denSs T r45_5) := id rfl
def s45_3 : Rk.S := (.ife (.cmp .NotEq (.b1 false .repr (.lst false (.cons (.call 15 (.cons (.var 19) .nil)) (.cons (.call 16 (.cons (.var 17) (.cons (.var 19) .nil))) (.cons (.call 21 (.cons (.tup (.cons (.var 17) (.cons (.tup (.cons (.cst (.int 2)) (.cons (.cst (.int 1)) .nil))) (.cons (.tup (.cons (.cst (.int 4)) (.cons (.cst (.int 1)) .nil))) .nil)))) (.cons (.var 17) .nil))) .nil))))) (.b1 false .repr (.lst false (.cons (.tup (.cons (.cst (.int 3)) (.cons (.cst (.int 1)) .nil))) (.cons (.tup (.cons (.cst (.int 5)) (.cons (.cst (.int 3)) .nil))) (.cons (.tup (.cons (.cst (.int 4)) (.cons (.cst (.int 9)) .nil))) .nil)))))) (.cons (.ret (.cst (.bool false))) .nil) .nil)
def r45_3 : Ss := .cons s45_3 r45_4
theorem e45_3 {T : Nat → Fn} {e : Rk.Env} {st : Store} : denSs T r45_3 e st = nxS (denS T s45_3 e st) (denSs T r45_4) := id rfl
def s45_2 : Rk.S := (.asg (.tp [(.nm 17), (.nm 18), (.nm 19)]) (.tup (.cons (.tup (.cons (.cst (.int 1)) (.cons (.cst (.int 1)) .nil))) (.cons (.tup (.cons (.cst (.int 0)) (.cons (.cst (.int 1)) .nil))) (.cons (.tup (.cons (.cst (.int 1)) (.cons (.cst (.int 2)) .nil))) .nil)))))
def r45_2 : Ss := .cons s45_2 r45_3
theorem e45_2 {T : Nat → Fn} {e : Rk.Env} {st : Store} : denSs T r45_2 e st = nxS (denS T s45_2 e st) (denSs T r45_3) := id rfl
def s45_1 : Rk.S := (.asg (.nm 1) (.call 29 (.cons (.var 1) (.cons (.cst (.int 60)) .nil))))
def r45_1 : Ss := .cons s45_1 r45_2
theorem e45_1 {T : Nat → Fn} {e : Rk.Env} {st : Store} : denSs T r45_1 e st = nxS (denS T s45_1 e st) (denSs T r45_2) := id rfl
def s45_0 : Rk.S := (.asg (.nm 1) (.call 26 (.cons (.var 0) .nil)))
def r45_0 : Ss := .cons s45_0 r45_1
theorem e45_0 {T : Nat → Fn} {e : Rk.Env} {st : Store} : denSs T r45_0 e st = nxS (denS T s45_0 e st) (denSs T r45_1) := id rfl
def f45 : FnIR := ⟨1, 34, false, r45_0⟩
def irs : List FnIR := ([f0, f1, f2, f3, f4, f5, f6, f7, f8, f9, f10, f11, f12, f13, f14, f15, f16, f17, f18, f19, f20, f21, f22, f23, f24, f25, f26, f27, f28, f29] : List FnIR) ++ ([f30, f31, f32, f33, f34, f35, f36, f37, f38, f39, f40, f41, f42, f43, f44, f45] : List FnIR)
def tab : Nat → Option FnIR := fun j => irs[j]?
theorem t0 (m : Nat) : FT tab (m + 1) 0 = denF (FT tab m) f0 := FT_succ rfl
theorem t1 (m : Nat) : FT tab (m + 1) 1 = denF (FT tab m) f1 := FT_succ rfl
theorem t2 (m : Nat) : FT tab (m + 1) 2 = denF (FT tab m) f2 := FT_succ rfl
theorem t3 (m : Nat) : FT tab (m + 1) 3 = denF (FT tab m) f3 := FT_succ rfl
theorem t4 (m : Nat) : FT tab (m + 1) 4 = denF (FT tab m) f4 := FT_succ rfl
theorem t5 (m : Nat) : FT tab (m + 1) 5 = denF (FT tab m) f5 := FT_succ rfl
theorem t6 (m : Nat) : FT tab (m + 1) 6 = denF (FT tab m) f6 := FT_succ rfl
theorem t7 (m : Nat) : FT tab (m + 1) 7 = denF (FT tab m) f7 := FT_succ rfl
theorem t8 (m : Nat) : FT tab (m + 1) 8 = denF (FT tab m) f8 := FT_succ rfl
theorem t9 (m : Nat) : FT tab (m + 1) 9 = denF (FT tab m) f9 := FT_succ rfl
theorem t10 (m : Nat) : FT tab (m + 1) 10 = denF (FT tab m) f10 := FT_succ rfl
theorem t11 (m : Nat) : FT tab (m + 1) 11 = denF (FT tab m) f11 := FT_succ rfl
theorem t12 (m : Nat) : FT tab (m + 1) 12 = denF (FT tab m) f12 := FT_succ rfl
theorem t13 (m : Nat) : FT tab (m + 1) 13 = denF (FT tab m) f13 := FT_succ rfl
theorem t14 (m : Nat) : FT tab (m + 1) 14 = denF (FT tab m) f14 := FT_succ rfl
theorem t15 (m : Nat) : FT tab (m + 1) 15 = denF (FT tab m) f15 := FT_succ rfl
theorem t16 (m : Nat) : FT tab (m + 1) 16 = denF (FT tab m) f16 := FT_succ rfl
theorem t17 (m : Nat) : FT tab (m + 1) 17 = denF (FT tab m) f17 := FT_succ rfl
theorem t18 (m : Nat) : FT tab (m + 1) 18 = denF (FT tab m) f18 := FT_succ rfl
theorem t19 (m : Nat) : FT tab (m + 1) 19 = denF (FT tab m) f19 := FT_succ rfl
theorem t20 (m : Nat) : FT tab (m + 1) 20 = denF (FT tab m) f20 := FT_succ rfl
theorem t21 (m : Nat) : FT tab (m + 1) 21 = denF (FT tab m) f21 := FT_succ rfl
theorem t22 (m : Nat) : FT tab (m + 1) 22 = denF (FT tab m) f22 := FT_succ rfl
theorem t23 (m : Nat) : FT tab (m + 1) 23 = denF (FT tab m) f23 := FT_succ rfl
theorem t24 (m : Nat) : FT tab (m + 1) 24 = denF (FT tab m) f24 := FT_succ rfl
theorem t25 (m : Nat) : FT tab (m + 1) 25 = denF (FT tab m) f25 := FT_succ rfl
theorem t26 (m : Nat) : FT tab (m + 1) 26 = denF (FT tab m) f26 := FT_succ rfl
theorem t27 (m : Nat) : FT tab (m + 1) 27 = denF (FT tab m) f27 := FT_succ rfl
theorem t28 (m : Nat) : FT tab (m + 1) 28 = denF (FT tab m) f28 := FT_succ rfl
theorem t29 (m : Nat) : FT tab (m + 1) 29 = denF (FT tab m) f29 := FT_succ rfl
theorem t30 (m : Nat) : FT tab (m + 1) 30 = denF (FT tab m) f30 := FT_succ rfl
theorem t31 (m : Nat) : FT tab (m + 1) 31 = denF (FT tab m) f31 := FT_succ rfl
theorem t32 (m : Nat) : FT tab (m + 1) 32 = denF (FT tab m) f32 := FT_succ rfl
theorem t33 (m : Nat) : FT tab (m + 1) 33 = denF (FT tab m) f33 := FT_succ rfl
theorem t34 (m : Nat) : FT tab (m + 1) 34 = denF (FT tab m) f34 := FT_succ rfl
theorem t35 (m : Nat) : FT tab (m + 1) 35 = denF (FT tab m) f35 := FT_succ rfl
theorem t36 (m : Nat) : FT tab (m + 1) 36 = denF (FT tab m) f36 := FT_succ rfl
theorem t37 (m : Nat) : FT tab (m + 1) 37 = denF (FT tab m) f37 := FT_succ rfl
theorem t38 (m : Nat) : FT tab (m + 1) 38 = denF (FT tab m) f38 := FT_succ rfl
theorem t39 (m : Nat) : FT tab (m + 1) 39 = denF (FT tab m) f39 := FT_succ rfl
theorem t40 (m : Nat) : FT tab (m + 1) 40 = denF (FT tab m) f40 := FT_succ rfl
theorem t41 (m : Nat) : FT tab (m + 1) 41 = denF (FT tab m) f41 := FT_succ rfl
theorem t42 (m : Nat) : FT tab (m + 1) 42 = denF (FT tab m) f42 := FT_succ rfl
theorem t43 (m : Nat) : FT tab (m + 1) 43 = denF (FT tab m) f43 := FT_succ rfl
theorem t44 (m : Nat) : FT tab (m + 1) 44 = denF (FT tab m) f44 := FT_succ rfl
theorem t45 (m : Nat) : FT tab (m + 1) 45 = denF (FT tab m) f45 := FT_succ rfl
end Law03


set_option Elab.async false
set_option linter.all false
set_option maxRecDepth 100000
set_option maxHeartbeats 0
namespace Law03
open PySem PySem.Spec PyProof.Rows L2 Rk
def top (i : Nat) : Stmt := PySem.Challenge.pw_motionsheld_k03_bouncing_with_loss.main.body.getD i (.Pass ⟨0, 0, 0, 0⟩)
def dO (i : Nat) (x : Str) : He.DefD := ⟨(x, none), x, x, defArgs (top i), defBody (top i), defScope (top i), [], []⟩
def d0 : He.DefD := dO 10 "common"
def d1 : He.DefD := dO 11 "least_terms"
def d2 : He.DefD := dO 12 "add"
def d3 : He.DefD := dO 13 "less"
def d4 : He.DefD := dO 14 "times"
def d5 : He.DefD := dO 15 "by"
def d6 : He.DefD := dO 16 "is_fraction"
def d7 : He.DefD := dO 17 "is_chance"
def d8 : He.DefD := dO 23 "check_spring"
def d9 : He.DefD := dO 24 "check_above"
def d10 : He.DefD := dO 25 "check_two"
def d11 : He.DefD := dO 26 "after_of"
def d12 : He.DefD := dO 27 "after_loss"
def d13 : He.DefD := dO 28 "loss_by"
def d14 : He.DefD := dO 29 "check_loose"
def d15 : He.DefD := dO 30 "falls_time"
def d16 : He.DefD := dO 31 "falls_way"
def d17 : He.DefD := dO 32 "height_after"
def d18 : He.DefD := dO 33 "bounces_by"
def d19 : He.DefD := dO 34 "check_chain"
def d20 : He.DefD := dO 35 "chain_of"
def d21 : He.DefD := dO 36 "chain_speed"
def d22 : He.DefD := dO 37 "chain_speeds"
def d23 : He.DefD := dO 38 "is_better_between"
def d24 : He.DefD := dO 39 "walls_time"
def d25 : He.DefD := dO 41 "_law_number"
def d26 : He.DefD := dO 42 "_law_draws"
def d27 : He.DefD := dO 43 "_law_flat"
def d28 : He.DefD := dO 44 "_law_next"
def d29 : He.DefD := dO 45 "_law_more"
def d30 : He.DefD := dO 46 "_law_pick"
def d31 : He.DefD := dO 48 "_law_common"
def d32 : He.DefD := dO 49 "_law_lowest"
def d33 : He.DefD := dO 50 "_law_add"
def d34 : He.DefD := dO 51 "_law_less"
def d35 : He.DefD := dO 52 "_law_times"
def d36 : He.DefD := dO 53 "_law_by"
def d37 : He.DefD := dO 54 "_law_total"
def d38 : He.DefD := dO 55 "_law_rate"
def d39 : He.DefD := dO 56 "_law_raised"
def d40 : He.DefD := dO 57 "_law_part"
def d41 : He.DefD := dO 58 "_law_speeds"
def d42 : He.DefD := dO 59 "_law_live"
def d43 : He.DefD := dO 60 "_law_asked"
def d44 : He.DefD := dO 61 "_law_refuses"
def d45 : He.DefD := dO 62 "law"
def d46 : He.DefD := dO 47 "_law_kind"
def dd : List He.DefD := ([d0, d1, d2, d3, d4, d5, d6, d7, d8, d9, d10, d11, d12, d13, d14, d15, d16, d17, d18, d19, d20, d21, d22, d23, d24, d25, d26, d27, d28, d29] : List He.DefD) ++ ([d30, d31, d32, d33, d34, d35, d36, d37, d38, d39, d40, d41, d42, d43, d44, d45, d46] : List He.DefD)
def NN : List (List Str) := ([["one", "other"], ["top", "low", "part"], ["one", "other"], ["one", "other"], ["one", "other"], ["one", "other", "sign"], ["pair"], ["pair"], ["e"], ["pairs", "pair"], ["one", "other", "e", "pair"], ["one", "other", "e", "both", "whole", "gap", "u", "m", "v", "k"], ["one", "other", "e"], ["one", "other", "e", "gap", "part"], ["e"], ["e"], ["h", "e", "square"], ["h", "e", "n", "found", "_"], ["e", "t", "found", "whole", "part"], ["masses", "e"], ["masses", "e", "found", "here", "one", "other", "first"], ["masses", "e"], ["masses", "e"], ["m", "k", "x", "y", "both"], ["e", "n", "found", "part", "_"], ["cell"], ["script", "draws", "cell", "rest", "k", "once", "twice"], ["rows", "found", "row"], ["draws"], ["draws", "many", "seed", "more", "k"]] : List (List Str)) ++ ([["draws", "some"], ["one", "other", "turn"], ["top", "low", "part"], ["one", "other"], ["one", "other"], ["one", "other"], ["one", "other"], ["parts", "found", "part"], ["draws"], ["pair", "many", "found", "turn"], ["one", "other"], ["one", "other", "e", "both", "whole", "gap", "u", "m", "v", "k"], ["one", "other"], ["way", "one", "two", "three", "four", "error"], ["found", "places", "one", "nought", "half", "pair", "springs", "way", "bad", "place", "far", "row", "at"], ("script" :: "draws" :: "low" :: "e" :: "pair" :: "spring" :: "square" :: "n" :: "due" :: "sums" :: "turn" :: "t" :: "far" :: "masses" :: "at" :: "ends" :: "middle" :: "one" :: "nought" :: "half" :: "speeds" :: "later" :: "answers" :: "whole" :: "h" :: "here" :: "m" :: "k" :: "x" :: "y" :: "first" :: "wall" :: "gone" :: "told" :: [] : List Str), ["error", "names", "found"]] : List (List Str))
def PP : List (List Str) := ([["one", "other"], ["top", "low"], ["one", "other"], ["one", "other"], ["one", "other"], ["one", "other"], ["pair"], ["pair"], ["e"], ["pairs"], ["one", "other", "e"], ["one", "other", "e"], ["one", "other", "e"], ["one", "other", "e"], ["e"], ["e"], ["h", "e"], ["h", "e", "n"], ["e", "t"], ["masses", "e"], ["masses", "e"], ["masses", "e"], ["masses", "e"], ["m", "k", "x", "y"], ["e", "n"], ["cell"], ["script"], ["rows"], ["draws"], ["draws", "many"]] : List (List Str)) ++ ([["draws", "some"], ["one", "other"], ["top", "low"], ["one", "other"], ["one", "other"], ["one", "other"], ["one", "other"], ["parts"], ["draws"], ["pair", "many"], ["one", "other"], ["one", "other", "e"], ["one", "other"], ["way", "one", "two", "three", "four"], [], ["script"], ["error"]] : List (List Str))
def cst : List (Str × PyData) := [("MOST_BOUNCES", (.int 100)), ("MOST_CHAIN", (.int 30)), ("FEWEST_CHAIN", (.int 2)), ("MOST_TIME", (.int 1000))]
def exs : List Str := ["MotionError", "NotLine", "NotTable", "NotPlan", "NotPaper", "BadNumber", "NoAnswer", "TooLarge"]
def D : LawD := ⟨irs, dd, NN, PP, cst, exs, "_law_kind", "MotionError", kh⟩
def kd : KD := ⟨"error", "names", "found", ["line", "table", "plan", "paper", "number", "none", "large"], ["NotLine", "NotTable", "NotPlan", "NotPaper"], ["BadNumber", "NoAnswer", "TooLarge"], none, "!", "!other"⟩
def ec : List Str := ["NotLine", "NotTable", "NotPlan", "NotPaper", "BadNumber", "NoAnswer", "TooLarge"]
def subs : List Sub3 := ([("NotLine", "NotLine", true), ("NotLine", "NotTable", false), ("NotLine", "NotPlan", false), ("NotLine", "NotPaper", false), ("NotLine", "BadNumber", false), ("NotLine", "NoAnswer", false), ("NotLine", "TooLarge", false), ("NotTable", "NotLine", false), ("NotTable", "NotTable", true), ("NotTable", "NotPlan", false), ("NotTable", "NotPaper", false), ("NotTable", "BadNumber", false), ("NotTable", "NoAnswer", false), ("NotTable", "TooLarge", false), ("NotPlan", "NotLine", false), ("NotPlan", "NotTable", false), ("NotPlan", "NotPlan", true), ("NotPlan", "NotPaper", false), ("NotPlan", "BadNumber", false), ("NotPlan", "NoAnswer", false), ("NotPlan", "TooLarge", false), ("NotPaper", "NotLine", false), ("NotPaper", "NotTable", false), ("NotPaper", "NotPlan", false), ("NotPaper", "NotPaper", true), ("NotPaper", "BadNumber", false), ("NotPaper", "NoAnswer", false), ("NotPaper", "TooLarge", false), ("BadNumber", "NotLine", false), ("BadNumber", "NotTable", false)] : List Sub3) ++ ([("BadNumber", "NotPlan", false), ("BadNumber", "NotPaper", false), ("BadNumber", "BadNumber", true), ("BadNumber", "NoAnswer", false), ("BadNumber", "TooLarge", false), ("NoAnswer", "NotLine", false), ("NoAnswer", "NotTable", false), ("NoAnswer", "NotPlan", false), ("NoAnswer", "NotPaper", false), ("NoAnswer", "BadNumber", false), ("NoAnswer", "NoAnswer", true), ("NoAnswer", "TooLarge", false), ("TooLarge", "NotLine", false), ("TooLarge", "NotTable", false), ("TooLarge", "NotPlan", false), ("TooLarge", "NotPaper", false), ("TooLarge", "BadNumber", false), ("TooLarge", "NoAnswer", false), ("TooLarge", "TooLarge", true)] : List Sub3)
theorem chk : allB D kd ec subs = true := by decide +kernel
theorem b0 : BD d0 ["one", "other"] := fun _ _ _ _ _ _ us hl => match us, hl with | [_, _], _ => rfl
theorem b1 : BD d1 ["top", "low"] := fun _ _ _ _ _ _ us hl => match us, hl with | [_, _], _ => rfl
theorem b2 : BD d2 ["one", "other"] := fun _ _ _ _ _ _ us hl => match us, hl with | [_, _], _ => rfl
theorem b3 : BD d3 ["one", "other"] := fun _ _ _ _ _ _ us hl => match us, hl with | [_, _], _ => rfl
theorem b4 : BD d4 ["one", "other"] := fun _ _ _ _ _ _ us hl => match us, hl with | [_, _], _ => rfl
theorem b5 : BD d5 ["one", "other"] := fun _ _ _ _ _ _ us hl => match us, hl with | [_, _], _ => rfl
theorem b6 : BD d6 ["pair"] := fun _ _ _ _ _ _ us hl => match us, hl with | [_], _ => rfl
theorem b7 : BD d7 ["pair"] := fun _ _ _ _ _ _ us hl => match us, hl with | [_], _ => rfl
theorem b8 : BD d8 ["e"] := fun _ _ _ _ _ _ us hl => match us, hl with | [_], _ => rfl
theorem b9 : BD d9 ["pairs"] := fun _ _ _ _ _ _ us hl => match us, hl with | [_], _ => rfl
theorem b10 : BD d10 ["one", "other", "e"] := fun _ _ _ _ _ _ us hl => match us, hl with | [_, _, _], _ => rfl
theorem b11 : BD d11 ["one", "other", "e"] := fun _ _ _ _ _ _ us hl => match us, hl with | [_, _, _], _ => rfl
theorem b12 : BD d12 ["one", "other", "e"] := fun _ _ _ _ _ _ us hl => match us, hl with | [_, _, _], _ => rfl
theorem b13 : BD d13 ["one", "other", "e"] := fun _ _ _ _ _ _ us hl => match us, hl with | [_, _, _], _ => rfl
theorem b14 : BD d14 ["e"] := fun _ _ _ _ _ _ us hl => match us, hl with | [_], _ => rfl
theorem b15 : BD d15 ["e"] := fun _ _ _ _ _ _ us hl => match us, hl with | [_], _ => rfl
theorem b16 : BD d16 ["h", "e"] := fun _ _ _ _ _ _ us hl => match us, hl with | [_, _], _ => rfl
theorem b17 : BD d17 ["h", "e", "n"] := fun _ _ _ _ _ _ us hl => match us, hl with | [_, _, _], _ => rfl
theorem b18 : BD d18 ["e", "t"] := fun _ _ _ _ _ _ us hl => match us, hl with | [_, _], _ => rfl
theorem b19 : BD d19 ["masses", "e"] := fun _ _ _ _ _ _ us hl => match us, hl with | [_, _], _ => rfl
theorem b20 : BD d20 ["masses", "e"] := fun _ _ _ _ _ _ us hl => match us, hl with | [_, _], _ => rfl
theorem b21 : BD d21 ["masses", "e"] := fun _ _ _ _ _ _ us hl => match us, hl with | [_, _], _ => rfl
theorem b22 : BD d22 ["masses", "e"] := fun _ _ _ _ _ _ us hl => match us, hl with | [_, _], _ => rfl
theorem b23 : BD d23 ["m", "k", "x", "y"] := fun _ _ _ _ _ _ us hl => match us, hl with | [_, _, _, _], _ => rfl
theorem b24 : BD d24 ["e", "n"] := fun _ _ _ _ _ _ us hl => match us, hl with | [_, _], _ => rfl
theorem b25 : BD d25 ["cell"] := fun _ _ _ _ _ _ us hl => match us, hl with | [_], _ => rfl
theorem b26 : BD d26 ["script"] := fun _ _ _ _ _ _ us hl => match us, hl with | [_], _ => rfl
theorem b27 : BD d27 ["rows"] := fun _ _ _ _ _ _ us hl => match us, hl with | [_], _ => rfl
theorem b28 : BD d28 ["draws"] := fun _ _ _ _ _ _ us hl => match us, hl with | [_], _ => rfl
theorem b29 : BD d29 ["draws", "many"] := fun _ _ _ _ _ _ us hl => match us, hl with | [_, _], _ => rfl
theorem b30 : BD d30 ["draws", "some"] := fun _ _ _ _ _ _ us hl => match us, hl with | [_, _], _ => rfl
theorem b31 : BD d31 ["one", "other"] := fun _ _ _ _ _ _ us hl => match us, hl with | [_, _], _ => rfl
theorem b32 : BD d32 ["top", "low"] := fun _ _ _ _ _ _ us hl => match us, hl with | [_, _], _ => rfl
theorem b33 : BD d33 ["one", "other"] := fun _ _ _ _ _ _ us hl => match us, hl with | [_, _], _ => rfl
theorem b34 : BD d34 ["one", "other"] := fun _ _ _ _ _ _ us hl => match us, hl with | [_, _], _ => rfl
theorem b35 : BD d35 ["one", "other"] := fun _ _ _ _ _ _ us hl => match us, hl with | [_, _], _ => rfl
theorem b36 : BD d36 ["one", "other"] := fun _ _ _ _ _ _ us hl => match us, hl with | [_, _], _ => rfl
theorem b37 : BD d37 ["parts"] := fun _ _ _ _ _ _ us hl => match us, hl with | [_], _ => rfl
theorem b38 : BD d38 ["draws"] := fun _ _ _ _ _ _ us hl => match us, hl with | [_], _ => rfl
theorem b39 : BD d39 ["pair", "many"] := fun _ _ _ _ _ _ us hl => match us, hl with | [_, _], _ => rfl
theorem b40 : BD d40 ["one", "other"] := fun _ _ _ _ _ _ us hl => match us, hl with | [_, _], _ => rfl
theorem b41 : BD d41 ["one", "other", "e"] := fun _ _ _ _ _ _ us hl => match us, hl with | [_, _, _], _ => rfl
theorem b42 : BD d42 ["one", "other"] := fun _ _ _ _ _ _ us hl => match us, hl with | [_, _], _ => rfl
theorem b43 : BD d43 ["way", "one", "two", "three", "four"] := fun _ _ _ _ _ _ us hl => match us, hl with | [_, _, _, _, _], _ => rfl
theorem b44 : BD d44 [] := fun _ _ _ _ _ _ us hl => match us, hl with | [], _ => rfl
theorem b45 : BD d45 ["script"] := fun _ _ _ _ _ _ us hl => match us, hl with | [_], _ => rfl
theorem b46 : BD d46 ["error"] := fun _ _ _ _ _ _ us hl => match us, hl with | [_], _ => rfl
theorem bds : AllBD (D.dd.zip D.PP) := ⟨b0, b1, b2, b3, b4, b5, b6, b7, b8, b9, b10, b11, b12, b13, b14, b15, b16, b17, b18, b19, b20, b21, b22, b23, b24, b25, b26, b27, b28, b29, b30, b31, b32, b33, b34, b35, b36, b37, b38, b39, b40, b41, b42, b43, b44, b45, b46, trivial⟩
/-! the top, run once -/
abbrev R : PySem.W.OpenRow := PySem.W.OpenLaw.row PySem.Challenge.rw_motionsheld_k03_bouncing_with_loss
def fa : List He.Fa := D.fa
def ex : PySem.W.Frag → Bool := exB cst ec subs
abbrev hk : PySem.W.Hook := hookE 4 D.fa D.dd (exB D.cst ec subs)
def ob (s : PySem.W.SharedT) : AlE := obsEG 4 D.fa D.dd (exB D.cst ec subs) (HandSHeadRun.getT s)
theorem ob_eq (s : PySem.W.SharedT) : ob s = hk.obs s.abs := obsEG_eq (HandSHeadRun.getT_eq s)
def loose0 : List PySem.Str := ("MotionError" :: "NotLine" :: "NotTable" :: "NotPlan" :: "NotPaper" :: "BadNumber" :: "NoAnswer" :: "TooLarge" :: "common" :: "least_terms" :: "add" :: "less" :: "times" :: "by" :: "is_fraction" :: "is_chance" :: "MOST_BOUNCES" :: "MOST_CHAIN" :: "FEWEST_CHAIN" :: "MOST_TIME" :: "check_spring" :: "check_above" :: "check_two" :: "after_of" :: "after_loss" :: "loss_by" :: "check_loose" :: "falls_time" :: "falls_way" :: "height_after" :: [] : List Str)
def loose1 : List PySem.Str := ("bounces_by" :: "check_chain" :: "chain_of" :: "chain_speed" :: "chain_speeds" :: "is_better_between" :: "walls_time" :: "_law_number" :: "_law_draws" :: "_law_flat" :: "_law_next" :: "_law_more" :: "_law_pick" :: "_law_kind" :: "_law_common" :: "_law_lowest" :: "_law_add" :: "_law_less" :: "_law_times" :: "_law_by" :: "_law_total" :: "_law_rate" :: "_law_raised" :: "_law_part" :: "_law_speeds" :: "_law_live" :: "_law_asked" :: "_law_refuses" :: [] : List Str)
def loose : List PySem.Str := loose0 ++ loose1
theorem run (w : World) : HandSHeadRun.RunEq R (PySem.W.view R.prog [62]) hk ob 4000 loose w := by
  intro os
  kernel_rfl
/-- the depth of calls: 9 -/
def dep : Nat := 9
abbrev T (n : Nat) : Nat → Fn := FT D.lw.tab n
end Law03

set_option Elab.async false
set_option linter.all false
set_option maxRecDepth 100000
set_option maxHeartbeats 1000000
set_option exponentiation.threshold 20000
namespace Law03
open PySem Rk
local macro_rules | `(tactic| walk_at "szc") => `(tactic| first | assumption | (apply sz_add <;> walk_at "szc") | (apply sz_sub <;> walk_at "szc") | (apply sz_mul <;> walk_at "szc") | (apply sz_div <;> walk_at "szc") | exact sz_c1 | exact sz_c2 | exact sz_ch | exact sz_c0 | (apply sz_neg; walk_at "szc"))
local macro_rules | `(tactic| walk_at "sz") => `(tactic| first | assumption | decide | (apply SzR.mono; (walk_at "szc"); decide) | (simp only [List.length_cons, List.length_nil, List.length_append, Nat.reduceAdd, Nat.reduceLT, Nat.reduceLeDiff]; done))
local macro_rules | `(tactic| walk_at "go") => `(tactic| simp (disch := walk_at "sz") only [tp0, ls0, tp1, ls1, tp2, ls2, tp3, ls3, tp4, ls4, tp5, ls5, tp6, ls6, tp7, ls7, tp8, ls8, tp9, ls9, tp10, ls10, tp11, ls11, tp12, ls12, denF_eq, dSs_nil, dSs_cons, nxS_nx, nxS_rt, nxS_ex, nxS_bk, nxS_ct, lift_ok, lift_ex, oE_some, dS_asg, dS_par, dS_ret, dS_retN, dS_ex, dS_raise, dS_brk, dS_cnt, dS_pass, dS_ife, tgt_nm, set_nil, set_cons, dI_seq, dI_rng1, nI_some, iI_some, int_int, it_list, it_tup, it_f, fin_p, endF_nx, endF_rt, endF_ex, bind_ok, bind_ex, D1_p, D2_pp, mD_some, mkD_f, pD_some, dE_cst, dE_glob, dE_var, vR_ok, dE_bin, dE_neg, negV_int, tR_bool, tR_int, tR_none, tR_list, tR_tup, dE_not, dE_and, dE_or, andR_t, andR_f, orR_t, orR_f, andR_b, orR_b, oB_some, dE_cmp, dE_chain, chR_t, chR_f, chR_b, oC_some, dE_ife, ifR_t, ifR_f, dE_call, dE_b1, dE_b2, dE_idx, dE_isi, dE_tup, dE_lst, dEs_nil, dEs_cons, dats_nil, dats_cons, dT_none, dT_some, o_add, o_sub, c_lt, c_le, c_gt, c_ge, c_eqi, c_nei, u_abs, u_int, u_lenl, u_lent, u_tupl, u_tupt, x_tup, x_lst, a1_0, a2_0, a2_1, a3_0, a3_1, a3_2, a4_0, a4_1, a4_2, a4_3, List.length_cons, List.length_nil, List.map_cons, List.map_nil, List.replicate, List.cons_append, List.nil_append, List.getElem?_cons_zero, List.getElem?_cons_succ, List.set_cons_zero, List.set_cons_succ, Option.map_some, Nat.reduceSub, Nat.reduceAdd, List.take_length, List.isEmpty_nil, List.isEmpty_cons, Bool.not_true, Bool.not_false, wipe_nil, wipe_cons, tgt1, Int.reduceLT, Int.reduceLE, decide_true, decide_false, Bool.true_and, Bool.and_true, Bool.false_and, Bool.true_or, Bool.false_or, Bool.or_false, List.all_cons, List.all_nil, id_eq, nat_c0, nat_c1, nat_c2, nat_c3, nat_c4, nat_c5, Int.reduceEq, tgt2, tgt3, tgt4, c_isf, c_isn, c_inf, c_inn, c_iss, c_ins, Int.reduceMul, Int.reduceAdd, Int.reduceSub, fr_1, fr_0, fr_2, fr_h, x_f0, x_f1, u_tupf, u_lenf, c_eqfr, c_nefr, c_isfr, c_infr, o_mul, o_mod, o_div, n_le, n_ge, n_lt, n_gt])
local macro_rules | `(tactic| walk_at "gx") => `(tactic| simp (disch := walk_at "sz") only [tp0, ls0, tp1, ls1, tp2, ls2, tp3, ls3, tp4, ls4, tp5, ls5, tp6, ls6, tp7, ls7, tp8, ls8, tp9, ls9, tp10, ls10, tp11, ls11, tp12, ls12, denF_eq, dSs_nil, dSs_cons, nxS_nx, nxS_rt, nxS_ex, nxS_bk, nxS_ct, lift_ok, lift_ex, oE_some, dS_asg, dS_par, dS_ret, dS_retN, dS_ex, dS_raise, dS_brk, dS_cnt, dS_pass, dS_ife, tgt_nm, set_nil, set_cons, dI_seq, dI_rng1, nI_some, iI_some, int_int, it_list, it_tup, it_f, fin_p, endF_nx, endF_rt, endF_ex, bind_ok, bind_ex, D1_p, D2_pp, mD_some, mkD_f, pD_some, dE_cst, dE_glob, dE_var, vR_ok, dE_bin, dE_neg, negV_int, tR_bool, tR_int, tR_none, tR_list, tR_tup, dE_not, dE_and, dE_or, andR_t, andR_f, orR_t, orR_f, andR_b, orR_b, oB_some, dE_cmp, dE_chain, chR_t, chR_f, chR_b, oC_some, dE_ife, ifR_t, ifR_f, dE_call, dE_b1, dE_b2, dE_idx, dE_isi, dE_tup, dE_lst, dEs_nil, dEs_cons, dats_nil, dats_cons, dT_none, dT_some, o_add, o_sub, c_lt, c_le, c_gt, c_ge, c_eqi, c_nei, u_abs, u_int, u_lenl, u_lent, u_tupl, u_tupt, x_tup, x_lst, a1_0, a2_0, a2_1, a3_0, a3_1, a3_2, a4_0, a4_1, a4_2, a4_3, List.length_cons, List.length_nil, List.map_cons, List.map_nil, List.replicate, List.cons_append, List.nil_append, List.getElem?_cons_zero, List.getElem?_cons_succ, List.set_cons_zero, List.set_cons_succ, Option.map_some, Nat.reduceSub, Nat.reduceAdd, List.take_length, List.isEmpty_nil, List.isEmpty_cons, Bool.not_true, Bool.not_false, wipe_nil, wipe_cons, tgt1, Int.reduceLT, Int.reduceLE, decide_true, decide_false, Bool.true_and, Bool.and_true, Bool.false_and, Bool.true_or, Bool.false_or, Bool.or_false, List.all_cons, List.all_nil, id_eq, nat_c0, nat_c1, nat_c2, nat_c3, nat_c4, nat_c5, Int.reduceEq, tgt2, tgt3, tgt4, c_isf, c_isn, c_inf, c_inn, c_iss, c_ins, Int.reduceMul, Int.reduceAdd, Int.reduceSub, fr_1, fr_0, fr_2, fr_h, x_f0, x_f1, u_tupf, u_lenf, c_eqfr, c_nefr, c_isfr, c_infr, o_mul, o_mod, o_div, n_le, n_ge, n_lt, n_gt, *])
local macro_rules | `(tactic| walk_at "un") => `(tactic| simp (disch := walk_at "sz") only [tp0, ls0, tp1, ls1, tp2, ls2, tp3, ls3, tp4, ls4, tp5, ls5, tp6, ls6, tp7, ls7, tp8, ls8, tp9, ls9, tp10, ls10, tp11, ls11, tp12, ls12, denF_eq, dSs_nil, dSs_cons, nxS_nx, nxS_rt, nxS_ex, nxS_bk, nxS_ct, lift_ok, lift_ex, oE_some, dS_asg, dS_par, dS_ret, dS_retN, dS_ex, dS_raise, dS_brk, dS_cnt, dS_pass, dS_ife, tgt_nm, set_nil, set_cons, dI_seq, dI_rng1, nI_some, iI_some, int_int, it_list, it_tup, it_f, fin_p, endF_nx, endF_rt, endF_ex, bind_ok, bind_ex, D1_p, D2_pp, mD_some, mkD_f, pD_some, dE_cst, dE_glob, dE_var, vR_ok, dE_bin, dE_neg, negV_int, tR_bool, tR_int, tR_none, tR_list, tR_tup, dE_not, dE_and, dE_or, andR_t, andR_f, orR_t, orR_f, andR_b, orR_b, oB_some, dE_cmp, dE_chain, chR_t, chR_f, chR_b, oC_some, dE_ife, ifR_t, ifR_f, dE_call, dE_b1, dE_b2, dE_idx, dE_isi, dE_tup, dE_lst, dEs_nil, dEs_cons, dats_nil, dats_cons, dT_none, dT_some, o_add, o_sub, c_lt, c_le, c_gt, c_ge, c_eqi, c_nei, u_abs, u_int, u_lenl, u_lent, u_tupl, u_tupt, x_tup, x_lst, a1_0, a2_0, a2_1, a3_0, a3_1, a3_2, a4_0, a4_1, a4_2, a4_3, List.length_cons, List.length_nil, List.map_cons, List.map_nil, List.replicate, List.cons_append, List.nil_append, List.getElem?_cons_zero, List.getElem?_cons_succ, List.set_cons_zero, List.set_cons_succ, Option.map_some, Nat.reduceSub, Nat.reduceAdd, List.take_length, List.isEmpty_nil, List.isEmpty_cons, Bool.not_true, Bool.not_false, wipe_nil, wipe_cons, tgt1, Int.reduceLT, Int.reduceLE, decide_true, decide_false, Bool.true_and, Bool.and_true, Bool.false_and, Bool.true_or, Bool.false_or, Bool.or_false, List.all_cons, List.all_nil, id_eq, nat_c0, nat_c1, nat_c2, nat_c3, nat_c4, nat_c5, Int.reduceEq, tgt2, tgt3, tgt4, c_isf, c_isn, c_inf, c_inn, c_iss, c_ins, Int.reduceMul, Int.reduceAdd, Int.reduceSub, fr_1, fr_0, fr_2, fr_h, x_f0, x_f1, u_tupf, u_lenf, c_eqfr, c_nefr, c_isfr, c_infr, o_mul, o_mod, o_div, n_le, n_ge, n_lt, n_gt, dE_compE, cE_nil, cE_cons, oN_some, bindN_ok, cPut_l, cPut_2, cPut_3, cEnd_l, cEnd_2, cEnd_3, dS_forE, fE_nil, fE_cons, oF_some, lpR_nx, lpR_ct, lpR_bk, lpR_rt, lpR_ex, tg2, tg3, len2, len3])
local macro_rules | `(tactic| walk_at "ux") => `(tactic| simp (disch := walk_at "sz") only [tp0, ls0, tp1, ls1, tp2, ls2, tp3, ls3, tp4, ls4, tp5, ls5, tp6, ls6, tp7, ls7, tp8, ls8, tp9, ls9, tp10, ls10, tp11, ls11, tp12, ls12, denF_eq, dSs_nil, dSs_cons, nxS_nx, nxS_rt, nxS_ex, nxS_bk, nxS_ct, lift_ok, lift_ex, oE_some, dS_asg, dS_par, dS_ret, dS_retN, dS_ex, dS_raise, dS_brk, dS_cnt, dS_pass, dS_ife, tgt_nm, set_nil, set_cons, dI_seq, dI_rng1, nI_some, iI_some, int_int, it_list, it_tup, it_f, fin_p, endF_nx, endF_rt, endF_ex, bind_ok, bind_ex, D1_p, D2_pp, mD_some, mkD_f, pD_some, dE_cst, dE_glob, dE_var, vR_ok, dE_bin, dE_neg, negV_int, tR_bool, tR_int, tR_none, tR_list, tR_tup, dE_not, dE_and, dE_or, andR_t, andR_f, orR_t, orR_f, andR_b, orR_b, oB_some, dE_cmp, dE_chain, chR_t, chR_f, chR_b, oC_some, dE_ife, ifR_t, ifR_f, dE_call, dE_b1, dE_b2, dE_idx, dE_isi, dE_tup, dE_lst, dEs_nil, dEs_cons, dats_nil, dats_cons, dT_none, dT_some, o_add, o_sub, c_lt, c_le, c_gt, c_ge, c_eqi, c_nei, u_abs, u_int, u_lenl, u_lent, u_tupl, u_tupt, x_tup, x_lst, a1_0, a2_0, a2_1, a3_0, a3_1, a3_2, a4_0, a4_1, a4_2, a4_3, List.length_cons, List.length_nil, List.map_cons, List.map_nil, List.replicate, List.cons_append, List.nil_append, List.getElem?_cons_zero, List.getElem?_cons_succ, List.set_cons_zero, List.set_cons_succ, Option.map_some, Nat.reduceSub, Nat.reduceAdd, List.take_length, List.isEmpty_nil, List.isEmpty_cons, Bool.not_true, Bool.not_false, wipe_nil, wipe_cons, tgt1, Int.reduceLT, Int.reduceLE, decide_true, decide_false, Bool.true_and, Bool.and_true, Bool.false_and, Bool.true_or, Bool.false_or, Bool.or_false, List.all_cons, List.all_nil, id_eq, nat_c0, nat_c1, nat_c2, nat_c3, nat_c4, nat_c5, Int.reduceEq, tgt2, tgt3, tgt4, c_isf, c_isn, c_inf, c_inn, c_iss, c_ins, Int.reduceMul, Int.reduceAdd, Int.reduceSub, fr_1, fr_0, fr_2, fr_h, x_f0, x_f1, u_tupf, u_lenf, c_eqfr, c_nefr, c_isfr, c_infr, o_mul, o_mod, o_div, n_le, n_ge, n_lt, n_gt, dE_compE, cE_nil, cE_cons, oN_some, bindN_ok, cPut_l, cPut_2, cPut_3, cEnd_l, cEnd_2, cEnd_3, dS_forE, fE_nil, fE_cons, oF_some, lpR_nx, lpR_ct, lpR_bk, lpR_rt, lpR_ex, tg2, tg3, len2, len3, *])
/-! the law's own gcd: a for that returns -/
def lc2B : Ss := (.cons (.ife (.cmp .Eq (.var 1) (.cst (.int 0))) (.cons (.ret (.var 0)) .nil) .nil) (.cons (.par [0, 1] (.cons (.var 1) (.cons (.bin false .Mod (.b1 false .int (.var 0)) (.b1 false .int (.var 1))) .nil))) .nil))
theorem lc2_stop {T : Nat → Fn} {a : Nat} {x : PyData} {xs : List PyData} {o : Option Val} {st : Store} : fE T (.nm 2) lc2B (x :: xs) [some (.p (.int (a : Int))), some (.p (.int 0)), o] st = .ok (.rt (.p (.int (a : Int)))) st := by
  rw [fE_cons, tgt1, oF_some]
  unfold lc2B
  have h0 : decide ((0 : Int) = 0) = true := rfl
  walk_at "go"
  rw [lpR_rt]
theorem lc2_step {T : Nat → Fn} {a b : Nat} (hb : 0 < b) {x : PyData} {xs : List PyData} {o : Option Val} {st : Store} : fE T (.nm 2) lc2B (x :: xs) [some (.p (.int (a : Int))), some (.p (.int (b : Int))), o] st =
    fE T (.nm 2) lc2B xs [some (.p (.int (b : Int))), some (.p (.int ((a % b : Nat) : Int))), some (.p x)] st := by
  have h1 : decide ((b : Int) = 0) = false := decide_eq_false (by omega)
  have h2 := o_modN (a := a) hb
  rw [fE_cons, tgt1, oF_some]
  conv => lhs; arg 1; unfold lc2B
  walk_at "gx"
  rw [lpR_nx]
theorem lc2_loop {T : Nat → Fn} {st : Store} : ∀ (k a b : Nat) (xs : List PyData) (o : Option Val), b < 2 ^ k → 2 * k < xs.length → fE T (.nm 2) lc2B xs [some (.p (.int (a : Int))), some (.p (.int (b : Int))), o] st = .ok (.rt (.p (.int ((Nat.gcd a b : Nat) : Int)))) st
  | k, a, 0, x :: xs, o, _, _ => by rw [Nat.gcd_zero_right]; exact lc2_stop
  | k, a, b, [], o, _, h => by simp at h
  | 0, a, b + 1, x :: xs, o, h, _ => by simp at h
  | k + 1, a, b + 1, [x], o, h, hl => by simp at hl
  | k + 1, a, b + 1, x :: y :: xs, o, h, hl => by
    have hg : Nat.gcd a (b + 1) = Nat.gcd (b + 1) (a % (b + 1)) := by rw [Nat.gcd_comm a, Nat.gcd_rec, Nat.gcd_comm]
    rw [lc2_step (Nat.succ_pos b)]
    rcases Nat.eq_zero_or_pos (a % (b + 1)) with hr | hr
    · rw [hg, hr, Nat.gcd_zero_right]
      exact lc2_stop
    · rw [lc2_step hr, hg, Nat.gcd_comm (b + 1), Nat.gcd_rec, Nat.gcd_comm ((b + 1) % (a % (b + 1)))]
      refine lc2_loop k _ _ xs _ ?_ (by simp at hl; omega)
      have h1 : a % (b + 1) < b + 1 := Nat.mod_lt _ (Nat.succ_pos b)
      have h2 : (b + 1) % (a % (b + 1)) < a % (b + 1) := Nat.mod_lt _ hr
      have h3 := Nat.div_add_mod (b + 1) (a % (b + 1))
      have h4 : 1 ≤ (b + 1) / (a % (b + 1)) := Nat.div_pos (Nat.le_of_lt h1) hr
      have h5 : a % (b + 1) ≤ a % (b + 1) * ((b + 1) / (a % (b + 1))) := Nat.le_mul_of_pos_right _ h4
      rw [Nat.pow_succ] at h
      show (b + 1) % (a % (b + 1)) < 2 ^ k
      omega
def iLCommon2 : FnIR := ⟨2, 3, false, (.cons (.for_ (.nm 2) (.rng1 (.cst (.int 20000))) lc2B) (.cons (.ret (.cst (.int 1))) .nil))⟩
theorem lcommon2_ok {T : Nat → Fn} (a b : Nat) (hb : b < 2 ^ 9000) (st : Store) : denF T iLCommon2 [.p (.int (a : Int)), .p (.int (b : Int))] st = .ok (.p (.int ((Nat.gcd a b : Nat) : Int))) st := by
  rw [denF_eq (by rfl)]
  have h := lc2_loop (T := T) (st := st) 9000 a b (rngL 20000) none hb (by rw [rngL_len]; omega)
  have hr : rngD 0 20000 = some (rngL 20000) := rng0 (n := 20000) (by decide)
  unfold iLCommon2
  rw [dSs_cons, dS_forE]
  walk_at "go"
  rw [hr]
  walk_at "go"
  rw [h]
  walk_at "go"
/-! the shared defs -/
theorem sp_common (m : Nat) : CommonP (FT tab (m + 1)) 0 := fun a b st hb => by rw [t0]; exact common_ok a b hb st
theorem sp_least (m : Nat) : LeastP (FT tab (m + 2)) 1 := fun n d st h1 h2 => by rw [t1]; exact least_ok (sp_common m) h1 h2 st
theorem sp_add (m : Nat) (p q : Rat) (st : Store) (hp : Sm p) (hq : Sm q) : FT tab (m + 3) 2 [.p (frP p), .p (frP q)] st = .ok (.p (frP (p + q))) st := by rw [t2]; exact add_ok (sp_least m) hp hq st
theorem sp_sub (m : Nat) (p q : Rat) (st : Store) (hp : Sm p) (hq : Sm q) : FT tab (m + 3) 3 [.p (frP p), .p (frP q)] st = .ok (.p (frP (p - q))) st := by rw [t3]; exact sub_ok (sp_least m) hp hq st
theorem sp_mul (m : Nat) (p q : Rat) (st : Store) (hp : Sm p) (hq : Sm q) : FT tab (m + 3) 4 [.p (frP p), .p (frP q)] st = .ok (.p (frP (p * q))) st := by rw [t4]; exact mul_ok (sp_least m) hp hq st
theorem sp_by (m : Nat) (p q : Rat) (st : Store) (hp : Sm p) (hq : Sm q) (h : q ≠ 0) : FT tab (m + 3) 5 [.p (frP p), .p (frP q)] st = .ok (.p (frP (p / q))) st := by rw [t5]; exact by_ok (sp_least m) hp hq h st
theorem sp_isfr (m : Nat) (q : Rat) (st : Store) (hq : Sm q) : FT tab (m + 2) 6 [.p (frP q)] st = .ok (.p (.bool true)) st := by rw [t6]; exact isfr_ok (sp_common m) hq st
theorem sl_number (m : Nat) (n : Int) (st : Store) : FT tab (m + 1) 25 [.p (.int n)] st = .ok (.p (.int (n.natAbs : Int))) st := by rw [t25]; exact number_ok n st
theorem sl_draws (m : Nat) (ns : List Int) (hl : ns.length ≤ 63) (st : Store) : ∃ xs, FT tab (m + 2) 26 [.f (ns.map PyData.int)] st = .ok (.l st.length) (st ++ [xs]) ∧ Dr xs ∧ xs.length ≤ 3780 := by rw [t26]; exact draws_ok (sl_number m) ns hl st
theorem sl_next (m : Nat) : NextP (FT tab (m + 1)) 28 := fun k xs st h hd => by rw [t28]; exact next_ok k xs st h hd
theorem sl_more (m n : Nat) (hm : n ≤ 1000) (k : Nat) (xs : List PyData) (st : Store) (h : st[k]? = some xs) (hd : Dr xs) (hl : xs.length ≤ 10000) :
    ∃ ys, FT tab (m + 2) 29 [.l k, .p (.int (n : Int))] st = .ok (.l st.length) (st.set k xs.dropLast.dropLast ++ [ys]) ∧ Dr ys ∧ ys.length ≤ 11000 := by rw [t29]; exact more_ok (sl_next m) n hm k xs st h hd hl
theorem sl_common (m : Nat) : CommonP (FT tab (m + 1)) 31 := fun a b st hb => by rw [t31]; exact lcommon2_ok a b hb st
theorem sl_least (m : Nat) : LeastP (FT tab (m + 2)) 32 := fun n d st h1 h2 => by rw [t32]; exact least_ok (sl_common m) h1 h2 st
theorem sl_add (m : Nat) (p q : Rat) (st : Store) (hp : Sm p) (hq : Sm q) : FT tab (m + 3) 33 [.p (frP p), .p (frP q)] st = .ok (.p (frP (p + q))) st := by rw [t33]; exact add_ok (sl_least m) hp hq st
theorem sl_sub (m : Nat) (p q : Rat) (st : Store) (hp : Sm p) (hq : Sm q) : FT tab (m + 3) 34 [.p (frP p), .p (frP q)] st = .ok (.p (frP (p - q))) st := by rw [t34]; exact sub_ok (sl_least m) hp hq st
theorem sl_mul (m : Nat) (p q : Rat) (st : Store) (hp : Sm p) (hq : Sm q) : FT tab (m + 3) 35 [.p (frP p), .p (frP q)] st = .ok (.p (frP (p * q))) st := by rw [t35]; exact mul_ok (sl_least m) hp hq st
theorem sl_by (m : Nat) (p q : Rat) (st : Store) (hp : Sm p) (hq : Sm q) (h : 0 < q) : FT tab (m + 3) 36 [.p (frP p), .p (frP q)] st = .ok (.p (frP (p / q))) st := by rw [t36]; exact lby_ok (sl_least m) hp hq h st
local macro_rules | `(tactic| walk_at "go") => `(tactic| simp (disch := walk_at "sz") only [tp0, ls0, tp1, ls1, tp2, ls2, tp3, ls3, tp4, ls4, tp5, ls5, tp6, ls6, tp7, ls7, tp8, ls8, tp9, ls9, tp10, ls10, tp11, ls11, tp12, ls12, denF_eq, dSs_nil, dSs_cons, nxS_nx, nxS_rt, nxS_ex, nxS_bk, nxS_ct, lift_ok, lift_ex, oE_some, dS_asg, dS_par, dS_ret, dS_retN, dS_ex, dS_raise, dS_brk, dS_cnt, dS_pass, dS_ife, tgt_nm, set_nil, set_cons, dI_seq, dI_rng1, nI_some, iI_some, int_int, it_list, it_tup, it_f, fin_p, endF_nx, endF_rt, endF_ex, bind_ok, bind_ex, D1_p, D2_pp, mD_some, mkD_f, pD_some, dE_cst, dE_glob, dE_var, vR_ok, dE_bin, dE_neg, negV_int, tR_bool, tR_int, tR_none, tR_list, tR_tup, dE_not, dE_and, dE_or, andR_t, andR_f, orR_t, orR_f, andR_b, orR_b, oB_some, dE_cmp, dE_chain, chR_t, chR_f, chR_b, oC_some, dE_ife, ifR_t, ifR_f, dE_call, dE_b1, dE_b2, dE_idx, dE_isi, dE_tup, dE_lst, dEs_nil, dEs_cons, dats_nil, dats_cons, dT_none, dT_some, o_add, o_sub, c_lt, c_le, c_gt, c_ge, c_eqi, c_nei, u_abs, u_int, u_lenl, u_lent, u_tupl, u_tupt, x_tup, x_lst, a1_0, a2_0, a2_1, a3_0, a3_1, a3_2, a4_0, a4_1, a4_2, a4_3, List.length_cons, List.length_nil, List.map_cons, List.map_nil, List.replicate, List.cons_append, List.nil_append, List.getElem?_cons_zero, List.getElem?_cons_succ, List.set_cons_zero, List.set_cons_succ, Option.map_some, Nat.reduceSub, Nat.reduceAdd, List.take_length, List.isEmpty_nil, List.isEmpty_cons, Bool.not_true, Bool.not_false, wipe_nil, wipe_cons, tgt1, Int.reduceLT, Int.reduceLE, decide_true, decide_false, Bool.true_and, Bool.and_true, Bool.false_and, Bool.true_or, Bool.false_or, Bool.or_false, List.all_cons, List.all_nil, id_eq, nat_c0, nat_c1, nat_c2, nat_c3, nat_c4, nat_c5, Int.reduceEq, tgt2, tgt3, tgt4, c_isf, c_isn, c_inf, c_inn, c_iss, c_ins, Int.reduceMul, Int.reduceAdd, Int.reduceSub, fr_1, fr_0, fr_2, fr_h, x_f0, x_f1, u_tupf, u_lenf, c_eqfr, c_nefr, c_isfr, c_infr, o_mul, o_mod, o_div, n_le, n_ge, n_lt, n_gt, sp_add, sp_sub, sp_mul, sp_by, sp_isfr, sl_add, sl_sub, sl_mul, sl_by, List.take_succ_cons, List.take_zero, c_neb, c_eqb, c_isT, c_isF, c_insT, c_insF, u_repr, c_nes, beq_self_eq_true])
local macro_rules | `(tactic| walk_at "gx") => `(tactic| simp (disch := walk_at "sz") only [tp0, ls0, tp1, ls1, tp2, ls2, tp3, ls3, tp4, ls4, tp5, ls5, tp6, ls6, tp7, ls7, tp8, ls8, tp9, ls9, tp10, ls10, tp11, ls11, tp12, ls12, denF_eq, dSs_nil, dSs_cons, nxS_nx, nxS_rt, nxS_ex, nxS_bk, nxS_ct, lift_ok, lift_ex, oE_some, dS_asg, dS_par, dS_ret, dS_retN, dS_ex, dS_raise, dS_brk, dS_cnt, dS_pass, dS_ife, tgt_nm, set_nil, set_cons, dI_seq, dI_rng1, nI_some, iI_some, int_int, it_list, it_tup, it_f, fin_p, endF_nx, endF_rt, endF_ex, bind_ok, bind_ex, D1_p, D2_pp, mD_some, mkD_f, pD_some, dE_cst, dE_glob, dE_var, vR_ok, dE_bin, dE_neg, negV_int, tR_bool, tR_int, tR_none, tR_list, tR_tup, dE_not, dE_and, dE_or, andR_t, andR_f, orR_t, orR_f, andR_b, orR_b, oB_some, dE_cmp, dE_chain, chR_t, chR_f, chR_b, oC_some, dE_ife, ifR_t, ifR_f, dE_call, dE_b1, dE_b2, dE_idx, dE_isi, dE_tup, dE_lst, dEs_nil, dEs_cons, dats_nil, dats_cons, dT_none, dT_some, o_add, o_sub, c_lt, c_le, c_gt, c_ge, c_eqi, c_nei, u_abs, u_int, u_lenl, u_lent, u_tupl, u_tupt, x_tup, x_lst, a1_0, a2_0, a2_1, a3_0, a3_1, a3_2, a4_0, a4_1, a4_2, a4_3, List.length_cons, List.length_nil, List.map_cons, List.map_nil, List.replicate, List.cons_append, List.nil_append, List.getElem?_cons_zero, List.getElem?_cons_succ, List.set_cons_zero, List.set_cons_succ, Option.map_some, Nat.reduceSub, Nat.reduceAdd, List.take_length, List.isEmpty_nil, List.isEmpty_cons, Bool.not_true, Bool.not_false, wipe_nil, wipe_cons, tgt1, Int.reduceLT, Int.reduceLE, decide_true, decide_false, Bool.true_and, Bool.and_true, Bool.false_and, Bool.true_or, Bool.false_or, Bool.or_false, List.all_cons, List.all_nil, id_eq, nat_c0, nat_c1, nat_c2, nat_c3, nat_c4, nat_c5, Int.reduceEq, tgt2, tgt3, tgt4, c_isf, c_isn, c_inf, c_inn, c_iss, c_ins, Int.reduceMul, Int.reduceAdd, Int.reduceSub, fr_1, fr_0, fr_2, fr_h, x_f0, x_f1, u_tupf, u_lenf, c_eqfr, c_nefr, c_isfr, c_infr, o_mul, o_mod, o_div, n_le, n_ge, n_lt, n_gt, sp_add, sp_sub, sp_mul, sp_by, sp_isfr, sl_add, sl_sub, sl_mul, sl_by, List.take_succ_cons, List.take_zero, c_neb, c_eqb, c_isT, c_isF, c_insT, c_insF, u_repr, c_nes, beq_self_eq_true, *])
local macro_rules | `(tactic| walk_at "un") => `(tactic| simp (disch := walk_at "sz") only [tp0, ls0, tp1, ls1, tp2, ls2, tp3, ls3, tp4, ls4, tp5, ls5, tp6, ls6, tp7, ls7, tp8, ls8, tp9, ls9, tp10, ls10, tp11, ls11, tp12, ls12, denF_eq, dSs_nil, dSs_cons, nxS_nx, nxS_rt, nxS_ex, nxS_bk, nxS_ct, lift_ok, lift_ex, oE_some, dS_asg, dS_par, dS_ret, dS_retN, dS_ex, dS_raise, dS_brk, dS_cnt, dS_pass, dS_ife, tgt_nm, set_nil, set_cons, dI_seq, dI_rng1, nI_some, iI_some, int_int, it_list, it_tup, it_f, fin_p, endF_nx, endF_rt, endF_ex, bind_ok, bind_ex, D1_p, D2_pp, mD_some, mkD_f, pD_some, dE_cst, dE_glob, dE_var, vR_ok, dE_bin, dE_neg, negV_int, tR_bool, tR_int, tR_none, tR_list, tR_tup, dE_not, dE_and, dE_or, andR_t, andR_f, orR_t, orR_f, andR_b, orR_b, oB_some, dE_cmp, dE_chain, chR_t, chR_f, chR_b, oC_some, dE_ife, ifR_t, ifR_f, dE_call, dE_b1, dE_b2, dE_idx, dE_isi, dE_tup, dE_lst, dEs_nil, dEs_cons, dats_nil, dats_cons, dT_none, dT_some, o_add, o_sub, c_lt, c_le, c_gt, c_ge, c_eqi, c_nei, u_abs, u_int, u_lenl, u_lent, u_tupl, u_tupt, x_tup, x_lst, a1_0, a2_0, a2_1, a3_0, a3_1, a3_2, a4_0, a4_1, a4_2, a4_3, List.length_cons, List.length_nil, List.map_cons, List.map_nil, List.replicate, List.cons_append, List.nil_append, List.getElem?_cons_zero, List.getElem?_cons_succ, List.set_cons_zero, List.set_cons_succ, Option.map_some, Nat.reduceSub, Nat.reduceAdd, List.take_length, List.isEmpty_nil, List.isEmpty_cons, Bool.not_true, Bool.not_false, wipe_nil, wipe_cons, tgt1, Int.reduceLT, Int.reduceLE, decide_true, decide_false, Bool.true_and, Bool.and_true, Bool.false_and, Bool.true_or, Bool.false_or, Bool.or_false, List.all_cons, List.all_nil, id_eq, nat_c0, nat_c1, nat_c2, nat_c3, nat_c4, nat_c5, Int.reduceEq, tgt2, tgt3, tgt4, c_isf, c_isn, c_inf, c_inn, c_iss, c_ins, Int.reduceMul, Int.reduceAdd, Int.reduceSub, fr_1, fr_0, fr_2, fr_h, x_f0, x_f1, u_tupf, u_lenf, c_eqfr, c_nefr, c_isfr, c_infr, o_mul, o_mod, o_div, n_le, n_ge, n_lt, n_gt, sp_add, sp_sub, sp_mul, sp_by, sp_isfr, sl_add, sl_sub, sl_mul, sl_by, List.take_succ_cons, List.take_zero, c_neb, c_eqb, c_isT, c_isF, c_insT, c_insF, u_repr, c_nes, beq_self_eq_true, dE_compE, cE_nil, cE_cons, oN_some, bindN_ok, cPut_l, cPut_2, cPut_3, cEnd_l, cEnd_2, cEnd_3, dS_forE, fE_nil, fE_cons, oF_some, lpR_nx, lpR_ct, lpR_bk, lpR_rt, lpR_ex, tg2, tg3, len2, len3])
local macro_rules | `(tactic| walk_at "ux") => `(tactic| simp (disch := walk_at "sz") only [tp0, ls0, tp1, ls1, tp2, ls2, tp3, ls3, tp4, ls4, tp5, ls5, tp6, ls6, tp7, ls7, tp8, ls8, tp9, ls9, tp10, ls10, tp11, ls11, tp12, ls12, denF_eq, dSs_nil, dSs_cons, nxS_nx, nxS_rt, nxS_ex, nxS_bk, nxS_ct, lift_ok, lift_ex, oE_some, dS_asg, dS_par, dS_ret, dS_retN, dS_ex, dS_raise, dS_brk, dS_cnt, dS_pass, dS_ife, tgt_nm, set_nil, set_cons, dI_seq, dI_rng1, nI_some, iI_some, int_int, it_list, it_tup, it_f, fin_p, endF_nx, endF_rt, endF_ex, bind_ok, bind_ex, D1_p, D2_pp, mD_some, mkD_f, pD_some, dE_cst, dE_glob, dE_var, vR_ok, dE_bin, dE_neg, negV_int, tR_bool, tR_int, tR_none, tR_list, tR_tup, dE_not, dE_and, dE_or, andR_t, andR_f, orR_t, orR_f, andR_b, orR_b, oB_some, dE_cmp, dE_chain, chR_t, chR_f, chR_b, oC_some, dE_ife, ifR_t, ifR_f, dE_call, dE_b1, dE_b2, dE_idx, dE_isi, dE_tup, dE_lst, dEs_nil, dEs_cons, dats_nil, dats_cons, dT_none, dT_some, o_add, o_sub, c_lt, c_le, c_gt, c_ge, c_eqi, c_nei, u_abs, u_int, u_lenl, u_lent, u_tupl, u_tupt, x_tup, x_lst, a1_0, a2_0, a2_1, a3_0, a3_1, a3_2, a4_0, a4_1, a4_2, a4_3, List.length_cons, List.length_nil, List.map_cons, List.map_nil, List.replicate, List.cons_append, List.nil_append, List.getElem?_cons_zero, List.getElem?_cons_succ, List.set_cons_zero, List.set_cons_succ, Option.map_some, Nat.reduceSub, Nat.reduceAdd, List.take_length, List.isEmpty_nil, List.isEmpty_cons, Bool.not_true, Bool.not_false, wipe_nil, wipe_cons, tgt1, Int.reduceLT, Int.reduceLE, decide_true, decide_false, Bool.true_and, Bool.and_true, Bool.false_and, Bool.true_or, Bool.false_or, Bool.or_false, List.all_cons, List.all_nil, id_eq, nat_c0, nat_c1, nat_c2, nat_c3, nat_c4, nat_c5, Int.reduceEq, tgt2, tgt3, tgt4, c_isf, c_isn, c_inf, c_inn, c_iss, c_ins, Int.reduceMul, Int.reduceAdd, Int.reduceSub, fr_1, fr_0, fr_2, fr_h, x_f0, x_f1, u_tupf, u_lenf, c_eqfr, c_nefr, c_isfr, c_infr, o_mul, o_mod, o_div, n_le, n_ge, n_lt, n_gt, sp_add, sp_sub, sp_mul, sp_by, sp_isfr, sl_add, sl_sub, sl_mul, sl_by, List.take_succ_cons, List.take_zero, c_neb, c_eqb, c_isT, c_isF, c_insT, c_insF, u_repr, c_nes, beq_self_eq_true, dE_compE, cE_nil, cE_cons, oN_some, bindN_ok, cPut_l, cPut_2, cPut_3, cEnd_l, cEnd_2, cEnd_3, dS_forE, fE_nil, fE_cons, oF_some, lpR_nx, lpR_ct, lpR_bk, lpR_rt, lpR_ex, tg2, tg3, len2, len3, *])

theorem sl_part (m : Nat) (p q : Rat) (st : Store) (hp : Sm p) (hq : Sm q) (h : 0 < q) : FT tab (m + 3) 40 [.p (frP p), .p (frP q)] st = .ok (.p (frP (p / q))) st := by
  have hn := num_pos' h
  have d1 : decide (0 < q) = true := decide_eq_true h
  have m1 := m_nd hp hq
  have m2 : binD .Mult (.int (p.num * (q.den : Int))) (.int 1) = some (.int (p.num * (q.den : Int))) := by
    rw [o_mul (mulOk_of (a := 8000) (b := 1) (by rw [Int.natAbs_mul, Int.natAbs_natCast]; exact mul_lt hp.1 hq.2) (by decide) (by decide)), Int.mul_one]
  have m3 : binD .Mult (.int (p.den : Int)) (.int (q.num.natAbs : Int)) = some (.int ((p.den : Int) * q.num)) := by
    rw [Int.natAbs_of_nonneg (Int.le_of_lt hn)]
    exact m_dn hp hq
  have hz : (p.den : Int) * q.num < 2 ^ 9000 := by
    have h1 := mul_lt hp.2 hq.1
    have h2 : p.den * q.num.natAbs < 2 ^ 9000 := Nat.lt_of_lt_of_le h1 (pow_mono (by decide))
    have h3 : ((p.den * q.num.natAbs : Nat) : Int) < ((2 ^ 9000 : Nat) : Int) := Int.ofNat_lt.mpr h2
    rw [Int.natCast_mul, Int.natAbs_of_nonneg (Int.le_of_lt hn)] at h3
    exact h3
  have ls := sl_least m (p.num * (q.den : Int)) ((p.den : Int) * q.num) st (Int.mul_pos (den_pos' p) hn) hz
  rw [div_eq p q h] at ls
  rw [t40, denF_eq (by rfl)]
  unfold f40
  walk_at "go"
  rw [d1]
  walk_at "go"
  rw [m1]
  walk_at "go"
  rw [m2, m3]
  walk_at "go"
  rw [ls]
  walk_at "go"
local macro_rules | `(tactic| walk_at "go") => `(tactic| simp (disch := walk_at "sz") only [tp0, ls0, tp1, ls1, tp2, ls2, tp3, ls3, tp4, ls4, tp5, ls5, tp6, ls6, tp7, ls7, tp8, ls8, tp9, ls9, tp10, ls10, tp11, ls11, tp12, ls12, denF_eq, dSs_nil, dSs_cons, nxS_nx, nxS_rt, nxS_ex, nxS_bk, nxS_ct, lift_ok, lift_ex, oE_some, dS_asg, dS_par, dS_ret, dS_retN, dS_ex, dS_raise, dS_brk, dS_cnt, dS_pass, dS_ife, tgt_nm, set_nil, set_cons, dI_seq, dI_rng1, nI_some, iI_some, int_int, it_list, it_tup, it_f, fin_p, endF_nx, endF_rt, endF_ex, bind_ok, bind_ex, D1_p, D2_pp, mD_some, mkD_f, pD_some, dE_cst, dE_glob, dE_var, vR_ok, dE_bin, dE_neg, negV_int, tR_bool, tR_int, tR_none, tR_list, tR_tup, dE_not, dE_and, dE_or, andR_t, andR_f, orR_t, orR_f, andR_b, orR_b, oB_some, dE_cmp, dE_chain, chR_t, chR_f, chR_b, oC_some, dE_ife, ifR_t, ifR_f, dE_call, dE_b1, dE_b2, dE_idx, dE_isi, dE_tup, dE_lst, dEs_nil, dEs_cons, dats_nil, dats_cons, dT_none, dT_some, o_add, o_sub, c_lt, c_le, c_gt, c_ge, c_eqi, c_nei, u_abs, u_int, u_lenl, u_lent, u_tupl, u_tupt, x_tup, x_lst, a1_0, a2_0, a2_1, a3_0, a3_1, a3_2, a4_0, a4_1, a4_2, a4_3, List.length_cons, List.length_nil, List.map_cons, List.map_nil, List.replicate, List.cons_append, List.nil_append, List.getElem?_cons_zero, List.getElem?_cons_succ, List.set_cons_zero, List.set_cons_succ, Option.map_some, Nat.reduceSub, Nat.reduceAdd, List.take_length, List.isEmpty_nil, List.isEmpty_cons, Bool.not_true, Bool.not_false, wipe_nil, wipe_cons, tgt1, Int.reduceLT, Int.reduceLE, decide_true, decide_false, Bool.true_and, Bool.and_true, Bool.false_and, Bool.true_or, Bool.false_or, Bool.or_false, List.all_cons, List.all_nil, id_eq, nat_c0, nat_c1, nat_c2, nat_c3, nat_c4, nat_c5, Int.reduceEq, tgt2, tgt3, tgt4, c_isf, c_isn, c_inf, c_inn, c_iss, c_ins, Int.reduceMul, Int.reduceAdd, Int.reduceSub, fr_1, fr_0, fr_2, fr_h, x_f0, x_f1, u_tupf, u_lenf, c_eqfr, c_nefr, c_isfr, c_infr, o_mul, o_mod, o_div, n_le, n_ge, n_lt, n_gt, sp_add, sp_sub, sp_mul, sp_by, sp_isfr, sl_add, sl_sub, sl_mul, sl_by, List.take_succ_cons, List.take_zero, c_neb, c_eqb, c_isT, c_isF, c_insT, c_insF, u_repr, c_nes, beq_self_eq_true, sl_part])
local macro_rules | `(tactic| walk_at "gx") => `(tactic| simp (disch := walk_at "sz") only [tp0, ls0, tp1, ls1, tp2, ls2, tp3, ls3, tp4, ls4, tp5, ls5, tp6, ls6, tp7, ls7, tp8, ls8, tp9, ls9, tp10, ls10, tp11, ls11, tp12, ls12, denF_eq, dSs_nil, dSs_cons, nxS_nx, nxS_rt, nxS_ex, nxS_bk, nxS_ct, lift_ok, lift_ex, oE_some, dS_asg, dS_par, dS_ret, dS_retN, dS_ex, dS_raise, dS_brk, dS_cnt, dS_pass, dS_ife, tgt_nm, set_nil, set_cons, dI_seq, dI_rng1, nI_some, iI_some, int_int, it_list, it_tup, it_f, fin_p, endF_nx, endF_rt, endF_ex, bind_ok, bind_ex, D1_p, D2_pp, mD_some, mkD_f, pD_some, dE_cst, dE_glob, dE_var, vR_ok, dE_bin, dE_neg, negV_int, tR_bool, tR_int, tR_none, tR_list, tR_tup, dE_not, dE_and, dE_or, andR_t, andR_f, orR_t, orR_f, andR_b, orR_b, oB_some, dE_cmp, dE_chain, chR_t, chR_f, chR_b, oC_some, dE_ife, ifR_t, ifR_f, dE_call, dE_b1, dE_b2, dE_idx, dE_isi, dE_tup, dE_lst, dEs_nil, dEs_cons, dats_nil, dats_cons, dT_none, dT_some, o_add, o_sub, c_lt, c_le, c_gt, c_ge, c_eqi, c_nei, u_abs, u_int, u_lenl, u_lent, u_tupl, u_tupt, x_tup, x_lst, a1_0, a2_0, a2_1, a3_0, a3_1, a3_2, a4_0, a4_1, a4_2, a4_3, List.length_cons, List.length_nil, List.map_cons, List.map_nil, List.replicate, List.cons_append, List.nil_append, List.getElem?_cons_zero, List.getElem?_cons_succ, List.set_cons_zero, List.set_cons_succ, Option.map_some, Nat.reduceSub, Nat.reduceAdd, List.take_length, List.isEmpty_nil, List.isEmpty_cons, Bool.not_true, Bool.not_false, wipe_nil, wipe_cons, tgt1, Int.reduceLT, Int.reduceLE, decide_true, decide_false, Bool.true_and, Bool.and_true, Bool.false_and, Bool.true_or, Bool.false_or, Bool.or_false, List.all_cons, List.all_nil, id_eq, nat_c0, nat_c1, nat_c2, nat_c3, nat_c4, nat_c5, Int.reduceEq, tgt2, tgt3, tgt4, c_isf, c_isn, c_inf, c_inn, c_iss, c_ins, Int.reduceMul, Int.reduceAdd, Int.reduceSub, fr_1, fr_0, fr_2, fr_h, x_f0, x_f1, u_tupf, u_lenf, c_eqfr, c_nefr, c_isfr, c_infr, o_mul, o_mod, o_div, n_le, n_ge, n_lt, n_gt, sp_add, sp_sub, sp_mul, sp_by, sp_isfr, sl_add, sl_sub, sl_mul, sl_by, List.take_succ_cons, List.take_zero, c_neb, c_eqb, c_isT, c_isF, c_insT, c_insF, u_repr, c_nes, beq_self_eq_true, sl_part, *])
local macro_rules | `(tactic| walk_at "un") => `(tactic| simp (disch := walk_at "sz") only [tp0, ls0, tp1, ls1, tp2, ls2, tp3, ls3, tp4, ls4, tp5, ls5, tp6, ls6, tp7, ls7, tp8, ls8, tp9, ls9, tp10, ls10, tp11, ls11, tp12, ls12, denF_eq, dSs_nil, dSs_cons, nxS_nx, nxS_rt, nxS_ex, nxS_bk, nxS_ct, lift_ok, lift_ex, oE_some, dS_asg, dS_par, dS_ret, dS_retN, dS_ex, dS_raise, dS_brk, dS_cnt, dS_pass, dS_ife, tgt_nm, set_nil, set_cons, dI_seq, dI_rng1, nI_some, iI_some, int_int, it_list, it_tup, it_f, fin_p, endF_nx, endF_rt, endF_ex, bind_ok, bind_ex, D1_p, D2_pp, mD_some, mkD_f, pD_some, dE_cst, dE_glob, dE_var, vR_ok, dE_bin, dE_neg, negV_int, tR_bool, tR_int, tR_none, tR_list, tR_tup, dE_not, dE_and, dE_or, andR_t, andR_f, orR_t, orR_f, andR_b, orR_b, oB_some, dE_cmp, dE_chain, chR_t, chR_f, chR_b, oC_some, dE_ife, ifR_t, ifR_f, dE_call, dE_b1, dE_b2, dE_idx, dE_isi, dE_tup, dE_lst, dEs_nil, dEs_cons, dats_nil, dats_cons, dT_none, dT_some, o_add, o_sub, c_lt, c_le, c_gt, c_ge, c_eqi, c_nei, u_abs, u_int, u_lenl, u_lent, u_tupl, u_tupt, x_tup, x_lst, a1_0, a2_0, a2_1, a3_0, a3_1, a3_2, a4_0, a4_1, a4_2, a4_3, List.length_cons, List.length_nil, List.map_cons, List.map_nil, List.replicate, List.cons_append, List.nil_append, List.getElem?_cons_zero, List.getElem?_cons_succ, List.set_cons_zero, List.set_cons_succ, Option.map_some, Nat.reduceSub, Nat.reduceAdd, List.take_length, List.isEmpty_nil, List.isEmpty_cons, Bool.not_true, Bool.not_false, wipe_nil, wipe_cons, tgt1, Int.reduceLT, Int.reduceLE, decide_true, decide_false, Bool.true_and, Bool.and_true, Bool.false_and, Bool.true_or, Bool.false_or, Bool.or_false, List.all_cons, List.all_nil, id_eq, nat_c0, nat_c1, nat_c2, nat_c3, nat_c4, nat_c5, Int.reduceEq, tgt2, tgt3, tgt4, c_isf, c_isn, c_inf, c_inn, c_iss, c_ins, Int.reduceMul, Int.reduceAdd, Int.reduceSub, fr_1, fr_0, fr_2, fr_h, x_f0, x_f1, u_tupf, u_lenf, c_eqfr, c_nefr, c_isfr, c_infr, o_mul, o_mod, o_div, n_le, n_ge, n_lt, n_gt, sp_add, sp_sub, sp_mul, sp_by, sp_isfr, sl_add, sl_sub, sl_mul, sl_by, List.take_succ_cons, List.take_zero, c_neb, c_eqb, c_isT, c_isF, c_insT, c_insF, u_repr, c_nes, beq_self_eq_true, sl_part, dE_compE, cE_nil, cE_cons, oN_some, bindN_ok, cPut_l, cPut_2, cPut_3, cEnd_l, cEnd_2, cEnd_3, dS_forE, fE_nil, fE_cons, oF_some, lpR_nx, lpR_ct, lpR_bk, lpR_rt, lpR_ex, tg2, tg3, len2, len3])
local macro_rules | `(tactic| walk_at "ux") => `(tactic| simp (disch := walk_at "sz") only [tp0, ls0, tp1, ls1, tp2, ls2, tp3, ls3, tp4, ls4, tp5, ls5, tp6, ls6, tp7, ls7, tp8, ls8, tp9, ls9, tp10, ls10, tp11, ls11, tp12, ls12, denF_eq, dSs_nil, dSs_cons, nxS_nx, nxS_rt, nxS_ex, nxS_bk, nxS_ct, lift_ok, lift_ex, oE_some, dS_asg, dS_par, dS_ret, dS_retN, dS_ex, dS_raise, dS_brk, dS_cnt, dS_pass, dS_ife, tgt_nm, set_nil, set_cons, dI_seq, dI_rng1, nI_some, iI_some, int_int, it_list, it_tup, it_f, fin_p, endF_nx, endF_rt, endF_ex, bind_ok, bind_ex, D1_p, D2_pp, mD_some, mkD_f, pD_some, dE_cst, dE_glob, dE_var, vR_ok, dE_bin, dE_neg, negV_int, tR_bool, tR_int, tR_none, tR_list, tR_tup, dE_not, dE_and, dE_or, andR_t, andR_f, orR_t, orR_f, andR_b, orR_b, oB_some, dE_cmp, dE_chain, chR_t, chR_f, chR_b, oC_some, dE_ife, ifR_t, ifR_f, dE_call, dE_b1, dE_b2, dE_idx, dE_isi, dE_tup, dE_lst, dEs_nil, dEs_cons, dats_nil, dats_cons, dT_none, dT_some, o_add, o_sub, c_lt, c_le, c_gt, c_ge, c_eqi, c_nei, u_abs, u_int, u_lenl, u_lent, u_tupl, u_tupt, x_tup, x_lst, a1_0, a2_0, a2_1, a3_0, a3_1, a3_2, a4_0, a4_1, a4_2, a4_3, List.length_cons, List.length_nil, List.map_cons, List.map_nil, List.replicate, List.cons_append, List.nil_append, List.getElem?_cons_zero, List.getElem?_cons_succ, List.set_cons_zero, List.set_cons_succ, Option.map_some, Nat.reduceSub, Nat.reduceAdd, List.take_length, List.isEmpty_nil, List.isEmpty_cons, Bool.not_true, Bool.not_false, wipe_nil, wipe_cons, tgt1, Int.reduceLT, Int.reduceLE, decide_true, decide_false, Bool.true_and, Bool.and_true, Bool.false_and, Bool.true_or, Bool.false_or, Bool.or_false, List.all_cons, List.all_nil, id_eq, nat_c0, nat_c1, nat_c2, nat_c3, nat_c4, nat_c5, Int.reduceEq, tgt2, tgt3, tgt4, c_isf, c_isn, c_inf, c_inn, c_iss, c_ins, Int.reduceMul, Int.reduceAdd, Int.reduceSub, fr_1, fr_0, fr_2, fr_h, x_f0, x_f1, u_tupf, u_lenf, c_eqfr, c_nefr, c_isfr, c_infr, o_mul, o_mod, o_div, n_le, n_ge, n_lt, n_gt, sp_add, sp_sub, sp_mul, sp_by, sp_isfr, sl_add, sl_sub, sl_mul, sl_by, List.take_succ_cons, List.take_zero, c_neb, c_eqb, c_isT, c_isF, c_insT, c_insF, u_repr, c_nes, beq_self_eq_true, sl_part, dE_compE, cE_nil, cE_cons, oN_some, bindN_ok, cPut_l, cPut_2, cPut_3, cEnd_l, cEnd_2, cEnd_3, dS_forE, fE_nil, fE_cons, oF_some, lpR_nx, lpR_ct, lpR_bk, lpR_rt, lpR_ex, tg2, tg3, len2, len3, *])

/-! sizes of what is shown -/
theorem sh_okB {n k : Nat} {d : PyData} (h : Sh n k d) (h1 : n ≤ 16000000) (h2 : k ≤ 60) : showOk d = true := by
  unfold showOk
  rw [h.lay, h.sho, decide_eq_true (Nat.le_trans h.dep h2), decide_eq_true (Nat.le_trans (Nat.le_trans h.len h1) (by decide))]
  rfl
theorem sh_shaped {n k : Nat} {d : PyData} (h : Sh n k d) (hk : k ≤ 64) : SeqAt.shaped d = true := by
  unfold SeqAt.shaped
  rw [h.lay, decide_eq_true (Nat.le_trans h.dep hk)]
  rfl
theorem ne_self {n : Nat} {d : PyData} (h : Sh n 3 d) : cmpD .NotEq d d = some false := by
  show (eqD d d).map (!·) = _
  unfold eqD
  rw [if_pos (.inr ⟨sh_shaped h (by decide), sh_shaped h (by decide)⟩), SeqAt.eqv_refl d h.lay]
  rfl
theorem eq_self' {n : Nat} {d : PyData} (h : Sh n 3 d) : cmpD .Eq d d = some true := by
  show eqD d d = _
  unfold eqD
  rw [if_pos (.inr ⟨sh_shaped h (by decide), sh_shaped h (by decide)⟩), SeqAt.eqv_refl d h.lay]
theorem sh_l2 {n k : Nat} {a b : PyData} (ha : Sh n k a) (hb : Sh n k b) : Sh ((n + 2) * 2 + 2) (k + 1) (.list [a, b]) := sh_list (xs := [a, b]) fun x hx => by
  rcases List.mem_cons.mp hx with rfl | hx
  · exact ha
  · cases List.mem_singleton.mp hx; exact hb
theorem sh_l3 {n k : Nat} {a b c : PyData} (ha : Sh n k a) (hb : Sh n k b) (hc : Sh n k c) : Sh ((n + 2) * 3 + 2) (k + 1) (.list [a, b, c]) := sh_list (xs := [a, b, c]) fun x hx => by
  rcases List.mem_cons.mp hx with rfl | hx
  · exact ha
  · rcases List.mem_cons.mp hx with rfl | hx
    · exact hb
    · cases List.mem_singleton.mp hx; exact hc
theorem sh_l4 {n k : Nat} {a b c d : PyData} (ha : Sh n k a) (hb : Sh n k b) (hc : Sh n k c) (hd : Sh n k d) : Sh ((n + 2) * 4 + 2) (k + 1) (.list [a, b, c, d]) := sh_list (xs := [a, b, c, d]) fun x hx => by
  rcases List.mem_cons.mp hx with rfl | hx
  · exact ha
  · rcases List.mem_cons.mp hx with rfl | hx
    · exact hb
    · rcases List.mem_cons.mp hx with rfl | hx
      · exact hc
      · cases List.mem_singleton.mp hx; exact hd
section
variable {T : Nat → Fn} {e : Rk.Env} {st : Store}
theorem fin_lastF {xs : List PyData} : fin false st.length (.l st.length) (st ++ [xs]) = .ok (.p (.list xs)) st := by
  unfold fin
  dsimp only
  rw [if_neg (Nat.lt_irrefl _), last_get]
  dsimp only
  rw [if_neg Bool.false_ne_true, List.take_left]
theorem D2_last {y : PyData} {f : PyData → PyData → M Val} {xs : List PyData} : D2 (.l st.length) (.p y) (st ++ [xs]) f = f (.list xs) y (st ++ [xs]) := D2_lp last_get
theorem ls_new {ds : List PyData} {vs : List Val} (h : datsV vs st = some ds) (hl : ds.length ≤ 100000) : lstR true vs st = .ok (.l st.length) (st ++ [ds]) := lstR_ok2 h hl
theorem at_last {α : Type} (xs : List α) (x : α) : L2.atI (xs ++ [x]) (-1) = some x := by
  unfold L2.atI L2.ixN
  rw [if_neg (by omega), if_pos (by rw [List.length_append]; simp only [List.length_cons, List.length_nil]; omega)]
  show (xs ++ [x])[_]? = some x
  rw [List.getElem?_append_right (by rw [List.length_append]; simp only [List.length_cons, List.length_nil]; omega)]
  rw [show ((-1 : Int) + ((xs ++ [x]).length : Int)).toNat - xs.length = 0 by rw [List.length_append]; simp only [List.length_cons, List.length_nil]; omega]
  rfl
theorem app_last {a b : E} {d : PyData} {xs : List PyData} (h : denE T a e (st ++ [xs]) = .ok (.l st.length) (st ++ [xs])) (h2 : denE T b e (st ++ [xs]) = .ok (.p d) (st ++ [xs])) (hl : xs.length < 100000) : denE T (.append a b) e (st ++ [xs]) = .ok (.p .none) (st ++ [xs ++ [d]]) := by
  rw [dE_append h h2 last_get hl, last_set]
end
local macro_rules | `(tactic| walk_at "go") => `(tactic| simp (disch := walk_at "sz") only [tp0, ls0, tp1, ls1, tp2, ls2, tp3, ls3, tp4, ls4, tp5, ls5, tp6, ls6, tp7, ls7, tp8, ls8, tp9, ls9, tp10, ls10, tp11, ls11, tp12, ls12, denF_eq, dSs_nil, dSs_cons, nxS_nx, nxS_rt, nxS_ex, nxS_bk, nxS_ct, lift_ok, lift_ex, oE_some, dS_asg, dS_par, dS_ret, dS_retN, dS_ex, dS_raise, dS_brk, dS_cnt, dS_pass, dS_ife, tgt_nm, set_nil, set_cons, dI_seq, dI_rng1, nI_some, iI_some, int_int, it_list, it_tup, it_f, fin_p, endF_nx, endF_rt, endF_ex, bind_ok, bind_ex, D1_p, D2_pp, mD_some, mkD_f, pD_some, dE_cst, dE_glob, dE_var, vR_ok, dE_bin, dE_neg, negV_int, tR_bool, tR_int, tR_none, tR_list, tR_tup, dE_not, dE_and, dE_or, andR_t, andR_f, orR_t, orR_f, andR_b, orR_b, oB_some, dE_cmp, dE_chain, chR_t, chR_f, chR_b, oC_some, dE_ife, ifR_t, ifR_f, dE_call, dE_b1, dE_b2, dE_idx, dE_isi, dE_tup, dE_lst, dEs_nil, dEs_cons, dats_nil, dats_cons, dT_none, dT_some, o_add, o_sub, c_lt, c_le, c_gt, c_ge, c_eqi, c_nei, u_abs, u_int, u_lenl, u_lent, u_tupl, u_tupt, x_tup, x_lst, a1_0, a2_0, a2_1, a3_0, a3_1, a3_2, a4_0, a4_1, a4_2, a4_3, List.length_cons, List.length_nil, List.map_cons, List.map_nil, List.replicate, List.cons_append, List.nil_append, List.getElem?_cons_zero, List.getElem?_cons_succ, List.set_cons_zero, List.set_cons_succ, Option.map_some, Nat.reduceSub, Nat.reduceAdd, List.take_length, List.isEmpty_nil, List.isEmpty_cons, Bool.not_true, Bool.not_false, wipe_nil, wipe_cons, tgt1, Int.reduceLT, Int.reduceLE, decide_true, decide_false, Bool.true_and, Bool.and_true, Bool.false_and, Bool.true_or, Bool.false_or, Bool.or_false, List.all_cons, List.all_nil, id_eq, nat_c0, nat_c1, nat_c2, nat_c3, nat_c4, nat_c5, Int.reduceEq, tgt2, tgt3, tgt4, c_isf, c_isn, c_inf, c_inn, c_iss, c_ins, Int.reduceMul, Int.reduceAdd, Int.reduceSub, fr_1, fr_0, fr_2, fr_h, x_f0, x_f1, u_tupf, u_lenf, c_eqfr, c_nefr, c_isfr, c_infr, o_mul, o_mod, o_div, n_le, n_ge, n_lt, n_gt, sp_add, sp_sub, sp_mul, sp_by, sp_isfr, sl_add, sl_sub, sl_mul, sl_by, List.take_succ_cons, List.take_zero, c_neb, c_eqb, c_isT, c_isF, c_insT, c_insF, u_repr, c_nes, beq_self_eq_true, sl_part, fin_lastF, D2_last])
local macro_rules | `(tactic| walk_at "gx") => `(tactic| simp (disch := walk_at "sz") only [tp0, ls0, tp1, ls1, tp2, ls2, tp3, ls3, tp4, ls4, tp5, ls5, tp6, ls6, tp7, ls7, tp8, ls8, tp9, ls9, tp10, ls10, tp11, ls11, tp12, ls12, denF_eq, dSs_nil, dSs_cons, nxS_nx, nxS_rt, nxS_ex, nxS_bk, nxS_ct, lift_ok, lift_ex, oE_some, dS_asg, dS_par, dS_ret, dS_retN, dS_ex, dS_raise, dS_brk, dS_cnt, dS_pass, dS_ife, tgt_nm, set_nil, set_cons, dI_seq, dI_rng1, nI_some, iI_some, int_int, it_list, it_tup, it_f, fin_p, endF_nx, endF_rt, endF_ex, bind_ok, bind_ex, D1_p, D2_pp, mD_some, mkD_f, pD_some, dE_cst, dE_glob, dE_var, vR_ok, dE_bin, dE_neg, negV_int, tR_bool, tR_int, tR_none, tR_list, tR_tup, dE_not, dE_and, dE_or, andR_t, andR_f, orR_t, orR_f, andR_b, orR_b, oB_some, dE_cmp, dE_chain, chR_t, chR_f, chR_b, oC_some, dE_ife, ifR_t, ifR_f, dE_call, dE_b1, dE_b2, dE_idx, dE_isi, dE_tup, dE_lst, dEs_nil, dEs_cons, dats_nil, dats_cons, dT_none, dT_some, o_add, o_sub, c_lt, c_le, c_gt, c_ge, c_eqi, c_nei, u_abs, u_int, u_lenl, u_lent, u_tupl, u_tupt, x_tup, x_lst, a1_0, a2_0, a2_1, a3_0, a3_1, a3_2, a4_0, a4_1, a4_2, a4_3, List.length_cons, List.length_nil, List.map_cons, List.map_nil, List.replicate, List.cons_append, List.nil_append, List.getElem?_cons_zero, List.getElem?_cons_succ, List.set_cons_zero, List.set_cons_succ, Option.map_some, Nat.reduceSub, Nat.reduceAdd, List.take_length, List.isEmpty_nil, List.isEmpty_cons, Bool.not_true, Bool.not_false, wipe_nil, wipe_cons, tgt1, Int.reduceLT, Int.reduceLE, decide_true, decide_false, Bool.true_and, Bool.and_true, Bool.false_and, Bool.true_or, Bool.false_or, Bool.or_false, List.all_cons, List.all_nil, id_eq, nat_c0, nat_c1, nat_c2, nat_c3, nat_c4, nat_c5, Int.reduceEq, tgt2, tgt3, tgt4, c_isf, c_isn, c_inf, c_inn, c_iss, c_ins, Int.reduceMul, Int.reduceAdd, Int.reduceSub, fr_1, fr_0, fr_2, fr_h, x_f0, x_f1, u_tupf, u_lenf, c_eqfr, c_nefr, c_isfr, c_infr, o_mul, o_mod, o_div, n_le, n_ge, n_lt, n_gt, sp_add, sp_sub, sp_mul, sp_by, sp_isfr, sl_add, sl_sub, sl_mul, sl_by, List.take_succ_cons, List.take_zero, c_neb, c_eqb, c_isT, c_isF, c_insT, c_insF, u_repr, c_nes, beq_self_eq_true, sl_part, fin_lastF, D2_last, *])
local macro_rules | `(tactic| walk_at "un") => `(tactic| simp (disch := walk_at "sz") only [tp0, ls0, tp1, ls1, tp2, ls2, tp3, ls3, tp4, ls4, tp5, ls5, tp6, ls6, tp7, ls7, tp8, ls8, tp9, ls9, tp10, ls10, tp11, ls11, tp12, ls12, denF_eq, dSs_nil, dSs_cons, nxS_nx, nxS_rt, nxS_ex, nxS_bk, nxS_ct, lift_ok, lift_ex, oE_some, dS_asg, dS_par, dS_ret, dS_retN, dS_ex, dS_raise, dS_brk, dS_cnt, dS_pass, dS_ife, tgt_nm, set_nil, set_cons, dI_seq, dI_rng1, nI_some, iI_some, int_int, it_list, it_tup, it_f, fin_p, endF_nx, endF_rt, endF_ex, bind_ok, bind_ex, D1_p, D2_pp, mD_some, mkD_f, pD_some, dE_cst, dE_glob, dE_var, vR_ok, dE_bin, dE_neg, negV_int, tR_bool, tR_int, tR_none, tR_list, tR_tup, dE_not, dE_and, dE_or, andR_t, andR_f, orR_t, orR_f, andR_b, orR_b, oB_some, dE_cmp, dE_chain, chR_t, chR_f, chR_b, oC_some, dE_ife, ifR_t, ifR_f, dE_call, dE_b1, dE_b2, dE_idx, dE_isi, dE_tup, dE_lst, dEs_nil, dEs_cons, dats_nil, dats_cons, dT_none, dT_some, o_add, o_sub, c_lt, c_le, c_gt, c_ge, c_eqi, c_nei, u_abs, u_int, u_lenl, u_lent, u_tupl, u_tupt, x_tup, x_lst, a1_0, a2_0, a2_1, a3_0, a3_1, a3_2, a4_0, a4_1, a4_2, a4_3, List.length_cons, List.length_nil, List.map_cons, List.map_nil, List.replicate, List.cons_append, List.nil_append, List.getElem?_cons_zero, List.getElem?_cons_succ, List.set_cons_zero, List.set_cons_succ, Option.map_some, Nat.reduceSub, Nat.reduceAdd, List.take_length, List.isEmpty_nil, List.isEmpty_cons, Bool.not_true, Bool.not_false, wipe_nil, wipe_cons, tgt1, Int.reduceLT, Int.reduceLE, decide_true, decide_false, Bool.true_and, Bool.and_true, Bool.false_and, Bool.true_or, Bool.false_or, Bool.or_false, List.all_cons, List.all_nil, id_eq, nat_c0, nat_c1, nat_c2, nat_c3, nat_c4, nat_c5, Int.reduceEq, tgt2, tgt3, tgt4, c_isf, c_isn, c_inf, c_inn, c_iss, c_ins, Int.reduceMul, Int.reduceAdd, Int.reduceSub, fr_1, fr_0, fr_2, fr_h, x_f0, x_f1, u_tupf, u_lenf, c_eqfr, c_nefr, c_isfr, c_infr, o_mul, o_mod, o_div, n_le, n_ge, n_lt, n_gt, sp_add, sp_sub, sp_mul, sp_by, sp_isfr, sl_add, sl_sub, sl_mul, sl_by, List.take_succ_cons, List.take_zero, c_neb, c_eqb, c_isT, c_isF, c_insT, c_insF, u_repr, c_nes, beq_self_eq_true, sl_part, fin_lastF, D2_last, dE_compE, cE_nil, cE_cons, oN_some, bindN_ok, cPut_l, cPut_2, cPut_3, cEnd_l, cEnd_2, cEnd_3, dS_forE, fE_nil, fE_cons, oF_some, lpR_nx, lpR_ct, lpR_bk, lpR_rt, lpR_ex, tg2, tg3, len2, len3])
local macro_rules | `(tactic| walk_at "ux") => `(tactic| simp (disch := walk_at "sz") only [tp0, ls0, tp1, ls1, tp2, ls2, tp3, ls3, tp4, ls4, tp5, ls5, tp6, ls6, tp7, ls7, tp8, ls8, tp9, ls9, tp10, ls10, tp11, ls11, tp12, ls12, denF_eq, dSs_nil, dSs_cons, nxS_nx, nxS_rt, nxS_ex, nxS_bk, nxS_ct, lift_ok, lift_ex, oE_some, dS_asg, dS_par, dS_ret, dS_retN, dS_ex, dS_raise, dS_brk, dS_cnt, dS_pass, dS_ife, tgt_nm, set_nil, set_cons, dI_seq, dI_rng1, nI_some, iI_some, int_int, it_list, it_tup, it_f, fin_p, endF_nx, endF_rt, endF_ex, bind_ok, bind_ex, D1_p, D2_pp, mD_some, mkD_f, pD_some, dE_cst, dE_glob, dE_var, vR_ok, dE_bin, dE_neg, negV_int, tR_bool, tR_int, tR_none, tR_list, tR_tup, dE_not, dE_and, dE_or, andR_t, andR_f, orR_t, orR_f, andR_b, orR_b, oB_some, dE_cmp, dE_chain, chR_t, chR_f, chR_b, oC_some, dE_ife, ifR_t, ifR_f, dE_call, dE_b1, dE_b2, dE_idx, dE_isi, dE_tup, dE_lst, dEs_nil, dEs_cons, dats_nil, dats_cons, dT_none, dT_some, o_add, o_sub, c_lt, c_le, c_gt, c_ge, c_eqi, c_nei, u_abs, u_int, u_lenl, u_lent, u_tupl, u_tupt, x_tup, x_lst, a1_0, a2_0, a2_1, a3_0, a3_1, a3_2, a4_0, a4_1, a4_2, a4_3, List.length_cons, List.length_nil, List.map_cons, List.map_nil, List.replicate, List.cons_append, List.nil_append, List.getElem?_cons_zero, List.getElem?_cons_succ, List.set_cons_zero, List.set_cons_succ, Option.map_some, Nat.reduceSub, Nat.reduceAdd, List.take_length, List.isEmpty_nil, List.isEmpty_cons, Bool.not_true, Bool.not_false, wipe_nil, wipe_cons, tgt1, Int.reduceLT, Int.reduceLE, decide_true, decide_false, Bool.true_and, Bool.and_true, Bool.false_and, Bool.true_or, Bool.false_or, Bool.or_false, List.all_cons, List.all_nil, id_eq, nat_c0, nat_c1, nat_c2, nat_c3, nat_c4, nat_c5, Int.reduceEq, tgt2, tgt3, tgt4, c_isf, c_isn, c_inf, c_inn, c_iss, c_ins, Int.reduceMul, Int.reduceAdd, Int.reduceSub, fr_1, fr_0, fr_2, fr_h, x_f0, x_f1, u_tupf, u_lenf, c_eqfr, c_nefr, c_isfr, c_infr, o_mul, o_mod, o_div, n_le, n_ge, n_lt, n_gt, sp_add, sp_sub, sp_mul, sp_by, sp_isfr, sl_add, sl_sub, sl_mul, sl_by, List.take_succ_cons, List.take_zero, c_neb, c_eqb, c_isT, c_isF, c_insT, c_insF, u_repr, c_nes, beq_self_eq_true, sl_part, fin_lastF, D2_last, dE_compE, cE_nil, cE_cons, oN_some, bindN_ok, cPut_l, cPut_2, cPut_3, cEnd_l, cEnd_2, cEnd_3, dS_forE, fE_nil, fE_cons, oF_some, lpR_nx, lpR_ct, lpR_bk, lpR_rt, lpR_ex, tg2, tg3, len2, len3, *])


end Law03

set_option Elab.async false
set_option linter.all false
set_option maxRecDepth 100000
set_option maxHeartbeats 1000000
set_option exponentiation.threshold 20000
namespace Law03
open PySem Rk
local macro_rules | `(tactic| walk_at "szc") => `(tactic| first | assumption | (apply sz_add <;> walk_at "szc") | (apply sz_sub <;> walk_at "szc") | (apply sz_mul <;> walk_at "szc") | (apply sz_div <;> walk_at "szc") | exact sz_c1 | exact sz_c2 | exact sz_ch | exact sz_c0 | (apply sz_neg; walk_at "szc"))
local macro_rules | `(tactic| walk_at "sz") => `(tactic| first | assumption | decide | (apply SzR.mono; (walk_at "szc"); decide) | (simp only [List.length_cons, List.length_nil, List.length_append, Nat.reduceAdd, Nat.reduceLT, Nat.reduceLeDiff]; done))
local macro_rules | `(tactic| walk_at "go") => `(tactic| simp (disch := walk_at "sz") only [tp0, ls0, tp1, ls1, tp2, ls2, tp3, ls3, tp4, ls4, tp5, ls5, tp6, ls6, tp7, ls7, tp8, ls8, tp9, ls9, tp10, ls10, tp11, ls11, tp12, ls12, denF_eq, dSs_nil, dSs_cons, nxS_nx, nxS_rt, nxS_ex, nxS_bk, nxS_ct, lift_ok, lift_ex, oE_some, dS_asg, dS_par, dS_ret, dS_retN, dS_ex, dS_raise, dS_brk, dS_cnt, dS_pass, dS_ife, tgt_nm, set_nil, set_cons, dI_seq, dI_rng1, nI_some, iI_some, int_int, it_list, it_tup, it_f, fin_p, endF_nx, endF_rt, endF_ex, bind_ok, bind_ex, D1_p, D2_pp, mD_some, mkD_f, pD_some, dE_cst, dE_glob, dE_var, vR_ok, dE_bin, dE_neg, negV_int, tR_bool, tR_int, tR_none, tR_list, tR_tup, dE_not, dE_and, dE_or, andR_t, andR_f, orR_t, orR_f, andR_b, orR_b, oB_some, dE_cmp, dE_chain, chR_t, chR_f, chR_b, oC_some, dE_ife, ifR_t, ifR_f, dE_call, dE_b1, dE_b2, dE_idx, dE_isi, dE_tup, dE_lst, dEs_nil, dEs_cons, dats_nil, dats_cons, dT_none, dT_some, o_add, o_sub, c_lt, c_le, c_gt, c_ge, c_eqi, c_nei, u_abs, u_int, u_lenl, u_lent, u_tupl, u_tupt, x_tup, x_lst, a1_0, a2_0, a2_1, a3_0, a3_1, a3_2, a4_0, a4_1, a4_2, a4_3, List.length_cons, List.length_nil, List.map_cons, List.map_nil, List.replicate, List.cons_append, List.nil_append, List.getElem?_cons_zero, List.getElem?_cons_succ, List.set_cons_zero, List.set_cons_succ, Option.map_some, Nat.reduceSub, Nat.reduceAdd, List.take_length, List.isEmpty_nil, List.isEmpty_cons, Bool.not_true, Bool.not_false, wipe_nil, wipe_cons, tgt1, Int.reduceLT, Int.reduceLE, decide_true, decide_false, Bool.true_and, Bool.and_true, Bool.false_and, Bool.true_or, Bool.false_or, Bool.or_false, List.all_cons, List.all_nil, id_eq, nat_c0, nat_c1, nat_c2, nat_c3, nat_c4, nat_c5, Int.reduceEq, tgt2, tgt3, tgt4, c_isf, c_isn, c_inf, c_inn, c_iss, c_ins, Int.reduceMul, Int.reduceAdd, Int.reduceSub, fr_1, fr_0, fr_2, fr_h, x_f0, x_f1, u_tupf, u_lenf, c_eqfr, c_nefr, c_isfr, c_infr, o_mul, o_mod, o_div, n_le, n_ge, n_lt, n_gt, sp_add, sp_sub, sp_mul, sp_by, sp_isfr, sl_add, sl_sub, sl_mul, sl_by, List.take_succ_cons, List.take_zero, c_neb, c_eqb, c_isT, c_isF, c_insT, c_insF, u_repr, c_nes, beq_self_eq_true, sl_part, fin_lastF, D2_last])
local macro_rules | `(tactic| walk_at "gx") => `(tactic| simp (disch := walk_at "sz") only [tp0, ls0, tp1, ls1, tp2, ls2, tp3, ls3, tp4, ls4, tp5, ls5, tp6, ls6, tp7, ls7, tp8, ls8, tp9, ls9, tp10, ls10, tp11, ls11, tp12, ls12, denF_eq, dSs_nil, dSs_cons, nxS_nx, nxS_rt, nxS_ex, nxS_bk, nxS_ct, lift_ok, lift_ex, oE_some, dS_asg, dS_par, dS_ret, dS_retN, dS_ex, dS_raise, dS_brk, dS_cnt, dS_pass, dS_ife, tgt_nm, set_nil, set_cons, dI_seq, dI_rng1, nI_some, iI_some, int_int, it_list, it_tup, it_f, fin_p, endF_nx, endF_rt, endF_ex, bind_ok, bind_ex, D1_p, D2_pp, mD_some, mkD_f, pD_some, dE_cst, dE_glob, dE_var, vR_ok, dE_bin, dE_neg, negV_int, tR_bool, tR_int, tR_none, tR_list, tR_tup, dE_not, dE_and, dE_or, andR_t, andR_f, orR_t, orR_f, andR_b, orR_b, oB_some, dE_cmp, dE_chain, chR_t, chR_f, chR_b, oC_some, dE_ife, ifR_t, ifR_f, dE_call, dE_b1, dE_b2, dE_idx, dE_isi, dE_tup, dE_lst, dEs_nil, dEs_cons, dats_nil, dats_cons, dT_none, dT_some, o_add, o_sub, c_lt, c_le, c_gt, c_ge, c_eqi, c_nei, u_abs, u_int, u_lenl, u_lent, u_tupl, u_tupt, x_tup, x_lst, a1_0, a2_0, a2_1, a3_0, a3_1, a3_2, a4_0, a4_1, a4_2, a4_3, List.length_cons, List.length_nil, List.map_cons, List.map_nil, List.replicate, List.cons_append, List.nil_append, List.getElem?_cons_zero, List.getElem?_cons_succ, List.set_cons_zero, List.set_cons_succ, Option.map_some, Nat.reduceSub, Nat.reduceAdd, List.take_length, List.isEmpty_nil, List.isEmpty_cons, Bool.not_true, Bool.not_false, wipe_nil, wipe_cons, tgt1, Int.reduceLT, Int.reduceLE, decide_true, decide_false, Bool.true_and, Bool.and_true, Bool.false_and, Bool.true_or, Bool.false_or, Bool.or_false, List.all_cons, List.all_nil, id_eq, nat_c0, nat_c1, nat_c2, nat_c3, nat_c4, nat_c5, Int.reduceEq, tgt2, tgt3, tgt4, c_isf, c_isn, c_inf, c_inn, c_iss, c_ins, Int.reduceMul, Int.reduceAdd, Int.reduceSub, fr_1, fr_0, fr_2, fr_h, x_f0, x_f1, u_tupf, u_lenf, c_eqfr, c_nefr, c_isfr, c_infr, o_mul, o_mod, o_div, n_le, n_ge, n_lt, n_gt, sp_add, sp_sub, sp_mul, sp_by, sp_isfr, sl_add, sl_sub, sl_mul, sl_by, List.take_succ_cons, List.take_zero, c_neb, c_eqb, c_isT, c_isF, c_insT, c_insF, u_repr, c_nes, beq_self_eq_true, sl_part, fin_lastF, D2_last, *])
local macro_rules | `(tactic| walk_at "un") => `(tactic| simp (disch := walk_at "sz") only [tp0, ls0, tp1, ls1, tp2, ls2, tp3, ls3, tp4, ls4, tp5, ls5, tp6, ls6, tp7, ls7, tp8, ls8, tp9, ls9, tp10, ls10, tp11, ls11, tp12, ls12, denF_eq, dSs_nil, dSs_cons, nxS_nx, nxS_rt, nxS_ex, nxS_bk, nxS_ct, lift_ok, lift_ex, oE_some, dS_asg, dS_par, dS_ret, dS_retN, dS_ex, dS_raise, dS_brk, dS_cnt, dS_pass, dS_ife, tgt_nm, set_nil, set_cons, dI_seq, dI_rng1, nI_some, iI_some, int_int, it_list, it_tup, it_f, fin_p, endF_nx, endF_rt, endF_ex, bind_ok, bind_ex, D1_p, D2_pp, mD_some, mkD_f, pD_some, dE_cst, dE_glob, dE_var, vR_ok, dE_bin, dE_neg, negV_int, tR_bool, tR_int, tR_none, tR_list, tR_tup, dE_not, dE_and, dE_or, andR_t, andR_f, orR_t, orR_f, andR_b, orR_b, oB_some, dE_cmp, dE_chain, chR_t, chR_f, chR_b, oC_some, dE_ife, ifR_t, ifR_f, dE_call, dE_b1, dE_b2, dE_idx, dE_isi, dE_tup, dE_lst, dEs_nil, dEs_cons, dats_nil, dats_cons, dT_none, dT_some, o_add, o_sub, c_lt, c_le, c_gt, c_ge, c_eqi, c_nei, u_abs, u_int, u_lenl, u_lent, u_tupl, u_tupt, x_tup, x_lst, a1_0, a2_0, a2_1, a3_0, a3_1, a3_2, a4_0, a4_1, a4_2, a4_3, List.length_cons, List.length_nil, List.map_cons, List.map_nil, List.replicate, List.cons_append, List.nil_append, List.getElem?_cons_zero, List.getElem?_cons_succ, List.set_cons_zero, List.set_cons_succ, Option.map_some, Nat.reduceSub, Nat.reduceAdd, List.take_length, List.isEmpty_nil, List.isEmpty_cons, Bool.not_true, Bool.not_false, wipe_nil, wipe_cons, tgt1, Int.reduceLT, Int.reduceLE, decide_true, decide_false, Bool.true_and, Bool.and_true, Bool.false_and, Bool.true_or, Bool.false_or, Bool.or_false, List.all_cons, List.all_nil, id_eq, nat_c0, nat_c1, nat_c2, nat_c3, nat_c4, nat_c5, Int.reduceEq, tgt2, tgt3, tgt4, c_isf, c_isn, c_inf, c_inn, c_iss, c_ins, Int.reduceMul, Int.reduceAdd, Int.reduceSub, fr_1, fr_0, fr_2, fr_h, x_f0, x_f1, u_tupf, u_lenf, c_eqfr, c_nefr, c_isfr, c_infr, o_mul, o_mod, o_div, n_le, n_ge, n_lt, n_gt, sp_add, sp_sub, sp_mul, sp_by, sp_isfr, sl_add, sl_sub, sl_mul, sl_by, List.take_succ_cons, List.take_zero, c_neb, c_eqb, c_isT, c_isF, c_insT, c_insF, u_repr, c_nes, beq_self_eq_true, sl_part, fin_lastF, D2_last, dE_compE, cE_nil, cE_cons, oN_some, bindN_ok, cPut_l, cPut_2, cPut_3, cEnd_l, cEnd_2, cEnd_3, dS_forE, fE_nil, fE_cons, oF_some, lpR_nx, lpR_ct, lpR_bk, lpR_rt, lpR_ex, tg2, tg3, len2, len3])
local macro_rules | `(tactic| walk_at "ux") => `(tactic| simp (disch := walk_at "sz") only [tp0, ls0, tp1, ls1, tp2, ls2, tp3, ls3, tp4, ls4, tp5, ls5, tp6, ls6, tp7, ls7, tp8, ls8, tp9, ls9, tp10, ls10, tp11, ls11, tp12, ls12, denF_eq, dSs_nil, dSs_cons, nxS_nx, nxS_rt, nxS_ex, nxS_bk, nxS_ct, lift_ok, lift_ex, oE_some, dS_asg, dS_par, dS_ret, dS_retN, dS_ex, dS_raise, dS_brk, dS_cnt, dS_pass, dS_ife, tgt_nm, set_nil, set_cons, dI_seq, dI_rng1, nI_some, iI_some, int_int, it_list, it_tup, it_f, fin_p, endF_nx, endF_rt, endF_ex, bind_ok, bind_ex, D1_p, D2_pp, mD_some, mkD_f, pD_some, dE_cst, dE_glob, dE_var, vR_ok, dE_bin, dE_neg, negV_int, tR_bool, tR_int, tR_none, tR_list, tR_tup, dE_not, dE_and, dE_or, andR_t, andR_f, orR_t, orR_f, andR_b, orR_b, oB_some, dE_cmp, dE_chain, chR_t, chR_f, chR_b, oC_some, dE_ife, ifR_t, ifR_f, dE_call, dE_b1, dE_b2, dE_idx, dE_isi, dE_tup, dE_lst, dEs_nil, dEs_cons, dats_nil, dats_cons, dT_none, dT_some, o_add, o_sub, c_lt, c_le, c_gt, c_ge, c_eqi, c_nei, u_abs, u_int, u_lenl, u_lent, u_tupl, u_tupt, x_tup, x_lst, a1_0, a2_0, a2_1, a3_0, a3_1, a3_2, a4_0, a4_1, a4_2, a4_3, List.length_cons, List.length_nil, List.map_cons, List.map_nil, List.replicate, List.cons_append, List.nil_append, List.getElem?_cons_zero, List.getElem?_cons_succ, List.set_cons_zero, List.set_cons_succ, Option.map_some, Nat.reduceSub, Nat.reduceAdd, List.take_length, List.isEmpty_nil, List.isEmpty_cons, Bool.not_true, Bool.not_false, wipe_nil, wipe_cons, tgt1, Int.reduceLT, Int.reduceLE, decide_true, decide_false, Bool.true_and, Bool.and_true, Bool.false_and, Bool.true_or, Bool.false_or, Bool.or_false, List.all_cons, List.all_nil, id_eq, nat_c0, nat_c1, nat_c2, nat_c3, nat_c4, nat_c5, Int.reduceEq, tgt2, tgt3, tgt4, c_isf, c_isn, c_inf, c_inn, c_iss, c_ins, Int.reduceMul, Int.reduceAdd, Int.reduceSub, fr_1, fr_0, fr_2, fr_h, x_f0, x_f1, u_tupf, u_lenf, c_eqfr, c_nefr, c_isfr, c_infr, o_mul, o_mod, o_div, n_le, n_ge, n_lt, n_gt, sp_add, sp_sub, sp_mul, sp_by, sp_isfr, sl_add, sl_sub, sl_mul, sl_by, List.take_succ_cons, List.take_zero, c_neb, c_eqb, c_isT, c_isF, c_insT, c_insF, u_repr, c_nes, beq_self_eq_true, sl_part, fin_lastF, D2_last, dE_compE, cE_nil, cE_cons, oN_some, bindN_ok, cPut_l, cPut_2, cPut_3, cEnd_l, cEnd_2, cEnd_3, dS_forE, fE_nil, fE_cons, oF_some, lpR_nx, lpR_ct, lpR_bk, lpR_rt, lpR_ex, tg2, tg3, len2, len3, *])
/-! ### the program's defs -/
def Ch (e : Rat) : Prop := 0 ≤ e ∧ e ≤ 1
theorem num_le_den {q : Rat} : decide (q.num ≤ (q.den : Int)) = decide (q ≤ 1) := by
  congr 1
  rw [Rat.le_iff q 1]
  have e : (1 : Rat).num = 1 := rfl
  have e2 : (1 : Rat).den = 1 := rfl
  rw [e, e2]
  exact propext ⟨fun h => by omega, fun h => by omega⟩
theorem num_lt_den {q : Rat} : decide (q.num < (q.den : Int)) = decide (q < 1) := by
  congr 1
  rw [Rat.lt_iff q 1]
  have e : (1 : Rat).num = 1 := rfl
  have e2 : (1 : Rat).den = 1 := rfl
  rw [e, e2]
  exact propext ⟨fun h => by omega, fun h => by omega⟩
theorem num_eq_den {q : Rat} : decide (q.num = (q.den : Int)) = decide (q = 1) := by
  congr 1
  refine propext ⟨fun h => ?_, fun h => by rw [h]; rfl⟩
  have h1 := Rat.le_iff q 1
  have h2 := Rat.le_iff 1 q
  have e : (1 : Rat).num = 1 := rfl
  have e2 : (1 : Rat).den = 1 := rfl
  rw [e, e2] at h1 h2
  have a : q ≤ 1 := h1.mpr (by omega)
  have b : 1 ≤ q := h2.mpr (by omega)
  grind
theorem num_eq0 (q : Rat) : decide (q.num = 0) = decide (q = 0) := by
  congr 1
  exact propext Rat.num_eq_zero
theorem sub_ge (a b : Rat) : decide (0 ≤ a - b) = decide (b ≤ a) := by
  congr 1
  exact propext ⟨fun h => by grind, fun h => by grind⟩
theorem sub_lt (a b : Rat) : decide (a - b < 0) = decide (a < b) := by
  congr 1
  exact propext ⟨fun h => by grind, fun h => by grind⟩
theorem sub_gt (a b : Rat) : decide (0 < a - b) = decide (b < a) := by
  congr 1
  exact propext ⟨fun h => by grind, fun h => by grind⟩
local macro_rules | `(tactic| walk_at "go") => `(tactic| simp (disch := walk_at "sz") only [tp0, ls0, tp1, ls1, tp2, ls2, tp3, ls3, tp4, ls4, tp5, ls5, tp6, ls6, tp7, ls7, tp8, ls8, tp9, ls9, tp10, ls10, tp11, ls11, tp12, ls12, denF_eq, dSs_nil, dSs_cons, nxS_nx, nxS_rt, nxS_ex, nxS_bk, nxS_ct, lift_ok, lift_ex, oE_some, dS_asg, dS_par, dS_ret, dS_retN, dS_ex, dS_raise, dS_brk, dS_cnt, dS_pass, dS_ife, tgt_nm, set_nil, set_cons, dI_seq, dI_rng1, nI_some, iI_some, int_int, it_list, it_tup, it_f, fin_p, endF_nx, endF_rt, endF_ex, bind_ok, bind_ex, D1_p, D2_pp, mD_some, mkD_f, pD_some, dE_cst, dE_glob, dE_var, vR_ok, dE_bin, dE_neg, negV_int, tR_bool, tR_int, tR_none, tR_list, tR_tup, dE_not, dE_and, dE_or, andR_t, andR_f, orR_t, orR_f, andR_b, orR_b, oB_some, dE_cmp, dE_chain, chR_t, chR_f, chR_b, oC_some, dE_ife, ifR_t, ifR_f, dE_call, dE_b1, dE_b2, dE_idx, dE_isi, dE_tup, dE_lst, dEs_nil, dEs_cons, dats_nil, dats_cons, dT_none, dT_some, o_add, o_sub, c_lt, c_le, c_gt, c_ge, c_eqi, c_nei, u_abs, u_int, u_lenl, u_lent, u_tupl, u_tupt, x_tup, x_lst, a1_0, a2_0, a2_1, a3_0, a3_1, a3_2, a4_0, a4_1, a4_2, a4_3, List.length_cons, List.length_nil, List.map_cons, List.map_nil, List.replicate, List.cons_append, List.nil_append, List.getElem?_cons_zero, List.getElem?_cons_succ, List.set_cons_zero, List.set_cons_succ, Option.map_some, Nat.reduceSub, Nat.reduceAdd, List.take_length, List.isEmpty_nil, List.isEmpty_cons, Bool.not_true, Bool.not_false, wipe_nil, wipe_cons, tgt1, Int.reduceLT, Int.reduceLE, decide_true, decide_false, Bool.true_and, Bool.and_true, Bool.false_and, Bool.true_or, Bool.false_or, Bool.or_false, List.all_cons, List.all_nil, id_eq, nat_c0, nat_c1, nat_c2, nat_c3, nat_c4, nat_c5, Int.reduceEq, tgt2, tgt3, tgt4, c_isf, c_isn, c_inf, c_inn, c_iss, c_ins, Int.reduceMul, Int.reduceAdd, Int.reduceSub, fr_1, fr_0, fr_2, fr_h, x_f0, x_f1, u_tupf, u_lenf, c_eqfr, c_nefr, c_isfr, c_infr, o_mul, o_mod, o_div, n_le, n_ge, n_lt, n_gt, sp_add, sp_sub, sp_mul, sp_by, sp_isfr, sl_add, sl_sub, sl_mul, sl_by, List.take_succ_cons, List.take_zero, c_neb, c_eqb, c_isT, c_isF, c_insT, c_insF, u_repr, c_nes, beq_self_eq_true, sl_part, fin_lastF, D2_last, num_le_den, num_lt_den, num_eq_den, num_eq0, sub_ge, sub_lt, sub_gt])
local macro_rules | `(tactic| walk_at "gx") => `(tactic| simp (disch := walk_at "sz") only [tp0, ls0, tp1, ls1, tp2, ls2, tp3, ls3, tp4, ls4, tp5, ls5, tp6, ls6, tp7, ls7, tp8, ls8, tp9, ls9, tp10, ls10, tp11, ls11, tp12, ls12, denF_eq, dSs_nil, dSs_cons, nxS_nx, nxS_rt, nxS_ex, nxS_bk, nxS_ct, lift_ok, lift_ex, oE_some, dS_asg, dS_par, dS_ret, dS_retN, dS_ex, dS_raise, dS_brk, dS_cnt, dS_pass, dS_ife, tgt_nm, set_nil, set_cons, dI_seq, dI_rng1, nI_some, iI_some, int_int, it_list, it_tup, it_f, fin_p, endF_nx, endF_rt, endF_ex, bind_ok, bind_ex, D1_p, D2_pp, mD_some, mkD_f, pD_some, dE_cst, dE_glob, dE_var, vR_ok, dE_bin, dE_neg, negV_int, tR_bool, tR_int, tR_none, tR_list, tR_tup, dE_not, dE_and, dE_or, andR_t, andR_f, orR_t, orR_f, andR_b, orR_b, oB_some, dE_cmp, dE_chain, chR_t, chR_f, chR_b, oC_some, dE_ife, ifR_t, ifR_f, dE_call, dE_b1, dE_b2, dE_idx, dE_isi, dE_tup, dE_lst, dEs_nil, dEs_cons, dats_nil, dats_cons, dT_none, dT_some, o_add, o_sub, c_lt, c_le, c_gt, c_ge, c_eqi, c_nei, u_abs, u_int, u_lenl, u_lent, u_tupl, u_tupt, x_tup, x_lst, a1_0, a2_0, a2_1, a3_0, a3_1, a3_2, a4_0, a4_1, a4_2, a4_3, List.length_cons, List.length_nil, List.map_cons, List.map_nil, List.replicate, List.cons_append, List.nil_append, List.getElem?_cons_zero, List.getElem?_cons_succ, List.set_cons_zero, List.set_cons_succ, Option.map_some, Nat.reduceSub, Nat.reduceAdd, List.take_length, List.isEmpty_nil, List.isEmpty_cons, Bool.not_true, Bool.not_false, wipe_nil, wipe_cons, tgt1, Int.reduceLT, Int.reduceLE, decide_true, decide_false, Bool.true_and, Bool.and_true, Bool.false_and, Bool.true_or, Bool.false_or, Bool.or_false, List.all_cons, List.all_nil, id_eq, nat_c0, nat_c1, nat_c2, nat_c3, nat_c4, nat_c5, Int.reduceEq, tgt2, tgt3, tgt4, c_isf, c_isn, c_inf, c_inn, c_iss, c_ins, Int.reduceMul, Int.reduceAdd, Int.reduceSub, fr_1, fr_0, fr_2, fr_h, x_f0, x_f1, u_tupf, u_lenf, c_eqfr, c_nefr, c_isfr, c_infr, o_mul, o_mod, o_div, n_le, n_ge, n_lt, n_gt, sp_add, sp_sub, sp_mul, sp_by, sp_isfr, sl_add, sl_sub, sl_mul, sl_by, List.take_succ_cons, List.take_zero, c_neb, c_eqb, c_isT, c_isF, c_insT, c_insF, u_repr, c_nes, beq_self_eq_true, sl_part, fin_lastF, D2_last, num_le_den, num_lt_den, num_eq_den, num_eq0, sub_ge, sub_lt, sub_gt, *])
local macro_rules | `(tactic| walk_at "un") => `(tactic| simp (disch := walk_at "sz") only [tp0, ls0, tp1, ls1, tp2, ls2, tp3, ls3, tp4, ls4, tp5, ls5, tp6, ls6, tp7, ls7, tp8, ls8, tp9, ls9, tp10, ls10, tp11, ls11, tp12, ls12, denF_eq, dSs_nil, dSs_cons, nxS_nx, nxS_rt, nxS_ex, nxS_bk, nxS_ct, lift_ok, lift_ex, oE_some, dS_asg, dS_par, dS_ret, dS_retN, dS_ex, dS_raise, dS_brk, dS_cnt, dS_pass, dS_ife, tgt_nm, set_nil, set_cons, dI_seq, dI_rng1, nI_some, iI_some, int_int, it_list, it_tup, it_f, fin_p, endF_nx, endF_rt, endF_ex, bind_ok, bind_ex, D1_p, D2_pp, mD_some, mkD_f, pD_some, dE_cst, dE_glob, dE_var, vR_ok, dE_bin, dE_neg, negV_int, tR_bool, tR_int, tR_none, tR_list, tR_tup, dE_not, dE_and, dE_or, andR_t, andR_f, orR_t, orR_f, andR_b, orR_b, oB_some, dE_cmp, dE_chain, chR_t, chR_f, chR_b, oC_some, dE_ife, ifR_t, ifR_f, dE_call, dE_b1, dE_b2, dE_idx, dE_isi, dE_tup, dE_lst, dEs_nil, dEs_cons, dats_nil, dats_cons, dT_none, dT_some, o_add, o_sub, c_lt, c_le, c_gt, c_ge, c_eqi, c_nei, u_abs, u_int, u_lenl, u_lent, u_tupl, u_tupt, x_tup, x_lst, a1_0, a2_0, a2_1, a3_0, a3_1, a3_2, a4_0, a4_1, a4_2, a4_3, List.length_cons, List.length_nil, List.map_cons, List.map_nil, List.replicate, List.cons_append, List.nil_append, List.getElem?_cons_zero, List.getElem?_cons_succ, List.set_cons_zero, List.set_cons_succ, Option.map_some, Nat.reduceSub, Nat.reduceAdd, List.take_length, List.isEmpty_nil, List.isEmpty_cons, Bool.not_true, Bool.not_false, wipe_nil, wipe_cons, tgt1, Int.reduceLT, Int.reduceLE, decide_true, decide_false, Bool.true_and, Bool.and_true, Bool.false_and, Bool.true_or, Bool.false_or, Bool.or_false, List.all_cons, List.all_nil, id_eq, nat_c0, nat_c1, nat_c2, nat_c3, nat_c4, nat_c5, Int.reduceEq, tgt2, tgt3, tgt4, c_isf, c_isn, c_inf, c_inn, c_iss, c_ins, Int.reduceMul, Int.reduceAdd, Int.reduceSub, fr_1, fr_0, fr_2, fr_h, x_f0, x_f1, u_tupf, u_lenf, c_eqfr, c_nefr, c_isfr, c_infr, o_mul, o_mod, o_div, n_le, n_ge, n_lt, n_gt, sp_add, sp_sub, sp_mul, sp_by, sp_isfr, sl_add, sl_sub, sl_mul, sl_by, List.take_succ_cons, List.take_zero, c_neb, c_eqb, c_isT, c_isF, c_insT, c_insF, u_repr, c_nes, beq_self_eq_true, sl_part, fin_lastF, D2_last, num_le_den, num_lt_den, num_eq_den, num_eq0, sub_ge, sub_lt, sub_gt, dE_compE, cE_nil, cE_cons, oN_some, bindN_ok, cPut_l, cPut_2, cPut_3, cEnd_l, cEnd_2, cEnd_3, dS_forE, fE_nil, fE_cons, oF_some, lpR_nx, lpR_ct, lpR_bk, lpR_rt, lpR_ex, tg2, tg3, len2, len3])
local macro_rules | `(tactic| walk_at "ux") => `(tactic| simp (disch := walk_at "sz") only [tp0, ls0, tp1, ls1, tp2, ls2, tp3, ls3, tp4, ls4, tp5, ls5, tp6, ls6, tp7, ls7, tp8, ls8, tp9, ls9, tp10, ls10, tp11, ls11, tp12, ls12, denF_eq, dSs_nil, dSs_cons, nxS_nx, nxS_rt, nxS_ex, nxS_bk, nxS_ct, lift_ok, lift_ex, oE_some, dS_asg, dS_par, dS_ret, dS_retN, dS_ex, dS_raise, dS_brk, dS_cnt, dS_pass, dS_ife, tgt_nm, set_nil, set_cons, dI_seq, dI_rng1, nI_some, iI_some, int_int, it_list, it_tup, it_f, fin_p, endF_nx, endF_rt, endF_ex, bind_ok, bind_ex, D1_p, D2_pp, mD_some, mkD_f, pD_some, dE_cst, dE_glob, dE_var, vR_ok, dE_bin, dE_neg, negV_int, tR_bool, tR_int, tR_none, tR_list, tR_tup, dE_not, dE_and, dE_or, andR_t, andR_f, orR_t, orR_f, andR_b, orR_b, oB_some, dE_cmp, dE_chain, chR_t, chR_f, chR_b, oC_some, dE_ife, ifR_t, ifR_f, dE_call, dE_b1, dE_b2, dE_idx, dE_isi, dE_tup, dE_lst, dEs_nil, dEs_cons, dats_nil, dats_cons, dT_none, dT_some, o_add, o_sub, c_lt, c_le, c_gt, c_ge, c_eqi, c_nei, u_abs, u_int, u_lenl, u_lent, u_tupl, u_tupt, x_tup, x_lst, a1_0, a2_0, a2_1, a3_0, a3_1, a3_2, a4_0, a4_1, a4_2, a4_3, List.length_cons, List.length_nil, List.map_cons, List.map_nil, List.replicate, List.cons_append, List.nil_append, List.getElem?_cons_zero, List.getElem?_cons_succ, List.set_cons_zero, List.set_cons_succ, Option.map_some, Nat.reduceSub, Nat.reduceAdd, List.take_length, List.isEmpty_nil, List.isEmpty_cons, Bool.not_true, Bool.not_false, wipe_nil, wipe_cons, tgt1, Int.reduceLT, Int.reduceLE, decide_true, decide_false, Bool.true_and, Bool.and_true, Bool.false_and, Bool.true_or, Bool.false_or, Bool.or_false, List.all_cons, List.all_nil, id_eq, nat_c0, nat_c1, nat_c2, nat_c3, nat_c4, nat_c5, Int.reduceEq, tgt2, tgt3, tgt4, c_isf, c_isn, c_inf, c_inn, c_iss, c_ins, Int.reduceMul, Int.reduceAdd, Int.reduceSub, fr_1, fr_0, fr_2, fr_h, x_f0, x_f1, u_tupf, u_lenf, c_eqfr, c_nefr, c_isfr, c_infr, o_mul, o_mod, o_div, n_le, n_ge, n_lt, n_gt, sp_add, sp_sub, sp_mul, sp_by, sp_isfr, sl_add, sl_sub, sl_mul, sl_by, List.take_succ_cons, List.take_zero, c_neb, c_eqb, c_isT, c_isF, c_insT, c_insF, u_repr, c_nes, beq_self_eq_true, sl_part, fin_lastF, D2_last, num_le_den, num_lt_den, num_eq_den, num_eq0, sub_ge, sub_lt, sub_gt, dE_compE, cE_nil, cE_cons, oN_some, bindN_ok, cPut_l, cPut_2, cPut_3, cEnd_l, cEnd_2, cEnd_3, dS_forE, fE_nil, fE_cons, oF_some, lpR_nx, lpR_ct, lpR_bk, lpR_rt, lpR_ex, tg2, tg3, len2, len3, *])

/-- a speed with a mass -/
def pcP (p : Rat × Rat) : PyData := .tuple [frP p.1, frP p.2]
theorem mk_pc (a b : Rat) : PyData.tuple [frP a, frP b] = pcP (a, b) := id rfl
theorem x_pc0 (p : Rat × Rat) : idxD (pcP p) (.int 0) = some (frP p.1) := id rfl
theorem x_pc1 (p : Rat × Rat) : idxD (pcP p) (.int 1) = some (frP p.2) := id rfl
theorem len_pc (p : Rat × Rat) : b1D .len (pcP p) = some (.int 2) := id rfl
theorem tup_pc (p : Rat × Rat) : b1D .tup (pcP p) = some (pcP p) := id rfl
theorem tv_pc (i j : Nat) (p : Rat × Rat) (e : Rk.Env) (st : Store) : tgtV (.tp [.nm i, .nm j]) (.p (pcP p)) e st = some ((e.set i (some (.p (frP p.1)))).set j (some (.p (frP p.2)))) := id rfl
theorem tv_22 (i j k l : Nat) (p q : Rat × Rat) (e : Rk.Env) (st : Store) : tgtV (.tp [.tp [.nm i, .nm j], .tp [.nm k, .nm l]]) (.p (.tuple [pcP p, pcP q])) e st = some ((((e.set i (some (.p (frP p.1)))).set j (some (.p (frP p.2)))).set k (some (.p (frP q.1)))).set l (some (.p (frP q.2)))) := id rfl
local macro_rules | `(tactic| walk_at "go") => `(tactic| simp (disch := walk_at "sz") only [tp0, ls0, tp1, ls1, tp2, ls2, tp3, ls3, tp4, ls4, tp5, ls5, tp6, ls6, tp7, ls7, tp8, ls8, tp9, ls9, tp10, ls10, tp11, ls11, tp12, ls12, denF_eq, dSs_nil, dSs_cons, nxS_nx, nxS_rt, nxS_ex, nxS_bk, nxS_ct, lift_ok, lift_ex, oE_some, dS_asg, dS_par, dS_ret, dS_retN, dS_ex, dS_raise, dS_brk, dS_cnt, dS_pass, dS_ife, tgt_nm, set_nil, set_cons, dI_seq, dI_rng1, nI_some, iI_some, int_int, it_list, it_tup, it_f, fin_p, endF_nx, endF_rt, endF_ex, bind_ok, bind_ex, D1_p, D2_pp, mD_some, mkD_f, pD_some, dE_cst, dE_glob, dE_var, vR_ok, dE_bin, dE_neg, negV_int, tR_bool, tR_int, tR_none, tR_list, tR_tup, dE_not, dE_and, dE_or, andR_t, andR_f, orR_t, orR_f, andR_b, orR_b, oB_some, dE_cmp, dE_chain, chR_t, chR_f, chR_b, oC_some, dE_ife, ifR_t, ifR_f, dE_call, dE_b1, dE_b2, dE_idx, dE_isi, dE_tup, dE_lst, dEs_nil, dEs_cons, dats_nil, dats_cons, dT_none, dT_some, o_add, o_sub, c_lt, c_le, c_gt, c_ge, c_eqi, c_nei, u_abs, u_int, u_lenl, u_lent, u_tupl, u_tupt, x_tup, x_lst, a1_0, a2_0, a2_1, a3_0, a3_1, a3_2, a4_0, a4_1, a4_2, a4_3, List.length_cons, List.length_nil, List.map_cons, List.map_nil, List.replicate, List.cons_append, List.nil_append, List.getElem?_cons_zero, List.getElem?_cons_succ, List.set_cons_zero, List.set_cons_succ, Option.map_some, Nat.reduceSub, Nat.reduceAdd, List.take_length, List.isEmpty_nil, List.isEmpty_cons, Bool.not_true, Bool.not_false, wipe_nil, wipe_cons, tgt1, Int.reduceLT, Int.reduceLE, decide_true, decide_false, Bool.true_and, Bool.and_true, Bool.false_and, Bool.true_or, Bool.false_or, Bool.or_false, List.all_cons, List.all_nil, id_eq, nat_c0, nat_c1, nat_c2, nat_c3, nat_c4, nat_c5, Int.reduceEq, tgt2, tgt3, tgt4, c_isf, c_isn, c_inf, c_inn, c_iss, c_ins, Int.reduceMul, Int.reduceAdd, Int.reduceSub, fr_1, fr_0, fr_2, fr_h, x_f0, x_f1, u_tupf, u_lenf, c_eqfr, c_nefr, c_isfr, c_infr, o_mul, o_mod, o_div, n_le, n_ge, n_lt, n_gt, sp_add, sp_sub, sp_mul, sp_by, sp_isfr, sl_add, sl_sub, sl_mul, sl_by, List.take_succ_cons, List.take_zero, c_neb, c_eqb, c_isT, c_isF, c_insT, c_insF, u_repr, c_nes, beq_self_eq_true, sl_part, fin_lastF, D2_last, num_le_den, num_lt_den, num_eq_den, num_eq0, sub_ge, sub_lt, sub_gt, mk_pc, x_pc0, x_pc1, len_pc, tup_pc, tv_pc, tv_22])
local macro_rules | `(tactic| walk_at "gx") => `(tactic| simp (disch := walk_at "sz") only [tp0, ls0, tp1, ls1, tp2, ls2, tp3, ls3, tp4, ls4, tp5, ls5, tp6, ls6, tp7, ls7, tp8, ls8, tp9, ls9, tp10, ls10, tp11, ls11, tp12, ls12, denF_eq, dSs_nil, dSs_cons, nxS_nx, nxS_rt, nxS_ex, nxS_bk, nxS_ct, lift_ok, lift_ex, oE_some, dS_asg, dS_par, dS_ret, dS_retN, dS_ex, dS_raise, dS_brk, dS_cnt, dS_pass, dS_ife, tgt_nm, set_nil, set_cons, dI_seq, dI_rng1, nI_some, iI_some, int_int, it_list, it_tup, it_f, fin_p, endF_nx, endF_rt, endF_ex, bind_ok, bind_ex, D1_p, D2_pp, mD_some, mkD_f, pD_some, dE_cst, dE_glob, dE_var, vR_ok, dE_bin, dE_neg, negV_int, tR_bool, tR_int, tR_none, tR_list, tR_tup, dE_not, dE_and, dE_or, andR_t, andR_f, orR_t, orR_f, andR_b, orR_b, oB_some, dE_cmp, dE_chain, chR_t, chR_f, chR_b, oC_some, dE_ife, ifR_t, ifR_f, dE_call, dE_b1, dE_b2, dE_idx, dE_isi, dE_tup, dE_lst, dEs_nil, dEs_cons, dats_nil, dats_cons, dT_none, dT_some, o_add, o_sub, c_lt, c_le, c_gt, c_ge, c_eqi, c_nei, u_abs, u_int, u_lenl, u_lent, u_tupl, u_tupt, x_tup, x_lst, a1_0, a2_0, a2_1, a3_0, a3_1, a3_2, a4_0, a4_1, a4_2, a4_3, List.length_cons, List.length_nil, List.map_cons, List.map_nil, List.replicate, List.cons_append, List.nil_append, List.getElem?_cons_zero, List.getElem?_cons_succ, List.set_cons_zero, List.set_cons_succ, Option.map_some, Nat.reduceSub, Nat.reduceAdd, List.take_length, List.isEmpty_nil, List.isEmpty_cons, Bool.not_true, Bool.not_false, wipe_nil, wipe_cons, tgt1, Int.reduceLT, Int.reduceLE, decide_true, decide_false, Bool.true_and, Bool.and_true, Bool.false_and, Bool.true_or, Bool.false_or, Bool.or_false, List.all_cons, List.all_nil, id_eq, nat_c0, nat_c1, nat_c2, nat_c3, nat_c4, nat_c5, Int.reduceEq, tgt2, tgt3, tgt4, c_isf, c_isn, c_inf, c_inn, c_iss, c_ins, Int.reduceMul, Int.reduceAdd, Int.reduceSub, fr_1, fr_0, fr_2, fr_h, x_f0, x_f1, u_tupf, u_lenf, c_eqfr, c_nefr, c_isfr, c_infr, o_mul, o_mod, o_div, n_le, n_ge, n_lt, n_gt, sp_add, sp_sub, sp_mul, sp_by, sp_isfr, sl_add, sl_sub, sl_mul, sl_by, List.take_succ_cons, List.take_zero, c_neb, c_eqb, c_isT, c_isF, c_insT, c_insF, u_repr, c_nes, beq_self_eq_true, sl_part, fin_lastF, D2_last, num_le_den, num_lt_den, num_eq_den, num_eq0, sub_ge, sub_lt, sub_gt, mk_pc, x_pc0, x_pc1, len_pc, tup_pc, tv_pc, tv_22, *])
local macro_rules | `(tactic| walk_at "un") => `(tactic| simp (disch := walk_at "sz") only [tp0, ls0, tp1, ls1, tp2, ls2, tp3, ls3, tp4, ls4, tp5, ls5, tp6, ls6, tp7, ls7, tp8, ls8, tp9, ls9, tp10, ls10, tp11, ls11, tp12, ls12, denF_eq, dSs_nil, dSs_cons, nxS_nx, nxS_rt, nxS_ex, nxS_bk, nxS_ct, lift_ok, lift_ex, oE_some, dS_asg, dS_par, dS_ret, dS_retN, dS_ex, dS_raise, dS_brk, dS_cnt, dS_pass, dS_ife, tgt_nm, set_nil, set_cons, dI_seq, dI_rng1, nI_some, iI_some, int_int, it_list, it_tup, it_f, fin_p, endF_nx, endF_rt, endF_ex, bind_ok, bind_ex, D1_p, D2_pp, mD_some, mkD_f, pD_some, dE_cst, dE_glob, dE_var, vR_ok, dE_bin, dE_neg, negV_int, tR_bool, tR_int, tR_none, tR_list, tR_tup, dE_not, dE_and, dE_or, andR_t, andR_f, orR_t, orR_f, andR_b, orR_b, oB_some, dE_cmp, dE_chain, chR_t, chR_f, chR_b, oC_some, dE_ife, ifR_t, ifR_f, dE_call, dE_b1, dE_b2, dE_idx, dE_isi, dE_tup, dE_lst, dEs_nil, dEs_cons, dats_nil, dats_cons, dT_none, dT_some, o_add, o_sub, c_lt, c_le, c_gt, c_ge, c_eqi, c_nei, u_abs, u_int, u_lenl, u_lent, u_tupl, u_tupt, x_tup, x_lst, a1_0, a2_0, a2_1, a3_0, a3_1, a3_2, a4_0, a4_1, a4_2, a4_3, List.length_cons, List.length_nil, List.map_cons, List.map_nil, List.replicate, List.cons_append, List.nil_append, List.getElem?_cons_zero, List.getElem?_cons_succ, List.set_cons_zero, List.set_cons_succ, Option.map_some, Nat.reduceSub, Nat.reduceAdd, List.take_length, List.isEmpty_nil, List.isEmpty_cons, Bool.not_true, Bool.not_false, wipe_nil, wipe_cons, tgt1, Int.reduceLT, Int.reduceLE, decide_true, decide_false, Bool.true_and, Bool.and_true, Bool.false_and, Bool.true_or, Bool.false_or, Bool.or_false, List.all_cons, List.all_nil, id_eq, nat_c0, nat_c1, nat_c2, nat_c3, nat_c4, nat_c5, Int.reduceEq, tgt2, tgt3, tgt4, c_isf, c_isn, c_inf, c_inn, c_iss, c_ins, Int.reduceMul, Int.reduceAdd, Int.reduceSub, fr_1, fr_0, fr_2, fr_h, x_f0, x_f1, u_tupf, u_lenf, c_eqfr, c_nefr, c_isfr, c_infr, o_mul, o_mod, o_div, n_le, n_ge, n_lt, n_gt, sp_add, sp_sub, sp_mul, sp_by, sp_isfr, sl_add, sl_sub, sl_mul, sl_by, List.take_succ_cons, List.take_zero, c_neb, c_eqb, c_isT, c_isF, c_insT, c_insF, u_repr, c_nes, beq_self_eq_true, sl_part, fin_lastF, D2_last, num_le_den, num_lt_den, num_eq_den, num_eq0, sub_ge, sub_lt, sub_gt, mk_pc, x_pc0, x_pc1, len_pc, tup_pc, tv_pc, tv_22, dE_compE, cE_nil, cE_cons, oN_some, bindN_ok, cPut_l, cPut_2, cPut_3, cEnd_l, cEnd_2, cEnd_3, dS_forE, fE_nil, fE_cons, oF_some, lpR_nx, lpR_ct, lpR_bk, lpR_rt, lpR_ex, tg2, tg3, len2, len3])
local macro_rules | `(tactic| walk_at "ux") => `(tactic| simp (disch := walk_at "sz") only [tp0, ls0, tp1, ls1, tp2, ls2, tp3, ls3, tp4, ls4, tp5, ls5, tp6, ls6, tp7, ls7, tp8, ls8, tp9, ls9, tp10, ls10, tp11, ls11, tp12, ls12, denF_eq, dSs_nil, dSs_cons, nxS_nx, nxS_rt, nxS_ex, nxS_bk, nxS_ct, lift_ok, lift_ex, oE_some, dS_asg, dS_par, dS_ret, dS_retN, dS_ex, dS_raise, dS_brk, dS_cnt, dS_pass, dS_ife, tgt_nm, set_nil, set_cons, dI_seq, dI_rng1, nI_some, iI_some, int_int, it_list, it_tup, it_f, fin_p, endF_nx, endF_rt, endF_ex, bind_ok, bind_ex, D1_p, D2_pp, mD_some, mkD_f, pD_some, dE_cst, dE_glob, dE_var, vR_ok, dE_bin, dE_neg, negV_int, tR_bool, tR_int, tR_none, tR_list, tR_tup, dE_not, dE_and, dE_or, andR_t, andR_f, orR_t, orR_f, andR_b, orR_b, oB_some, dE_cmp, dE_chain, chR_t, chR_f, chR_b, oC_some, dE_ife, ifR_t, ifR_f, dE_call, dE_b1, dE_b2, dE_idx, dE_isi, dE_tup, dE_lst, dEs_nil, dEs_cons, dats_nil, dats_cons, dT_none, dT_some, o_add, o_sub, c_lt, c_le, c_gt, c_ge, c_eqi, c_nei, u_abs, u_int, u_lenl, u_lent, u_tupl, u_tupt, x_tup, x_lst, a1_0, a2_0, a2_1, a3_0, a3_1, a3_2, a4_0, a4_1, a4_2, a4_3, List.length_cons, List.length_nil, List.map_cons, List.map_nil, List.replicate, List.cons_append, List.nil_append, List.getElem?_cons_zero, List.getElem?_cons_succ, List.set_cons_zero, List.set_cons_succ, Option.map_some, Nat.reduceSub, Nat.reduceAdd, List.take_length, List.isEmpty_nil, List.isEmpty_cons, Bool.not_true, Bool.not_false, wipe_nil, wipe_cons, tgt1, Int.reduceLT, Int.reduceLE, decide_true, decide_false, Bool.true_and, Bool.and_true, Bool.false_and, Bool.true_or, Bool.false_or, Bool.or_false, List.all_cons, List.all_nil, id_eq, nat_c0, nat_c1, nat_c2, nat_c3, nat_c4, nat_c5, Int.reduceEq, tgt2, tgt3, tgt4, c_isf, c_isn, c_inf, c_inn, c_iss, c_ins, Int.reduceMul, Int.reduceAdd, Int.reduceSub, fr_1, fr_0, fr_2, fr_h, x_f0, x_f1, u_tupf, u_lenf, c_eqfr, c_nefr, c_isfr, c_infr, o_mul, o_mod, o_div, n_le, n_ge, n_lt, n_gt, sp_add, sp_sub, sp_mul, sp_by, sp_isfr, sl_add, sl_sub, sl_mul, sl_by, List.take_succ_cons, List.take_zero, c_neb, c_eqb, c_isT, c_isF, c_insT, c_insF, u_repr, c_nes, beq_self_eq_true, sl_part, fin_lastF, D2_last, num_le_den, num_lt_den, num_eq_den, num_eq0, sub_ge, sub_lt, sub_gt, mk_pc, x_pc0, x_pc1, len_pc, tup_pc, tv_pc, tv_22, dE_compE, cE_nil, cE_cons, oN_some, bindN_ok, cPut_l, cPut_2, cPut_3, cEnd_l, cEnd_2, cEnd_3, dS_forE, fE_nil, fE_cons, oF_some, lpR_nx, lpR_ct, lpR_bk, lpR_rt, lpR_ex, tg2, tg3, len2, len3, *])

/-- speeds behind a hit -/
def aft (p q : Rat × Rat) (e : Rat) : Rat × Rat :=
  ((p.1 * p.2 + q.1 * q.2 + q.2 * (e * (q.1 - p.1))) / (p.2 + q.2), (p.1 * p.2 + q.1 * q.2 - p.2 * (e * (q.1 - p.1))) / (p.2 + q.2))
theorem sz_aft {b : Nat} {p q : Rat × Rat} {e : Rat} (h1 : SzR b p.1) (h2 : SzR 3 p.2) (h3 : SzR b q.1) (h4 : SzR 3 q.2) (he : SzR 3 e) : SzR (4 * b + 40) (aft p q e).1 ∧ SzR (4 * b + 40) (aft p q e).2 := by
  constructor
  · exact (sz_div (sz_add (sz_add (sz_mul h1 h2) (sz_mul h3 h4)) (sz_mul h4 (sz_mul he (sz_sub h3 h1)))) (sz_add h2 h4)).mono (by omega)
  · exact (sz_div (sz_sub (sz_add (sz_mul h1 h2) (sz_mul h3 h4)) (sz_mul h2 (sz_mul he (sz_sub h3 h1)))) (sz_add h2 h4)).mono (by omega)
theorem sz_aft1 {b : Nat} {p q : Rat × Rat} {e : Rat} (h1 : SzR b p.1) (h2 : SzR 3 p.2) (h3 : q.1 = 0) (h4 : SzR 3 q.2) (he : SzR 3 e) : SzR (2 * b + 40) (aft p q e).1 ∧ SzR (2 * b + 40) (aft p q e).2 := by
  have z : SzR 1 q.1 := by rw [h3]; exact sz_c0
  constructor
  · exact (sz_div (sz_add (sz_add (sz_mul h1 h2) (sz_mul z h4)) (sz_mul h4 (sz_mul he (sz_sub z h1)))) (sz_add h2 h4)).mono (by omega)
  · exact (sz_div (sz_sub (sz_add (sz_mul h1 h2) (sz_mul z h4)) (sz_mul h2 (sz_mul he (sz_sub z h1)))) (sz_add h2 h4)).mono (by omega)
theorem pq_ne {a b : Rat} (h1 : 0 < a) (h2 : 0 < b) : a + b ≠ 0 := by grind
theorem pq_pos {a b : Rat} (h1 : 0 < a) (h2 : 0 < b) : 0 < a + b := by grind
section
variable {st : Store} {p q : Rat × Rat} {e : Rat}
theorem sp_aft (m : Nat) (p q : Rat × Rat) (e : Rat) (h1 : SzR 900 p.1) (h2 : SzR 3 p.2) (h3 : SzR 900 q.1) (h4 : SzR 3 q.2) (he : SzR 3 e) (p0 : 0 < p.2) (q0 : 0 < q.2) : FT tab (m + 4) 11 [.p (pcP p), .p (pcP q), .p (frP e)] st = .ok (.p (pcP (aft p q e))) st := by
  have n0 := pq_ne p0 q0
  rw [t11, denF_eq (by rfl)]
  unfold f11
  walk_at "go"
  rfl
theorem sl_aft (m : Nat) (p q : Rat × Rat) (e : Rat) (h1 : SzR 900 p.1) (h2 : SzR 3 p.2) (h3 : SzR 900 q.1) (h4 : SzR 3 q.2) (he : SzR 3 e) (p0 : 0 < p.2) (q0 : 0 < q.2) : FT tab (m + 4) 41 [.p (pcP p), .p (pcP q), .p (frP e)] st = .ok (.p (pcP (aft p q e))) st := by
  have n0 := pq_pos p0 q0
  rw [t41, denF_eq (by rfl)]
  unfold f41
  walk_at "go"
  rfl
theorem sp_spring (m : Nat) (h : Ch e) (he : SzR 3 e) : FT tab (m + 4) 8 [.p (frP e)] st = .ok (.p .none) st := by
  have d1 : decide (0 ≤ e) = true := decide_eq_true h.1
  have d2 : decide (e ≤ 1) = true := decide_eq_true h.2
  rw [t8, denF_eq (by rfl)]
  unfold f8
  walk_at "go"
  rw [t7, denF_eq (by rfl)]
  unfold f7
  walk_at "gx"
/-- all above 0 -/
theorem sp_above (m : Nat) (L : List Rat) (h : ∀ q ∈ L, SzR 300 q ∧ 0 < q) (hl : L.length ≤ 100) (d : PyData) (hd : iterV (.p d) = some (L.map frP)) : FT tab (m + 3) 9 [.p d] st = .ok (.p .none) st := by
  have c1 := compA (T := FT tab (m + 2)) (e := [some (.p d), none]) (st := st) (own := [1]) (t := .nm 1) (it := .seq (.var 0)) (el := .and (.call 6 (.cons (.var 1) .nil)) (.cmp .Gt (.idx (.var 1) (.cst (.int 0))) (.cst (.int 0)))) (st1 := st) L frP (fun _ => .bool true) (by walk_at "go"; rw [hd]; walk_at "go") (fun z hz => ⟨_, rfl, fun st' => by
    obtain ⟨g1, g2⟩ := h z hz
    have d1 : decide (0 < z) = true := decide_eq_true g2
    walk_at "gx"⟩) (by omega)
  have al : b1D .all (.list (L.map fun _ => PyData.bool true)) = some (.bool true) := by
    rw [u_allA (fun _ => true)]
    congr 2
    simp
  rw [t9, denF_eq (by rfl)]
  unfold f9
  walk_at "go"
  rw [c1]
  walk_at "go"
  rw [al]
  walk_at "go"
theorem sp_above1 (m : Nat) {q : Rat} (h : SzR 300 q) (h0 : 0 < q) : FT tab (m + 3) 9 [.p (.list [frP q])] st = .ok (.p .none) st :=
  sp_above m [q] (fun x hx => by cases List.mem_singleton.mp hx; exact ⟨h, h0⟩) (by simp) _ rfl
theorem sp_two (m : Nat) (h1 : SzR 300 p.1) (h2 : SzR 3 p.2) (h3 : SzR 300 q.1) (h4 : SzR 3 q.2) (he : SzR 3 e) (p0 : 0 < p.2) (q0 : 0 < q.2) (hc : Ch e) : FT tab (m + 5) 10 [.p (pcP p), .p (pcP q), .p (frP e)] st = .ok (.p .none) st := by
  have a1 := sp_above1 (st := st) (m + 1) (h2.mono (by decide)) p0
  have a2 := sp_above1 (st := st) (m + 1) (h4.mono (by decide)) q0
  have a3 := sp_spring (st := st) m hc he
  rw [t10, denF_eq (by rfl)]
  unfold f10
  walk_at "un"
  rw [a1]
  walk_at "un"
  rw [a2]
  walk_at "un"
  rw [a3]
  walk_at "un"
theorem sp_after (m : Nat) (h1 : SzR 300 p.1) (h2 : SzR 3 p.2) (h3 : SzR 300 q.1) (h4 : SzR 3 q.2) (he : SzR 3 e) (p0 : 0 < p.2) (q0 : 0 < q.2) (hc : Ch e) : FT tab (m + 6) 12 [.p (pcP p), .p (pcP q), .p (frP e)] st = .ok (.p (pcP (aft p q e))) st := by
  rw [t12, denF_eq (by rfl)]
  unfold f12
  walk_at "go"
  rw [sp_two m h1 h2 h3 h4 he p0 q0 hc]
  walk_at "go"
  rw [sp_aft (m + 1) p q e (h1.mono (by decide)) h2 (h3.mono (by decide)) h4 he p0 q0]
  walk_at "go"
def lss (p q : Rat × Rat) (e : Rat) : Rat := p.2 * q.2 / (p.2 + q.2) * (1 - e * e) * ((p.1 - q.1) * (p.1 - q.1))
theorem sp_loss (m : Nat) (h1 : SzR 300 p.1) (h2 : SzR 3 p.2) (h3 : SzR 300 q.1) (h4 : SzR 3 q.2) (he : SzR 3 e) (p0 : 0 < p.2) (q0 : 0 < q.2) (hc : Ch e) : FT tab (m + 6) 13 [.p (pcP p), .p (pcP q), .p (frP e)] st = .ok (.p (frP (lss p q e))) st := by
  have n0 := pq_ne p0 q0
  rw [t13, denF_eq (by rfl)]
  unfold f13
  walk_at "go"
  rw [sp_two m h1 h2 h3 h4 he p0 q0 hc]
  walk_at "go"
  rfl
/-- what lives behind is what lived less the loss -/
def liv (p q : Rat × Rat) : Rat := p.2 * (p.1 * p.1) + q.2 * (q.1 * q.1)
theorem liv_loss (p0 : 0 < p.2) (q0 : 0 < q.2) : liv p q - liv ((aft p q e).1, p.2) ((aft p q e).2, q.2) = lss p q e := by
  have n0 := pq_ne p0 q0
  unfold liv aft lss
  dsimp only
  generalize hs : p.2 + q.2 = s at *
  have e1 : p.2 = s - q.2 := by grind
  rw [e1]
  grind
theorem aft_same (p0 : 0 < p.2) (q0 : 0 < q.2) : (aft p q 0).1 = (aft p q 0).2 := by
  have n0 := pq_ne p0 q0
  unfold aft
  dsimp only
  grind
theorem sl_live (m : Nat) (h1 : SzR 300 p.1) (h2 : SzR 3 p.2) (h3 : SzR 300 q.1) (h4 : SzR 3 q.2) : FT tab (m + 4) 42 [.p (pcP p), .p (pcP q)] st = .ok (.p (frP (liv p q))) st := by
  rw [t42, denF_eq (by rfl)]
  unfold f42
  walk_at "go"
  rfl
/-! falls -/
theorem sp_loose (m : Nat) (he : SzR 3 e) (h0 : 0 ≤ e) (h1 : e < 1) : FT tab (m + 5) 14 [.p (frP e)] st = .ok (.p .none) st := by
  have d1 : decide (e = 1) = false := decide_eq_false (by grind)
  have a3 := sp_spring (st := st) m (e := e) ⟨h0, by grind⟩ he
  rw [t14, denF_eq (by rfl)]
  unfold f14
  walk_at "go"
  rw [a3]
  walk_at "go"
  rw [d1]
  walk_at "go"
theorem sp_ftime (m : Nat) (he : SzR 3 e) (h0 : 0 ≤ e) (h1 : e < 1) : FT tab (m + 6) 15 [.p (frP e)] st = .ok (.p (frP ((1 + e) / (1 - e)))) st := by
  have n : 1 - e ≠ 0 := by grind
  rw [t15, denF_eq (by rfl)]
  unfold f15
  walk_at "go"
  rw [sp_loose m he h0 h1]
  walk_at "go"
theorem sq_lt1 (h0 : 0 ≤ e) (h1 : e < 1) : e * e < 1 := by
  have a : 0 < 1 - e := by grind
  have b : 0 < 1 + e := by grind
  have := Rat.mul_pos a b
  grind
theorem sp_fway (m : Nat) {h : Rat} (hh : SzR 3 h) (hp : 0 < h) (he : SzR 3 e) (h0 : 0 ≤ e) (h1 : e < 1) : FT tab (m + 6) 16 [.p (frP h), .p (frP e)] st = .ok (.p (frP (h * ((1 + e * e) / (1 - e * e))))) st := by
  have n : 1 - e * e ≠ 0 := by have := sq_lt1 h0 h1; grind
  rw [t16, denF_eq (by rfl)]
  unfold f16
  walk_at "go"
  rw [sp_above1 (m + 2) (hh.mono (by decide)) hp]
  walk_at "go"
  rw [sp_loose m he h0 h1]
  walk_at "go"
/-- powers -/
def pw (e : Rat) : Nat → Rat
  | 0 => 1
  | k + 1 => pw e k * e
theorem sz_pw {b : Nat} (he : SzR b e) : ∀ k : Nat, SzR (1 + b * k) (pw e k)
  | 0 => sz_c1
  | k + 1 => (sz_mul (sz_pw he k) he).mono (by rw [Nat.mul_add]; omega)
theorem pw_pos (h : 0 < e) : ∀ k : Nat, 0 < pw e k
  | 0 => by show (0 : Rat) < 1; decide
  | k + 1 => Rat.mul_pos (pw_pos h k) h
theorem pw_nn (h : 0 ≤ e) : ∀ k : Nat, 0 ≤ pw e k
  | 0 => by show (0 : Rat) ≤ 1; decide
  | k + 1 => Rat.mul_nonneg (pw_nn h k) h
def rsB : Ss := (.cons (.asg (.nm 2) (.call 35 (.cons (.var 2) (.cons (.var 0) .nil)))) .nil)
theorem rs_loop (m : Nat) {b : Nat} (he : SzR b e) (hb : b ≤ 100) {o1 : Option Val} : ∀ (zs : List PyData) (k : Nat) (o3 : Option Val), 1 + b * (k + zs.length) ≤ 4000 → ∃ o3', fE (FT tab (m + 3)) (.nm 3) rsB zs [some (.p (frP e)), o1, some (.p (frP (pw e k))), o3] st = .ok (.nx [some (.p (frP e)), o1, some (.p (frP (pw e (k + zs.length)))), o3']) st
  | [], k, o3, _ => ⟨o3, rfl⟩
  | z :: zs, k, o3, hk => by
    rw [List.length_cons] at hk
    obtain ⟨o3', q⟩ := rs_loop m he hb (o1 := o1) zs (k + 1) (some (.p z)) (by rw [show k + 1 + zs.length = k + (zs.length + 1) by omega]; exact hk)
    refine ⟨o3', ?_⟩
    have z1 : SzR 4000 (pw e k) := (sz_pw he k).mono (Nat.le_trans (Nat.add_le_add_left (Nat.mul_le_mul_left _ (by omega)) _) hk)
    have z2 : SzR 4000 e := he.mono (by omega)
    rw [fE_cons, tgt1, oF_some]
    unfold rsB
    walk_at "go"
    rw [lpR_nx]
    rw [show k + (zs.length + 1) = k + 1 + zs.length by omega]
    exact q
theorem sl_raised (m : Nat) {b : Nat} (he : SzR b e) (hb : b ≤ 100) (n : Nat) (hn : n ≤ 30) : FT tab (m + 4) 39 [.p (frP e), .p (.int (n : Int))] st = .ok (.p (frP (pw e n))) st := by
  obtain ⟨o3, h⟩ := rs_loop (st := st) m he hb (o1 := some (.p (.int (n : Int)))) (rngL n) 0 none (by rw [rngL_len]; have : b * (0 + n) ≤ 100 * 30 := Nat.mul_le_mul hb (by omega); omega)
  rw [rngL_len, Nat.zero_add] at h
  have rn := rngN (k := (n : Int)) (n := n) rfl (by omega)
  rw [t39, denF_eq (by rfl)]
  unfold f39
  walk_at "go"
  rw [dS_forE]
  walk_at "go"
  rw [rn]
  walk_at "go"
  unfold rsB at h
  have h' : fE (FT tab (m + 3)) (.nm 3) _ (rngL n) [some (.p (frP e)), some (.p (.int (n : Int))), some (.p (frP 1)), none] st = _ := h
  rw [h']
  walk_at "go"
def haB : Ss := (.cons (.asg (.nm 3) (.call 4 (.cons (.var 3) (.cons (.call 4 (.cons (.var 1) (.cons (.var 1) .nil))) .nil)))) .nil)
theorem ha_loop (m : Nat) {h : Rat} (hh : SzR 3 h) (he : SzR 3 e) {o0 o2 : Option Val} : ∀ (zs : List PyData) (k : Nat) (o4 : Option Val), k + zs.length ≤ 100 → ∃ o4', fE (FT tab (m + 3)) (.nm 4) haB zs [o0, some (.p (frP e)), o2, some (.p (frP (h * pw (e * e) k))), o4] st = .ok (.nx [o0, some (.p (frP e)), o2, some (.p (frP (h * pw (e * e) (k + zs.length)))), o4']) st
  | [], k, o4, _ => ⟨o4, rfl⟩
  | z :: zs, k, o4, hk => by
    rw [List.length_cons] at hk
    obtain ⟨o4', q⟩ := ha_loop m hh he (o0 := o0) (o2 := o2) zs (k + 1) (some (.p z)) (by omega)
    refine ⟨o4', ?_⟩
    have z1 : SzR 4000 (h * pw (e * e) k) := (sz_mul hh (sz_pw (sz_mul he he) k)).mono (by omega)
    rw [fE_cons, tgt1, oF_some]
    unfold haB
    walk_at "go"
    rw [lpR_nx]
    rw [show k + (zs.length + 1) = k + 1 + zs.length by omega]
    have e1 : h * pw (e * e) k * (e * e) = h * pw (e * e) (k + 1) := by show _ = h * (pw (e * e) k * (e * e)); grind
    rw [e1]
    exact q
theorem sp_height (m : Nat) {h : Rat} (hh : SzR 3 h) (hp : 0 < h) (he : SzR 3 e) (hc : Ch e) (n : Nat) (hn : n ≤ 30) : FT tab (m + 5) 17 [.p (frP h), .p (frP e), .p (.int (n : Int))] st = .ok (.p (frP (h * pw (e * e) n))) st := by
  obtain ⟨o4, q⟩ := ha_loop (st := st) (m + 1) hh he (o0 := some (.p (frP h))) (o2 := some (.p (.int (n : Int)))) (rngL n) 0 none (by rw [rngL_len]; omega)
  rw [rngL_len, Nat.zero_add] at q
  have rn := rngN (k := (n : Int)) (n := n) rfl (by omega)
  have d1 : decide ((0 : Int) ≤ (n : Int)) = true := decide_eq_true (by omega)
  have d2 : decide ((n : Int) ≤ 100) = true := decide_eq_true (by omega)
  rw [t17, denF_eq (by rfl)]
  unfold f17
  walk_at "go"
  rw [sp_above1 (m + 1) (hh.mono (by decide)) hp]
  walk_at "go"
  rw [sp_spring m hc he]
  walk_at "go"
  rw [d1, d2]
  walk_at "go"
  rw [dS_forE]
  walk_at "go"
  rw [rn]
  walk_at "go"
  unfold haB at q
  have e1 : h * pw (e * e) 0 = h := by show h * 1 = h; grind
  rw [e1] at q
  rw [q]
  walk_at "go"
end

end Law03

set_option Elab.async false
set_option linter.all false
set_option maxRecDepth 100000
set_option maxHeartbeats 1000000
set_option exponentiation.threshold 20000
namespace Law03
open PySem Rk
local macro_rules | `(tactic| walk_at "szc") => `(tactic| first | assumption | (apply sz_add <;> walk_at "szc") | (apply sz_sub <;> walk_at "szc") | (apply sz_mul <;> walk_at "szc") | (apply sz_div <;> walk_at "szc") | exact sz_c1 | exact sz_c2 | exact sz_ch | exact sz_c0 | (apply sz_neg; walk_at "szc"))
local macro_rules | `(tactic| walk_at "sz") => `(tactic| first | assumption | decide | (apply SzR.mono; (walk_at "szc"); decide) | (simp only [List.length_cons, List.length_nil, List.length_append, Nat.reduceAdd, Nat.reduceLT, Nat.reduceLeDiff]; done))
local macro_rules | `(tactic| walk_at "go") => `(tactic| simp (disch := walk_at "sz") only [tp0, ls0, tp1, ls1, tp2, ls2, tp3, ls3, tp4, ls4, tp5, ls5, tp6, ls6, tp7, ls7, tp8, ls8, tp9, ls9, tp10, ls10, tp11, ls11, tp12, ls12, denF_eq, dSs_nil, dSs_cons, nxS_nx, nxS_rt, nxS_ex, nxS_bk, nxS_ct, lift_ok, lift_ex, oE_some, dS_asg, dS_par, dS_ret, dS_retN, dS_ex, dS_raise, dS_brk, dS_cnt, dS_pass, dS_ife, tgt_nm, set_nil, set_cons, dI_seq, dI_rng1, nI_some, iI_some, int_int, it_list, it_tup, it_f, fin_p, endF_nx, endF_rt, endF_ex, bind_ok, bind_ex, D1_p, D2_pp, mD_some, mkD_f, pD_some, dE_cst, dE_glob, dE_var, vR_ok, dE_bin, dE_neg, negV_int, tR_bool, tR_int, tR_none, tR_list, tR_tup, dE_not, dE_and, dE_or, andR_t, andR_f, orR_t, orR_f, andR_b, orR_b, oB_some, dE_cmp, dE_chain, chR_t, chR_f, chR_b, oC_some, dE_ife, ifR_t, ifR_f, dE_call, dE_b1, dE_b2, dE_idx, dE_isi, dE_tup, dE_lst, dEs_nil, dEs_cons, dats_nil, dats_cons, dT_none, dT_some, o_add, o_sub, c_lt, c_le, c_gt, c_ge, c_eqi, c_nei, u_abs, u_int, u_lenl, u_lent, u_tupl, u_tupt, x_tup, x_lst, a1_0, a2_0, a2_1, a3_0, a3_1, a3_2, a4_0, a4_1, a4_2, a4_3, List.length_cons, List.length_nil, List.map_cons, List.map_nil, List.replicate, List.cons_append, List.nil_append, List.getElem?_cons_zero, List.getElem?_cons_succ, List.set_cons_zero, List.set_cons_succ, Option.map_some, Nat.reduceSub, Nat.reduceAdd, List.take_length, List.isEmpty_nil, List.isEmpty_cons, Bool.not_true, Bool.not_false, wipe_nil, wipe_cons, tgt1, Int.reduceLT, Int.reduceLE, decide_true, decide_false, Bool.true_and, Bool.and_true, Bool.false_and, Bool.true_or, Bool.false_or, Bool.or_false, List.all_cons, List.all_nil, id_eq, nat_c0, nat_c1, nat_c2, nat_c3, nat_c4, nat_c5, Int.reduceEq, tgt2, tgt3, tgt4, c_isf, c_isn, c_inf, c_inn, c_iss, c_ins, Int.reduceMul, Int.reduceAdd, Int.reduceSub, fr_1, fr_0, fr_2, fr_h, x_f0, x_f1, u_tupf, u_lenf, c_eqfr, c_nefr, c_isfr, c_infr, o_mul, o_mod, o_div, n_le, n_ge, n_lt, n_gt, sp_add, sp_sub, sp_mul, sp_by, sp_isfr, sl_add, sl_sub, sl_mul, sl_by, List.take_succ_cons, List.take_zero, c_neb, c_eqb, c_isT, c_isF, c_insT, c_insF, u_repr, c_nes, beq_self_eq_true, sl_part, fin_lastF, D2_last, num_le_den, num_lt_den, num_eq_den, num_eq0, sub_ge, sub_lt, sub_gt, mk_pc, x_pc0, x_pc1, len_pc, tup_pc, tv_pc, tv_22])
local macro_rules | `(tactic| walk_at "gx") => `(tactic| simp (disch := walk_at "sz") only [tp0, ls0, tp1, ls1, tp2, ls2, tp3, ls3, tp4, ls4, tp5, ls5, tp6, ls6, tp7, ls7, tp8, ls8, tp9, ls9, tp10, ls10, tp11, ls11, tp12, ls12, denF_eq, dSs_nil, dSs_cons, nxS_nx, nxS_rt, nxS_ex, nxS_bk, nxS_ct, lift_ok, lift_ex, oE_some, dS_asg, dS_par, dS_ret, dS_retN, dS_ex, dS_raise, dS_brk, dS_cnt, dS_pass, dS_ife, tgt_nm, set_nil, set_cons, dI_seq, dI_rng1, nI_some, iI_some, int_int, it_list, it_tup, it_f, fin_p, endF_nx, endF_rt, endF_ex, bind_ok, bind_ex, D1_p, D2_pp, mD_some, mkD_f, pD_some, dE_cst, dE_glob, dE_var, vR_ok, dE_bin, dE_neg, negV_int, tR_bool, tR_int, tR_none, tR_list, tR_tup, dE_not, dE_and, dE_or, andR_t, andR_f, orR_t, orR_f, andR_b, orR_b, oB_some, dE_cmp, dE_chain, chR_t, chR_f, chR_b, oC_some, dE_ife, ifR_t, ifR_f, dE_call, dE_b1, dE_b2, dE_idx, dE_isi, dE_tup, dE_lst, dEs_nil, dEs_cons, dats_nil, dats_cons, dT_none, dT_some, o_add, o_sub, c_lt, c_le, c_gt, c_ge, c_eqi, c_nei, u_abs, u_int, u_lenl, u_lent, u_tupl, u_tupt, x_tup, x_lst, a1_0, a2_0, a2_1, a3_0, a3_1, a3_2, a4_0, a4_1, a4_2, a4_3, List.length_cons, List.length_nil, List.map_cons, List.map_nil, List.replicate, List.cons_append, List.nil_append, List.getElem?_cons_zero, List.getElem?_cons_succ, List.set_cons_zero, List.set_cons_succ, Option.map_some, Nat.reduceSub, Nat.reduceAdd, List.take_length, List.isEmpty_nil, List.isEmpty_cons, Bool.not_true, Bool.not_false, wipe_nil, wipe_cons, tgt1, Int.reduceLT, Int.reduceLE, decide_true, decide_false, Bool.true_and, Bool.and_true, Bool.false_and, Bool.true_or, Bool.false_or, Bool.or_false, List.all_cons, List.all_nil, id_eq, nat_c0, nat_c1, nat_c2, nat_c3, nat_c4, nat_c5, Int.reduceEq, tgt2, tgt3, tgt4, c_isf, c_isn, c_inf, c_inn, c_iss, c_ins, Int.reduceMul, Int.reduceAdd, Int.reduceSub, fr_1, fr_0, fr_2, fr_h, x_f0, x_f1, u_tupf, u_lenf, c_eqfr, c_nefr, c_isfr, c_infr, o_mul, o_mod, o_div, n_le, n_ge, n_lt, n_gt, sp_add, sp_sub, sp_mul, sp_by, sp_isfr, sl_add, sl_sub, sl_mul, sl_by, List.take_succ_cons, List.take_zero, c_neb, c_eqb, c_isT, c_isF, c_insT, c_insF, u_repr, c_nes, beq_self_eq_true, sl_part, fin_lastF, D2_last, num_le_den, num_lt_den, num_eq_den, num_eq0, sub_ge, sub_lt, sub_gt, mk_pc, x_pc0, x_pc1, len_pc, tup_pc, tv_pc, tv_22, *])
local macro_rules | `(tactic| walk_at "un") => `(tactic| simp (disch := walk_at "sz") only [tp0, ls0, tp1, ls1, tp2, ls2, tp3, ls3, tp4, ls4, tp5, ls5, tp6, ls6, tp7, ls7, tp8, ls8, tp9, ls9, tp10, ls10, tp11, ls11, tp12, ls12, denF_eq, dSs_nil, dSs_cons, nxS_nx, nxS_rt, nxS_ex, nxS_bk, nxS_ct, lift_ok, lift_ex, oE_some, dS_asg, dS_par, dS_ret, dS_retN, dS_ex, dS_raise, dS_brk, dS_cnt, dS_pass, dS_ife, tgt_nm, set_nil, set_cons, dI_seq, dI_rng1, nI_some, iI_some, int_int, it_list, it_tup, it_f, fin_p, endF_nx, endF_rt, endF_ex, bind_ok, bind_ex, D1_p, D2_pp, mD_some, mkD_f, pD_some, dE_cst, dE_glob, dE_var, vR_ok, dE_bin, dE_neg, negV_int, tR_bool, tR_int, tR_none, tR_list, tR_tup, dE_not, dE_and, dE_or, andR_t, andR_f, orR_t, orR_f, andR_b, orR_b, oB_some, dE_cmp, dE_chain, chR_t, chR_f, chR_b, oC_some, dE_ife, ifR_t, ifR_f, dE_call, dE_b1, dE_b2, dE_idx, dE_isi, dE_tup, dE_lst, dEs_nil, dEs_cons, dats_nil, dats_cons, dT_none, dT_some, o_add, o_sub, c_lt, c_le, c_gt, c_ge, c_eqi, c_nei, u_abs, u_int, u_lenl, u_lent, u_tupl, u_tupt, x_tup, x_lst, a1_0, a2_0, a2_1, a3_0, a3_1, a3_2, a4_0, a4_1, a4_2, a4_3, List.length_cons, List.length_nil, List.map_cons, List.map_nil, List.replicate, List.cons_append, List.nil_append, List.getElem?_cons_zero, List.getElem?_cons_succ, List.set_cons_zero, List.set_cons_succ, Option.map_some, Nat.reduceSub, Nat.reduceAdd, List.take_length, List.isEmpty_nil, List.isEmpty_cons, Bool.not_true, Bool.not_false, wipe_nil, wipe_cons, tgt1, Int.reduceLT, Int.reduceLE, decide_true, decide_false, Bool.true_and, Bool.and_true, Bool.false_and, Bool.true_or, Bool.false_or, Bool.or_false, List.all_cons, List.all_nil, id_eq, nat_c0, nat_c1, nat_c2, nat_c3, nat_c4, nat_c5, Int.reduceEq, tgt2, tgt3, tgt4, c_isf, c_isn, c_inf, c_inn, c_iss, c_ins, Int.reduceMul, Int.reduceAdd, Int.reduceSub, fr_1, fr_0, fr_2, fr_h, x_f0, x_f1, u_tupf, u_lenf, c_eqfr, c_nefr, c_isfr, c_infr, o_mul, o_mod, o_div, n_le, n_ge, n_lt, n_gt, sp_add, sp_sub, sp_mul, sp_by, sp_isfr, sl_add, sl_sub, sl_mul, sl_by, List.take_succ_cons, List.take_zero, c_neb, c_eqb, c_isT, c_isF, c_insT, c_insF, u_repr, c_nes, beq_self_eq_true, sl_part, fin_lastF, D2_last, num_le_den, num_lt_den, num_eq_den, num_eq0, sub_ge, sub_lt, sub_gt, mk_pc, x_pc0, x_pc1, len_pc, tup_pc, tv_pc, tv_22, dE_compE, cE_nil, cE_cons, oN_some, bindN_ok, cPut_l, cPut_2, cPut_3, cEnd_l, cEnd_2, cEnd_3, dS_forE, fE_nil, fE_cons, oF_some, lpR_nx, lpR_ct, lpR_bk, lpR_rt, lpR_ex, tg2, tg3, len2, len3])
local macro_rules | `(tactic| walk_at "ux") => `(tactic| simp (disch := walk_at "sz") only [tp0, ls0, tp1, ls1, tp2, ls2, tp3, ls3, tp4, ls4, tp5, ls5, tp6, ls6, tp7, ls7, tp8, ls8, tp9, ls9, tp10, ls10, tp11, ls11, tp12, ls12, denF_eq, dSs_nil, dSs_cons, nxS_nx, nxS_rt, nxS_ex, nxS_bk, nxS_ct, lift_ok, lift_ex, oE_some, dS_asg, dS_par, dS_ret, dS_retN, dS_ex, dS_raise, dS_brk, dS_cnt, dS_pass, dS_ife, tgt_nm, set_nil, set_cons, dI_seq, dI_rng1, nI_some, iI_some, int_int, it_list, it_tup, it_f, fin_p, endF_nx, endF_rt, endF_ex, bind_ok, bind_ex, D1_p, D2_pp, mD_some, mkD_f, pD_some, dE_cst, dE_glob, dE_var, vR_ok, dE_bin, dE_neg, negV_int, tR_bool, tR_int, tR_none, tR_list, tR_tup, dE_not, dE_and, dE_or, andR_t, andR_f, orR_t, orR_f, andR_b, orR_b, oB_some, dE_cmp, dE_chain, chR_t, chR_f, chR_b, oC_some, dE_ife, ifR_t, ifR_f, dE_call, dE_b1, dE_b2, dE_idx, dE_isi, dE_tup, dE_lst, dEs_nil, dEs_cons, dats_nil, dats_cons, dT_none, dT_some, o_add, o_sub, c_lt, c_le, c_gt, c_ge, c_eqi, c_nei, u_abs, u_int, u_lenl, u_lent, u_tupl, u_tupt, x_tup, x_lst, a1_0, a2_0, a2_1, a3_0, a3_1, a3_2, a4_0, a4_1, a4_2, a4_3, List.length_cons, List.length_nil, List.map_cons, List.map_nil, List.replicate, List.cons_append, List.nil_append, List.getElem?_cons_zero, List.getElem?_cons_succ, List.set_cons_zero, List.set_cons_succ, Option.map_some, Nat.reduceSub, Nat.reduceAdd, List.take_length, List.isEmpty_nil, List.isEmpty_cons, Bool.not_true, Bool.not_false, wipe_nil, wipe_cons, tgt1, Int.reduceLT, Int.reduceLE, decide_true, decide_false, Bool.true_and, Bool.and_true, Bool.false_and, Bool.true_or, Bool.false_or, Bool.or_false, List.all_cons, List.all_nil, id_eq, nat_c0, nat_c1, nat_c2, nat_c3, nat_c4, nat_c5, Int.reduceEq, tgt2, tgt3, tgt4, c_isf, c_isn, c_inf, c_inn, c_iss, c_ins, Int.reduceMul, Int.reduceAdd, Int.reduceSub, fr_1, fr_0, fr_2, fr_h, x_f0, x_f1, u_tupf, u_lenf, c_eqfr, c_nefr, c_isfr, c_infr, o_mul, o_mod, o_div, n_le, n_ge, n_lt, n_gt, sp_add, sp_sub, sp_mul, sp_by, sp_isfr, sl_add, sl_sub, sl_mul, sl_by, List.take_succ_cons, List.take_zero, c_neb, c_eqb, c_isT, c_isF, c_insT, c_insF, u_repr, c_nes, beq_self_eq_true, sl_part, fin_lastF, D2_last, num_le_den, num_lt_den, num_eq_den, num_eq0, sub_ge, sub_lt, sub_gt, mk_pc, x_pc0, x_pc1, len_pc, tup_pc, tv_pc, tv_22, dE_compE, cE_nil, cE_cons, oN_some, bindN_ok, cPut_l, cPut_2, cPut_3, cEnd_l, cEnd_2, cEnd_3, dS_forE, fE_nil, fE_cons, oF_some, lpR_nx, lpR_ct, lpR_bk, lpR_rt, lpR_ex, tg2, tg3, len2, len3, *])
/-! ### bounces, walls, chains -/
/-- the times of the bounces -/
def Sb (e : Rat) : Nat → Rat
  | 0 => 1
  | k + 1 => Sb e k + 2 * pw e (k + 1)
section
variable {st : Store} {p q : Rat × Rat} {e t : Rat}
theorem sz_Sb (he : SzR 3 e) : ∀ k : Nat, k ≤ 26 → SzR (1 + 90 * k) (Sb e k)
  | 0, _ => sz_c1
  | k + 1, h => (sz_add (sz_Sb he k (by omega)) (sz_mul sz_c2 (sz_pw he (k + 1)))).mono (by omega)
theorem Sb_mono (h0 : 0 ≤ e) : ∀ {j k : Nat}, j ≤ k → Sb e j ≤ Sb e k
  | j, 0, h => by cases Nat.le_zero.mp h; exact Rat.le_refl
  | j, k + 1, h => by
    have q := pw_nn h0 (k + 1)
    have e1 : Sb e (k + 1) = Sb e k + 2 * pw e (k + 1) := rfl
    rcases Nat.lt_or_ge k j with z | z
    · cases Nat.le_antisymm h z; exact Rat.le_refl
    · have := Sb_mono h0 z
      grind
theorem Sb_closed : ∀ k : Nat, Sb e k * (1 - e) = 1 + e - 2 * pw e (k + 1)
  | 0 => by show 1 * (1 - e) = 1 + e - 2 * (1 * e); grind
  | k + 1 => by
    have ih := Sb_closed k
    show (Sb e k + 2 * pw e (k + 1)) * (1 - e) = 1 + e - 2 * (pw e (k + 1) * e)
    grind
def boC : E := (.cmp .GtE (.idx (.call 3 (.cons (.var 1) (.cons (.var 3) .nil))) (.cst (.int 0))) (.cst (.int 0)))
def boB : Ss := (.cons (.aug 2 .Add (.cst (.int 1))) (.cons (.asg (.nm 4) (.call 4 (.cons (.var 4) (.cons (.var 0) .nil)))) (.cons (.asg (.nm 3) (.call 2 (.cons (.var 3) (.cons (.var 4) .nil)))) .nil)))
theorem dS_augA {T : Nat → Fn} {env : Rk.Env} {i : Nat} {n m : Int} {a : E} {st1 : Store} (h : env[i]? = some (some (.p (.int n)))) (h2 : denE T a env st = .ok (.p (.int m)) st1) : denS T (.aug i .Add a) env st = .ok (.nx (env.set i (some (.p (.int (n + m)))))) st1 := by
  show (match env[i]? with
    | some (some (.p (.int n))) => lift env (denE T a env st) fun v st1 => (match v with
      | .p (.int m) => .ok (.nx (env.set i (some (.p (.int (n + m)))))) st1
      | _ => .no)
    | _ => .no) = _
  rw [h]
  dsimp only
  rw [h2]
  rfl
theorem bo_loop (m : Nat) (he : SzR 3 e) (ht : SzR 300 t) (K : Nat) (hK : K ≤ 26) (hlt : t < Sb e K) : ∃ k, k ≤ K ∧ t < Sb e k ∧ (∀ j, j < k → Sb e j ≤ t) ∧
    denS (FT tab (m + 3)) (.whl boC boB) [some (.p (frP e)), some (.p (frP t)), some (.p (.int 0)), some (.p (frP 1)), some (.p (frP 2))] st = .ok (.nx [some (.p (frP e)), some (.p (frP t)), some (.p (.int (k : Int))), some (.p (frP (Sb e k))), some (.p (frP (2 * pw e k)))]) st := by
  obtain ⟨e2, st2, h1, hs, k, hk, rfl, hj, hl⟩ := whl_rule (test := fun e st => (denE (FT tab (m + 3)) boC e st).bind tR) (body := fun e st => denSs (FT tab (m + 3)) boB e st)
    (fun n e' st' => st' = st ∧ ∃ k, k ≤ K ∧ n = K - k ∧ e' = [some (.p (frP e)), some (.p (frP t)), some (.p (.int (k : Int))), some (.p (frP (Sb e k))), some (.p (frP (2 * pw e k)))] ∧ ∀ j, j < k → Sb e j ≤ t)
    (fun e' st' => st' = st ∧ ∃ k, k ≤ K ∧ e' = [some (.p (frP e)), some (.p (frP t)), some (.p (.int (k : Int))), some (.p (frP (Sb e k))), some (.p (frP (2 * pw e k)))] ∧ (∀ j, j < k → Sb e j ≤ t) ∧ t < Sb e k)
    (by
      rintro n e' st' ⟨rfl, k, hk, rfl, rfl, hj⟩
      have z1 : SzR 3000 (Sb e k) := (sz_Sb he k (by omega)).mono (by omega)
      have z2 : SzR 200 (2 * pw e k) := (sz_mul sz_c2 (sz_pw he k)).mono (by omega)
      have z3 : SzR 200 (2 * pw e (k + 1)) := (sz_mul sz_c2 (sz_pw he (k + 1))).mono (by omega)
      by_cases hd : Sb e k ≤ t
      · have hkK : k < K := by
          rcases Nat.lt_or_ge k K with z | z
          · exact z
          · have : k = K := by omega
            subst this
            grind
        have d1 : decide (Sb e k ≤ t) = true := decide_eq_true hd
        refine .inr ⟨?_, [some (.p (frP e)), some (.p (frP t)), some (.p (.int ((k : Int) + 1))), some (.p (frP (Sb e (k + 1)))), some (.p (frP (2 * pw e (k + 1))))], st', K - (k + 1), .inl ?_, by omega, rfl, k + 1, by omega, rfl, rfl, fun j hj' => ?_⟩
        · unfold boC
          walk_at "go"
          rw [d1]
        · have ag := dS_augA (T := FT tab (m + 3)) (env := [some (.p (frP e)), some (.p (frP t)), some (.p (.int (k : Int))), some (.p (frP (Sb e k))), some (.p (frP (2 * pw e k)))]) (i := 2) (n := (k : Int)) (m := 1) (a := .cst (.int 1)) (st := st') (st1 := st') rfl rfl
          have e1 : 2 * pw e k * e = 2 * pw e (k + 1) := by show _ = 2 * (pw e k * e); grind
          unfold boB
          rw [dSs_cons, ag, nxS_nx]
          walk_at "go"
          rw [e1]
          rfl
        · rcases Nat.lt_or_ge j k with z | z
          · exact hj j z
          · have : j = k := by omega
            subst this
            exact hd
      · have d1 : decide (Sb e k ≤ t) = false := decide_eq_false hd
        refine .inl ⟨?_, rfl, k, hk, rfl, hj, by grind⟩
        unfold boC
        walk_at "go"
        rw [d1]) fuelW K [some (.p (frP e)), some (.p (frP t)), some (.p (.int 0)), some (.p (frP 1)), some (.p (frP 2))] st (fuel_big (Nat.lt_of_le_of_lt hK (Nat.lt_of_lt_of_le (by decide : 26 < 2 ^ 5) (pow_mono (by decide))))) ⟨rfl, 0, Nat.zero_le _, rfl, by rw [show (2 : Rat) * pw e 0 = 2 by show (2 : Rat) * 1 = 2; grind]; rfl, fun j h => absurd h (Nat.not_lt_zero _)⟩
  refine ⟨k, hk, hl, hj, ?_⟩
  rw [dS_whl, h1, hs]
theorem fr_1000 : PyData.tuple [.int 1000, .int 1] = frP 1000 := by
  rw [frP_def, show (1000 : Rat).num = 1000 by decide +kernel, show (1000 : Rat).den = 1 by decide +kernel]
  rfl
theorem sz_1000 : SzR 10 (1000 : Rat) := ⟨by decide +kernel, by decide +kernel⟩
theorem sp_bounce (m : Nat) (he : SzR 3 e) (h0 : 0 ≤ e) (h1 : e < 1) (ht : SzR 300 t) (t0 : 0 ≤ t) (t1 : t ≤ 1000) (hlt : t < (1 + e) / (1 - e)) (hS : t < Sb e 26) :
    ∃ k : Nat, t < Sb e k ∧ (∀ j, j < k → Sb e j ≤ t) ∧ k ≤ 26 ∧ FT tab (m + 5) 18 [.p (frP e), .p (frP t)] st = .ok (.p (.int (k : Int))) st := by
  obtain ⟨k, hk, hl, hj, h⟩ := bo_loop (st := st) (m + 1) he ht 26 (by decide) hS
  refine ⟨k, hl, hj, hk, ?_⟩
  have n : 1 - e ≠ 0 := by grind
  have d0 : decide (t < 0) = false := decide_eq_false (by grind)
  have d1 : decide ((1000 : Rat) < t) = false := decide_eq_false (by grind)
  have d2 : decide (e < 1) = true := decide_eq_true h1
  have d3 : decide ((1 + e) / (1 - e) ≤ t) = false := decide_eq_false (by grind)
  have z := sz_1000
  have a3 := sp_spring (st := st) m (e := e) ⟨h0, by grind⟩ he
  rw [t18, denF_eq (by rfl)]
  unfold f18
  walk_at "go"
  rw [a3]
  walk_at "go"
  rw [fr_1000]
  walk_at "go"
  rw [d0, d1]
  walk_at "go"
  rw [d2]
  walk_at "go"
  rw [d3]
  walk_at "go"
  unfold boC boB at h
  rw [h]
  walk_at "go"
theorem sp_bounce_x (m : Nat) (he : SzR 3 e) (h0 : 0 ≤ e) (h1 : e < 1) (ht : SzR 300 t) (t0 : 0 ≤ t) (t1 : t ≤ 1000) (hlt : (1 + e) / (1 - e) ≤ t) : FT tab (m + 5) 18 [.p (frP e), .p (frP t)] st = .ex "NoAnswer" st := by
  have n : 1 - e ≠ 0 := by grind
  have d0 : decide (t < 0) = false := decide_eq_false (by grind)
  have d1 : decide ((1000 : Rat) < t) = false := decide_eq_false (by grind)
  have d2 : decide (e < 1) = true := decide_eq_true h1
  have d3 : decide ((1 + e) / (1 - e) ≤ t) = true := decide_eq_true hlt
  have z := sz_1000
  have a3 := sp_spring (st := st) m (e := e) ⟨h0, by grind⟩ he
  rw [t18, denF_eq (by rfl)]
  unfold f18
  walk_at "go"
  rw [a3]
  walk_at "go"
  rw [fr_1000]
  walk_at "go"
  rw [d0, d1]
  walk_at "go"
  rw [d2]
  walk_at "go"
  rw [d3]
  walk_at "go"
/-! walls -/
def sm : List Rat → Rat
  | [] => 0
  | x :: r => x + sm r
theorem sm_app (x : Rat) : ∀ L : List Rat, sm (L ++ [x]) = sm L + x
  | [] => by show x + 0 = 0 + x; grind
  | y :: L => by show y + sm (L ++ [x]) = y + sm L + x; rw [sm_app x L]; grind
def wl (e : Rat) (n : Nat) : Rat := sm ((List.range n).map fun j => 1 / pw e j)
theorem wl_succ (n : Nat) : wl e (n + 1) = wl e n + 1 / pw e n := by
  unfold wl
  rw [List.range_succ, List.map_append]
  exact sm_app _ _
theorem sz_wl (he : SzR 3 e) : ∀ n : Nat, n ≤ 10 → SzR (1 + 40 * n) (wl e n)
  | 0, _ => sz_c0
  | n + 1, h => by
    rw [wl_succ]
    exact (sz_add (sz_wl he n (by omega)) (sz_div sz_c1 (sz_pw he n))).mono (by omega)
def waB : Ss := (.cons (.asg (.nm 2) (.call 2 (.cons (.var 2) (.cons (.var 3) .nil)))) (.cons (.asg (.nm 3) (.call 5 (.cons (.var 3) (.cons (.var 0) .nil)))) .nil))
theorem wa_loop (m : Nat) (he : SzR 3 e) (h0 : 0 < e) {o1 : Option Val} : ∀ (zs : List PyData) (k : Nat) (o4 : Option Val), k + zs.length ≤ 10 → ∃ o4', fE (FT tab (m + 3)) (.nm 4) waB zs [some (.p (frP e)), o1, some (.p (frP (wl e k))), some (.p (frP (1 / pw e k))), o4] st = .ok (.nx [some (.p (frP e)), o1, some (.p (frP (wl e (k + zs.length)))), some (.p (frP (1 / pw e (k + zs.length)))), o4']) st
  | [], k, o4, _ => ⟨o4, rfl⟩
  | z :: zs, k, o4, hk => by
    rw [List.length_cons] at hk
    obtain ⟨o4', q⟩ := wa_loop m he h0 (o1 := o1) zs (k + 1) (some (.p z)) (by omega)
    refine ⟨o4', ?_⟩
    have z1 : SzR 500 (wl e k) := (sz_wl he k (by omega)).mono (by omega)
    have z2 : SzR 100 (1 / pw e k) := (sz_div sz_c1 (sz_pw he k)).mono (by omega)
    have ne : e ≠ 0 := by grind
    have np : pw e k ≠ 0 := by have := pw_pos h0 k; grind
    have e1 : 1 / pw e k / e = 1 / pw e (k + 1) := by show _ = 1 / (pw e k * e); grind
    rw [fE_cons, tgt1, oF_some]
    unfold waB
    walk_at "go"
    rw [lpR_nx]
    rw [show k + (zs.length + 1) = k + 1 + zs.length by omega, ← wl_succ, e1]
    exact q
theorem sp_walls (m : Nat) (he : SzR 3 e) (h0 : 0 < e) (h1 : e < 1) (n : Nat) (n1 : 1 ≤ n) (n2 : n ≤ 10) : FT tab (m + 6) 24 [.p (frP e), .p (.int (n : Int))] st = .ok (.p (frP (wl e n))) st := by
  obtain ⟨o4, q⟩ := wa_loop (st := st) (m + 2) he h0 (o1 := some (.p (.int (n : Int)))) (rngL n) 0 none (by rw [rngL_len]; omega)
  rw [rngL_len, Nat.zero_add] at q
  have rn := rngN (k := (n : Int)) (n := n) rfl (by omega)
  have d0 : decide (e = 0) = false := decide_eq_false (by grind)
  have d1 : decide ((1 : Int) ≤ (n : Int)) = true := decide_eq_true (by omega)
  have d2 : decide ((n : Int) ≤ 100) = true := decide_eq_true (by omega)
  rw [t24, denF_eq (by rfl)]
  unfold f24
  walk_at "go"
  rw [sp_loose m he (by grind) h1]
  walk_at "go"
  rw [d0, d1, d2]
  walk_at "go"
  rw [dS_forE]
  walk_at "go"
  rw [rn]
  walk_at "go"
  unfold waB at q
  have w0 : wl e 0 = 0 := rfl
  have p0 : 1 / pw e 0 = 1 := by show (1 : Rat) / 1 = 1; grind
  rw [w0, p0] at q
  rw [q]
  walk_at "go"
/-! better between -/
def btw (m k x : Rat) : Rat := x + m * k / x
theorem sp_better (m : Nat) {a k x y : Rat} (ha : SzR 20 a) (hk : SzR 20 k) (hx : SzR 20 x) (hy : SzR 20 y) (a0 : 0 < a) (k0 : 0 < k) (x0 : 0 < x) (y0 : 0 < y) : FT tab (m + 4) 23 [.p (frP a), .p (frP k), .p (frP x), .p (frP y)] st = .ok (.p (.bool (decide (btw a k x ≤ btw a k y)))) st := by
  have ab := sp_above (st := st) m [a, k, x, y] (fun q hq => by
    simp only [List.mem_cons, List.not_mem_nil, or_false] at hq
    rcases hq with rfl | rfl | rfl | rfl
    · exact ⟨ha.mono (by decide), a0⟩
    · exact ⟨hk.mono (by decide), k0⟩
    · exact ⟨hx.mono (by decide), x0⟩
    · exact ⟨hy.mono (by decide), y0⟩) (by simp) (.list [frP a, frP k, frP x, frP y]) rfl
  have xn : x ≠ 0 := by grind
  have yn : y ≠ 0 := by grind
  rw [t23, denF_eq (by rfl)]
  unfold f23
  walk_at "go"
  rw [ab]
  walk_at "go"
  rfl
/-! chains -/
def chF (e : Rat) : Rat → Rat → List Rat → List Rat
  | _, _, [] => []
  | h, m, m' :: r => (aft (h, m) (0, m') e).1 :: chF e (aft (h, m) (0, m') e).2 m' r
def chE (e : Rat) : Rat → Rat → List Rat → Rat
  | h, _, [] => h
  | h, m, m' :: r => chE e (aft (h, m) (0, m') e).2 m' r
def Ms (q : Rat) : Prop := SzR 3 q ∧ 0 < q
/-- a size that doubles -/
def szc : Nat → Nat
  | 0 => 1
  | n + 1 => 2 * szc n + 40
theorem sz_ch {e : Rat} (he : SzR 3 e) : ∀ (r : List Rat) (h m : Rat) (n : Nat), SzR (szc n) h → Ms m → (∀ q ∈ r, Ms q) → SzR (szc (n + r.length)) (chE e h m r) ∧ ∀ x ∈ chF e h m r, SzR (szc (n + r.length)) x
  | [], h, m, n, hh, _, _ => ⟨hh, fun x hx => absurd hx List.not_mem_nil⟩
  | m' :: r, h, m, n, hh, hm, hr => by
    have hm' := hr m' List.mem_cons_self
    obtain ⟨a1, a2⟩ := sz_aft1 (b := szc n) (p := (h, m)) (q := (0, m')) (e := e) hh hm.1 rfl hm'.1 he
    obtain ⟨b1, b2⟩ := sz_ch he r (aft (h, m) (0, m') e).2 m' (n + 1) a2 hm' fun q hq => hr q (List.mem_cons_of_mem _ hq)
    have en : n + (m' :: r).length = n + 1 + r.length := by rw [List.length_cons]; omega
    rw [en]
    have mono : ∀ a b : Nat, a ≤ b → szc a ≤ szc b := by
      intro a b hab
      induction b with
      | zero => cases Nat.le_zero.mp hab; exact Nat.le_refl _
      | succ b ih =>
        rcases Nat.lt_or_ge b a with z | z
        · cases Nat.le_antisymm hab z; exact Nat.le_refl _
        · have := ih z
          show szc a ≤ 2 * szc b + 40
          omega
    refine ⟨b1, fun x hx => ?_⟩
    rcases List.mem_cons.mp hx with rfl | hx
    · exact a1.mono (mono (n + 1) _ (by omega))
    · exact b2 x hx
def chB : Ss := (.cons (.asg (.tp [(.nm 6), (.nm 3)]) (.call 11 (.cons (.tup (.cons (.var 3) (.cons (.var 4) .nil))) (.cons (.tup (.cons (.tup (.cons (.cst (.int 0)) (.cons (.cst (.int 1)) .nil))) (.cons (.var 5) .nil))) (.cons (.var 1) .nil))))) (.cons (.ex (.append (.var 2) (.var 6))) .nil))
def prs : Rat → List Rat → List (Rat × Rat)
  | _, [] => []
  | m, m' :: r => (m, m') :: prs m' r
theorem zip_prs : ∀ (r : List Rat) (m : Rat), zip2D ((m :: r).map frP) (r.map frP) = (prs m r).map pcP
  | [], m => rfl
  | m' :: r, m => by
    show pcP (m, m') :: zip2D ((m' :: r).map frP) (r.map frP) = _
    rw [zip_prs r m']
    rfl
theorem tg_pc (i j : Nat) (p : Rat × Rat) (e : Rk.Env) : tgt (.tp [.nm i, .nm j]) (pcP p) e = some ((e.set i (some (.p (frP p.1)))).set j (some (.p (frP p.2)))) := id rfl
theorem szc_le {n : Nat} (h : n ≤ 5) : szc n ≤ 1300 := by
  match n, h with
  | 0, _ => exact (by decide)
  | 1, _ => exact (by decide)
  | 2, _ => exact (by decide)
  | 3, _ => exact (by decide)
  | 4, _ => exact (by decide)
  | 5, _ => exact (by decide)
end

end Law03

set_option Elab.async false
set_option linter.all false
set_option maxRecDepth 100000
set_option maxHeartbeats 1000000
set_option exponentiation.threshold 20000
namespace Law03
open PySem Rk
local macro_rules | `(tactic| walk_at "szc") => `(tactic| first | assumption | (apply sz_add <;> walk_at "szc") | (apply sz_sub <;> walk_at "szc") | (apply sz_mul <;> walk_at "szc") | (apply sz_div <;> walk_at "szc") | exact sz_c1 | exact sz_c2 | exact sz_ch | exact sz_c0 | (apply sz_neg; walk_at "szc"))
local macro_rules | `(tactic| walk_at "sz") => `(tactic| first | assumption | decide | (apply SzR.mono; (walk_at "szc"); decide) | (simp only [List.length_cons, List.length_nil, List.length_append, Nat.reduceAdd, Nat.reduceLT, Nat.reduceLeDiff]; done))
local macro_rules | `(tactic| walk_at "go") => `(tactic| simp (disch := walk_at "sz") only [tp0, ls0, tp1, ls1, tp2, ls2, tp3, ls3, tp4, ls4, tp5, ls5, tp6, ls6, tp7, ls7, tp8, ls8, tp9, ls9, tp10, ls10, tp11, ls11, tp12, ls12, denF_eq, dSs_nil, dSs_cons, nxS_nx, nxS_rt, nxS_ex, nxS_bk, nxS_ct, lift_ok, lift_ex, oE_some, dS_asg, dS_par, dS_ret, dS_retN, dS_ex, dS_raise, dS_brk, dS_cnt, dS_pass, dS_ife, tgt_nm, set_nil, set_cons, dI_seq, dI_rng1, nI_some, iI_some, int_int, it_list, it_tup, it_f, fin_p, endF_nx, endF_rt, endF_ex, bind_ok, bind_ex, D1_p, D2_pp, mD_some, mkD_f, pD_some, dE_cst, dE_glob, dE_var, vR_ok, dE_bin, dE_neg, negV_int, tR_bool, tR_int, tR_none, tR_list, tR_tup, dE_not, dE_and, dE_or, andR_t, andR_f, orR_t, orR_f, andR_b, orR_b, oB_some, dE_cmp, dE_chain, chR_t, chR_f, chR_b, oC_some, dE_ife, ifR_t, ifR_f, dE_call, dE_b1, dE_b2, dE_idx, dE_isi, dE_tup, dE_lst, dEs_nil, dEs_cons, dats_nil, dats_cons, dT_none, dT_some, o_add, o_sub, c_lt, c_le, c_gt, c_ge, c_eqi, c_nei, u_abs, u_int, u_lenl, u_lent, u_tupl, u_tupt, x_tup, x_lst, a1_0, a2_0, a2_1, a3_0, a3_1, a3_2, a4_0, a4_1, a4_2, a4_3, List.length_cons, List.length_nil, List.map_cons, List.map_nil, List.replicate, List.cons_append, List.nil_append, List.getElem?_cons_zero, List.getElem?_cons_succ, List.set_cons_zero, List.set_cons_succ, Option.map_some, Nat.reduceSub, Nat.reduceAdd, List.take_length, List.isEmpty_nil, List.isEmpty_cons, Bool.not_true, Bool.not_false, wipe_nil, wipe_cons, tgt1, Int.reduceLT, Int.reduceLE, decide_true, decide_false, Bool.true_and, Bool.and_true, Bool.false_and, Bool.true_or, Bool.false_or, Bool.or_false, List.all_cons, List.all_nil, id_eq, nat_c0, nat_c1, nat_c2, nat_c3, nat_c4, nat_c5, Int.reduceEq, tgt2, tgt3, tgt4, c_isf, c_isn, c_inf, c_inn, c_iss, c_ins, Int.reduceMul, Int.reduceAdd, Int.reduceSub, fr_1, fr_0, fr_2, fr_h, x_f0, x_f1, u_tupf, u_lenf, c_eqfr, c_nefr, c_isfr, c_infr, o_mul, o_mod, o_div, n_le, n_ge, n_lt, n_gt, sp_add, sp_sub, sp_mul, sp_by, sp_isfr, sl_add, sl_sub, sl_mul, sl_by, List.take_succ_cons, List.take_zero, c_neb, c_eqb, c_isT, c_isF, c_insT, c_insF, u_repr, c_nes, beq_self_eq_true, sl_part, fin_lastF, D2_last, num_le_den, num_lt_den, num_eq_den, num_eq0, sub_ge, sub_lt, sub_gt, mk_pc, x_pc0, x_pc1, len_pc, tup_pc, tv_pc, tv_22])
local macro_rules | `(tactic| walk_at "gx") => `(tactic| simp (disch := walk_at "sz") only [tp0, ls0, tp1, ls1, tp2, ls2, tp3, ls3, tp4, ls4, tp5, ls5, tp6, ls6, tp7, ls7, tp8, ls8, tp9, ls9, tp10, ls10, tp11, ls11, tp12, ls12, denF_eq, dSs_nil, dSs_cons, nxS_nx, nxS_rt, nxS_ex, nxS_bk, nxS_ct, lift_ok, lift_ex, oE_some, dS_asg, dS_par, dS_ret, dS_retN, dS_ex, dS_raise, dS_brk, dS_cnt, dS_pass, dS_ife, tgt_nm, set_nil, set_cons, dI_seq, dI_rng1, nI_some, iI_some, int_int, it_list, it_tup, it_f, fin_p, endF_nx, endF_rt, endF_ex, bind_ok, bind_ex, D1_p, D2_pp, mD_some, mkD_f, pD_some, dE_cst, dE_glob, dE_var, vR_ok, dE_bin, dE_neg, negV_int, tR_bool, tR_int, tR_none, tR_list, tR_tup, dE_not, dE_and, dE_or, andR_t, andR_f, orR_t, orR_f, andR_b, orR_b, oB_some, dE_cmp, dE_chain, chR_t, chR_f, chR_b, oC_some, dE_ife, ifR_t, ifR_f, dE_call, dE_b1, dE_b2, dE_idx, dE_isi, dE_tup, dE_lst, dEs_nil, dEs_cons, dats_nil, dats_cons, dT_none, dT_some, o_add, o_sub, c_lt, c_le, c_gt, c_ge, c_eqi, c_nei, u_abs, u_int, u_lenl, u_lent, u_tupl, u_tupt, x_tup, x_lst, a1_0, a2_0, a2_1, a3_0, a3_1, a3_2, a4_0, a4_1, a4_2, a4_3, List.length_cons, List.length_nil, List.map_cons, List.map_nil, List.replicate, List.cons_append, List.nil_append, List.getElem?_cons_zero, List.getElem?_cons_succ, List.set_cons_zero, List.set_cons_succ, Option.map_some, Nat.reduceSub, Nat.reduceAdd, List.take_length, List.isEmpty_nil, List.isEmpty_cons, Bool.not_true, Bool.not_false, wipe_nil, wipe_cons, tgt1, Int.reduceLT, Int.reduceLE, decide_true, decide_false, Bool.true_and, Bool.and_true, Bool.false_and, Bool.true_or, Bool.false_or, Bool.or_false, List.all_cons, List.all_nil, id_eq, nat_c0, nat_c1, nat_c2, nat_c3, nat_c4, nat_c5, Int.reduceEq, tgt2, tgt3, tgt4, c_isf, c_isn, c_inf, c_inn, c_iss, c_ins, Int.reduceMul, Int.reduceAdd, Int.reduceSub, fr_1, fr_0, fr_2, fr_h, x_f0, x_f1, u_tupf, u_lenf, c_eqfr, c_nefr, c_isfr, c_infr, o_mul, o_mod, o_div, n_le, n_ge, n_lt, n_gt, sp_add, sp_sub, sp_mul, sp_by, sp_isfr, sl_add, sl_sub, sl_mul, sl_by, List.take_succ_cons, List.take_zero, c_neb, c_eqb, c_isT, c_isF, c_insT, c_insF, u_repr, c_nes, beq_self_eq_true, sl_part, fin_lastF, D2_last, num_le_den, num_lt_den, num_eq_den, num_eq0, sub_ge, sub_lt, sub_gt, mk_pc, x_pc0, x_pc1, len_pc, tup_pc, tv_pc, tv_22, *])
local macro_rules | `(tactic| walk_at "un") => `(tactic| simp (disch := walk_at "sz") only [tp0, ls0, tp1, ls1, tp2, ls2, tp3, ls3, tp4, ls4, tp5, ls5, tp6, ls6, tp7, ls7, tp8, ls8, tp9, ls9, tp10, ls10, tp11, ls11, tp12, ls12, denF_eq, dSs_nil, dSs_cons, nxS_nx, nxS_rt, nxS_ex, nxS_bk, nxS_ct, lift_ok, lift_ex, oE_some, dS_asg, dS_par, dS_ret, dS_retN, dS_ex, dS_raise, dS_brk, dS_cnt, dS_pass, dS_ife, tgt_nm, set_nil, set_cons, dI_seq, dI_rng1, nI_some, iI_some, int_int, it_list, it_tup, it_f, fin_p, endF_nx, endF_rt, endF_ex, bind_ok, bind_ex, D1_p, D2_pp, mD_some, mkD_f, pD_some, dE_cst, dE_glob, dE_var, vR_ok, dE_bin, dE_neg, negV_int, tR_bool, tR_int, tR_none, tR_list, tR_tup, dE_not, dE_and, dE_or, andR_t, andR_f, orR_t, orR_f, andR_b, orR_b, oB_some, dE_cmp, dE_chain, chR_t, chR_f, chR_b, oC_some, dE_ife, ifR_t, ifR_f, dE_call, dE_b1, dE_b2, dE_idx, dE_isi, dE_tup, dE_lst, dEs_nil, dEs_cons, dats_nil, dats_cons, dT_none, dT_some, o_add, o_sub, c_lt, c_le, c_gt, c_ge, c_eqi, c_nei, u_abs, u_int, u_lenl, u_lent, u_tupl, u_tupt, x_tup, x_lst, a1_0, a2_0, a2_1, a3_0, a3_1, a3_2, a4_0, a4_1, a4_2, a4_3, List.length_cons, List.length_nil, List.map_cons, List.map_nil, List.replicate, List.cons_append, List.nil_append, List.getElem?_cons_zero, List.getElem?_cons_succ, List.set_cons_zero, List.set_cons_succ, Option.map_some, Nat.reduceSub, Nat.reduceAdd, List.take_length, List.isEmpty_nil, List.isEmpty_cons, Bool.not_true, Bool.not_false, wipe_nil, wipe_cons, tgt1, Int.reduceLT, Int.reduceLE, decide_true, decide_false, Bool.true_and, Bool.and_true, Bool.false_and, Bool.true_or, Bool.false_or, Bool.or_false, List.all_cons, List.all_nil, id_eq, nat_c0, nat_c1, nat_c2, nat_c3, nat_c4, nat_c5, Int.reduceEq, tgt2, tgt3, tgt4, c_isf, c_isn, c_inf, c_inn, c_iss, c_ins, Int.reduceMul, Int.reduceAdd, Int.reduceSub, fr_1, fr_0, fr_2, fr_h, x_f0, x_f1, u_tupf, u_lenf, c_eqfr, c_nefr, c_isfr, c_infr, o_mul, o_mod, o_div, n_le, n_ge, n_lt, n_gt, sp_add, sp_sub, sp_mul, sp_by, sp_isfr, sl_add, sl_sub, sl_mul, sl_by, List.take_succ_cons, List.take_zero, c_neb, c_eqb, c_isT, c_isF, c_insT, c_insF, u_repr, c_nes, beq_self_eq_true, sl_part, fin_lastF, D2_last, num_le_den, num_lt_den, num_eq_den, num_eq0, sub_ge, sub_lt, sub_gt, mk_pc, x_pc0, x_pc1, len_pc, tup_pc, tv_pc, tv_22, dE_compE, cE_nil, cE_cons, oN_some, bindN_ok, cPut_l, cPut_2, cPut_3, cEnd_l, cEnd_2, cEnd_3, dS_forE, fE_nil, fE_cons, oF_some, lpR_nx, lpR_ct, lpR_bk, lpR_rt, lpR_ex, tg2, tg3, len2, len3])
local macro_rules | `(tactic| walk_at "ux") => `(tactic| simp (disch := walk_at "sz") only [tp0, ls0, tp1, ls1, tp2, ls2, tp3, ls3, tp4, ls4, tp5, ls5, tp6, ls6, tp7, ls7, tp8, ls8, tp9, ls9, tp10, ls10, tp11, ls11, tp12, ls12, denF_eq, dSs_nil, dSs_cons, nxS_nx, nxS_rt, nxS_ex, nxS_bk, nxS_ct, lift_ok, lift_ex, oE_some, dS_asg, dS_par, dS_ret, dS_retN, dS_ex, dS_raise, dS_brk, dS_cnt, dS_pass, dS_ife, tgt_nm, set_nil, set_cons, dI_seq, dI_rng1, nI_some, iI_some, int_int, it_list, it_tup, it_f, fin_p, endF_nx, endF_rt, endF_ex, bind_ok, bind_ex, D1_p, D2_pp, mD_some, mkD_f, pD_some, dE_cst, dE_glob, dE_var, vR_ok, dE_bin, dE_neg, negV_int, tR_bool, tR_int, tR_none, tR_list, tR_tup, dE_not, dE_and, dE_or, andR_t, andR_f, orR_t, orR_f, andR_b, orR_b, oB_some, dE_cmp, dE_chain, chR_t, chR_f, chR_b, oC_some, dE_ife, ifR_t, ifR_f, dE_call, dE_b1, dE_b2, dE_idx, dE_isi, dE_tup, dE_lst, dEs_nil, dEs_cons, dats_nil, dats_cons, dT_none, dT_some, o_add, o_sub, c_lt, c_le, c_gt, c_ge, c_eqi, c_nei, u_abs, u_int, u_lenl, u_lent, u_tupl, u_tupt, x_tup, x_lst, a1_0, a2_0, a2_1, a3_0, a3_1, a3_2, a4_0, a4_1, a4_2, a4_3, List.length_cons, List.length_nil, List.map_cons, List.map_nil, List.replicate, List.cons_append, List.nil_append, List.getElem?_cons_zero, List.getElem?_cons_succ, List.set_cons_zero, List.set_cons_succ, Option.map_some, Nat.reduceSub, Nat.reduceAdd, List.take_length, List.isEmpty_nil, List.isEmpty_cons, Bool.not_true, Bool.not_false, wipe_nil, wipe_cons, tgt1, Int.reduceLT, Int.reduceLE, decide_true, decide_false, Bool.true_and, Bool.and_true, Bool.false_and, Bool.true_or, Bool.false_or, Bool.or_false, List.all_cons, List.all_nil, id_eq, nat_c0, nat_c1, nat_c2, nat_c3, nat_c4, nat_c5, Int.reduceEq, tgt2, tgt3, tgt4, c_isf, c_isn, c_inf, c_inn, c_iss, c_ins, Int.reduceMul, Int.reduceAdd, Int.reduceSub, fr_1, fr_0, fr_2, fr_h, x_f0, x_f1, u_tupf, u_lenf, c_eqfr, c_nefr, c_isfr, c_infr, o_mul, o_mod, o_div, n_le, n_ge, n_lt, n_gt, sp_add, sp_sub, sp_mul, sp_by, sp_isfr, sl_add, sl_sub, sl_mul, sl_by, List.take_succ_cons, List.take_zero, c_neb, c_eqb, c_isT, c_isF, c_insT, c_insF, u_repr, c_nes, beq_self_eq_true, sl_part, fin_lastF, D2_last, num_le_den, num_lt_den, num_eq_den, num_eq0, sub_ge, sub_lt, sub_gt, mk_pc, x_pc0, x_pc1, len_pc, tup_pc, tv_pc, tv_22, dE_compE, cE_nil, cE_cons, oN_some, bindN_ok, cPut_l, cPut_2, cPut_3, cEnd_l, cEnd_2, cEnd_3, dS_forE, fE_nil, fE_cons, oF_some, lpR_nx, lpR_ct, lpR_bk, lpR_rt, lpR_ex, tg2, tg3, len2, len3, *])
local macro_rules | `(tactic| walk_at "go") => `(tactic| simp (disch := walk_at "sz") only [tp0, ls0, tp1, ls1, tp2, ls2, tp3, ls3, tp4, ls4, tp5, ls5, tp6, ls6, tp7, ls7, tp8, ls8, tp9, ls9, tp10, ls10, tp11, ls11, tp12, ls12, denF_eq, dSs_nil, dSs_cons, nxS_nx, nxS_rt, nxS_ex, nxS_bk, nxS_ct, lift_ok, lift_ex, oE_some, dS_asg, dS_par, dS_ret, dS_retN, dS_ex, dS_raise, dS_brk, dS_cnt, dS_pass, dS_ife, tgt_nm, set_nil, set_cons, dI_seq, dI_rng1, nI_some, iI_some, int_int, it_list, it_tup, it_f, fin_p, endF_nx, endF_rt, endF_ex, bind_ok, bind_ex, D1_p, D2_pp, mD_some, mkD_f, pD_some, dE_cst, dE_glob, dE_var, vR_ok, dE_bin, dE_neg, negV_int, tR_bool, tR_int, tR_none, tR_list, tR_tup, dE_not, dE_and, dE_or, andR_t, andR_f, orR_t, orR_f, andR_b, orR_b, oB_some, dE_cmp, dE_chain, chR_t, chR_f, chR_b, oC_some, dE_ife, ifR_t, ifR_f, dE_call, dE_b1, dE_b2, dE_idx, dE_isi, dE_tup, dE_lst, dEs_nil, dEs_cons, dats_nil, dats_cons, dT_none, dT_some, o_add, o_sub, c_lt, c_le, c_gt, c_ge, c_eqi, c_nei, u_abs, u_int, u_lenl, u_lent, u_tupl, u_tupt, x_tup, x_lst, a1_0, a2_0, a2_1, a3_0, a3_1, a3_2, a4_0, a4_1, a4_2, a4_3, List.length_cons, List.length_nil, List.map_cons, List.map_nil, List.replicate, List.cons_append, List.nil_append, List.getElem?_cons_zero, List.getElem?_cons_succ, List.set_cons_zero, List.set_cons_succ, Option.map_some, Nat.reduceSub, Nat.reduceAdd, List.take_length, List.isEmpty_nil, List.isEmpty_cons, Bool.not_true, Bool.not_false, wipe_nil, wipe_cons, tgt1, Int.reduceLT, Int.reduceLE, decide_true, decide_false, Bool.true_and, Bool.and_true, Bool.false_and, Bool.true_or, Bool.false_or, Bool.or_false, List.all_cons, List.all_nil, id_eq, nat_c0, nat_c1, nat_c2, nat_c3, nat_c4, nat_c5, Int.reduceEq, tgt2, tgt3, tgt4, c_isf, c_isn, c_inf, c_inn, c_iss, c_ins, Int.reduceMul, Int.reduceAdd, Int.reduceSub, fr_1, fr_0, fr_2, fr_h, x_f0, x_f1, u_tupf, u_lenf, c_eqfr, c_nefr, c_isfr, c_infr, o_mul, o_mod, o_div, n_le, n_ge, n_lt, n_gt, sp_add, sp_sub, sp_mul, sp_by, sp_isfr, sl_add, sl_sub, sl_mul, sl_by, List.take_succ_cons, List.take_zero, c_neb, c_eqb, c_isT, c_isF, c_insT, c_insF, u_repr, c_nes, beq_self_eq_true, sl_part, fin_lastF, D2_last, num_le_den, num_lt_den, num_eq_den, num_eq0, sub_ge, sub_lt, sub_gt, mk_pc, x_pc0, x_pc1, len_pc, tup_pc, tv_pc, tv_22, ls0T, ls1T, setL_nil, setL_cons, tgl2, tgl3, tgl4, len4, tg_pc])
local macro_rules | `(tactic| walk_at "gx") => `(tactic| simp (disch := walk_at "sz") only [tp0, ls0, tp1, ls1, tp2, ls2, tp3, ls3, tp4, ls4, tp5, ls5, tp6, ls6, tp7, ls7, tp8, ls8, tp9, ls9, tp10, ls10, tp11, ls11, tp12, ls12, denF_eq, dSs_nil, dSs_cons, nxS_nx, nxS_rt, nxS_ex, nxS_bk, nxS_ct, lift_ok, lift_ex, oE_some, dS_asg, dS_par, dS_ret, dS_retN, dS_ex, dS_raise, dS_brk, dS_cnt, dS_pass, dS_ife, tgt_nm, set_nil, set_cons, dI_seq, dI_rng1, nI_some, iI_some, int_int, it_list, it_tup, it_f, fin_p, endF_nx, endF_rt, endF_ex, bind_ok, bind_ex, D1_p, D2_pp, mD_some, mkD_f, pD_some, dE_cst, dE_glob, dE_var, vR_ok, dE_bin, dE_neg, negV_int, tR_bool, tR_int, tR_none, tR_list, tR_tup, dE_not, dE_and, dE_or, andR_t, andR_f, orR_t, orR_f, andR_b, orR_b, oB_some, dE_cmp, dE_chain, chR_t, chR_f, chR_b, oC_some, dE_ife, ifR_t, ifR_f, dE_call, dE_b1, dE_b2, dE_idx, dE_isi, dE_tup, dE_lst, dEs_nil, dEs_cons, dats_nil, dats_cons, dT_none, dT_some, o_add, o_sub, c_lt, c_le, c_gt, c_ge, c_eqi, c_nei, u_abs, u_int, u_lenl, u_lent, u_tupl, u_tupt, x_tup, x_lst, a1_0, a2_0, a2_1, a3_0, a3_1, a3_2, a4_0, a4_1, a4_2, a4_3, List.length_cons, List.length_nil, List.map_cons, List.map_nil, List.replicate, List.cons_append, List.nil_append, List.getElem?_cons_zero, List.getElem?_cons_succ, List.set_cons_zero, List.set_cons_succ, Option.map_some, Nat.reduceSub, Nat.reduceAdd, List.take_length, List.isEmpty_nil, List.isEmpty_cons, Bool.not_true, Bool.not_false, wipe_nil, wipe_cons, tgt1, Int.reduceLT, Int.reduceLE, decide_true, decide_false, Bool.true_and, Bool.and_true, Bool.false_and, Bool.true_or, Bool.false_or, Bool.or_false, List.all_cons, List.all_nil, id_eq, nat_c0, nat_c1, nat_c2, nat_c3, nat_c4, nat_c5, Int.reduceEq, tgt2, tgt3, tgt4, c_isf, c_isn, c_inf, c_inn, c_iss, c_ins, Int.reduceMul, Int.reduceAdd, Int.reduceSub, fr_1, fr_0, fr_2, fr_h, x_f0, x_f1, u_tupf, u_lenf, c_eqfr, c_nefr, c_isfr, c_infr, o_mul, o_mod, o_div, n_le, n_ge, n_lt, n_gt, sp_add, sp_sub, sp_mul, sp_by, sp_isfr, sl_add, sl_sub, sl_mul, sl_by, List.take_succ_cons, List.take_zero, c_neb, c_eqb, c_isT, c_isF, c_insT, c_insF, u_repr, c_nes, beq_self_eq_true, sl_part, fin_lastF, D2_last, num_le_den, num_lt_den, num_eq_den, num_eq0, sub_ge, sub_lt, sub_gt, mk_pc, x_pc0, x_pc1, len_pc, tup_pc, tv_pc, tv_22, ls0T, ls1T, setL_nil, setL_cons, tgl2, tgl3, tgl4, len4, tg_pc, *])
local macro_rules | `(tactic| walk_at "un") => `(tactic| simp (disch := walk_at "sz") only [tp0, ls0, tp1, ls1, tp2, ls2, tp3, ls3, tp4, ls4, tp5, ls5, tp6, ls6, tp7, ls7, tp8, ls8, tp9, ls9, tp10, ls10, tp11, ls11, tp12, ls12, denF_eq, dSs_nil, dSs_cons, nxS_nx, nxS_rt, nxS_ex, nxS_bk, nxS_ct, lift_ok, lift_ex, oE_some, dS_asg, dS_par, dS_ret, dS_retN, dS_ex, dS_raise, dS_brk, dS_cnt, dS_pass, dS_ife, tgt_nm, set_nil, set_cons, dI_seq, dI_rng1, nI_some, iI_some, int_int, it_list, it_tup, it_f, fin_p, endF_nx, endF_rt, endF_ex, bind_ok, bind_ex, D1_p, D2_pp, mD_some, mkD_f, pD_some, dE_cst, dE_glob, dE_var, vR_ok, dE_bin, dE_neg, negV_int, tR_bool, tR_int, tR_none, tR_list, tR_tup, dE_not, dE_and, dE_or, andR_t, andR_f, orR_t, orR_f, andR_b, orR_b, oB_some, dE_cmp, dE_chain, chR_t, chR_f, chR_b, oC_some, dE_ife, ifR_t, ifR_f, dE_call, dE_b1, dE_b2, dE_idx, dE_isi, dE_tup, dE_lst, dEs_nil, dEs_cons, dats_nil, dats_cons, dT_none, dT_some, o_add, o_sub, c_lt, c_le, c_gt, c_ge, c_eqi, c_nei, u_abs, u_int, u_lenl, u_lent, u_tupl, u_tupt, x_tup, x_lst, a1_0, a2_0, a2_1, a3_0, a3_1, a3_2, a4_0, a4_1, a4_2, a4_3, List.length_cons, List.length_nil, List.map_cons, List.map_nil, List.replicate, List.cons_append, List.nil_append, List.getElem?_cons_zero, List.getElem?_cons_succ, List.set_cons_zero, List.set_cons_succ, Option.map_some, Nat.reduceSub, Nat.reduceAdd, List.take_length, List.isEmpty_nil, List.isEmpty_cons, Bool.not_true, Bool.not_false, wipe_nil, wipe_cons, tgt1, Int.reduceLT, Int.reduceLE, decide_true, decide_false, Bool.true_and, Bool.and_true, Bool.false_and, Bool.true_or, Bool.false_or, Bool.or_false, List.all_cons, List.all_nil, id_eq, nat_c0, nat_c1, nat_c2, nat_c3, nat_c4, nat_c5, Int.reduceEq, tgt2, tgt3, tgt4, c_isf, c_isn, c_inf, c_inn, c_iss, c_ins, Int.reduceMul, Int.reduceAdd, Int.reduceSub, fr_1, fr_0, fr_2, fr_h, x_f0, x_f1, u_tupf, u_lenf, c_eqfr, c_nefr, c_isfr, c_infr, o_mul, o_mod, o_div, n_le, n_ge, n_lt, n_gt, sp_add, sp_sub, sp_mul, sp_by, sp_isfr, sl_add, sl_sub, sl_mul, sl_by, List.take_succ_cons, List.take_zero, c_neb, c_eqb, c_isT, c_isF, c_insT, c_insF, u_repr, c_nes, beq_self_eq_true, sl_part, fin_lastF, D2_last, num_le_den, num_lt_den, num_eq_den, num_eq0, sub_ge, sub_lt, sub_gt, mk_pc, x_pc0, x_pc1, len_pc, tup_pc, tv_pc, tv_22, ls0T, ls1T, setL_nil, setL_cons, tgl2, tgl3, tgl4, len4, tg_pc, dE_compE, cE_nil, cE_cons, oN_some, bindN_ok, cPut_l, cPut_2, cPut_3, cEnd_l, cEnd_2, cEnd_3, dS_forE, fE_nil, fE_cons, oF_some, lpR_nx, lpR_ct, lpR_bk, lpR_rt, lpR_ex, tg2, tg3, len2, len3])
local macro_rules | `(tactic| walk_at "ux") => `(tactic| simp (disch := walk_at "sz") only [tp0, ls0, tp1, ls1, tp2, ls2, tp3, ls3, tp4, ls4, tp5, ls5, tp6, ls6, tp7, ls7, tp8, ls8, tp9, ls9, tp10, ls10, tp11, ls11, tp12, ls12, denF_eq, dSs_nil, dSs_cons, nxS_nx, nxS_rt, nxS_ex, nxS_bk, nxS_ct, lift_ok, lift_ex, oE_some, dS_asg, dS_par, dS_ret, dS_retN, dS_ex, dS_raise, dS_brk, dS_cnt, dS_pass, dS_ife, tgt_nm, set_nil, set_cons, dI_seq, dI_rng1, nI_some, iI_some, int_int, it_list, it_tup, it_f, fin_p, endF_nx, endF_rt, endF_ex, bind_ok, bind_ex, D1_p, D2_pp, mD_some, mkD_f, pD_some, dE_cst, dE_glob, dE_var, vR_ok, dE_bin, dE_neg, negV_int, tR_bool, tR_int, tR_none, tR_list, tR_tup, dE_not, dE_and, dE_or, andR_t, andR_f, orR_t, orR_f, andR_b, orR_b, oB_some, dE_cmp, dE_chain, chR_t, chR_f, chR_b, oC_some, dE_ife, ifR_t, ifR_f, dE_call, dE_b1, dE_b2, dE_idx, dE_isi, dE_tup, dE_lst, dEs_nil, dEs_cons, dats_nil, dats_cons, dT_none, dT_some, o_add, o_sub, c_lt, c_le, c_gt, c_ge, c_eqi, c_nei, u_abs, u_int, u_lenl, u_lent, u_tupl, u_tupt, x_tup, x_lst, a1_0, a2_0, a2_1, a3_0, a3_1, a3_2, a4_0, a4_1, a4_2, a4_3, List.length_cons, List.length_nil, List.map_cons, List.map_nil, List.replicate, List.cons_append, List.nil_append, List.getElem?_cons_zero, List.getElem?_cons_succ, List.set_cons_zero, List.set_cons_succ, Option.map_some, Nat.reduceSub, Nat.reduceAdd, List.take_length, List.isEmpty_nil, List.isEmpty_cons, Bool.not_true, Bool.not_false, wipe_nil, wipe_cons, tgt1, Int.reduceLT, Int.reduceLE, decide_true, decide_false, Bool.true_and, Bool.and_true, Bool.false_and, Bool.true_or, Bool.false_or, Bool.or_false, List.all_cons, List.all_nil, id_eq, nat_c0, nat_c1, nat_c2, nat_c3, nat_c4, nat_c5, Int.reduceEq, tgt2, tgt3, tgt4, c_isf, c_isn, c_inf, c_inn, c_iss, c_ins, Int.reduceMul, Int.reduceAdd, Int.reduceSub, fr_1, fr_0, fr_2, fr_h, x_f0, x_f1, u_tupf, u_lenf, c_eqfr, c_nefr, c_isfr, c_infr, o_mul, o_mod, o_div, n_le, n_ge, n_lt, n_gt, sp_add, sp_sub, sp_mul, sp_by, sp_isfr, sl_add, sl_sub, sl_mul, sl_by, List.take_succ_cons, List.take_zero, c_neb, c_eqb, c_isT, c_isF, c_insT, c_insF, u_repr, c_nes, beq_self_eq_true, sl_part, fin_lastF, D2_last, num_le_den, num_lt_den, num_eq_den, num_eq0, sub_ge, sub_lt, sub_gt, mk_pc, x_pc0, x_pc1, len_pc, tup_pc, tv_pc, tv_22, ls0T, ls1T, setL_nil, setL_cons, tgl2, tgl3, tgl4, len4, tg_pc, dE_compE, cE_nil, cE_cons, oN_some, bindN_ok, cPut_l, cPut_2, cPut_3, cEnd_l, cEnd_2, cEnd_3, dS_forE, fE_nil, fE_cons, oF_some, lpR_nx, lpR_ct, lpR_bk, lpR_rt, lpR_ex, tg2, tg3, len2, len3, *])

section
variable {st : Store} {p q : Rat × Rat} {e t : Rat}
theorem szc_le4 {n : Nat} (h : n ≤ 4) : szc n ≤ 900 := by
  match n, h with
  | 0, _ => exact (by decide)
  | 1, _ => exact (by decide)
  | 2, _ => exact (by decide)
  | 3, _ => exact (by decide)
  | 4, _ => exact (by decide)
theorem ch_loop (m : Nat) (he : SzR 3 e) {o0 : Option Val} : ∀ (r : List Rat) (h mm : Rat) (acc : List Rat) (n : Nat) (o4 o5 o6 : Option Val), SzR (szc n) h → Ms mm → (∀ q ∈ r, Ms q) → n + r.length ≤ 5 → acc.length + r.length ≤ 100 →
    ∃ o4' o5' o6', fE (FT tab (m + 4)) (.tp [.nm 4, .nm 5]) chB ((prs mm r).map pcP) [o0, some (.p (frP e)), some (.l st.length), some (.p (frP h)), o4, o5, o6] (st ++ [acc.map frP]) = .ok (.nx [o0, some (.p (frP e)), some (.l st.length), some (.p (frP (chE e h mm r))), o4', o5', o6']) (st ++ [(acc ++ chF e h mm r).map frP])
  | [], h, mm, acc, n, o4, o5, o6, _, _, _, _, _ => ⟨o4, o5, o6, by rw [show acc ++ chF e h mm [] = acc from List.append_nil _]; rfl⟩
  | m' :: r, h, mm, acc, n, o4, o5, o6, hh, hm, hr, hn, hl => by
    rw [List.length_cons] at hn hl
    have hm' := hr m' List.mem_cons_self
    obtain ⟨a1, a2⟩ := sz_aft1 (b := szc n) (p := (h, mm)) (q := (0, m')) (e := e) hh hm.1 rfl hm'.1 he
    obtain ⟨q4, q5, q6, q⟩ := ch_loop m he (o0 := o0) r (aft (h, mm) (0, m') e).2 m' (acc ++ [(aft (h, mm) (0, m') e).1]) (n + 1) (some (.p (frP mm))) (some (.p (frP m'))) (some (.p (frP (aft (h, mm) (0, m') e).1))) a2 hm' (fun q hq => hr q (List.mem_cons_of_mem _ hq)) (by omega) (by rw [List.length_append]; simp only [List.length_cons, List.length_nil]; omega)
    refine ⟨q4, q5, q6, ?_⟩
    have zh : SzR 900 h := hh.mono (szc_le4 (by omega))
    have af := sp_aft (st := st ++ [acc.map frP]) m (h, mm) (0, m') e zh hm.1 (sz_c0.mono (by decide)) hm'.1 he hm.2 hm'.2
    have ap := app_last (T := FT tab (m + 4)) (e := [o0, some (.p (frP e)), some (.l st.length), some (.p (frP (aft (h, mm) (0, m') e).2)), some (.p (frP mm)), some (.p (frP m')), some (.p (frP (aft (h, mm) (0, m') e).1))]) (st := st) (a := .var 2) (b := .var 6) (d := frP (aft (h, mm) (0, m') e).1) (xs := acc.map frP) rfl rfl (by rw [List.length_map]; omega)
    show fE (FT tab (m + 4)) (.tp [.nm 4, .nm 5]) chB (pcP (mm, m') :: (prs m' r).map pcP) _ _ = _
    rw [fE_cons, tg_pc, oF_some]
    unfold chB
    walk_at "go"
    rw [af]
    walk_at "go"
    rw [ap]
    walk_at "go"
    rw [lpR_nx]
    rw [List.map_append, List.append_assoc] at q
    exact q
theorem sp_chain (m : Nat) (he : SzR 3 e) {m0 : Rat} {r : List Rat} (hm : Ms m0) (hr : ∀ q ∈ r, Ms q) (hl : r.length ≤ 5) : FT tab (m + 5) 20 [.p (.tuple ((m0 :: r).map frP)), .p (frP e)] st = .ok (.p (.list ((chF e 1 m0 r ++ [chE e 1 m0 r]).map frP))) st := by
  obtain ⟨o4, o5, o6, h⟩ := ch_loop (st := st) m he (o0 := some (.p (.tuple ((m0 :: r).map frP)))) r 1 m0 [] 0 none none none sz_c1 hm hr (by omega) (by simp only [List.length_nil]; omega)
  have it : denI (FT tab (m + 4)) (.zip2 (.var 0) (.slc (.var 0) (.some (.cst (.int 1))) .none)) [some (.p (.tuple ((m0 :: r).map frP))), some (.p (frP e)), some (.l st.length), some (.p (frP 1)), none, none, none] (st ++ [[]]) = .ok ((prs m0 r).map pcP) (st ++ [[]]) := by
    have z := zip_prs r m0
    rw [List.map_cons] at z
    rw [List.map_cons, dI_zip2]
    walk_at "go"
    rw [dE_slcE]
    walk_at "go"
    rw [dO_some]
    walk_at "go"
    rw [inO_i]
    walk_at "go"
    rw [dO_none]
    walk_at "go"
    rw [slR_p, slc_1t]
    walk_at "go"
    rw [zI_t, z]
  have sl := star_last (T := FT tab (m + 4)) (e := [some (.p (.tuple ((m0 :: r).map frP))), some (.p (frP e)), some (.l st.length), some (.p (frP (chE e 1 m0 r))), o4, o5, o6]) (st := st) (i := 2) (b := .var 3) (d := frP (chE e 1 m0 r)) (xs := (chF e 1 m0 r).map frP) rfl rfl (by
    rw [List.length_map]
    have : ∀ (r : List Rat) (h m : Rat), (chF e h m r).length = r.length := by
      intro r
      induction r with
      | nil => intro h m; rfl
      | cons x r ih => intro h m; show (chF e _ x r).length + 1 = r.length + 1; rw [ih]
    rw [this]; omega)
  rw [t20, denF_eq (by rfl)]
  unfold f20
  walk_at "go"
  rw [dS_forE, ← List.map_cons (f := frP), it, lift_ok]
  have h' : fE (FT tab (m + 4)) (.tp [.nm 4, .nm 5]) chB ((prs m0 r).map pcP) [some (.p (.tuple ((m0 :: r).map frP))), some (.p (frP e)), some (.l st.length), some (.p (frP 1)), none, none, none] (st ++ [[]]) = .ok (.nx [some (.p (.tuple ((m0 :: r).map frP))), some (.p (frP e)), some (.l st.length), some (.p (frP (chE e 1 m0 r))), o4, o5, o6]) (st ++ [(chF e 1 m0 r).map frP]) := h
  unfold chB at h'
  rw [h', nxS_nx, dSs_cons, dS_ret, sl]
  walk_at "go"
  rw [List.map_append]
  have : (st ++ [(chF e 1 m0 r).map frP]).take st.length = st := List.take_left
  rw [this]
  rfl
end

end Law03

set_option Elab.async false
set_option linter.all false
set_option maxRecDepth 100000
set_option maxHeartbeats 1000000
set_option exponentiation.threshold 20000
namespace Law03
open PySem Rk
local macro_rules | `(tactic| walk_at "szc") => `(tactic| first | assumption | (apply sz_add <;> walk_at "szc") | (apply sz_sub <;> walk_at "szc") | (apply sz_mul <;> walk_at "szc") | (apply sz_div <;> walk_at "szc") | exact sz_c1 | exact sz_c2 | exact sz_ch | exact sz_c0 | (apply sz_neg; walk_at "szc"))
local macro_rules | `(tactic| walk_at "sz") => `(tactic| first | assumption | decide | (apply SzR.mono; (walk_at "szc"); decide) | (simp only [List.length_cons, List.length_nil, List.length_append, Nat.reduceAdd, Nat.reduceLT, Nat.reduceLeDiff]; done))
local macro_rules | `(tactic| walk_at "go") => `(tactic| simp (disch := walk_at "sz") only [tp0, ls0, tp1, ls1, tp2, ls2, tp3, ls3, tp4, ls4, tp5, ls5, tp6, ls6, tp7, ls7, tp8, ls8, tp9, ls9, tp10, ls10, tp11, ls11, tp12, ls12, denF_eq, dSs_nil, dSs_cons, nxS_nx, nxS_rt, nxS_ex, nxS_bk, nxS_ct, lift_ok, lift_ex, oE_some, dS_asg, dS_par, dS_ret, dS_retN, dS_ex, dS_raise, dS_brk, dS_cnt, dS_pass, dS_ife, tgt_nm, set_nil, set_cons, dI_seq, dI_rng1, nI_some, iI_some, int_int, it_list, it_tup, it_f, fin_p, endF_nx, endF_rt, endF_ex, bind_ok, bind_ex, D1_p, D2_pp, mD_some, mkD_f, pD_some, dE_cst, dE_glob, dE_var, vR_ok, dE_bin, dE_neg, negV_int, tR_bool, tR_int, tR_none, tR_list, tR_tup, dE_not, dE_and, dE_or, andR_t, andR_f, orR_t, orR_f, andR_b, orR_b, oB_some, dE_cmp, dE_chain, chR_t, chR_f, chR_b, oC_some, dE_ife, ifR_t, ifR_f, dE_call, dE_b1, dE_b2, dE_idx, dE_isi, dE_tup, dE_lst, dEs_nil, dEs_cons, dats_nil, dats_cons, dT_none, dT_some, o_add, o_sub, c_lt, c_le, c_gt, c_ge, c_eqi, c_nei, u_abs, u_int, u_lenl, u_lent, u_tupl, u_tupt, x_tup, x_lst, a1_0, a2_0, a2_1, a3_0, a3_1, a3_2, a4_0, a4_1, a4_2, a4_3, List.length_cons, List.length_nil, List.map_cons, List.map_nil, List.replicate, List.cons_append, List.nil_append, List.getElem?_cons_zero, List.getElem?_cons_succ, List.set_cons_zero, List.set_cons_succ, Option.map_some, Nat.reduceSub, Nat.reduceAdd, List.take_length, List.isEmpty_nil, List.isEmpty_cons, Bool.not_true, Bool.not_false, wipe_nil, wipe_cons, tgt1, Int.reduceLT, Int.reduceLE, decide_true, decide_false, Bool.true_and, Bool.and_true, Bool.false_and, Bool.true_or, Bool.false_or, Bool.or_false, List.all_cons, List.all_nil, id_eq, nat_c0, nat_c1, nat_c2, nat_c3, nat_c4, nat_c5, Int.reduceEq, tgt2, tgt3, tgt4, c_isf, c_isn, c_inf, c_inn, c_iss, c_ins, Int.reduceMul, Int.reduceAdd, Int.reduceSub, fr_1, fr_0, fr_2, fr_h, x_f0, x_f1, u_tupf, u_lenf, c_eqfr, c_nefr, c_isfr, c_infr, o_mul, o_mod, o_div, n_le, n_ge, n_lt, n_gt, sp_add, sp_sub, sp_mul, sp_by, sp_isfr, sl_add, sl_sub, sl_mul, sl_by, List.take_succ_cons, List.take_zero, c_neb, c_eqb, c_isT, c_isF, c_insT, c_insF, u_repr, c_nes, beq_self_eq_true, sl_part, fin_lastF, D2_last, num_le_den, num_lt_den, num_eq_den, num_eq0, sub_ge, sub_lt, sub_gt, mk_pc, x_pc0, x_pc1, len_pc, tup_pc, tv_pc, tv_22, ls0T, ls1T, setL_nil, setL_cons, tgl2, tgl3, tgl4, len4, tg_pc])
local macro_rules | `(tactic| walk_at "gx") => `(tactic| simp (disch := walk_at "sz") only [tp0, ls0, tp1, ls1, tp2, ls2, tp3, ls3, tp4, ls4, tp5, ls5, tp6, ls6, tp7, ls7, tp8, ls8, tp9, ls9, tp10, ls10, tp11, ls11, tp12, ls12, denF_eq, dSs_nil, dSs_cons, nxS_nx, nxS_rt, nxS_ex, nxS_bk, nxS_ct, lift_ok, lift_ex, oE_some, dS_asg, dS_par, dS_ret, dS_retN, dS_ex, dS_raise, dS_brk, dS_cnt, dS_pass, dS_ife, tgt_nm, set_nil, set_cons, dI_seq, dI_rng1, nI_some, iI_some, int_int, it_list, it_tup, it_f, fin_p, endF_nx, endF_rt, endF_ex, bind_ok, bind_ex, D1_p, D2_pp, mD_some, mkD_f, pD_some, dE_cst, dE_glob, dE_var, vR_ok, dE_bin, dE_neg, negV_int, tR_bool, tR_int, tR_none, tR_list, tR_tup, dE_not, dE_and, dE_or, andR_t, andR_f, orR_t, orR_f, andR_b, orR_b, oB_some, dE_cmp, dE_chain, chR_t, chR_f, chR_b, oC_some, dE_ife, ifR_t, ifR_f, dE_call, dE_b1, dE_b2, dE_idx, dE_isi, dE_tup, dE_lst, dEs_nil, dEs_cons, dats_nil, dats_cons, dT_none, dT_some, o_add, o_sub, c_lt, c_le, c_gt, c_ge, c_eqi, c_nei, u_abs, u_int, u_lenl, u_lent, u_tupl, u_tupt, x_tup, x_lst, a1_0, a2_0, a2_1, a3_0, a3_1, a3_2, a4_0, a4_1, a4_2, a4_3, List.length_cons, List.length_nil, List.map_cons, List.map_nil, List.replicate, List.cons_append, List.nil_append, List.getElem?_cons_zero, List.getElem?_cons_succ, List.set_cons_zero, List.set_cons_succ, Option.map_some, Nat.reduceSub, Nat.reduceAdd, List.take_length, List.isEmpty_nil, List.isEmpty_cons, Bool.not_true, Bool.not_false, wipe_nil, wipe_cons, tgt1, Int.reduceLT, Int.reduceLE, decide_true, decide_false, Bool.true_and, Bool.and_true, Bool.false_and, Bool.true_or, Bool.false_or, Bool.or_false, List.all_cons, List.all_nil, id_eq, nat_c0, nat_c1, nat_c2, nat_c3, nat_c4, nat_c5, Int.reduceEq, tgt2, tgt3, tgt4, c_isf, c_isn, c_inf, c_inn, c_iss, c_ins, Int.reduceMul, Int.reduceAdd, Int.reduceSub, fr_1, fr_0, fr_2, fr_h, x_f0, x_f1, u_tupf, u_lenf, c_eqfr, c_nefr, c_isfr, c_infr, o_mul, o_mod, o_div, n_le, n_ge, n_lt, n_gt, sp_add, sp_sub, sp_mul, sp_by, sp_isfr, sl_add, sl_sub, sl_mul, sl_by, List.take_succ_cons, List.take_zero, c_neb, c_eqb, c_isT, c_isF, c_insT, c_insF, u_repr, c_nes, beq_self_eq_true, sl_part, fin_lastF, D2_last, num_le_den, num_lt_den, num_eq_den, num_eq0, sub_ge, sub_lt, sub_gt, mk_pc, x_pc0, x_pc1, len_pc, tup_pc, tv_pc, tv_22, ls0T, ls1T, setL_nil, setL_cons, tgl2, tgl3, tgl4, len4, tg_pc, *])
local macro_rules | `(tactic| walk_at "un") => `(tactic| simp (disch := walk_at "sz") only [tp0, ls0, tp1, ls1, tp2, ls2, tp3, ls3, tp4, ls4, tp5, ls5, tp6, ls6, tp7, ls7, tp8, ls8, tp9, ls9, tp10, ls10, tp11, ls11, tp12, ls12, denF_eq, dSs_nil, dSs_cons, nxS_nx, nxS_rt, nxS_ex, nxS_bk, nxS_ct, lift_ok, lift_ex, oE_some, dS_asg, dS_par, dS_ret, dS_retN, dS_ex, dS_raise, dS_brk, dS_cnt, dS_pass, dS_ife, tgt_nm, set_nil, set_cons, dI_seq, dI_rng1, nI_some, iI_some, int_int, it_list, it_tup, it_f, fin_p, endF_nx, endF_rt, endF_ex, bind_ok, bind_ex, D1_p, D2_pp, mD_some, mkD_f, pD_some, dE_cst, dE_glob, dE_var, vR_ok, dE_bin, dE_neg, negV_int, tR_bool, tR_int, tR_none, tR_list, tR_tup, dE_not, dE_and, dE_or, andR_t, andR_f, orR_t, orR_f, andR_b, orR_b, oB_some, dE_cmp, dE_chain, chR_t, chR_f, chR_b, oC_some, dE_ife, ifR_t, ifR_f, dE_call, dE_b1, dE_b2, dE_idx, dE_isi, dE_tup, dE_lst, dEs_nil, dEs_cons, dats_nil, dats_cons, dT_none, dT_some, o_add, o_sub, c_lt, c_le, c_gt, c_ge, c_eqi, c_nei, u_abs, u_int, u_lenl, u_lent, u_tupl, u_tupt, x_tup, x_lst, a1_0, a2_0, a2_1, a3_0, a3_1, a3_2, a4_0, a4_1, a4_2, a4_3, List.length_cons, List.length_nil, List.map_cons, List.map_nil, List.replicate, List.cons_append, List.nil_append, List.getElem?_cons_zero, List.getElem?_cons_succ, List.set_cons_zero, List.set_cons_succ, Option.map_some, Nat.reduceSub, Nat.reduceAdd, List.take_length, List.isEmpty_nil, List.isEmpty_cons, Bool.not_true, Bool.not_false, wipe_nil, wipe_cons, tgt1, Int.reduceLT, Int.reduceLE, decide_true, decide_false, Bool.true_and, Bool.and_true, Bool.false_and, Bool.true_or, Bool.false_or, Bool.or_false, List.all_cons, List.all_nil, id_eq, nat_c0, nat_c1, nat_c2, nat_c3, nat_c4, nat_c5, Int.reduceEq, tgt2, tgt3, tgt4, c_isf, c_isn, c_inf, c_inn, c_iss, c_ins, Int.reduceMul, Int.reduceAdd, Int.reduceSub, fr_1, fr_0, fr_2, fr_h, x_f0, x_f1, u_tupf, u_lenf, c_eqfr, c_nefr, c_isfr, c_infr, o_mul, o_mod, o_div, n_le, n_ge, n_lt, n_gt, sp_add, sp_sub, sp_mul, sp_by, sp_isfr, sl_add, sl_sub, sl_mul, sl_by, List.take_succ_cons, List.take_zero, c_neb, c_eqb, c_isT, c_isF, c_insT, c_insF, u_repr, c_nes, beq_self_eq_true, sl_part, fin_lastF, D2_last, num_le_den, num_lt_den, num_eq_den, num_eq0, sub_ge, sub_lt, sub_gt, mk_pc, x_pc0, x_pc1, len_pc, tup_pc, tv_pc, tv_22, ls0T, ls1T, setL_nil, setL_cons, tgl2, tgl3, tgl4, len4, tg_pc, dE_compE, cE_nil, cE_cons, oN_some, bindN_ok, cPut_l, cPut_2, cPut_3, cEnd_l, cEnd_2, cEnd_3, dS_forE, fE_nil, fE_cons, oF_some, lpR_nx, lpR_ct, lpR_bk, lpR_rt, lpR_ex, tg2, tg3, len2, len3])
local macro_rules | `(tactic| walk_at "ux") => `(tactic| simp (disch := walk_at "sz") only [tp0, ls0, tp1, ls1, tp2, ls2, tp3, ls3, tp4, ls4, tp5, ls5, tp6, ls6, tp7, ls7, tp8, ls8, tp9, ls9, tp10, ls10, tp11, ls11, tp12, ls12, denF_eq, dSs_nil, dSs_cons, nxS_nx, nxS_rt, nxS_ex, nxS_bk, nxS_ct, lift_ok, lift_ex, oE_some, dS_asg, dS_par, dS_ret, dS_retN, dS_ex, dS_raise, dS_brk, dS_cnt, dS_pass, dS_ife, tgt_nm, set_nil, set_cons, dI_seq, dI_rng1, nI_some, iI_some, int_int, it_list, it_tup, it_f, fin_p, endF_nx, endF_rt, endF_ex, bind_ok, bind_ex, D1_p, D2_pp, mD_some, mkD_f, pD_some, dE_cst, dE_glob, dE_var, vR_ok, dE_bin, dE_neg, negV_int, tR_bool, tR_int, tR_none, tR_list, tR_tup, dE_not, dE_and, dE_or, andR_t, andR_f, orR_t, orR_f, andR_b, orR_b, oB_some, dE_cmp, dE_chain, chR_t, chR_f, chR_b, oC_some, dE_ife, ifR_t, ifR_f, dE_call, dE_b1, dE_b2, dE_idx, dE_isi, dE_tup, dE_lst, dEs_nil, dEs_cons, dats_nil, dats_cons, dT_none, dT_some, o_add, o_sub, c_lt, c_le, c_gt, c_ge, c_eqi, c_nei, u_abs, u_int, u_lenl, u_lent, u_tupl, u_tupt, x_tup, x_lst, a1_0, a2_0, a2_1, a3_0, a3_1, a3_2, a4_0, a4_1, a4_2, a4_3, List.length_cons, List.length_nil, List.map_cons, List.map_nil, List.replicate, List.cons_append, List.nil_append, List.getElem?_cons_zero, List.getElem?_cons_succ, List.set_cons_zero, List.set_cons_succ, Option.map_some, Nat.reduceSub, Nat.reduceAdd, List.take_length, List.isEmpty_nil, List.isEmpty_cons, Bool.not_true, Bool.not_false, wipe_nil, wipe_cons, tgt1, Int.reduceLT, Int.reduceLE, decide_true, decide_false, Bool.true_and, Bool.and_true, Bool.false_and, Bool.true_or, Bool.false_or, Bool.or_false, List.all_cons, List.all_nil, id_eq, nat_c0, nat_c1, nat_c2, nat_c3, nat_c4, nat_c5, Int.reduceEq, tgt2, tgt3, tgt4, c_isf, c_isn, c_inf, c_inn, c_iss, c_ins, Int.reduceMul, Int.reduceAdd, Int.reduceSub, fr_1, fr_0, fr_2, fr_h, x_f0, x_f1, u_tupf, u_lenf, c_eqfr, c_nefr, c_isfr, c_infr, o_mul, o_mod, o_div, n_le, n_ge, n_lt, n_gt, sp_add, sp_sub, sp_mul, sp_by, sp_isfr, sl_add, sl_sub, sl_mul, sl_by, List.take_succ_cons, List.take_zero, c_neb, c_eqb, c_isT, c_isF, c_insT, c_insF, u_repr, c_nes, beq_self_eq_true, sl_part, fin_lastF, D2_last, num_le_den, num_lt_den, num_eq_den, num_eq0, sub_ge, sub_lt, sub_gt, mk_pc, x_pc0, x_pc1, len_pc, tup_pc, tv_pc, tv_22, ls0T, ls1T, setL_nil, setL_cons, tgl2, tgl3, tgl4, len4, tg_pc, dE_compE, cE_nil, cE_cons, oN_some, bindN_ok, cPut_l, cPut_2, cPut_3, cEnd_l, cEnd_2, cEnd_3, dS_forE, fE_nil, fE_cons, oF_some, lpR_nx, lpR_ct, lpR_bk, lpR_rt, lpR_ex, tg2, tg3, len2, len3, *])
section
variable {st : Store} {p q : Rat × Rat} {e t : Rat}
theorem sp_chchain (m : Nat) (he : SzR 3 e) (hc : Ch e) {L : List Rat} (hL : ∀ q ∈ L, Ms q) (h1 : 2 ≤ L.length) (h2 : L.length ≤ 6) : FT tab (m + 5) 19 [.p (.tuple (L.map frP)), .p (frP e)] st = .ok (.p .none) st := by
  have ab := sp_above (st := st) (m + 1) L (fun q hq => ⟨(hL q hq).1.mono (by decide), (hL q hq).2⟩) (by omega) (.tuple (L.map frP)) rfl
  have a3 := sp_spring (st := st) m hc he
  have d1 : decide ((2 : Int) ≤ (L.length : Int)) = true := decide_eq_true (by omega)
  have d2 : decide ((L.length : Int) ≤ 30) = true := decide_eq_true (by omega)
  have ln : b1D .len (.tuple (L.map frP)) = some (.int (L.length : Int)) := by show some (PyData.int ((L.map frP).length : Int)) = _; rw [List.length_map]
  rw [t19, denF_eq (by rfl)]
  unfold f19
  rw [dSs_cons, dS_ife, dE_not, dE_chain]
  walk_at "go"
  rw [List.length_map]
  rw [d1, d2]
  walk_at "go"
  rw [ab]
  walk_at "go"
  rw [a3]
  walk_at "go"
theorem sp_cspeed (m : Nat) (he : SzR 3 e) (hc : Ch e) {m0 : Rat} {r : List Rat} (hm : Ms m0) (hr : ∀ q ∈ r, Ms q) (h1 : 1 ≤ r.length) (hl : r.length ≤ 5) : FT tab (m + 6) 21 [.p (.tuple ((m0 :: r).map frP)), .p (frP e)] st = .ok (.p (frP (chE e 1 m0 r))) st := by
  have c1 := sp_chchain (st := st) m he hc (L := m0 :: r) (fun q hq => by
    rcases List.mem_cons.mp hq with rfl | hq
    · exact hm
    · exact hr q hq) (by rw [List.length_cons]; omega) (by rw [List.length_cons]; omega)
  have c2 := sp_chain (st := st) m he hm hr hl
  rw [List.map_append] at c2
  have al := at_last ((chF e 1 m0 r).map frP) (frP (chE e 1 m0 r))
  rw [t21, denF_eq (by rfl)]
  unfold f21
  generalize PyData.tuple ((m0 :: r).map frP) = d at *
  walk_at "go"
  rw [c1]
  walk_at "go"
  rw [c2]
  walk_at "go"
  rw [al]
  walk_at "go"
theorem sp_cspeeds (m : Nat) (he : SzR 3 e) (hc : Ch e) {m0 : Rat} {r : List Rat} (hm : Ms m0) (hr : ∀ q ∈ r, Ms q) (h1 : 1 ≤ r.length) (hl : r.length ≤ 5) : FT tab (m + 6) 22 [.p (.tuple ((m0 :: r).map frP)), .p (frP e)] st = .ok (.p (.tuple ((chF e 1 m0 r ++ [chE e 1 m0 r]).map frP))) st := by
  have c1 := sp_chchain (st := st) m he hc (L := m0 :: r) (fun q hq => by
    rcases List.mem_cons.mp hq with rfl | hq
    · exact hm
    · exact hr q hq) (by rw [List.length_cons]; omega) (by rw [List.length_cons]; omega)
  have c2 := sp_chain (st := st) m he hm hr hl
  rw [t22, denF_eq (by rfl)]
  unfold f22
  generalize PyData.tuple ((m0 :: r).map frP) = d at *
  generalize (chF e 1 m0 r ++ [chE e 1 m0 r]).map frP = d2 at *
  walk_at "go"
  rw [c1]
  walk_at "go"
  rw [c2]
  walk_at "go"
/-! ### what is asked -/
variable {one two three four d : PyData}
theorem ask0 (m : Nat) {w : Int} {j : Nat} (hw : w < 2) (hj : L2.atI [12, 13] w = some j) (h : FT tab m j [.p one, .p two, .p three] st = .ok (.p d) st) : FT tab (m + 1) 43 [.p (.int w), .p one, .p two, .p three, .p four] st = .ok (.p d) st := by
  rw [t43, denF_eq (by rfl)]
  unfold f43
  walk_at "go"
  rw [dS_try_rt (v := .p d) (st1 := st)]
  · walk_at "go"
  · walk_at "go"
    rw [decide_eq_true hw]
    walk_at "go"
    rw [dE_sw (n := w) (st1 := st) (by walk_at "go") hj]
    walk_at "go"
    rw [h]
    walk_at "go"
theorem ask_2 (m : Nat) (h : FT tab m 15 [.p one] st = .ok (.p d) st) : FT tab (m + 1) 43 [.p (.int 2), .p one, .p two, .p three, .p four] st = .ok (.p d) st := by
  rw [t43, denF_eq (by rfl)]
  unfold f43
  walk_at "go"
  rw [dS_try_rt (v := .p d) (st1 := st)]
  · walk_at "go"
  · walk_at "go"
    rw [h]
    walk_at "go"
theorem ask3 (m : Nat) {w : Int} {j : Nat} (hw : 3 ≤ w) (hw2 : w < 8) (hj : L2.atI [16, 18, 21, 22, 24] (w - 3) = some j) (h : FT tab m j [.p one, .p two] st = .ok (.p d) st) : FT tab (m + 1) 43 [.p (.int w), .p one, .p two, .p three, .p four] st = .ok (.p d) st := by
  rw [t43, denF_eq (by rfl)]
  unfold f43
  walk_at "go"
  rw [dS_try_rt (v := .p d) (st1 := st)]
  · walk_at "go"
  · walk_at "go"
    rw [decide_eq_false (by omega : ¬ w < 2)]
    walk_at "go"
    rw [decide_eq_false (by omega : ¬ w < 3)]
    walk_at "go"
    rw [decide_eq_true hw2]
    walk_at "go"
    rw [dE_sw (n := w - 3) (st1 := st) (by walk_at "go") hj]
    walk_at "go"
    rw [h]
    walk_at "go"
theorem ask3x (m : Nat) {w : Int} {j : Nat} (hw : 3 ≤ w) (hw2 : w < 8) (hj : L2.atI [16, 18, 21, 22, 24] (w - 3) = some j) {c : Str} (h : FT tab m j [.p one, .p two] st = .ex c st) (hc : kh.lookup c = some d) : FT tab (m + 1) 43 [.p (.int w), .p one, .p two, .p three, .p four] st = .ok (.p d) st := by
  rw [t43, denF_eq (by rfl)]
  unfold f43
  walk_at "go"
  rw [dS_try_ex (c := c) (st1 := st) (e1 := [some (.p (.int w)), some (.p one), some (.p two), some (.p three), some (.p four), none]) _ hc]
  · walk_at "go"
  · walk_at "go"
    rw [decide_eq_false (by omega : ¬ w < 2)]
    walk_at "go"
    rw [decide_eq_false (by omega : ¬ w < 3)]
    walk_at "go"
    rw [decide_eq_true hw2]
    walk_at "go"
    rw [dE_sw (n := w - 3) (st1 := st) (by walk_at "go") hj]
    walk_at "go"
    rw [h]
    walk_at "go"
theorem ask_8 (m : Nat) (h : FT tab m 17 [.p one, .p two, .p three] st = .ok (.p d) st) : FT tab (m + 1) 43 [.p (.int 8), .p one, .p two, .p three, .p four] st = .ok (.p d) st := by
  rw [t43, denF_eq (by rfl)]
  unfold f43
  walk_at "go"
  rw [dS_try_rt (v := .p d) (st1 := st)]
  · walk_at "go"
  · walk_at "go"
    rw [h]
    walk_at "go"
theorem ask_9 (m : Nat) (h : FT tab m 23 [.p one, .p two, .p three, .p four] st = .ok (.p d) st) : FT tab (m + 1) 43 [.p (.int 9), .p one, .p two, .p three, .p four] st = .ok (.p d) st := by
  rw [t43, denF_eq (by rfl)]
  unfold f43
  walk_at "go"
  rw [dS_try_rt (v := .p d) (st1 := st)]
  · walk_at "go"
  · walk_at "go"
    rw [h]
    walk_at "go"
end
/-! ### the draws -/
abbrev OKs (r : Ss) (e : Rk.Env) (st : Store) : Prop := ∃ st', denSs (FT tab 9) r e st = .ok (.rt (.p (.bool true))) st'
theorem ok_step {s : Rk.S} {r : Ss} {e e1 : Rk.Env} {st st1 : Store} (h : denS (FT tab 9) s e st = .ok (.nx e1) st1) (h2 : OKs r e1 st1) : OKs (.cons s r) e st := by
  obtain ⟨st', h2⟩ := h2
  exact ⟨st', nx_step h h2⟩
theorem nx (m : Nat) (a xs : List PyData) (r : Store) (hd : Dr xs) : ∃ (n : Int) (ys : List PyData), 0 ≤ n ∧ n < 1000 ∧ Dr ys ∧ FT tab (m + 1) 28 [.l 1] (a :: xs :: r) = .ok (.p (.int n)) (a :: ys :: r) := nxr (sl_next m) a xs r hd
theorem lst (m : Nat) (i d : Int) (st : Store) (h1 : 0 < d) (h2 : d ≤ 1000000) : FT tab (m + 2) 32 [.p (.int i), .p (.int d)] st = .ok (.p (frP (Rat.divInt i d))) st := least_sm (sl_least m) i d st h1 h2
theorem dw_rate (m : Nat) (a xs : List PyData) (r : Store) (hd : Dr xs) : ∃ (k : Rat) (ys : List PyData), Ms k ∧ Dr ys ∧ FT tab (m + 3) 38 [.l 1] (a :: xs :: r) = .ok (.p (frP k)) (a :: ys :: r) := by
  obtain ⟨n1, ys1, a1, b1, hd1, r1⟩ := nx (m + 1) a xs r hd
  obtain ⟨n2, ys2, a2, b2, hd2, r2⟩ := nx (m + 1) a ys1 r hd1
  have f := Fq.of (n := 5) (m := 4) (i := 1 + n1 % 5) (d := 1 + n2 % 4) (by omega) (by omega) (by omega) (by omega)
  refine ⟨Rat.divInt (1 + n1 % 5) (1 + n2 % 4), ys2, ⟨f.sz (by decide) (by decide), f.1⟩, hd2, ?_⟩
  rw [t38, denF_eq (by rfl)]
  unfold f38
  walk_at "go"
  rw [r1]
  walk_at "go"
  rw [r2]
  walk_at "go"
  rw [lst m _ _ _ (by omega) (by omega)]
  walk_at "go"

end Law03

set_option Elab.async false
set_option linter.all false
set_option maxRecDepth 100000
set_option maxHeartbeats 1000000
set_option exponentiation.threshold 20000
namespace Law03
open PySem Rk
local macro_rules | `(tactic| walk_at "szc") => `(tactic| first | assumption | (apply sz_add <;> walk_at "szc") | (apply sz_sub <;> walk_at "szc") | (apply sz_mul <;> walk_at "szc") | (apply sz_div <;> walk_at "szc") | exact sz_c1 | exact sz_c2 | exact sz_ch | exact sz_c0 | (apply sz_neg; walk_at "szc"))
local macro_rules | `(tactic| walk_at "sz") => `(tactic| first | assumption | decide | (apply SzR.mono; (walk_at "szc"); decide) | (simp only [List.length_cons, List.length_nil, List.length_append, Nat.reduceAdd, Nat.reduceLT, Nat.reduceLeDiff]; done))
local macro_rules | `(tactic| walk_at "go") => `(tactic| simp (disch := walk_at "sz") only [tp0, ls0, tp1, ls1, tp2, ls2, tp3, ls3, tp4, ls4, tp5, ls5, tp6, ls6, tp7, ls7, tp8, ls8, tp9, ls9, tp10, ls10, tp11, ls11, tp12, ls12, denF_eq, dSs_nil, dSs_cons, nxS_nx, nxS_rt, nxS_ex, nxS_bk, nxS_ct, lift_ok, lift_ex, oE_some, dS_asg, dS_par, dS_ret, dS_retN, dS_ex, dS_raise, dS_brk, dS_cnt, dS_pass, dS_ife, tgt_nm, set_nil, set_cons, dI_seq, dI_rng1, nI_some, iI_some, int_int, it_list, it_tup, it_f, fin_p, endF_nx, endF_rt, endF_ex, bind_ok, bind_ex, D1_p, D2_pp, mD_some, mkD_f, pD_some, dE_cst, dE_glob, dE_var, vR_ok, dE_bin, dE_neg, negV_int, tR_bool, tR_int, tR_none, tR_list, tR_tup, dE_not, dE_and, dE_or, andR_t, andR_f, orR_t, orR_f, andR_b, orR_b, oB_some, dE_cmp, dE_chain, chR_t, chR_f, chR_b, oC_some, dE_ife, ifR_t, ifR_f, dE_call, dE_b1, dE_b2, dE_idx, dE_isi, dE_tup, dE_lst, dEs_nil, dEs_cons, dats_nil, dats_cons, dT_none, dT_some, o_add, o_sub, c_lt, c_le, c_gt, c_ge, c_eqi, c_nei, u_abs, u_int, u_lenl, u_lent, u_tupl, u_tupt, x_tup, x_lst, a1_0, a2_0, a2_1, a3_0, a3_1, a3_2, a4_0, a4_1, a4_2, a4_3, List.length_cons, List.length_nil, List.map_cons, List.map_nil, List.replicate, List.cons_append, List.nil_append, List.getElem?_cons_zero, List.getElem?_cons_succ, List.set_cons_zero, List.set_cons_succ, Option.map_some, Nat.reduceSub, Nat.reduceAdd, List.take_length, List.isEmpty_nil, List.isEmpty_cons, Bool.not_true, Bool.not_false, wipe_nil, wipe_cons, tgt1, Int.reduceLT, Int.reduceLE, decide_true, decide_false, Bool.true_and, Bool.and_true, Bool.false_and, Bool.true_or, Bool.false_or, Bool.or_false, List.all_cons, List.all_nil, id_eq, nat_c0, nat_c1, nat_c2, nat_c3, nat_c4, nat_c5, Int.reduceEq, tgt2, tgt3, tgt4, c_isf, c_isn, c_inf, c_inn, c_iss, c_ins, Int.reduceMul, Int.reduceAdd, Int.reduceSub, fr_1, fr_0, fr_2, fr_h, x_f0, x_f1, u_tupf, u_lenf, c_eqfr, c_nefr, c_isfr, c_infr, o_mul, o_mod, o_div, n_le, n_ge, n_lt, n_gt, sp_add, sp_sub, sp_mul, sp_by, sp_isfr, sl_add, sl_sub, sl_mul, sl_by, List.take_succ_cons, List.take_zero, c_neb, c_eqb, c_isT, c_isF, c_insT, c_insF, u_repr, c_nes, beq_self_eq_true, sl_part, fin_lastF, D2_last, num_le_den, num_lt_den, num_eq_den, num_eq0, sub_ge, sub_lt, sub_gt, mk_pc, x_pc0, x_pc1, len_pc, tup_pc, tv_pc, tv_22, ls0T, ls1T, setL_nil, setL_cons, tgl2, tgl3, tgl4, len4, tg_pc])
local macro_rules | `(tactic| walk_at "gx") => `(tactic| simp (disch := walk_at "sz") only [tp0, ls0, tp1, ls1, tp2, ls2, tp3, ls3, tp4, ls4, tp5, ls5, tp6, ls6, tp7, ls7, tp8, ls8, tp9, ls9, tp10, ls10, tp11, ls11, tp12, ls12, denF_eq, dSs_nil, dSs_cons, nxS_nx, nxS_rt, nxS_ex, nxS_bk, nxS_ct, lift_ok, lift_ex, oE_some, dS_asg, dS_par, dS_ret, dS_retN, dS_ex, dS_raise, dS_brk, dS_cnt, dS_pass, dS_ife, tgt_nm, set_nil, set_cons, dI_seq, dI_rng1, nI_some, iI_some, int_int, it_list, it_tup, it_f, fin_p, endF_nx, endF_rt, endF_ex, bind_ok, bind_ex, D1_p, D2_pp, mD_some, mkD_f, pD_some, dE_cst, dE_glob, dE_var, vR_ok, dE_bin, dE_neg, negV_int, tR_bool, tR_int, tR_none, tR_list, tR_tup, dE_not, dE_and, dE_or, andR_t, andR_f, orR_t, orR_f, andR_b, orR_b, oB_some, dE_cmp, dE_chain, chR_t, chR_f, chR_b, oC_some, dE_ife, ifR_t, ifR_f, dE_call, dE_b1, dE_b2, dE_idx, dE_isi, dE_tup, dE_lst, dEs_nil, dEs_cons, dats_nil, dats_cons, dT_none, dT_some, o_add, o_sub, c_lt, c_le, c_gt, c_ge, c_eqi, c_nei, u_abs, u_int, u_lenl, u_lent, u_tupl, u_tupt, x_tup, x_lst, a1_0, a2_0, a2_1, a3_0, a3_1, a3_2, a4_0, a4_1, a4_2, a4_3, List.length_cons, List.length_nil, List.map_cons, List.map_nil, List.replicate, List.cons_append, List.nil_append, List.getElem?_cons_zero, List.getElem?_cons_succ, List.set_cons_zero, List.set_cons_succ, Option.map_some, Nat.reduceSub, Nat.reduceAdd, List.take_length, List.isEmpty_nil, List.isEmpty_cons, Bool.not_true, Bool.not_false, wipe_nil, wipe_cons, tgt1, Int.reduceLT, Int.reduceLE, decide_true, decide_false, Bool.true_and, Bool.and_true, Bool.false_and, Bool.true_or, Bool.false_or, Bool.or_false, List.all_cons, List.all_nil, id_eq, nat_c0, nat_c1, nat_c2, nat_c3, nat_c4, nat_c5, Int.reduceEq, tgt2, tgt3, tgt4, c_isf, c_isn, c_inf, c_inn, c_iss, c_ins, Int.reduceMul, Int.reduceAdd, Int.reduceSub, fr_1, fr_0, fr_2, fr_h, x_f0, x_f1, u_tupf, u_lenf, c_eqfr, c_nefr, c_isfr, c_infr, o_mul, o_mod, o_div, n_le, n_ge, n_lt, n_gt, sp_add, sp_sub, sp_mul, sp_by, sp_isfr, sl_add, sl_sub, sl_mul, sl_by, List.take_succ_cons, List.take_zero, c_neb, c_eqb, c_isT, c_isF, c_insT, c_insF, u_repr, c_nes, beq_self_eq_true, sl_part, fin_lastF, D2_last, num_le_den, num_lt_den, num_eq_den, num_eq0, sub_ge, sub_lt, sub_gt, mk_pc, x_pc0, x_pc1, len_pc, tup_pc, tv_pc, tv_22, ls0T, ls1T, setL_nil, setL_cons, tgl2, tgl3, tgl4, len4, tg_pc, *])
local macro_rules | `(tactic| walk_at "un") => `(tactic| simp (disch := walk_at "sz") only [tp0, ls0, tp1, ls1, tp2, ls2, tp3, ls3, tp4, ls4, tp5, ls5, tp6, ls6, tp7, ls7, tp8, ls8, tp9, ls9, tp10, ls10, tp11, ls11, tp12, ls12, denF_eq, dSs_nil, dSs_cons, nxS_nx, nxS_rt, nxS_ex, nxS_bk, nxS_ct, lift_ok, lift_ex, oE_some, dS_asg, dS_par, dS_ret, dS_retN, dS_ex, dS_raise, dS_brk, dS_cnt, dS_pass, dS_ife, tgt_nm, set_nil, set_cons, dI_seq, dI_rng1, nI_some, iI_some, int_int, it_list, it_tup, it_f, fin_p, endF_nx, endF_rt, endF_ex, bind_ok, bind_ex, D1_p, D2_pp, mD_some, mkD_f, pD_some, dE_cst, dE_glob, dE_var, vR_ok, dE_bin, dE_neg, negV_int, tR_bool, tR_int, tR_none, tR_list, tR_tup, dE_not, dE_and, dE_or, andR_t, andR_f, orR_t, orR_f, andR_b, orR_b, oB_some, dE_cmp, dE_chain, chR_t, chR_f, chR_b, oC_some, dE_ife, ifR_t, ifR_f, dE_call, dE_b1, dE_b2, dE_idx, dE_isi, dE_tup, dE_lst, dEs_nil, dEs_cons, dats_nil, dats_cons, dT_none, dT_some, o_add, o_sub, c_lt, c_le, c_gt, c_ge, c_eqi, c_nei, u_abs, u_int, u_lenl, u_lent, u_tupl, u_tupt, x_tup, x_lst, a1_0, a2_0, a2_1, a3_0, a3_1, a3_2, a4_0, a4_1, a4_2, a4_3, List.length_cons, List.length_nil, List.map_cons, List.map_nil, List.replicate, List.cons_append, List.nil_append, List.getElem?_cons_zero, List.getElem?_cons_succ, List.set_cons_zero, List.set_cons_succ, Option.map_some, Nat.reduceSub, Nat.reduceAdd, List.take_length, List.isEmpty_nil, List.isEmpty_cons, Bool.not_true, Bool.not_false, wipe_nil, wipe_cons, tgt1, Int.reduceLT, Int.reduceLE, decide_true, decide_false, Bool.true_and, Bool.and_true, Bool.false_and, Bool.true_or, Bool.false_or, Bool.or_false, List.all_cons, List.all_nil, id_eq, nat_c0, nat_c1, nat_c2, nat_c3, nat_c4, nat_c5, Int.reduceEq, tgt2, tgt3, tgt4, c_isf, c_isn, c_inf, c_inn, c_iss, c_ins, Int.reduceMul, Int.reduceAdd, Int.reduceSub, fr_1, fr_0, fr_2, fr_h, x_f0, x_f1, u_tupf, u_lenf, c_eqfr, c_nefr, c_isfr, c_infr, o_mul, o_mod, o_div, n_le, n_ge, n_lt, n_gt, sp_add, sp_sub, sp_mul, sp_by, sp_isfr, sl_add, sl_sub, sl_mul, sl_by, List.take_succ_cons, List.take_zero, c_neb, c_eqb, c_isT, c_isF, c_insT, c_insF, u_repr, c_nes, beq_self_eq_true, sl_part, fin_lastF, D2_last, num_le_den, num_lt_den, num_eq_den, num_eq0, sub_ge, sub_lt, sub_gt, mk_pc, x_pc0, x_pc1, len_pc, tup_pc, tv_pc, tv_22, ls0T, ls1T, setL_nil, setL_cons, tgl2, tgl3, tgl4, len4, tg_pc, dE_compE, cE_nil, cE_cons, oN_some, bindN_ok, cPut_l, cPut_2, cPut_3, cEnd_l, cEnd_2, cEnd_3, dS_forE, fE_nil, fE_cons, oF_some, lpR_nx, lpR_ct, lpR_bk, lpR_rt, lpR_ex, tg2, tg3, len2, len3])
local macro_rules | `(tactic| walk_at "ux") => `(tactic| simp (disch := walk_at "sz") only [tp0, ls0, tp1, ls1, tp2, ls2, tp3, ls3, tp4, ls4, tp5, ls5, tp6, ls6, tp7, ls7, tp8, ls8, tp9, ls9, tp10, ls10, tp11, ls11, tp12, ls12, denF_eq, dSs_nil, dSs_cons, nxS_nx, nxS_rt, nxS_ex, nxS_bk, nxS_ct, lift_ok, lift_ex, oE_some, dS_asg, dS_par, dS_ret, dS_retN, dS_ex, dS_raise, dS_brk, dS_cnt, dS_pass, dS_ife, tgt_nm, set_nil, set_cons, dI_seq, dI_rng1, nI_some, iI_some, int_int, it_list, it_tup, it_f, fin_p, endF_nx, endF_rt, endF_ex, bind_ok, bind_ex, D1_p, D2_pp, mD_some, mkD_f, pD_some, dE_cst, dE_glob, dE_var, vR_ok, dE_bin, dE_neg, negV_int, tR_bool, tR_int, tR_none, tR_list, tR_tup, dE_not, dE_and, dE_or, andR_t, andR_f, orR_t, orR_f, andR_b, orR_b, oB_some, dE_cmp, dE_chain, chR_t, chR_f, chR_b, oC_some, dE_ife, ifR_t, ifR_f, dE_call, dE_b1, dE_b2, dE_idx, dE_isi, dE_tup, dE_lst, dEs_nil, dEs_cons, dats_nil, dats_cons, dT_none, dT_some, o_add, o_sub, c_lt, c_le, c_gt, c_ge, c_eqi, c_nei, u_abs, u_int, u_lenl, u_lent, u_tupl, u_tupt, x_tup, x_lst, a1_0, a2_0, a2_1, a3_0, a3_1, a3_2, a4_0, a4_1, a4_2, a4_3, List.length_cons, List.length_nil, List.map_cons, List.map_nil, List.replicate, List.cons_append, List.nil_append, List.getElem?_cons_zero, List.getElem?_cons_succ, List.set_cons_zero, List.set_cons_succ, Option.map_some, Nat.reduceSub, Nat.reduceAdd, List.take_length, List.isEmpty_nil, List.isEmpty_cons, Bool.not_true, Bool.not_false, wipe_nil, wipe_cons, tgt1, Int.reduceLT, Int.reduceLE, decide_true, decide_false, Bool.true_and, Bool.and_true, Bool.false_and, Bool.true_or, Bool.false_or, Bool.or_false, List.all_cons, List.all_nil, id_eq, nat_c0, nat_c1, nat_c2, nat_c3, nat_c4, nat_c5, Int.reduceEq, tgt2, tgt3, tgt4, c_isf, c_isn, c_inf, c_inn, c_iss, c_ins, Int.reduceMul, Int.reduceAdd, Int.reduceSub, fr_1, fr_0, fr_2, fr_h, x_f0, x_f1, u_tupf, u_lenf, c_eqfr, c_nefr, c_isfr, c_infr, o_mul, o_mod, o_div, n_le, n_ge, n_lt, n_gt, sp_add, sp_sub, sp_mul, sp_by, sp_isfr, sl_add, sl_sub, sl_mul, sl_by, List.take_succ_cons, List.take_zero, c_neb, c_eqb, c_isT, c_isF, c_insT, c_insF, u_repr, c_nes, beq_self_eq_true, sl_part, fin_lastF, D2_last, num_le_den, num_lt_den, num_eq_den, num_eq0, sub_ge, sub_lt, sub_gt, mk_pc, x_pc0, x_pc1, len_pc, tup_pc, tv_pc, tv_22, ls0T, ls1T, setL_nil, setL_cons, tgl2, tgl3, tgl4, len4, tg_pc, dE_compE, cE_nil, cE_cons, oN_some, bindN_ok, cPut_l, cPut_2, cPut_3, cEnd_l, cEnd_2, cEnd_3, dS_forE, fE_nil, fE_cons, oF_some, lpR_nx, lpR_ct, lpR_bk, lpR_rt, lpR_ex, tg2, tg3, len2, len3, *])
/-- the drawn spring -/
structure Eg (e : Rat) : Prop where
  sz : SzR 3 e
  nn : 0 ≤ e
  lt : e < 1
  ex : ∃ i low : Int, 0 ≤ i ∧ i < low ∧ 2 ≤ low ∧ low ≤ 7 ∧ e * (low : Rat) = (i : Rat)
theorem Eg.ch {e : Rat} (h : Eg e) : Ch e := ⟨h.nn, by have := h.lt; grind⟩
section
variable {a xs : List PyData} {r st : Store} {e h t : Rat} {p q : Rat × Rat}
variable {o0 o1 o2 o3 o4 o5 o6 o7 o8 o9 o10 o11 o12 o13 o14 o15 o16 o17 o18 o19 o20 o21 o22 o23 o24 o25 o26 o27 o28 o29 o30 o31 o32 o33 : Option Val}
theorem st_0 {ns : List Int} (hl : ns.length ≤ 63) (K : ∀ xs, Dr xs → xs.length ≤ 3780 → OKs r45_1 (some (.f (ns.map PyData.int)) :: some (.l 0) :: o2 :: o3 :: o4 :: o5 :: o6 :: o7 :: o8 :: o9 :: o10 :: o11 :: o12 :: o13 :: o14 :: o15 :: o16 :: o17 :: o18 :: o19 :: o20 :: o21 :: o22 :: o23 :: o24 :: o25 :: o26 :: o27 :: o28 :: o29 :: o30 :: o31 :: o32 :: o33 :: []) [xs]) : OKs r45_0 (some (.f (ns.map PyData.int)) :: o1 :: o2 :: o3 :: o4 :: o5 :: o6 :: o7 :: o8 :: o9 :: o10 :: o11 :: o12 :: o13 :: o14 :: o15 :: o16 :: o17 :: o18 :: o19 :: o20 :: o21 :: o22 :: o23 :: o24 :: o25 :: o26 :: o27 :: o28 :: o29 :: o30 :: o31 :: o32 :: o33 :: []) [] := by
  obtain ⟨xs, h1, h2, h3⟩ := sl_draws 7 ns hl []
  refine ok_step ?_ (K xs h2 h3)
  unfold s45_0
  walk_at "gx"
theorem st_1 {xs : List PyData} (hd : Dr xs) (hl : xs.length ≤ 3780) (K : ∀ a ys, Dr ys → OKs r45_2 (o0 :: some (.l 1) :: o2 :: o3 :: o4 :: o5 :: o6 :: o7 :: o8 :: o9 :: o10 :: o11 :: o12 :: o13 :: o14 :: o15 :: o16 :: o17 :: o18 :: o19 :: o20 :: o21 :: o22 :: o23 :: o24 :: o25 :: o26 :: o27 :: o28 :: o29 :: o30 :: o31 :: o32 :: o33 :: []) [a, ys]) : OKs r45_1 (o0 :: some (.l 0) :: o2 :: o3 :: o4 :: o5 :: o6 :: o7 :: o8 :: o9 :: o10 :: o11 :: o12 :: o13 :: o14 :: o15 :: o16 :: o17 :: o18 :: o19 :: o20 :: o21 :: o22 :: o23 :: o24 :: o25 :: o26 :: o27 :: o28 :: o29 :: o30 :: o31 :: o32 :: o33 :: []) [xs] := by
  obtain ⟨ys, q1, q2, q3⟩ := sl_more 7 60 (by decide) 0 xs [xs] rfl hd (by omega)
  refine ok_step ?_ (K xs.dropLast.dropLast ys q2)
  have q1 : FT tab 9 29 [.l 0, .p (.int 60)] [xs] = .ok (.l 1) [xs.dropLast.dropLast, ys] := q1
  unfold s45_1
  walk_at "gx"
theorem st_2 (K : OKs r45_3 (o0 :: some (.l 1) :: o2 :: o3 :: o4 :: o5 :: o6 :: o7 :: o8 :: o9 :: o10 :: o11 :: o12 :: o13 :: o14 :: o15 :: o16 :: some (.p (frP 1)) :: some (.p (frP 0)) :: some (.p (frP (1 / 2))) :: o20 :: o21 :: o22 :: o23 :: o24 :: o25 :: o26 :: o27 :: o28 :: o29 :: o30 :: o31 :: o32 :: o33 :: []) st) : OKs r45_2 (o0 :: some (.l 1) :: o2 :: o3 :: o4 :: o5 :: o6 :: o7 :: o8 :: o9 :: o10 :: o11 :: o12 :: o13 :: o14 :: o15 :: o16 :: o17 :: o18 :: o19 :: o20 :: o21 :: o22 :: o23 :: o24 :: o25 :: o26 :: o27 :: o28 :: o29 :: o30 :: o31 :: o32 :: o33 :: []) st := by
  refine ok_step ?_ K
  unfold s45_2
  walk_at "gx"
theorem st_3 (K : OKs r45_4 (o0 :: some (.l 1) :: o2 :: o3 :: o4 :: o5 :: o6 :: o7 :: o8 :: o9 :: o10 :: o11 :: o12 :: o13 :: o14 :: o15 :: o16 :: some (.p (frP 1)) :: some (.p (frP 0)) :: some (.p (frP (1 / 2))) :: o20 :: o21 :: o22 :: o23 :: o24 :: o25 :: o26 :: o27 :: o28 :: o29 :: o30 :: o31 :: o32 :: o33 :: []) [a, xs]) : OKs r45_3 (o0 :: some (.l 1) :: o2 :: o3 :: o4 :: o5 :: o6 :: o7 :: o8 :: o9 :: o10 :: o11 :: o12 :: o13 :: o14 :: o15 :: o16 :: some (.p (frP 1)) :: some (.p (frP 0)) :: some (.p (frP (1 / 2))) :: o20 :: o21 :: o22 :: o23 :: o24 :: o25 :: o26 :: o27 :: o28 :: o29 :: o30 :: o31 :: o32 :: o33 :: []) [a, xs] := by
  refine ok_step ?_ K
  unfold s45_3
  rw [dS_ife, dE_reprs (d := .list [.tuple [.int 3, .int 1], .tuple [.int 5, .int 3], .tuple [.int 4, .int 9]])]
  · walk_at "go"
  · kernel_rfl
  · kernel_rfl
  · kernel_rfl
theorem st_4 (hd : Dr xs) (K : ∀ (low : Int) ys, 2 ≤ low → low ≤ 7 → Dr ys → OKs r45_5 (o0 :: some (.l 1) :: some (.p (.int low)) :: o3 :: o4 :: o5 :: o6 :: o7 :: o8 :: o9 :: o10 :: o11 :: o12 :: o13 :: o14 :: o15 :: o16 :: some (.p (frP 1)) :: some (.p (frP 0)) :: some (.p (frP (1 / 2))) :: o20 :: o21 :: o22 :: o23 :: o24 :: o25 :: o26 :: o27 :: o28 :: o29 :: o30 :: o31 :: o32 :: o33 :: []) [a, ys]) : OKs r45_4 (o0 :: some (.l 1) :: o2 :: o3 :: o4 :: o5 :: o6 :: o7 :: o8 :: o9 :: o10 :: o11 :: o12 :: o13 :: o14 :: o15 :: o16 :: some (.p (frP 1)) :: some (.p (frP 0)) :: some (.p (frP (1 / 2))) :: o20 :: o21 :: o22 :: o23 :: o24 :: o25 :: o26 :: o27 :: o28 :: o29 :: o30 :: o31 :: o32 :: o33 :: []) [a, xs] := by
  obtain ⟨n, ys, a1, b1, hd1, r1⟩ := nx 8 a xs [] hd
  refine ok_step ?_ (K (2 + n % 6) ys (by omega) (by omega) hd1)
  unfold s45_4
  walk_at "go"
  rw [r1]
  walk_at "go"
theorem st_5 (hd : Dr xs) {low : Int} (l1 : 2 ≤ low) (l2 : low ≤ 7) (K : ∀ (e : Rat) ys, Eg e → Dr ys → OKs r45_6 (o0 :: some (.l 1) :: some (.p (.int low)) :: some (.p (frP e)) :: o4 :: o5 :: o6 :: o7 :: o8 :: o9 :: o10 :: o11 :: o12 :: o13 :: o14 :: o15 :: o16 :: some (.p (frP 1)) :: some (.p (frP 0)) :: some (.p (frP (1 / 2))) :: o20 :: o21 :: o22 :: o23 :: o24 :: o25 :: o26 :: o27 :: o28 :: o29 :: o30 :: o31 :: o32 :: o33 :: []) [a, ys]) : OKs r45_5 (o0 :: some (.l 1) :: some (.p (.int low)) :: o3 :: o4 :: o5 :: o6 :: o7 :: o8 :: o9 :: o10 :: o11 :: o12 :: o13 :: o14 :: o15 :: o16 :: some (.p (frP 1)) :: some (.p (frP 0)) :: some (.p (frP (1 / 2))) :: o20 :: o21 :: o22 :: o23 :: o24 :: o25 :: o26 :: o27 :: o28 :: o29 :: o30 :: o31 :: o32 :: o33 :: []) [a, xs] := by
  obtain ⟨n, ys, a1, b1, hd1, r1⟩ := nx 8 a xs [] hd
  have m1 := Int.emod_nonneg n (show low ≠ 0 by omega)
  have m2 := Int.emod_lt_of_pos n (show 0 < low by omega)
  have ls := lst 7 (n % low) low [a, ys] (by omega) (by omega)
  have dm := divInt_mul (i := n % low) (d := low) (by omega)
  have dn := divInt_nn (i := n % low) (d := low) m1 (by omega)
  have lt : Rat.divInt (n % low) low < 1 := by
    have q2 : ((n % low : Int) : Rat) < (low : Rat) := Rat.intCast_lt_intCast.mpr m2
    have lp : (0 : Rat) < (low : Rat) := Rat.intCast_pos.mpr (by omega)
    rcases Rat.le_total (a := 1) (b := Rat.divInt (n % low) low) with z | z
    · have := Rat.mul_le_mul_of_nonneg_right z (Rat.le_of_lt lp)
      grind
    · rcases Rat.le_iff_lt_or_eq.mp z with z | z
      · exact z
      · rw [z] at dm; grind
  refine ok_step ?_ (K (Rat.divInt (n % low) low) ys ⟨szi (by omega) (by omega) (by omega), dn, lt, n % low, low, m1, m2, l1, l2, dm⟩ hd1)
  unfold s45_5
  walk_at "go"
  rw [r1]
  walk_at "go"
  rw [o_mod (by omega)]
  walk_at "go"
  rw [ls]
  walk_at "go"
/-- a drawn pair -/
def Pd (p : Rat × Rat) : Prop := SzR 3 p.1 ∧ Ms p.2
theorem st_6 (hd : Dr xs) (he : Eg e) (K : ∀ p q ys, Pd p → Pd q → Dr ys → OKs r45_7 (o0 :: some (.l 1) :: o2 :: some (.p (frP e)) :: some (.p (.list [pcP p, pcP q])) :: o5 :: o6 :: o7 :: o8 :: o9 :: o10 :: o11 :: o12 :: o13 :: o14 :: o15 :: o16 :: some (.p (frP 1)) :: some (.p (frP 0)) :: some (.p (frP (1 / 2))) :: o20 :: o21 :: o22 :: o23 :: o24 :: o25 :: o26 :: o27 :: o28 :: o29 :: o30 :: o31 :: o32 :: o33 :: []) [a, ys]) : OKs r45_6 (o0 :: some (.l 1) :: o2 :: some (.p (frP e)) :: o4 :: o5 :: o6 :: o7 :: o8 :: o9 :: o10 :: o11 :: o12 :: o13 :: o14 :: o15 :: o16 :: some (.p (frP 1)) :: some (.p (frP 0)) :: some (.p (frP (1 / 2))) :: o20 :: o21 :: o22 :: o23 :: o24 :: o25 :: o26 :: o27 :: o28 :: o29 :: o30 :: o31 :: o32 :: o33 :: []) [a, xs] := by
  obtain ⟨L, ys2, l1, l2, l3, l4⟩ := comp_draw (T := FT tab 9) (e := (o0 :: some (.l 1) :: o2 :: some (.p (frP e)) :: o4 :: o5 :: o6 :: o7 :: o8 :: o9 :: o10 :: o11 :: o12 :: o13 :: o14 :: o15 :: o16 :: some (.p (frP 1)) :: some (.p (frP 0)) :: some (.p (frP (1 / 2))) :: o20 :: o21 :: o22 :: o23 :: o24 :: o25 :: o26 :: o27 :: o28 :: o29 :: o30 :: o31 :: o32 :: o33 :: [])) (own := [10]) (i := 10) (n := .cst (.int 2)) (el := (.tup (.cons (.call 32 (.cons (.bin false .Sub (.bin false .Mod (.b1 false .int (.call 28 (.cons (.var 1) .nil))) (.cst (.int 9))) (.cst (.int 4))) (.cons (.bin false .Add (.cst (.int 1)) (.bin false .Mod (.b1 false .int (.call 28 (.cons (.var 1) .nil))) (.cst (.int 3)))) .nil))) (.cons (.call 38 (.cons (.var 1) .nil)) .nil)))) (k := 2) (a := a) (xs := xs) (xs2 := xs) Pd pcP (by
    have rn := rngN (k := 2) (n := 2) (by omega) (by omega)
    walk_at "go"
    rw [rn]
    walk_at "go") (by omega) hd (fun z xs acc hd => by
    obtain ⟨n1, ys1, a1, b1, hd1, r1⟩ := nx 8 a xs [acc] hd
    obtain ⟨n2, ys2, a2, b2, hd2, r2⟩ := nx 8 a ys1 [acc] hd1
    obtain ⟨k, ys3, hk, hd3, r3⟩ := dw_rate 6 a ys2 [acc] hd2
    have ls := lst 7 (n1 % 9 - 4) (1 + n2 % 3) [a, ys2, acc] (by omega) (by omega)
    refine ⟨(Rat.divInt (n1 % 9 - 4) (1 + n2 % 3), k), ys3, ⟨szi (by omega) (by omega) (by omega), hk⟩, hd3, ?_⟩
    walk_at "go"
    rw [r1]
    walk_at "go"
    rw [r2]
    walk_at "go"
    rw [ls]
    walk_at "go"
    rw [r3]
    walk_at "go")
  match L, l1, l2, l4 with
  | [p, q], _, l2, l4 =>
    refine ok_step ?_ (K p q ys2 (l2 p List.mem_cons_self) (l2 q (List.mem_cons_of_mem _ List.mem_cons_self)) l3)
    unfold s45_6
    walk_at "go"
    rw [l4]
    walk_at "go"
/-- one spring -/
def body7 : Ss := (.cons (.asg (.nm 20) (.call 41 (.cons (.idx (.var 4) (.cst (.int 0))) (.cons (.idx (.var 4) (.cst (.int 1))) (.cons (.var 5) .nil))))) (.cons (.asg (.nm 21) (.comp false [14] (.nm 14) (.rng1 (.cst (.int 2))) .none (.tup (.cons (.idx (.var 20) (.var 14)) (.cons (.idx (.idx (.var 4) (.var 14)) (.cst (.int 1))) .nil))))) (.cons (.asg (.nm 22) (.lst false (.cons (.call 43 (.cons (.cst (.int 0)) (.cons (.idx (.var 4) (.cst (.int 0))) (.cons (.idx (.var 4) (.cst (.int 1))) (.cons (.var 5) (.cons (.cst .none) .nil)))))) (.cons (.call 43 (.cons (.cst (.int 1)) (.cons (.idx (.var 4) (.cst (.int 0))) (.cons (.idx (.var 4) (.cst (.int 1))) (.cons (.var 5) (.cons (.cst .none) .nil)))))) .nil)))) (.cons (.ife (.cmp .NotEq (.b1 false .repr (.var 22)) (.b1 false .repr (.lst false (.cons (.var 20) (.cons (.call 34 (.cons (.call 42 (.cons (.idx (.var 4) (.cst (.int 0))) (.cons (.idx (.var 4) (.cst (.int 1))) .nil))) (.cons (.call 42 (.cons (.idx (.var 21) (.cst (.int 0))) (.cons (.idx (.var 21) (.cst (.int 1))) .nil))) .nil))) .nil))))) (.cons (.ret (.cst (.bool false))) .nil) .nil) (.cons (.ife (.and (.cmp .Eq (.var 5) (.var 18)) (.cmp .NotEq (.idx (.var 20) (.cst (.int 0))) (.idx (.var 20) (.cst (.int 1))))) (.cons (.ret (.cst (.bool false))) .nil) .nil) .nil)))))
theorem rng_2 : rngD 0 2 = some [.int 0, .int 1] := rng0 (n := 2) (by decide)
local macro_rules | `(tactic| walk_at "go") => `(tactic| simp (disch := walk_at "sz") only [tp0, ls0, tp1, ls1, tp2, ls2, tp3, ls3, tp4, ls4, tp5, ls5, tp6, ls6, tp7, ls7, tp8, ls8, tp9, ls9, tp10, ls10, tp11, ls11, tp12, ls12, denF_eq, dSs_nil, dSs_cons, nxS_nx, nxS_rt, nxS_ex, nxS_bk, nxS_ct, lift_ok, lift_ex, oE_some, dS_asg, dS_par, dS_ret, dS_retN, dS_ex, dS_raise, dS_brk, dS_cnt, dS_pass, dS_ife, tgt_nm, set_nil, set_cons, dI_seq, dI_rng1, nI_some, iI_some, int_int, it_list, it_tup, it_f, fin_p, endF_nx, endF_rt, endF_ex, bind_ok, bind_ex, D1_p, D2_pp, mD_some, mkD_f, pD_some, dE_cst, dE_glob, dE_var, vR_ok, dE_bin, dE_neg, negV_int, tR_bool, tR_int, tR_none, tR_list, tR_tup, dE_not, dE_and, dE_or, andR_t, andR_f, orR_t, orR_f, andR_b, orR_b, oB_some, dE_cmp, dE_chain, chR_t, chR_f, chR_b, oC_some, dE_ife, ifR_t, ifR_f, dE_call, dE_b1, dE_b2, dE_idx, dE_isi, dE_tup, dE_lst, dEs_nil, dEs_cons, dats_nil, dats_cons, dT_none, dT_some, o_add, o_sub, c_lt, c_le, c_gt, c_ge, c_eqi, c_nei, u_abs, u_int, u_lenl, u_lent, u_tupl, u_tupt, x_tup, x_lst, a1_0, a2_0, a2_1, a3_0, a3_1, a3_2, a4_0, a4_1, a4_2, a4_3, List.length_cons, List.length_nil, List.map_cons, List.map_nil, List.replicate, List.cons_append, List.nil_append, List.getElem?_cons_zero, List.getElem?_cons_succ, List.set_cons_zero, List.set_cons_succ, Option.map_some, Nat.reduceSub, Nat.reduceAdd, List.take_length, List.isEmpty_nil, List.isEmpty_cons, Bool.not_true, Bool.not_false, wipe_nil, wipe_cons, tgt1, Int.reduceLT, Int.reduceLE, decide_true, decide_false, Bool.true_and, Bool.and_true, Bool.false_and, Bool.true_or, Bool.false_or, Bool.or_false, List.all_cons, List.all_nil, id_eq, nat_c0, nat_c1, nat_c2, nat_c3, nat_c4, nat_c5, Int.reduceEq, tgt2, tgt3, tgt4, c_isf, c_isn, c_inf, c_inn, c_iss, c_ins, Int.reduceMul, Int.reduceAdd, Int.reduceSub, fr_1, fr_0, fr_2, fr_h, x_f0, x_f1, u_tupf, u_lenf, c_eqfr, c_nefr, c_isfr, c_infr, o_mul, o_mod, o_div, n_le, n_ge, n_lt, n_gt, sp_add, sp_sub, sp_mul, sp_by, sp_isfr, sl_add, sl_sub, sl_mul, sl_by, List.take_succ_cons, List.take_zero, c_neb, c_eqb, c_isT, c_isF, c_insT, c_insF, u_repr, c_nes, beq_self_eq_true, sl_part, fin_lastF, D2_last, num_le_den, num_lt_den, num_eq_den, num_eq0, sub_ge, sub_lt, sub_gt, mk_pc, x_pc0, x_pc1, len_pc, tup_pc, tv_pc, tv_22, ls0T, ls1T, setL_nil, setL_cons, tgl2, tgl3, tgl4, len4, tg_pc, rng_2])
local macro_rules | `(tactic| walk_at "gx") => `(tactic| simp (disch := walk_at "sz") only [tp0, ls0, tp1, ls1, tp2, ls2, tp3, ls3, tp4, ls4, tp5, ls5, tp6, ls6, tp7, ls7, tp8, ls8, tp9, ls9, tp10, ls10, tp11, ls11, tp12, ls12, denF_eq, dSs_nil, dSs_cons, nxS_nx, nxS_rt, nxS_ex, nxS_bk, nxS_ct, lift_ok, lift_ex, oE_some, dS_asg, dS_par, dS_ret, dS_retN, dS_ex, dS_raise, dS_brk, dS_cnt, dS_pass, dS_ife, tgt_nm, set_nil, set_cons, dI_seq, dI_rng1, nI_some, iI_some, int_int, it_list, it_tup, it_f, fin_p, endF_nx, endF_rt, endF_ex, bind_ok, bind_ex, D1_p, D2_pp, mD_some, mkD_f, pD_some, dE_cst, dE_glob, dE_var, vR_ok, dE_bin, dE_neg, negV_int, tR_bool, tR_int, tR_none, tR_list, tR_tup, dE_not, dE_and, dE_or, andR_t, andR_f, orR_t, orR_f, andR_b, orR_b, oB_some, dE_cmp, dE_chain, chR_t, chR_f, chR_b, oC_some, dE_ife, ifR_t, ifR_f, dE_call, dE_b1, dE_b2, dE_idx, dE_isi, dE_tup, dE_lst, dEs_nil, dEs_cons, dats_nil, dats_cons, dT_none, dT_some, o_add, o_sub, c_lt, c_le, c_gt, c_ge, c_eqi, c_nei, u_abs, u_int, u_lenl, u_lent, u_tupl, u_tupt, x_tup, x_lst, a1_0, a2_0, a2_1, a3_0, a3_1, a3_2, a4_0, a4_1, a4_2, a4_3, List.length_cons, List.length_nil, List.map_cons, List.map_nil, List.replicate, List.cons_append, List.nil_append, List.getElem?_cons_zero, List.getElem?_cons_succ, List.set_cons_zero, List.set_cons_succ, Option.map_some, Nat.reduceSub, Nat.reduceAdd, List.take_length, List.isEmpty_nil, List.isEmpty_cons, Bool.not_true, Bool.not_false, wipe_nil, wipe_cons, tgt1, Int.reduceLT, Int.reduceLE, decide_true, decide_false, Bool.true_and, Bool.and_true, Bool.false_and, Bool.true_or, Bool.false_or, Bool.or_false, List.all_cons, List.all_nil, id_eq, nat_c0, nat_c1, nat_c2, nat_c3, nat_c4, nat_c5, Int.reduceEq, tgt2, tgt3, tgt4, c_isf, c_isn, c_inf, c_inn, c_iss, c_ins, Int.reduceMul, Int.reduceAdd, Int.reduceSub, fr_1, fr_0, fr_2, fr_h, x_f0, x_f1, u_tupf, u_lenf, c_eqfr, c_nefr, c_isfr, c_infr, o_mul, o_mod, o_div, n_le, n_ge, n_lt, n_gt, sp_add, sp_sub, sp_mul, sp_by, sp_isfr, sl_add, sl_sub, sl_mul, sl_by, List.take_succ_cons, List.take_zero, c_neb, c_eqb, c_isT, c_isF, c_insT, c_insF, u_repr, c_nes, beq_self_eq_true, sl_part, fin_lastF, D2_last, num_le_den, num_lt_den, num_eq_den, num_eq0, sub_ge, sub_lt, sub_gt, mk_pc, x_pc0, x_pc1, len_pc, tup_pc, tv_pc, tv_22, ls0T, ls1T, setL_nil, setL_cons, tgl2, tgl3, tgl4, len4, tg_pc, rng_2, *])
local macro_rules | `(tactic| walk_at "un") => `(tactic| simp (disch := walk_at "sz") only [tp0, ls0, tp1, ls1, tp2, ls2, tp3, ls3, tp4, ls4, tp5, ls5, tp6, ls6, tp7, ls7, tp8, ls8, tp9, ls9, tp10, ls10, tp11, ls11, tp12, ls12, denF_eq, dSs_nil, dSs_cons, nxS_nx, nxS_rt, nxS_ex, nxS_bk, nxS_ct, lift_ok, lift_ex, oE_some, dS_asg, dS_par, dS_ret, dS_retN, dS_ex, dS_raise, dS_brk, dS_cnt, dS_pass, dS_ife, tgt_nm, set_nil, set_cons, dI_seq, dI_rng1, nI_some, iI_some, int_int, it_list, it_tup, it_f, fin_p, endF_nx, endF_rt, endF_ex, bind_ok, bind_ex, D1_p, D2_pp, mD_some, mkD_f, pD_some, dE_cst, dE_glob, dE_var, vR_ok, dE_bin, dE_neg, negV_int, tR_bool, tR_int, tR_none, tR_list, tR_tup, dE_not, dE_and, dE_or, andR_t, andR_f, orR_t, orR_f, andR_b, orR_b, oB_some, dE_cmp, dE_chain, chR_t, chR_f, chR_b, oC_some, dE_ife, ifR_t, ifR_f, dE_call, dE_b1, dE_b2, dE_idx, dE_isi, dE_tup, dE_lst, dEs_nil, dEs_cons, dats_nil, dats_cons, dT_none, dT_some, o_add, o_sub, c_lt, c_le, c_gt, c_ge, c_eqi, c_nei, u_abs, u_int, u_lenl, u_lent, u_tupl, u_tupt, x_tup, x_lst, a1_0, a2_0, a2_1, a3_0, a3_1, a3_2, a4_0, a4_1, a4_2, a4_3, List.length_cons, List.length_nil, List.map_cons, List.map_nil, List.replicate, List.cons_append, List.nil_append, List.getElem?_cons_zero, List.getElem?_cons_succ, List.set_cons_zero, List.set_cons_succ, Option.map_some, Nat.reduceSub, Nat.reduceAdd, List.take_length, List.isEmpty_nil, List.isEmpty_cons, Bool.not_true, Bool.not_false, wipe_nil, wipe_cons, tgt1, Int.reduceLT, Int.reduceLE, decide_true, decide_false, Bool.true_and, Bool.and_true, Bool.false_and, Bool.true_or, Bool.false_or, Bool.or_false, List.all_cons, List.all_nil, id_eq, nat_c0, nat_c1, nat_c2, nat_c3, nat_c4, nat_c5, Int.reduceEq, tgt2, tgt3, tgt4, c_isf, c_isn, c_inf, c_inn, c_iss, c_ins, Int.reduceMul, Int.reduceAdd, Int.reduceSub, fr_1, fr_0, fr_2, fr_h, x_f0, x_f1, u_tupf, u_lenf, c_eqfr, c_nefr, c_isfr, c_infr, o_mul, o_mod, o_div, n_le, n_ge, n_lt, n_gt, sp_add, sp_sub, sp_mul, sp_by, sp_isfr, sl_add, sl_sub, sl_mul, sl_by, List.take_succ_cons, List.take_zero, c_neb, c_eqb, c_isT, c_isF, c_insT, c_insF, u_repr, c_nes, beq_self_eq_true, sl_part, fin_lastF, D2_last, num_le_den, num_lt_den, num_eq_den, num_eq0, sub_ge, sub_lt, sub_gt, mk_pc, x_pc0, x_pc1, len_pc, tup_pc, tv_pc, tv_22, ls0T, ls1T, setL_nil, setL_cons, tgl2, tgl3, tgl4, len4, tg_pc, rng_2, dE_compE, cE_nil, cE_cons, oN_some, bindN_ok, cPut_l, cPut_2, cPut_3, cEnd_l, cEnd_2, cEnd_3, dS_forE, fE_nil, fE_cons, oF_some, lpR_nx, lpR_ct, lpR_bk, lpR_rt, lpR_ex, tg2, tg3, len2, len3])
local macro_rules | `(tactic| walk_at "ux") => `(tactic| simp (disch := walk_at "sz") only [tp0, ls0, tp1, ls1, tp2, ls2, tp3, ls3, tp4, ls4, tp5, ls5, tp6, ls6, tp7, ls7, tp8, ls8, tp9, ls9, tp10, ls10, tp11, ls11, tp12, ls12, denF_eq, dSs_nil, dSs_cons, nxS_nx, nxS_rt, nxS_ex, nxS_bk, nxS_ct, lift_ok, lift_ex, oE_some, dS_asg, dS_par, dS_ret, dS_retN, dS_ex, dS_raise, dS_brk, dS_cnt, dS_pass, dS_ife, tgt_nm, set_nil, set_cons, dI_seq, dI_rng1, nI_some, iI_some, int_int, it_list, it_tup, it_f, fin_p, endF_nx, endF_rt, endF_ex, bind_ok, bind_ex, D1_p, D2_pp, mD_some, mkD_f, pD_some, dE_cst, dE_glob, dE_var, vR_ok, dE_bin, dE_neg, negV_int, tR_bool, tR_int, tR_none, tR_list, tR_tup, dE_not, dE_and, dE_or, andR_t, andR_f, orR_t, orR_f, andR_b, orR_b, oB_some, dE_cmp, dE_chain, chR_t, chR_f, chR_b, oC_some, dE_ife, ifR_t, ifR_f, dE_call, dE_b1, dE_b2, dE_idx, dE_isi, dE_tup, dE_lst, dEs_nil, dEs_cons, dats_nil, dats_cons, dT_none, dT_some, o_add, o_sub, c_lt, c_le, c_gt, c_ge, c_eqi, c_nei, u_abs, u_int, u_lenl, u_lent, u_tupl, u_tupt, x_tup, x_lst, a1_0, a2_0, a2_1, a3_0, a3_1, a3_2, a4_0, a4_1, a4_2, a4_3, List.length_cons, List.length_nil, List.map_cons, List.map_nil, List.replicate, List.cons_append, List.nil_append, List.getElem?_cons_zero, List.getElem?_cons_succ, List.set_cons_zero, List.set_cons_succ, Option.map_some, Nat.reduceSub, Nat.reduceAdd, List.take_length, List.isEmpty_nil, List.isEmpty_cons, Bool.not_true, Bool.not_false, wipe_nil, wipe_cons, tgt1, Int.reduceLT, Int.reduceLE, decide_true, decide_false, Bool.true_and, Bool.and_true, Bool.false_and, Bool.true_or, Bool.false_or, Bool.or_false, List.all_cons, List.all_nil, id_eq, nat_c0, nat_c1, nat_c2, nat_c3, nat_c4, nat_c5, Int.reduceEq, tgt2, tgt3, tgt4, c_isf, c_isn, c_inf, c_inn, c_iss, c_ins, Int.reduceMul, Int.reduceAdd, Int.reduceSub, fr_1, fr_0, fr_2, fr_h, x_f0, x_f1, u_tupf, u_lenf, c_eqfr, c_nefr, c_isfr, c_infr, o_mul, o_mod, o_div, n_le, n_ge, n_lt, n_gt, sp_add, sp_sub, sp_mul, sp_by, sp_isfr, sl_add, sl_sub, sl_mul, sl_by, List.take_succ_cons, List.take_zero, c_neb, c_eqb, c_isT, c_isF, c_insT, c_insF, u_repr, c_nes, beq_self_eq_true, sl_part, fin_lastF, D2_last, num_le_den, num_lt_den, num_eq_den, num_eq0, sub_ge, sub_lt, sub_gt, mk_pc, x_pc0, x_pc1, len_pc, tup_pc, tv_pc, tv_22, ls0T, ls1T, setL_nil, setL_cons, tgl2, tgl3, tgl4, len4, tg_pc, rng_2, dE_compE, cE_nil, cE_cons, oN_some, bindN_ok, cPut_l, cPut_2, cPut_3, cEnd_l, cEnd_2, cEnd_3, dS_forE, fE_nil, fE_cons, oF_some, lpR_nx, lpR_ct, lpR_bk, lpR_rt, lpR_ex, tg2, tg3, len2, len3, *])

theorem sh_pc {p : Rat × Rat} (h1 : SzR 1900 p.1) (h2 : SzR 1900 p.2) : Sh 8007 2 (pcP p) := (sh_tup (n := 4000) (k := 1) (xs := [frP p.1, frP p.2]) fun x hx => by
  rcases List.mem_cons.mp hx with rfl | hx
  · exact sh_fr h1
  · cases List.mem_singleton.mp hx; exact sh_fr h2).mono (by simp) (by decide)
theorem run_7 (hp : Pd p) (hq : Pd q) {s : Rat} (hs : SzR 3 s) (hc : Ch s) : ∃ o20' o21' o22', denSs (FT tab 9) body7 (o0 :: some (.l 1) :: o2 :: some (.p (frP e)) :: some (.p (.list [pcP p, pcP q])) :: some (.p (frP s)) :: o6 :: o7 :: o8 :: o9 :: o10 :: o11 :: o12 :: o13 :: o14 :: o15 :: o16 :: some (.p (frP 1)) :: some (.p (frP 0)) :: some (.p (frP (1 / 2))) :: o20 :: o21 :: o22 :: o23 :: o24 :: o25 :: o26 :: o27 :: o28 :: o29 :: o30 :: o31 :: o32 :: o33 :: []) [a, xs] = .ok (.nx (o0 :: some (.l 1) :: o2 :: some (.p (frP e)) :: some (.p (.list [pcP p, pcP q])) :: some (.p (frP s)) :: o6 :: o7 :: o8 :: o9 :: o10 :: o11 :: o12 :: o13 :: o14 :: o15 :: o16 :: some (.p (frP 1)) :: some (.p (frP 0)) :: some (.p (frP (1 / 2))) :: o20' :: o21' :: o22' :: o23 :: o24 :: o25 :: o26 :: o27 :: o28 :: o29 :: o30 :: o31 :: o32 :: o33 :: [])) [a, xs] := by
  have sf := sl_aft (st := [a, xs]) 5 p q s (hp.1.mono (by decide)) hp.2.1 (hq.1.mono (by decide)) hq.2.1 hs hp.2.2 hq.2.2
  have a0 : FT tab 9 43 [.p (.int 0), .p (pcP p), .p (pcP q), .p (frP s), .p .none] [a, xs] = _ := ask0 8 (by decide) rfl (sp_after 2 (hp.1.mono (by decide)) hp.2.1 (hq.1.mono (by decide)) hq.2.1 hs hp.2.2 hq.2.2 hc)
  have a1 : FT tab 9 43 [.p (.int 1), .p (pcP p), .p (pcP q), .p (frP s), .p .none] [a, xs] = _ := ask0 8 (by decide) rfl (sp_loss 2 (hp.1.mono (by decide)) hp.2.1 (hq.1.mono (by decide)) hq.2.1 hs hp.2.2 hq.2.2 hc)
  obtain ⟨z1, z2⟩ := sz_aft (b := 3) (p := p) (q := q) (e := s) hp.1 hp.2.1 hq.1 hq.2.1 hs
  have zz1 : SzR 60 (aft p q s).1 := z1.mono (by decide)
  have zz2 : SzR 60 (aft p q s).2 := z2.mono (by decide)
  have l1 := sl_live (st := [a, xs]) 5 (p := p) (q := q) (hp.1.mono (by decide)) hp.2.1 (hq.1.mono (by decide)) hq.2.1
  have l2 := sl_live (st := [a, xs]) 5 (p := ((aft p q s).1, p.2)) (q := ((aft p q s).2, q.2)) (zz1.mono (by decide)) hp.2.1 (zz2.mono (by decide)) hq.2.1
  have h1 := hp.1
  have h2 := hp.2.1
  have h3 := hq.1
  have h4 := hq.2.1
  have v1 : SzR 400 (liv p q) := by unfold liv; walk_at "sz"
  have v2 : SzR 400 (liv ((aft p q s).1, p.2) ((aft p q s).2, q.2)) := by unfold liv; dsimp only; walk_at "sz"
  have v3 : SzR 900 (lss p q s) := by unfold lss; walk_at "sz"
  have ll := liv_loss (p := p) (q := q) (e := s) hp.2.2 hq.2.2
  have sh : showOk (.list [pcP (aft p q s), frP (lss p q s)]) = true := sh_okB (sh_l2 (sh_pc (zz1.mono (by decide)) (zz2.mono (by decide))) ((sh_fr (v3.mono (by decide))).mono (by decide) (by decide))) (by decide) (by decide)
  refine ⟨some (.p (pcP (aft p q s))), some (.p (.list [pcP ((aft p q s).1, p.2), pcP ((aft p q s).2, q.2)])), some (.p (.list [pcP (aft p q s), frP (lss p q s)])), ?_⟩
  unfold body7
  walk_at "go"
  rw [sf]
  walk_at "un"
  rw [a0]
  walk_at "un"
  rw [a1]
  walk_at "un"
  rw [l1]
  walk_at "un"
  rw [l2]
  walk_at "un"
  rw [ll]
  walk_at "gx"
  by_cases h0 : s = 0
  · have d0 : decide (s = 0) = true := decide_eq_true h0
    have sm : decide ((aft p q s).1 = (aft p q s).2) = true := decide_eq_true (by rw [h0]; exact aft_same hp.2.2 hq.2.2)
    clear h0
    rw [d0]
    walk_at "go"
    rw [sm]
    walk_at "go"
  · have d0 : decide (s = 0) = false := decide_eq_false h0
    rw [d0]
    walk_at "go"
theorem st_7 (hp : Pd p) (hq : Pd q) (he : Eg e) (K : ∀ o5 o20 o21 o22, OKs r45_8 (o0 :: some (.l 1) :: o2 :: some (.p (frP e)) :: some (.p (.list [pcP p, pcP q])) :: o5 :: o6 :: o7 :: o8 :: o9 :: o10 :: o11 :: o12 :: o13 :: o14 :: o15 :: o16 :: some (.p (frP 1)) :: some (.p (frP 0)) :: some (.p (frP (1 / 2))) :: o20 :: o21 :: o22 :: o23 :: o24 :: o25 :: o26 :: o27 :: o28 :: o29 :: o30 :: o31 :: o32 :: o33 :: []) [a, xs]) : OKs r45_7 (o0 :: some (.l 1) :: o2 :: some (.p (frP e)) :: some (.p (.list [pcP p, pcP q])) :: o5 :: o6 :: o7 :: o8 :: o9 :: o10 :: o11 :: o12 :: o13 :: o14 :: o15 :: o16 :: some (.p (frP 1)) :: some (.p (frP 0)) :: some (.p (frP (1 / 2))) :: o20 :: o21 :: o22 :: o23 :: o24 :: o25 :: o26 :: o27 :: o28 :: o29 :: o30 :: o31 :: o32 :: o33 :: []) [a, xs] := by
  obtain ⟨x20, x21, x22, r1⟩ := run_7 (a := a) (xs := xs) (e := e) (o0 := o0) (o2 := o2) (o6 := o6) (o7 := o7) (o8 := o8) (o9 := o9) (o10 := o10) (o11 := o11) (o12 := o12) (o13 := o13) (o14 := o14) (o15 := o15) (o16 := o16) (o20 := o20) (o21 := o21) (o22 := o22) (o23 := o23) (o24 := o24) (o25 := o25) (o26 := o26) (o27 := o27) (o28 := o28) (o29 := o29) (o30 := o30) (o31 := o31) (o32 := o32) (o33 := o33) hp hq he.sz he.ch
  obtain ⟨y20, y21, y22, r2⟩ := run_7 (a := a) (xs := xs) (e := e) (o0 := o0) (o2 := o2) (o6 := o6) (o7 := o7) (o8 := o8) (o9 := o9) (o10 := o10) (o11 := o11) (o12 := o12) (o13 := o13) (o14 := o14) (o15 := o15) (o16 := o16) (o20 := x20) (o21 := x21) (o22 := x22) (o23 := o23) (o24 := o24) (o25 := o25) (o26 := o26) (o27 := o27) (o28 := o28) (o29 := o29) (o30 := o30) (o31 := o31) (o32 := o32) (o33 := o33) hp hq (s := 1) (sz_c1.mono (by decide)) ⟨by decide, by decide⟩
  obtain ⟨z20, z21, z22, r3⟩ := run_7 (a := a) (xs := xs) (e := e) (o0 := o0) (o2 := o2) (o6 := o6) (o7 := o7) (o8 := o8) (o9 := o9) (o10 := o10) (o11 := o11) (o12 := o12) (o13 := o13) (o14 := o14) (o15 := o15) (o16 := o16) (o20 := y20) (o21 := y21) (o22 := y22) (o23 := o23) (o24 := o24) (o25 := o25) (o26 := o26) (o27 := o27) (o28 := o28) (o29 := o29) (o30 := o30) (o31 := o31) (o32 := o32) (o33 := o33) hp hq (s := 0) (sz_c0.mono (by decide)) ⟨by decide, by decide⟩
  refine ok_step ?_ (K (some (.p (frP 0))) z20 z21 z22)
  show denS (FT tab 9) (.for_ (.nm 5) (.seq (.lst false (.cons (.var 3) (.cons (.var 17) (.cons (.var 18) .nil))))) body7) _ _ = _
  walk_at "un"
  rw [r1]
  walk_at "un"
  rw [r2]
  walk_at "un"
  rw [r3]
  walk_at "un"
end

end Law03

set_option Elab.async false
set_option linter.all false
set_option maxRecDepth 100000
set_option maxHeartbeats 1000000
set_option exponentiation.threshold 20000
namespace Law03
open PySem Rk
local macro_rules | `(tactic| walk_at "szc") => `(tactic| first | assumption | (apply sz_add <;> walk_at "szc") | (apply sz_sub <;> walk_at "szc") | (apply sz_mul <;> walk_at "szc") | (apply sz_div <;> walk_at "szc") | exact sz_c1 | exact sz_c2 | exact sz_ch | exact sz_c0 | (apply sz_neg; walk_at "szc"))
local macro_rules | `(tactic| walk_at "sz") => `(tactic| first | assumption | decide | (apply SzR.mono; (walk_at "szc"); decide) | (simp only [List.length_cons, List.length_nil, List.length_append, Nat.reduceAdd, Nat.reduceLT, Nat.reduceLeDiff]; done))
local macro_rules | `(tactic| walk_at "go") => `(tactic| simp (disch := walk_at "sz") only [tp0, ls0, tp1, ls1, tp2, ls2, tp3, ls3, tp4, ls4, tp5, ls5, tp6, ls6, tp7, ls7, tp8, ls8, tp9, ls9, tp10, ls10, tp11, ls11, tp12, ls12, denF_eq, dSs_nil, dSs_cons, nxS_nx, nxS_rt, nxS_ex, nxS_bk, nxS_ct, lift_ok, lift_ex, oE_some, dS_asg, dS_par, dS_ret, dS_retN, dS_ex, dS_raise, dS_brk, dS_cnt, dS_pass, dS_ife, tgt_nm, set_nil, set_cons, dI_seq, dI_rng1, nI_some, iI_some, int_int, it_list, it_tup, it_f, fin_p, endF_nx, endF_rt, endF_ex, bind_ok, bind_ex, D1_p, D2_pp, mD_some, mkD_f, pD_some, dE_cst, dE_glob, dE_var, vR_ok, dE_bin, dE_neg, negV_int, tR_bool, tR_int, tR_none, tR_list, tR_tup, dE_not, dE_and, dE_or, andR_t, andR_f, orR_t, orR_f, andR_b, orR_b, oB_some, dE_cmp, dE_chain, chR_t, chR_f, chR_b, oC_some, dE_ife, ifR_t, ifR_f, dE_call, dE_b1, dE_b2, dE_idx, dE_isi, dE_tup, dE_lst, dEs_nil, dEs_cons, dats_nil, dats_cons, dT_none, dT_some, o_add, o_sub, c_lt, c_le, c_gt, c_ge, c_eqi, c_nei, u_abs, u_int, u_lenl, u_lent, u_tupl, u_tupt, x_tup, x_lst, a1_0, a2_0, a2_1, a3_0, a3_1, a3_2, a4_0, a4_1, a4_2, a4_3, List.length_cons, List.length_nil, List.map_cons, List.map_nil, List.replicate, List.cons_append, List.nil_append, List.getElem?_cons_zero, List.getElem?_cons_succ, List.set_cons_zero, List.set_cons_succ, Option.map_some, Nat.reduceSub, Nat.reduceAdd, List.take_length, List.isEmpty_nil, List.isEmpty_cons, Bool.not_true, Bool.not_false, wipe_nil, wipe_cons, tgt1, Int.reduceLT, Int.reduceLE, decide_true, decide_false, Bool.true_and, Bool.and_true, Bool.false_and, Bool.true_or, Bool.false_or, Bool.or_false, List.all_cons, List.all_nil, id_eq, nat_c0, nat_c1, nat_c2, nat_c3, nat_c4, nat_c5, Int.reduceEq, tgt2, tgt3, tgt4, c_isf, c_isn, c_inf, c_inn, c_iss, c_ins, Int.reduceMul, Int.reduceAdd, Int.reduceSub, fr_1, fr_0, fr_2, fr_h, x_f0, x_f1, u_tupf, u_lenf, c_eqfr, c_nefr, c_isfr, c_infr, o_mul, o_mod, o_div, n_le, n_ge, n_lt, n_gt, sp_add, sp_sub, sp_mul, sp_by, sp_isfr, sl_add, sl_sub, sl_mul, sl_by, List.take_succ_cons, List.take_zero, c_neb, c_eqb, c_isT, c_isF, c_insT, c_insF, u_repr, c_nes, beq_self_eq_true, sl_part, fin_lastF, D2_last, num_le_den, num_lt_den, num_eq_den, num_eq0, sub_ge, sub_lt, sub_gt, mk_pc, x_pc0, x_pc1, len_pc, tup_pc, tv_pc, tv_22, ls0T, ls1T, setL_nil, setL_cons, tgl2, tgl3, tgl4, len4, tg_pc, rng_2])
local macro_rules | `(tactic| walk_at "gx") => `(tactic| simp (disch := walk_at "sz") only [tp0, ls0, tp1, ls1, tp2, ls2, tp3, ls3, tp4, ls4, tp5, ls5, tp6, ls6, tp7, ls7, tp8, ls8, tp9, ls9, tp10, ls10, tp11, ls11, tp12, ls12, denF_eq, dSs_nil, dSs_cons, nxS_nx, nxS_rt, nxS_ex, nxS_bk, nxS_ct, lift_ok, lift_ex, oE_some, dS_asg, dS_par, dS_ret, dS_retN, dS_ex, dS_raise, dS_brk, dS_cnt, dS_pass, dS_ife, tgt_nm, set_nil, set_cons, dI_seq, dI_rng1, nI_some, iI_some, int_int, it_list, it_tup, it_f, fin_p, endF_nx, endF_rt, endF_ex, bind_ok, bind_ex, D1_p, D2_pp, mD_some, mkD_f, pD_some, dE_cst, dE_glob, dE_var, vR_ok, dE_bin, dE_neg, negV_int, tR_bool, tR_int, tR_none, tR_list, tR_tup, dE_not, dE_and, dE_or, andR_t, andR_f, orR_t, orR_f, andR_b, orR_b, oB_some, dE_cmp, dE_chain, chR_t, chR_f, chR_b, oC_some, dE_ife, ifR_t, ifR_f, dE_call, dE_b1, dE_b2, dE_idx, dE_isi, dE_tup, dE_lst, dEs_nil, dEs_cons, dats_nil, dats_cons, dT_none, dT_some, o_add, o_sub, c_lt, c_le, c_gt, c_ge, c_eqi, c_nei, u_abs, u_int, u_lenl, u_lent, u_tupl, u_tupt, x_tup, x_lst, a1_0, a2_0, a2_1, a3_0, a3_1, a3_2, a4_0, a4_1, a4_2, a4_3, List.length_cons, List.length_nil, List.map_cons, List.map_nil, List.replicate, List.cons_append, List.nil_append, List.getElem?_cons_zero, List.getElem?_cons_succ, List.set_cons_zero, List.set_cons_succ, Option.map_some, Nat.reduceSub, Nat.reduceAdd, List.take_length, List.isEmpty_nil, List.isEmpty_cons, Bool.not_true, Bool.not_false, wipe_nil, wipe_cons, tgt1, Int.reduceLT, Int.reduceLE, decide_true, decide_false, Bool.true_and, Bool.and_true, Bool.false_and, Bool.true_or, Bool.false_or, Bool.or_false, List.all_cons, List.all_nil, id_eq, nat_c0, nat_c1, nat_c2, nat_c3, nat_c4, nat_c5, Int.reduceEq, tgt2, tgt3, tgt4, c_isf, c_isn, c_inf, c_inn, c_iss, c_ins, Int.reduceMul, Int.reduceAdd, Int.reduceSub, fr_1, fr_0, fr_2, fr_h, x_f0, x_f1, u_tupf, u_lenf, c_eqfr, c_nefr, c_isfr, c_infr, o_mul, o_mod, o_div, n_le, n_ge, n_lt, n_gt, sp_add, sp_sub, sp_mul, sp_by, sp_isfr, sl_add, sl_sub, sl_mul, sl_by, List.take_succ_cons, List.take_zero, c_neb, c_eqb, c_isT, c_isF, c_insT, c_insF, u_repr, c_nes, beq_self_eq_true, sl_part, fin_lastF, D2_last, num_le_den, num_lt_den, num_eq_den, num_eq0, sub_ge, sub_lt, sub_gt, mk_pc, x_pc0, x_pc1, len_pc, tup_pc, tv_pc, tv_22, ls0T, ls1T, setL_nil, setL_cons, tgl2, tgl3, tgl4, len4, tg_pc, rng_2, *])
local macro_rules | `(tactic| walk_at "un") => `(tactic| simp (disch := walk_at "sz") only [tp0, ls0, tp1, ls1, tp2, ls2, tp3, ls3, tp4, ls4, tp5, ls5, tp6, ls6, tp7, ls7, tp8, ls8, tp9, ls9, tp10, ls10, tp11, ls11, tp12, ls12, denF_eq, dSs_nil, dSs_cons, nxS_nx, nxS_rt, nxS_ex, nxS_bk, nxS_ct, lift_ok, lift_ex, oE_some, dS_asg, dS_par, dS_ret, dS_retN, dS_ex, dS_raise, dS_brk, dS_cnt, dS_pass, dS_ife, tgt_nm, set_nil, set_cons, dI_seq, dI_rng1, nI_some, iI_some, int_int, it_list, it_tup, it_f, fin_p, endF_nx, endF_rt, endF_ex, bind_ok, bind_ex, D1_p, D2_pp, mD_some, mkD_f, pD_some, dE_cst, dE_glob, dE_var, vR_ok, dE_bin, dE_neg, negV_int, tR_bool, tR_int, tR_none, tR_list, tR_tup, dE_not, dE_and, dE_or, andR_t, andR_f, orR_t, orR_f, andR_b, orR_b, oB_some, dE_cmp, dE_chain, chR_t, chR_f, chR_b, oC_some, dE_ife, ifR_t, ifR_f, dE_call, dE_b1, dE_b2, dE_idx, dE_isi, dE_tup, dE_lst, dEs_nil, dEs_cons, dats_nil, dats_cons, dT_none, dT_some, o_add, o_sub, c_lt, c_le, c_gt, c_ge, c_eqi, c_nei, u_abs, u_int, u_lenl, u_lent, u_tupl, u_tupt, x_tup, x_lst, a1_0, a2_0, a2_1, a3_0, a3_1, a3_2, a4_0, a4_1, a4_2, a4_3, List.length_cons, List.length_nil, List.map_cons, List.map_nil, List.replicate, List.cons_append, List.nil_append, List.getElem?_cons_zero, List.getElem?_cons_succ, List.set_cons_zero, List.set_cons_succ, Option.map_some, Nat.reduceSub, Nat.reduceAdd, List.take_length, List.isEmpty_nil, List.isEmpty_cons, Bool.not_true, Bool.not_false, wipe_nil, wipe_cons, tgt1, Int.reduceLT, Int.reduceLE, decide_true, decide_false, Bool.true_and, Bool.and_true, Bool.false_and, Bool.true_or, Bool.false_or, Bool.or_false, List.all_cons, List.all_nil, id_eq, nat_c0, nat_c1, nat_c2, nat_c3, nat_c4, nat_c5, Int.reduceEq, tgt2, tgt3, tgt4, c_isf, c_isn, c_inf, c_inn, c_iss, c_ins, Int.reduceMul, Int.reduceAdd, Int.reduceSub, fr_1, fr_0, fr_2, fr_h, x_f0, x_f1, u_tupf, u_lenf, c_eqfr, c_nefr, c_isfr, c_infr, o_mul, o_mod, o_div, n_le, n_ge, n_lt, n_gt, sp_add, sp_sub, sp_mul, sp_by, sp_isfr, sl_add, sl_sub, sl_mul, sl_by, List.take_succ_cons, List.take_zero, c_neb, c_eqb, c_isT, c_isF, c_insT, c_insF, u_repr, c_nes, beq_self_eq_true, sl_part, fin_lastF, D2_last, num_le_den, num_lt_den, num_eq_den, num_eq0, sub_ge, sub_lt, sub_gt, mk_pc, x_pc0, x_pc1, len_pc, tup_pc, tv_pc, tv_22, ls0T, ls1T, setL_nil, setL_cons, tgl2, tgl3, tgl4, len4, tg_pc, rng_2, dE_compE, cE_nil, cE_cons, oN_some, bindN_ok, cPut_l, cPut_2, cPut_3, cEnd_l, cEnd_2, cEnd_3, dS_forE, fE_nil, fE_cons, oF_some, lpR_nx, lpR_ct, lpR_bk, lpR_rt, lpR_ex, tg2, tg3, len2, len3])
local macro_rules | `(tactic| walk_at "ux") => `(tactic| simp (disch := walk_at "sz") only [tp0, ls0, tp1, ls1, tp2, ls2, tp3, ls3, tp4, ls4, tp5, ls5, tp6, ls6, tp7, ls7, tp8, ls8, tp9, ls9, tp10, ls10, tp11, ls11, tp12, ls12, denF_eq, dSs_nil, dSs_cons, nxS_nx, nxS_rt, nxS_ex, nxS_bk, nxS_ct, lift_ok, lift_ex, oE_some, dS_asg, dS_par, dS_ret, dS_retN, dS_ex, dS_raise, dS_brk, dS_cnt, dS_pass, dS_ife, tgt_nm, set_nil, set_cons, dI_seq, dI_rng1, nI_some, iI_some, int_int, it_list, it_tup, it_f, fin_p, endF_nx, endF_rt, endF_ex, bind_ok, bind_ex, D1_p, D2_pp, mD_some, mkD_f, pD_some, dE_cst, dE_glob, dE_var, vR_ok, dE_bin, dE_neg, negV_int, tR_bool, tR_int, tR_none, tR_list, tR_tup, dE_not, dE_and, dE_or, andR_t, andR_f, orR_t, orR_f, andR_b, orR_b, oB_some, dE_cmp, dE_chain, chR_t, chR_f, chR_b, oC_some, dE_ife, ifR_t, ifR_f, dE_call, dE_b1, dE_b2, dE_idx, dE_isi, dE_tup, dE_lst, dEs_nil, dEs_cons, dats_nil, dats_cons, dT_none, dT_some, o_add, o_sub, c_lt, c_le, c_gt, c_ge, c_eqi, c_nei, u_abs, u_int, u_lenl, u_lent, u_tupl, u_tupt, x_tup, x_lst, a1_0, a2_0, a2_1, a3_0, a3_1, a3_2, a4_0, a4_1, a4_2, a4_3, List.length_cons, List.length_nil, List.map_cons, List.map_nil, List.replicate, List.cons_append, List.nil_append, List.getElem?_cons_zero, List.getElem?_cons_succ, List.set_cons_zero, List.set_cons_succ, Option.map_some, Nat.reduceSub, Nat.reduceAdd, List.take_length, List.isEmpty_nil, List.isEmpty_cons, Bool.not_true, Bool.not_false, wipe_nil, wipe_cons, tgt1, Int.reduceLT, Int.reduceLE, decide_true, decide_false, Bool.true_and, Bool.and_true, Bool.false_and, Bool.true_or, Bool.false_or, Bool.or_false, List.all_cons, List.all_nil, id_eq, nat_c0, nat_c1, nat_c2, nat_c3, nat_c4, nat_c5, Int.reduceEq, tgt2, tgt3, tgt4, c_isf, c_isn, c_inf, c_inn, c_iss, c_ins, Int.reduceMul, Int.reduceAdd, Int.reduceSub, fr_1, fr_0, fr_2, fr_h, x_f0, x_f1, u_tupf, u_lenf, c_eqfr, c_nefr, c_isfr, c_infr, o_mul, o_mod, o_div, n_le, n_ge, n_lt, n_gt, sp_add, sp_sub, sp_mul, sp_by, sp_isfr, sl_add, sl_sub, sl_mul, sl_by, List.take_succ_cons, List.take_zero, c_neb, c_eqb, c_isT, c_isF, c_insT, c_insF, u_repr, c_nes, beq_self_eq_true, sl_part, fin_lastF, D2_last, num_le_den, num_lt_den, num_eq_den, num_eq0, sub_ge, sub_lt, sub_gt, mk_pc, x_pc0, x_pc1, len_pc, tup_pc, tv_pc, tv_22, ls0T, ls1T, setL_nil, setL_cons, tgl2, tgl3, tgl4, len4, tg_pc, rng_2, dE_compE, cE_nil, cE_cons, oN_some, bindN_ok, cPut_l, cPut_2, cPut_3, cEnd_l, cEnd_2, cEnd_3, dS_forE, fE_nil, fE_cons, oF_some, lpR_nx, lpR_ct, lpR_bk, lpR_rt, lpR_ex, tg2, tg3, len2, len3, *])
section
variable {a xs S : List PyData} {r st : Store} {e h t : Rat} {p q : Rat × Rat}
variable {o0 o1 o2 o3 o4 o5 o6 o7 o8 o9 o10 o11 o12 o13 o14 o15 o16 o17 o18 o19 o20 o21 o22 o23 o24 o25 o26 o27 o28 o29 o30 o31 o32 o33 : Option Val}
theorem st_8 (hd : Dr xs) (he : Eg e) (K : ∀ h ys, Ms h → Dr ys → OKs r45_9 (o0 :: some (.l 1) :: o2 :: some (.p (frP e)) :: o4 :: o5 :: o6 :: o7 :: o8 :: o9 :: o10 :: o11 :: o12 :: o13 :: o14 :: o15 :: o16 :: some (.p (frP 1)) :: some (.p (frP 0)) :: some (.p (frP (1 / 2))) :: o20 :: o21 :: o22 :: some (.p (frP ((1 + e) / (1 - e)))) :: some (.p (frP h)) :: o25 :: o26 :: o27 :: o28 :: o29 :: o30 :: o31 :: o32 :: o33 :: []) [a, ys]) : OKs r45_8 (o0 :: some (.l 1) :: o2 :: some (.p (frP e)) :: o4 :: o5 :: o6 :: o7 :: o8 :: o9 :: o10 :: o11 :: o12 :: o13 :: o14 :: o15 :: o16 :: some (.p (frP 1)) :: some (.p (frP 0)) :: some (.p (frP (1 / 2))) :: o20 :: o21 :: o22 :: o23 :: o24 :: o25 :: o26 :: o27 :: o28 :: o29 :: o30 :: o31 :: o32 :: o33 :: []) [a, xs] := by
  obtain ⟨h, ys, hh, hd1, r1⟩ := dw_rate 6 a xs [] hd
  have z := he.sz
  have n : 0 < 1 - e := by have := he.lt; grind
  refine ok_step ?_ (K h ys hh hd1)
  unfold s45_8
  walk_at "go"
  rw [r1]
  walk_at "go"
theorem st_9 (he : Eg e) (K : OKs r45_10 (o0 :: some (.l 1) :: o2 :: some (.p (frP e)) :: o4 :: o5 :: some (.p (frP (e * e))) :: o7 :: o8 :: o9 :: o10 :: o11 :: o12 :: o13 :: o14 :: o15 :: o16 :: some (.p (frP 1)) :: some (.p (frP 0)) :: some (.p (frP (1 / 2))) :: o20 :: o21 :: o22 :: some (.p (frP ((1 + e) / (1 - e)))) :: some (.p (frP h)) :: o25 :: o26 :: o27 :: o28 :: o29 :: o30 :: o31 :: o32 :: o33 :: []) st) : OKs r45_9 (o0 :: some (.l 1) :: o2 :: some (.p (frP e)) :: o4 :: o5 :: o6 :: o7 :: o8 :: o9 :: o10 :: o11 :: o12 :: o13 :: o14 :: o15 :: o16 :: some (.p (frP 1)) :: some (.p (frP 0)) :: some (.p (frP (1 / 2))) :: o20 :: o21 :: o22 :: some (.p (frP ((1 + e) / (1 - e)))) :: some (.p (frP h)) :: o25 :: o26 :: o27 :: o28 :: o29 :: o30 :: o31 :: o32 :: o33 :: []) st := by
  have z := he.sz
  refine ok_step ?_ K
  unfold s45_9
  walk_at "go"
theorem st_10 (hd : Dr xs) (K : ∀ (n : Nat) ys, n < 8 → Dr ys → OKs r45_11 (o0 :: some (.l 1) :: o2 :: some (.p (frP e)) :: o4 :: o5 :: some (.p (frP (e * e))) :: some (.p (.int (n : Int))) :: o8 :: o9 :: o10 :: o11 :: o12 :: o13 :: o14 :: o15 :: o16 :: some (.p (frP 1)) :: some (.p (frP 0)) :: some (.p (frP (1 / 2))) :: o20 :: o21 :: o22 :: some (.p (frP ((1 + e) / (1 - e)))) :: some (.p (frP h)) :: o25 :: o26 :: o27 :: o28 :: o29 :: o30 :: o31 :: o32 :: o33 :: []) [a, ys]) : OKs r45_10 (o0 :: some (.l 1) :: o2 :: some (.p (frP e)) :: o4 :: o5 :: some (.p (frP (e * e))) :: o7 :: o8 :: o9 :: o10 :: o11 :: o12 :: o13 :: o14 :: o15 :: o16 :: some (.p (frP 1)) :: some (.p (frP 0)) :: some (.p (frP (1 / 2))) :: o20 :: o21 :: o22 :: some (.p (frP ((1 + e) / (1 - e)))) :: some (.p (frP h)) :: o25 :: o26 :: o27 :: o28 :: o29 :: o30 :: o31 :: o32 :: o33 :: []) [a, xs] := by
  obtain ⟨n, ys, a1, b1, hd1, r1⟩ := nx 8 a xs [] hd
  have en : n % 8 = (((n % 8).toNat : Nat) : Int) := by omega
  refine ok_step ?_ (K (n % 8).toNat ys (by omega) hd1)
  unfold s45_10
  walk_at "go"
  rw [r1]
  walk_at "go"
  rw [en]
  rfl
theorem st_11 (he : Eg e) (hh : Ms h) {n : Nat} (hn : n < 8) (K : OKs r45_12 (o0 :: some (.l 1) :: o2 :: some (.p (frP e)) :: o4 :: o5 :: some (.p (frP (e * e))) :: some (.p (.int (n : Int))) :: some (.p (.list [frP ((1 + e) / (1 - e)), frP (h * ((1 + e * e) / (1 - e * e))), frP (h * pw (e * e) n)])) :: o9 :: o10 :: o11 :: o12 :: o13 :: o14 :: o15 :: o16 :: some (.p (frP 1)) :: some (.p (frP 0)) :: some (.p (frP (1 / 2))) :: o20 :: o21 :: o22 :: some (.p (frP ((1 + e) / (1 - e)))) :: some (.p (frP h)) :: o25 :: o26 :: o27 :: o28 :: o29 :: o30 :: o31 :: o32 :: o33 :: []) st) : OKs r45_11 (o0 :: some (.l 1) :: o2 :: some (.p (frP e)) :: o4 :: o5 :: some (.p (frP (e * e))) :: some (.p (.int (n : Int))) :: o8 :: o9 :: o10 :: o11 :: o12 :: o13 :: o14 :: o15 :: o16 :: some (.p (frP 1)) :: some (.p (frP 0)) :: some (.p (frP (1 / 2))) :: o20 :: o21 :: o22 :: some (.p (frP ((1 + e) / (1 - e)))) :: some (.p (frP h)) :: o25 :: o26 :: o27 :: o28 :: o29 :: o30 :: o31 :: o32 :: o33 :: []) st := by
  have z := he.sz
  have z2 := hh.1
  have n1 : 0 < 1 - e * e := by have := sq_lt1 he.nn he.lt; grind
  have rs := sl_raised (st := st) 5 (e := e * e) (b := 6) (sz_mul z z) (by decide) n (by omega)
  have zp : SzR 100 (pw (e * e) n) := (sz_pw (sz_mul z z) n).mono (by omega)
  refine ok_step ?_ K
  unfold s45_11
  walk_at "gx"
theorem st_12 (he : Eg e) (hh : Ms h) {n : Nat} (hn : n < 8) (K : OKs r45_13 (o0 :: some (.l 1) :: o2 :: some (.p (frP e)) :: o4 :: o5 :: o6 :: some (.p (.int (n : Int))) :: some (.p (.list [frP ((1 + e) / (1 - e)), frP (h * ((1 + e * e) / (1 - e * e))), frP (h * pw (e * e) n)])) :: o9 :: o10 :: o11 :: o12 :: o13 :: o14 :: o15 :: o16 :: some (.p (frP 1)) :: some (.p (frP 0)) :: some (.p (frP (1 / 2))) :: o20 :: o21 :: o22 :: some (.p (frP ((1 + e) / (1 - e)))) :: some (.p (frP h)) :: o25 :: o26 :: o27 :: o28 :: o29 :: o30 :: o31 :: o32 :: o33 :: []) st) : OKs r45_12 (o0 :: some (.l 1) :: o2 :: some (.p (frP e)) :: o4 :: o5 :: o6 :: some (.p (.int (n : Int))) :: some (.p (.list [frP ((1 + e) / (1 - e)), frP (h * ((1 + e * e) / (1 - e * e))), frP (h * pw (e * e) n)])) :: o9 :: o10 :: o11 :: o12 :: o13 :: o14 :: o15 :: o16 :: some (.p (frP 1)) :: some (.p (frP 0)) :: some (.p (frP (1 / 2))) :: o20 :: o21 :: o22 :: some (.p (frP ((1 + e) / (1 - e)))) :: some (.p (frP h)) :: o25 :: o26 :: o27 :: o28 :: o29 :: o30 :: o31 :: o32 :: o33 :: []) st := by
  have z := he.sz
  have z2 := hh.1
  have q2 : FT tab 9 43 [.p (.int 2), .p (frP e), .p .none, .p .none, .p .none] st = _ := ask_2 8 (sp_ftime 2 z he.nn he.lt)
  have q3 : FT tab 9 43 [.p (.int 3), .p (frP h), .p (frP e), .p .none, .p .none] st = _ := ask3 8 (by decide) (by decide) rfl (sp_fway 2 z2 hh.2 z he.nn he.lt)
  have q8 : FT tab 9 43 [.p (.int 8), .p (frP h), .p (frP e), .p (.int (n : Int)), .p .none] st = _ := ask_8 8 (sp_height 3 z2 hh.2 z he.ch n (by omega))
  have zp : SzR 100 (pw (e * e) n) := (sz_pw (sz_mul z z) n).mono (by omega)
  have y1 : SzR 1900 ((1 + e) / (1 - e)) := by walk_at "sz"
  have y2 : SzR 1900 (h * ((1 + e * e) / (1 - e * e))) := by walk_at "sz"
  have y3 : SzR 1900 (h * pw (e * e) n) := by walk_at "sz"
  have sh : showOk (.list [frP ((1 + e) / (1 - e)), frP (h * ((1 + e * e) / (1 - e * e))), frP (h * pw (e * e) n)]) = true := sh_okB (sh_l3 (sh_fr y1) (sh_fr y2) (sh_fr y3)) (by decide) (by decide)
  refine ok_step ?_ K
  unfold s45_12
  walk_at "gx"
/-- the times of the bounces, as the law lists them -/
def sL (e : Rat) (k : Nat) : List PyData := (List.range (k + 1)).map fun j => frP (Sb e j)
theorem sL_succ (e : Rat) (k : Nat) : sL e (k + 1) = sL e k ++ [frP (Sb e (k + 1))] := by
  unfold sL
  rw [List.range_succ, List.map_append]
  rfl
theorem sL_last (e : Rat) (k : Nat) : L2.atI (sL e k) (-1) = some (frP (Sb e k)) := by
  unfold sL
  rw [List.range_succ, List.map_append]
  exact at_last _ _
theorem sL_len (e : Rat) (k : Nat) : (sL e k).length = k + 1 := by unfold sL; rw [List.length_map, List.length_range]
theorem st_13 (K : OKs r45_14 (o0 :: some (.l 1) :: o2 :: some (.p (frP e)) :: o4 :: o5 :: o6 :: o7 :: o8 :: some (.l 2) :: o10 :: o11 :: o12 :: o13 :: o14 :: o15 :: o16 :: some (.p (frP 1)) :: some (.p (frP 0)) :: some (.p (frP (1 / 2))) :: o20 :: o21 :: o22 :: some (.p (frP ((1 + e) / (1 - e)))) :: o24 :: o25 :: o26 :: o27 :: o28 :: o29 :: o30 :: o31 :: o32 :: o33 :: []) [a, xs, sL e 0]) : OKs r45_13 (o0 :: some (.l 1) :: o2 :: some (.p (frP e)) :: o4 :: o5 :: o6 :: o7 :: o8 :: o9 :: o10 :: o11 :: o12 :: o13 :: o14 :: o15 :: o16 :: some (.p (frP 1)) :: some (.p (frP 0)) :: some (.p (frP (1 / 2))) :: o20 :: o21 :: o22 :: some (.p (frP ((1 + e) / (1 - e)))) :: o24 :: o25 :: o26 :: o27 :: o28 :: o29 :: o30 :: o31 :: o32 :: o33 :: []) [a, xs] := by
  refine ok_step ?_ K
  unfold s45_13
  walk_at "go"
  rfl
def suB : Ss := (.cons (.ex (.append (.var 9) (.call 33 (.cons (.idx (.var 9) (.neg (.cst (.int 1)))) (.cons (.call 35 (.cons (.tup (.cons (.cst (.int 2)) (.cons (.cst (.int 1)) .nil))) (.cons (.call 39 (.cons (.var 3) (.cons (.bin false .Add (.var 10) (.cst (.int 1))) .nil))) .nil))) .nil))))) .nil)
theorem D2_2 {y : PyData} {f : PyData → PyData → M Val} {L : List PyData} {r : Store} : D2 (.l 2) (.p y) (a :: xs :: L :: r) f = f (.list L) y (a :: xs :: L :: r) := D2_lp rfl
local macro_rules | `(tactic| walk_at "go") => `(tactic| simp (disch := walk_at "sz") only [tp0, ls0, tp1, ls1, tp2, ls2, tp3, ls3, tp4, ls4, tp5, ls5, tp6, ls6, tp7, ls7, tp8, ls8, tp9, ls9, tp10, ls10, tp11, ls11, tp12, ls12, denF_eq, dSs_nil, dSs_cons, nxS_nx, nxS_rt, nxS_ex, nxS_bk, nxS_ct, lift_ok, lift_ex, oE_some, dS_asg, dS_par, dS_ret, dS_retN, dS_ex, dS_raise, dS_brk, dS_cnt, dS_pass, dS_ife, tgt_nm, set_nil, set_cons, dI_seq, dI_rng1, nI_some, iI_some, int_int, it_list, it_tup, it_f, fin_p, endF_nx, endF_rt, endF_ex, bind_ok, bind_ex, D1_p, D2_pp, mD_some, mkD_f, pD_some, dE_cst, dE_glob, dE_var, vR_ok, dE_bin, dE_neg, negV_int, tR_bool, tR_int, tR_none, tR_list, tR_tup, dE_not, dE_and, dE_or, andR_t, andR_f, orR_t, orR_f, andR_b, orR_b, oB_some, dE_cmp, dE_chain, chR_t, chR_f, chR_b, oC_some, dE_ife, ifR_t, ifR_f, dE_call, dE_b1, dE_b2, dE_idx, dE_isi, dE_tup, dE_lst, dEs_nil, dEs_cons, dats_nil, dats_cons, dT_none, dT_some, o_add, o_sub, c_lt, c_le, c_gt, c_ge, c_eqi, c_nei, u_abs, u_int, u_lenl, u_lent, u_tupl, u_tupt, x_tup, x_lst, a1_0, a2_0, a2_1, a3_0, a3_1, a3_2, a4_0, a4_1, a4_2, a4_3, List.length_cons, List.length_nil, List.map_cons, List.map_nil, List.replicate, List.cons_append, List.nil_append, List.getElem?_cons_zero, List.getElem?_cons_succ, List.set_cons_zero, List.set_cons_succ, Option.map_some, Nat.reduceSub, Nat.reduceAdd, List.take_length, List.isEmpty_nil, List.isEmpty_cons, Bool.not_true, Bool.not_false, wipe_nil, wipe_cons, tgt1, Int.reduceLT, Int.reduceLE, decide_true, decide_false, Bool.true_and, Bool.and_true, Bool.false_and, Bool.true_or, Bool.false_or, Bool.or_false, List.all_cons, List.all_nil, id_eq, nat_c0, nat_c1, nat_c2, nat_c3, nat_c4, nat_c5, Int.reduceEq, tgt2, tgt3, tgt4, c_isf, c_isn, c_inf, c_inn, c_iss, c_ins, Int.reduceMul, Int.reduceAdd, Int.reduceSub, fr_1, fr_0, fr_2, fr_h, x_f0, x_f1, u_tupf, u_lenf, c_eqfr, c_nefr, c_isfr, c_infr, o_mul, o_mod, o_div, n_le, n_ge, n_lt, n_gt, sp_add, sp_sub, sp_mul, sp_by, sp_isfr, sl_add, sl_sub, sl_mul, sl_by, List.take_succ_cons, List.take_zero, c_neb, c_eqb, c_isT, c_isF, c_insT, c_insF, u_repr, c_nes, beq_self_eq_true, sl_part, fin_lastF, D2_last, num_le_den, num_lt_den, num_eq_den, num_eq0, sub_ge, sub_lt, sub_gt, mk_pc, x_pc0, x_pc1, len_pc, tup_pc, tv_pc, tv_22, ls0T, ls1T, setL_nil, setL_cons, tgl2, tgl3, tgl4, len4, tg_pc, rng_2, D2_2, sL_last])
local macro_rules | `(tactic| walk_at "gx") => `(tactic| simp (disch := walk_at "sz") only [tp0, ls0, tp1, ls1, tp2, ls2, tp3, ls3, tp4, ls4, tp5, ls5, tp6, ls6, tp7, ls7, tp8, ls8, tp9, ls9, tp10, ls10, tp11, ls11, tp12, ls12, denF_eq, dSs_nil, dSs_cons, nxS_nx, nxS_rt, nxS_ex, nxS_bk, nxS_ct, lift_ok, lift_ex, oE_some, dS_asg, dS_par, dS_ret, dS_retN, dS_ex, dS_raise, dS_brk, dS_cnt, dS_pass, dS_ife, tgt_nm, set_nil, set_cons, dI_seq, dI_rng1, nI_some, iI_some, int_int, it_list, it_tup, it_f, fin_p, endF_nx, endF_rt, endF_ex, bind_ok, bind_ex, D1_p, D2_pp, mD_some, mkD_f, pD_some, dE_cst, dE_glob, dE_var, vR_ok, dE_bin, dE_neg, negV_int, tR_bool, tR_int, tR_none, tR_list, tR_tup, dE_not, dE_and, dE_or, andR_t, andR_f, orR_t, orR_f, andR_b, orR_b, oB_some, dE_cmp, dE_chain, chR_t, chR_f, chR_b, oC_some, dE_ife, ifR_t, ifR_f, dE_call, dE_b1, dE_b2, dE_idx, dE_isi, dE_tup, dE_lst, dEs_nil, dEs_cons, dats_nil, dats_cons, dT_none, dT_some, o_add, o_sub, c_lt, c_le, c_gt, c_ge, c_eqi, c_nei, u_abs, u_int, u_lenl, u_lent, u_tupl, u_tupt, x_tup, x_lst, a1_0, a2_0, a2_1, a3_0, a3_1, a3_2, a4_0, a4_1, a4_2, a4_3, List.length_cons, List.length_nil, List.map_cons, List.map_nil, List.replicate, List.cons_append, List.nil_append, List.getElem?_cons_zero, List.getElem?_cons_succ, List.set_cons_zero, List.set_cons_succ, Option.map_some, Nat.reduceSub, Nat.reduceAdd, List.take_length, List.isEmpty_nil, List.isEmpty_cons, Bool.not_true, Bool.not_false, wipe_nil, wipe_cons, tgt1, Int.reduceLT, Int.reduceLE, decide_true, decide_false, Bool.true_and, Bool.and_true, Bool.false_and, Bool.true_or, Bool.false_or, Bool.or_false, List.all_cons, List.all_nil, id_eq, nat_c0, nat_c1, nat_c2, nat_c3, nat_c4, nat_c5, Int.reduceEq, tgt2, tgt3, tgt4, c_isf, c_isn, c_inf, c_inn, c_iss, c_ins, Int.reduceMul, Int.reduceAdd, Int.reduceSub, fr_1, fr_0, fr_2, fr_h, x_f0, x_f1, u_tupf, u_lenf, c_eqfr, c_nefr, c_isfr, c_infr, o_mul, o_mod, o_div, n_le, n_ge, n_lt, n_gt, sp_add, sp_sub, sp_mul, sp_by, sp_isfr, sl_add, sl_sub, sl_mul, sl_by, List.take_succ_cons, List.take_zero, c_neb, c_eqb, c_isT, c_isF, c_insT, c_insF, u_repr, c_nes, beq_self_eq_true, sl_part, fin_lastF, D2_last, num_le_den, num_lt_den, num_eq_den, num_eq0, sub_ge, sub_lt, sub_gt, mk_pc, x_pc0, x_pc1, len_pc, tup_pc, tv_pc, tv_22, ls0T, ls1T, setL_nil, setL_cons, tgl2, tgl3, tgl4, len4, tg_pc, rng_2, D2_2, sL_last, *])
local macro_rules | `(tactic| walk_at "un") => `(tactic| simp (disch := walk_at "sz") only [tp0, ls0, tp1, ls1, tp2, ls2, tp3, ls3, tp4, ls4, tp5, ls5, tp6, ls6, tp7, ls7, tp8, ls8, tp9, ls9, tp10, ls10, tp11, ls11, tp12, ls12, denF_eq, dSs_nil, dSs_cons, nxS_nx, nxS_rt, nxS_ex, nxS_bk, nxS_ct, lift_ok, lift_ex, oE_some, dS_asg, dS_par, dS_ret, dS_retN, dS_ex, dS_raise, dS_brk, dS_cnt, dS_pass, dS_ife, tgt_nm, set_nil, set_cons, dI_seq, dI_rng1, nI_some, iI_some, int_int, it_list, it_tup, it_f, fin_p, endF_nx, endF_rt, endF_ex, bind_ok, bind_ex, D1_p, D2_pp, mD_some, mkD_f, pD_some, dE_cst, dE_glob, dE_var, vR_ok, dE_bin, dE_neg, negV_int, tR_bool, tR_int, tR_none, tR_list, tR_tup, dE_not, dE_and, dE_or, andR_t, andR_f, orR_t, orR_f, andR_b, orR_b, oB_some, dE_cmp, dE_chain, chR_t, chR_f, chR_b, oC_some, dE_ife, ifR_t, ifR_f, dE_call, dE_b1, dE_b2, dE_idx, dE_isi, dE_tup, dE_lst, dEs_nil, dEs_cons, dats_nil, dats_cons, dT_none, dT_some, o_add, o_sub, c_lt, c_le, c_gt, c_ge, c_eqi, c_nei, u_abs, u_int, u_lenl, u_lent, u_tupl, u_tupt, x_tup, x_lst, a1_0, a2_0, a2_1, a3_0, a3_1, a3_2, a4_0, a4_1, a4_2, a4_3, List.length_cons, List.length_nil, List.map_cons, List.map_nil, List.replicate, List.cons_append, List.nil_append, List.getElem?_cons_zero, List.getElem?_cons_succ, List.set_cons_zero, List.set_cons_succ, Option.map_some, Nat.reduceSub, Nat.reduceAdd, List.take_length, List.isEmpty_nil, List.isEmpty_cons, Bool.not_true, Bool.not_false, wipe_nil, wipe_cons, tgt1, Int.reduceLT, Int.reduceLE, decide_true, decide_false, Bool.true_and, Bool.and_true, Bool.false_and, Bool.true_or, Bool.false_or, Bool.or_false, List.all_cons, List.all_nil, id_eq, nat_c0, nat_c1, nat_c2, nat_c3, nat_c4, nat_c5, Int.reduceEq, tgt2, tgt3, tgt4, c_isf, c_isn, c_inf, c_inn, c_iss, c_ins, Int.reduceMul, Int.reduceAdd, Int.reduceSub, fr_1, fr_0, fr_2, fr_h, x_f0, x_f1, u_tupf, u_lenf, c_eqfr, c_nefr, c_isfr, c_infr, o_mul, o_mod, o_div, n_le, n_ge, n_lt, n_gt, sp_add, sp_sub, sp_mul, sp_by, sp_isfr, sl_add, sl_sub, sl_mul, sl_by, List.take_succ_cons, List.take_zero, c_neb, c_eqb, c_isT, c_isF, c_insT, c_insF, u_repr, c_nes, beq_self_eq_true, sl_part, fin_lastF, D2_last, num_le_den, num_lt_den, num_eq_den, num_eq0, sub_ge, sub_lt, sub_gt, mk_pc, x_pc0, x_pc1, len_pc, tup_pc, tv_pc, tv_22, ls0T, ls1T, setL_nil, setL_cons, tgl2, tgl3, tgl4, len4, tg_pc, rng_2, D2_2, sL_last, dE_compE, cE_nil, cE_cons, oN_some, bindN_ok, cPut_l, cPut_2, cPut_3, cEnd_l, cEnd_2, cEnd_3, dS_forE, fE_nil, fE_cons, oF_some, lpR_nx, lpR_ct, lpR_bk, lpR_rt, lpR_ex, tg2, tg3, len2, len3])
local macro_rules | `(tactic| walk_at "ux") => `(tactic| simp (disch := walk_at "sz") only [tp0, ls0, tp1, ls1, tp2, ls2, tp3, ls3, tp4, ls4, tp5, ls5, tp6, ls6, tp7, ls7, tp8, ls8, tp9, ls9, tp10, ls10, tp11, ls11, tp12, ls12, denF_eq, dSs_nil, dSs_cons, nxS_nx, nxS_rt, nxS_ex, nxS_bk, nxS_ct, lift_ok, lift_ex, oE_some, dS_asg, dS_par, dS_ret, dS_retN, dS_ex, dS_raise, dS_brk, dS_cnt, dS_pass, dS_ife, tgt_nm, set_nil, set_cons, dI_seq, dI_rng1, nI_some, iI_some, int_int, it_list, it_tup, it_f, fin_p, endF_nx, endF_rt, endF_ex, bind_ok, bind_ex, D1_p, D2_pp, mD_some, mkD_f, pD_some, dE_cst, dE_glob, dE_var, vR_ok, dE_bin, dE_neg, negV_int, tR_bool, tR_int, tR_none, tR_list, tR_tup, dE_not, dE_and, dE_or, andR_t, andR_f, orR_t, orR_f, andR_b, orR_b, oB_some, dE_cmp, dE_chain, chR_t, chR_f, chR_b, oC_some, dE_ife, ifR_t, ifR_f, dE_call, dE_b1, dE_b2, dE_idx, dE_isi, dE_tup, dE_lst, dEs_nil, dEs_cons, dats_nil, dats_cons, dT_none, dT_some, o_add, o_sub, c_lt, c_le, c_gt, c_ge, c_eqi, c_nei, u_abs, u_int, u_lenl, u_lent, u_tupl, u_tupt, x_tup, x_lst, a1_0, a2_0, a2_1, a3_0, a3_1, a3_2, a4_0, a4_1, a4_2, a4_3, List.length_cons, List.length_nil, List.map_cons, List.map_nil, List.replicate, List.cons_append, List.nil_append, List.getElem?_cons_zero, List.getElem?_cons_succ, List.set_cons_zero, List.set_cons_succ, Option.map_some, Nat.reduceSub, Nat.reduceAdd, List.take_length, List.isEmpty_nil, List.isEmpty_cons, Bool.not_true, Bool.not_false, wipe_nil, wipe_cons, tgt1, Int.reduceLT, Int.reduceLE, decide_true, decide_false, Bool.true_and, Bool.and_true, Bool.false_and, Bool.true_or, Bool.false_or, Bool.or_false, List.all_cons, List.all_nil, id_eq, nat_c0, nat_c1, nat_c2, nat_c3, nat_c4, nat_c5, Int.reduceEq, tgt2, tgt3, tgt4, c_isf, c_isn, c_inf, c_inn, c_iss, c_ins, Int.reduceMul, Int.reduceAdd, Int.reduceSub, fr_1, fr_0, fr_2, fr_h, x_f0, x_f1, u_tupf, u_lenf, c_eqfr, c_nefr, c_isfr, c_infr, o_mul, o_mod, o_div, n_le, n_ge, n_lt, n_gt, sp_add, sp_sub, sp_mul, sp_by, sp_isfr, sl_add, sl_sub, sl_mul, sl_by, List.take_succ_cons, List.take_zero, c_neb, c_eqb, c_isT, c_isF, c_insT, c_insF, u_repr, c_nes, beq_self_eq_true, sl_part, fin_lastF, D2_last, num_le_den, num_lt_den, num_eq_den, num_eq0, sub_ge, sub_lt, sub_gt, mk_pc, x_pc0, x_pc1, len_pc, tup_pc, tv_pc, tv_22, ls0T, ls1T, setL_nil, setL_cons, tgl2, tgl3, tgl4, len4, tg_pc, rng_2, D2_2, sL_last, dE_compE, cE_nil, cE_cons, oN_some, bindN_ok, cPut_l, cPut_2, cPut_3, cEnd_l, cEnd_2, cEnd_3, dS_forE, fE_nil, fE_cons, oF_some, lpR_nx, lpR_ct, lpR_bk, lpR_rt, lpR_ex, tg2, tg3, len2, len3, *])

theorem su_loop (he : Eg e) : ∀ (n k : Nat) (o10 : Option Val), k + n ≤ 26 → ∃ o10', fE (FT tab 9) (.nm 10) suB ((List.range' k n).map fun (j : Nat) => PyData.int (j : Int)) (o0 :: some (.l 1) :: o2 :: some (.p (frP e)) :: o4 :: o5 :: o6 :: o7 :: o8 :: some (.l 2) :: o10 :: o11 :: o12 :: o13 :: o14 :: o15 :: o16 :: some (.p (frP 1)) :: some (.p (frP 0)) :: some (.p (frP (1 / 2))) :: o20 :: o21 :: o22 :: some (.p (frP ((1 + e) / (1 - e)))) :: o24 :: o25 :: o26 :: o27 :: o28 :: o29 :: o30 :: o31 :: o32 :: o33 :: []) [a, xs, sL e k] = .ok (.nx (o0 :: some (.l 1) :: o2 :: some (.p (frP e)) :: o4 :: o5 :: o6 :: o7 :: o8 :: some (.l 2) :: o10' :: o11 :: o12 :: o13 :: o14 :: o15 :: o16 :: some (.p (frP 1)) :: some (.p (frP 0)) :: some (.p (frP (1 / 2))) :: o20 :: o21 :: o22 :: some (.p (frP ((1 + e) / (1 - e)))) :: o24 :: o25 :: o26 :: o27 :: o28 :: o29 :: o30 :: o31 :: o32 :: o33 :: [])) [a, xs, sL e (k + n)]
  | 0, k, o10, _ => ⟨o10, rfl⟩
  | n + 1, k, o10, hk => by
    obtain ⟨o10', q⟩ := su_loop he n (k + 1) (some (.p (.int (k : Int)))) (by omega)
    refine ⟨o10', ?_⟩
    have z := he.sz
    have z1 : SzR 3000 (Sb e k) := (sz_Sb z k (by omega)).mono (by omega)
    have z2 : SzR 100 (pw e (k + 1)) := (sz_pw z (k + 1)).mono (by omega)
    have rs := sl_raised (st := [a, xs, sL e k]) 5 (e := e) (b := 3) z (by decide) (k + 1) (by omega)
    have ek : ((k + 1 : Nat) : Int) = (k : Int) + 1 := rfl
    rw [ek] at rs
    have ap := dE_append (T := FT tab 9) (a := .var 9) (b := (.call 33 (.cons (.idx (.var 9) (.neg (.cst (.int 1)))) (.cons (.call 35 (.cons (.tup (.cons (.cst (.int 2)) (.cons (.cst (.int 1)) .nil))) (.cons (.call 39 (.cons (.var 3) (.cons (.bin false .Add (.var 10) (.cst (.int 1))) .nil))) .nil))) .nil)))) (e := (o0 :: some (.l 1) :: o2 :: some (.p (frP e)) :: o4 :: o5 :: o6 :: o7 :: o8 :: some (.l 2) :: some (.p (.int (k : Int))) :: o11 :: o12 :: o13 :: o14 :: o15 :: o16 :: some (.p (frP 1)) :: some (.p (frP 0)) :: some (.p (frP (1 / 2))) :: o20 :: o21 :: o22 :: some (.p (frP ((1 + e) / (1 - e)))) :: o24 :: o25 :: o26 :: o27 :: o28 :: o29 :: o30 :: o31 :: o32 :: o33 :: [])) (k := 2) (d := frP (Sb e (k + 1))) (st := [a, xs, sL e k]) (st1 := [a, xs, sL e k]) (st2 := [a, xs, sL e k]) (xs := sL e k) rfl (by
      walk_at "go"
      rw [rs]
      walk_at "go"
      rfl) rfl (by rw [sL_len]; omega)
    rw [List.range'_succ, List.map_cons, fE_cons, tgt1, oF_some]
    unfold suB
    walk_at "go"
    rw [ap]
    walk_at "go"
    rw [lpR_nx, ← sL_succ]
    rw [show k + (n + 1) = k + 1 + n by omega]
    exact q
theorem st_14 (he : Eg e) (K : ∀ o10, OKs r45_15 (o0 :: some (.l 1) :: o2 :: some (.p (frP e)) :: o4 :: o5 :: o6 :: o7 :: o8 :: some (.l 2) :: o10 :: o11 :: o12 :: o13 :: o14 :: o15 :: o16 :: some (.p (frP 1)) :: some (.p (frP 0)) :: some (.p (frP (1 / 2))) :: o20 :: o21 :: o22 :: some (.p (frP ((1 + e) / (1 - e)))) :: o24 :: o25 :: o26 :: o27 :: o28 :: o29 :: o30 :: o31 :: o32 :: o33 :: []) [a, xs, sL e 12]) : OKs r45_14 (o0 :: some (.l 1) :: o2 :: some (.p (frP e)) :: o4 :: o5 :: o6 :: o7 :: o8 :: some (.l 2) :: o10 :: o11 :: o12 :: o13 :: o14 :: o15 :: o16 :: some (.p (frP 1)) :: some (.p (frP 0)) :: some (.p (frP (1 / 2))) :: o20 :: o21 :: o22 :: some (.p (frP ((1 + e) / (1 - e)))) :: o24 :: o25 :: o26 :: o27 :: o28 :: o29 :: o30 :: o31 :: o32 :: o33 :: []) [a, xs, sL e 0] := by
  obtain ⟨o10', q⟩ := su_loop (a := a) (xs := xs) he 12 0 o10 (by decide)
  have rn := rngN (k := 12) (n := 12) (by omega) (by omega)
  rw [rngL_range'] at rn
  refine ok_step ?_ (K o10')
  unfold s45_14
  rw [dS_forE]
  walk_at "go"
  rw [rn]
  walk_at "go"
  exact q
end

end Law03

set_option Elab.async false
set_option linter.all false
set_option maxRecDepth 100000
set_option maxHeartbeats 1000000
set_option exponentiation.threshold 20000
namespace Law03
open PySem Rk
local macro_rules | `(tactic| walk_at "szc") => `(tactic| first | assumption | (apply sz_add <;> walk_at "szc") | (apply sz_sub <;> walk_at "szc") | (apply sz_mul <;> walk_at "szc") | (apply sz_div <;> walk_at "szc") | exact sz_c1 | exact sz_c2 | exact sz_ch | exact sz_c0 | (apply sz_neg; walk_at "szc"))
local macro_rules | `(tactic| walk_at "sz") => `(tactic| first | assumption | decide | (apply SzR.mono; (walk_at "szc"); decide) | (simp only [List.length_cons, List.length_nil, List.length_append, Nat.reduceAdd, Nat.reduceLT, Nat.reduceLeDiff]; done))
local macro_rules | `(tactic| walk_at "go") => `(tactic| simp (disch := walk_at "sz") only [tp0, ls0, tp1, ls1, tp2, ls2, tp3, ls3, tp4, ls4, tp5, ls5, tp6, ls6, tp7, ls7, tp8, ls8, tp9, ls9, tp10, ls10, tp11, ls11, tp12, ls12, denF_eq, dSs_nil, dSs_cons, nxS_nx, nxS_rt, nxS_ex, nxS_bk, nxS_ct, lift_ok, lift_ex, oE_some, dS_asg, dS_par, dS_ret, dS_retN, dS_ex, dS_raise, dS_brk, dS_cnt, dS_pass, dS_ife, tgt_nm, set_nil, set_cons, dI_seq, dI_rng1, nI_some, iI_some, int_int, it_list, it_tup, it_f, fin_p, endF_nx, endF_rt, endF_ex, bind_ok, bind_ex, D1_p, D2_pp, mD_some, mkD_f, pD_some, dE_cst, dE_glob, dE_var, vR_ok, dE_bin, dE_neg, negV_int, tR_bool, tR_int, tR_none, tR_list, tR_tup, dE_not, dE_and, dE_or, andR_t, andR_f, orR_t, orR_f, andR_b, orR_b, oB_some, dE_cmp, dE_chain, chR_t, chR_f, chR_b, oC_some, dE_ife, ifR_t, ifR_f, dE_call, dE_b1, dE_b2, dE_idx, dE_isi, dE_tup, dE_lst, dEs_nil, dEs_cons, dats_nil, dats_cons, dT_none, dT_some, o_add, o_sub, c_lt, c_le, c_gt, c_ge, c_eqi, c_nei, u_abs, u_int, u_lenl, u_lent, u_tupl, u_tupt, x_tup, x_lst, a1_0, a2_0, a2_1, a3_0, a3_1, a3_2, a4_0, a4_1, a4_2, a4_3, List.length_cons, List.length_nil, List.map_cons, List.map_nil, List.replicate, List.cons_append, List.nil_append, List.getElem?_cons_zero, List.getElem?_cons_succ, List.set_cons_zero, List.set_cons_succ, Option.map_some, Nat.reduceSub, Nat.reduceAdd, List.take_length, List.isEmpty_nil, List.isEmpty_cons, Bool.not_true, Bool.not_false, wipe_nil, wipe_cons, tgt1, Int.reduceLT, Int.reduceLE, decide_true, decide_false, Bool.true_and, Bool.and_true, Bool.false_and, Bool.true_or, Bool.false_or, Bool.or_false, List.all_cons, List.all_nil, id_eq, nat_c0, nat_c1, nat_c2, nat_c3, nat_c4, nat_c5, Int.reduceEq, tgt2, tgt3, tgt4, c_isf, c_isn, c_inf, c_inn, c_iss, c_ins, Int.reduceMul, Int.reduceAdd, Int.reduceSub, fr_1, fr_0, fr_2, fr_h, x_f0, x_f1, u_tupf, u_lenf, c_eqfr, c_nefr, c_isfr, c_infr, o_mul, o_mod, o_div, n_le, n_ge, n_lt, n_gt, sp_add, sp_sub, sp_mul, sp_by, sp_isfr, sl_add, sl_sub, sl_mul, sl_by, List.take_succ_cons, List.take_zero, c_neb, c_eqb, c_isT, c_isF, c_insT, c_insF, u_repr, c_nes, beq_self_eq_true, sl_part, fin_lastF, D2_last, num_le_den, num_lt_den, num_eq_den, num_eq0, sub_ge, sub_lt, sub_gt, mk_pc, x_pc0, x_pc1, len_pc, tup_pc, tv_pc, tv_22, ls0T, ls1T, setL_nil, setL_cons, tgl2, tgl3, tgl4, len4, tg_pc, rng_2, D2_2, sL_last])
local macro_rules | `(tactic| walk_at "gx") => `(tactic| simp (disch := walk_at "sz") only [tp0, ls0, tp1, ls1, tp2, ls2, tp3, ls3, tp4, ls4, tp5, ls5, tp6, ls6, tp7, ls7, tp8, ls8, tp9, ls9, tp10, ls10, tp11, ls11, tp12, ls12, denF_eq, dSs_nil, dSs_cons, nxS_nx, nxS_rt, nxS_ex, nxS_bk, nxS_ct, lift_ok, lift_ex, oE_some, dS_asg, dS_par, dS_ret, dS_retN, dS_ex, dS_raise, dS_brk, dS_cnt, dS_pass, dS_ife, tgt_nm, set_nil, set_cons, dI_seq, dI_rng1, nI_some, iI_some, int_int, it_list, it_tup, it_f, fin_p, endF_nx, endF_rt, endF_ex, bind_ok, bind_ex, D1_p, D2_pp, mD_some, mkD_f, pD_some, dE_cst, dE_glob, dE_var, vR_ok, dE_bin, dE_neg, negV_int, tR_bool, tR_int, tR_none, tR_list, tR_tup, dE_not, dE_and, dE_or, andR_t, andR_f, orR_t, orR_f, andR_b, orR_b, oB_some, dE_cmp, dE_chain, chR_t, chR_f, chR_b, oC_some, dE_ife, ifR_t, ifR_f, dE_call, dE_b1, dE_b2, dE_idx, dE_isi, dE_tup, dE_lst, dEs_nil, dEs_cons, dats_nil, dats_cons, dT_none, dT_some, o_add, o_sub, c_lt, c_le, c_gt, c_ge, c_eqi, c_nei, u_abs, u_int, u_lenl, u_lent, u_tupl, u_tupt, x_tup, x_lst, a1_0, a2_0, a2_1, a3_0, a3_1, a3_2, a4_0, a4_1, a4_2, a4_3, List.length_cons, List.length_nil, List.map_cons, List.map_nil, List.replicate, List.cons_append, List.nil_append, List.getElem?_cons_zero, List.getElem?_cons_succ, List.set_cons_zero, List.set_cons_succ, Option.map_some, Nat.reduceSub, Nat.reduceAdd, List.take_length, List.isEmpty_nil, List.isEmpty_cons, Bool.not_true, Bool.not_false, wipe_nil, wipe_cons, tgt1, Int.reduceLT, Int.reduceLE, decide_true, decide_false, Bool.true_and, Bool.and_true, Bool.false_and, Bool.true_or, Bool.false_or, Bool.or_false, List.all_cons, List.all_nil, id_eq, nat_c0, nat_c1, nat_c2, nat_c3, nat_c4, nat_c5, Int.reduceEq, tgt2, tgt3, tgt4, c_isf, c_isn, c_inf, c_inn, c_iss, c_ins, Int.reduceMul, Int.reduceAdd, Int.reduceSub, fr_1, fr_0, fr_2, fr_h, x_f0, x_f1, u_tupf, u_lenf, c_eqfr, c_nefr, c_isfr, c_infr, o_mul, o_mod, o_div, n_le, n_ge, n_lt, n_gt, sp_add, sp_sub, sp_mul, sp_by, sp_isfr, sl_add, sl_sub, sl_mul, sl_by, List.take_succ_cons, List.take_zero, c_neb, c_eqb, c_isT, c_isF, c_insT, c_insF, u_repr, c_nes, beq_self_eq_true, sl_part, fin_lastF, D2_last, num_le_den, num_lt_den, num_eq_den, num_eq0, sub_ge, sub_lt, sub_gt, mk_pc, x_pc0, x_pc1, len_pc, tup_pc, tv_pc, tv_22, ls0T, ls1T, setL_nil, setL_cons, tgl2, tgl3, tgl4, len4, tg_pc, rng_2, D2_2, sL_last, *])
local macro_rules | `(tactic| walk_at "un") => `(tactic| simp (disch := walk_at "sz") only [tp0, ls0, tp1, ls1, tp2, ls2, tp3, ls3, tp4, ls4, tp5, ls5, tp6, ls6, tp7, ls7, tp8, ls8, tp9, ls9, tp10, ls10, tp11, ls11, tp12, ls12, denF_eq, dSs_nil, dSs_cons, nxS_nx, nxS_rt, nxS_ex, nxS_bk, nxS_ct, lift_ok, lift_ex, oE_some, dS_asg, dS_par, dS_ret, dS_retN, dS_ex, dS_raise, dS_brk, dS_cnt, dS_pass, dS_ife, tgt_nm, set_nil, set_cons, dI_seq, dI_rng1, nI_some, iI_some, int_int, it_list, it_tup, it_f, fin_p, endF_nx, endF_rt, endF_ex, bind_ok, bind_ex, D1_p, D2_pp, mD_some, mkD_f, pD_some, dE_cst, dE_glob, dE_var, vR_ok, dE_bin, dE_neg, negV_int, tR_bool, tR_int, tR_none, tR_list, tR_tup, dE_not, dE_and, dE_or, andR_t, andR_f, orR_t, orR_f, andR_b, orR_b, oB_some, dE_cmp, dE_chain, chR_t, chR_f, chR_b, oC_some, dE_ife, ifR_t, ifR_f, dE_call, dE_b1, dE_b2, dE_idx, dE_isi, dE_tup, dE_lst, dEs_nil, dEs_cons, dats_nil, dats_cons, dT_none, dT_some, o_add, o_sub, c_lt, c_le, c_gt, c_ge, c_eqi, c_nei, u_abs, u_int, u_lenl, u_lent, u_tupl, u_tupt, x_tup, x_lst, a1_0, a2_0, a2_1, a3_0, a3_1, a3_2, a4_0, a4_1, a4_2, a4_3, List.length_cons, List.length_nil, List.map_cons, List.map_nil, List.replicate, List.cons_append, List.nil_append, List.getElem?_cons_zero, List.getElem?_cons_succ, List.set_cons_zero, List.set_cons_succ, Option.map_some, Nat.reduceSub, Nat.reduceAdd, List.take_length, List.isEmpty_nil, List.isEmpty_cons, Bool.not_true, Bool.not_false, wipe_nil, wipe_cons, tgt1, Int.reduceLT, Int.reduceLE, decide_true, decide_false, Bool.true_and, Bool.and_true, Bool.false_and, Bool.true_or, Bool.false_or, Bool.or_false, List.all_cons, List.all_nil, id_eq, nat_c0, nat_c1, nat_c2, nat_c3, nat_c4, nat_c5, Int.reduceEq, tgt2, tgt3, tgt4, c_isf, c_isn, c_inf, c_inn, c_iss, c_ins, Int.reduceMul, Int.reduceAdd, Int.reduceSub, fr_1, fr_0, fr_2, fr_h, x_f0, x_f1, u_tupf, u_lenf, c_eqfr, c_nefr, c_isfr, c_infr, o_mul, o_mod, o_div, n_le, n_ge, n_lt, n_gt, sp_add, sp_sub, sp_mul, sp_by, sp_isfr, sl_add, sl_sub, sl_mul, sl_by, List.take_succ_cons, List.take_zero, c_neb, c_eqb, c_isT, c_isF, c_insT, c_insF, u_repr, c_nes, beq_self_eq_true, sl_part, fin_lastF, D2_last, num_le_den, num_lt_den, num_eq_den, num_eq0, sub_ge, sub_lt, sub_gt, mk_pc, x_pc0, x_pc1, len_pc, tup_pc, tv_pc, tv_22, ls0T, ls1T, setL_nil, setL_cons, tgl2, tgl3, tgl4, len4, tg_pc, rng_2, D2_2, sL_last, dE_compE, cE_nil, cE_cons, oN_some, bindN_ok, cPut_l, cPut_2, cPut_3, cEnd_l, cEnd_2, cEnd_3, dS_forE, fE_nil, fE_cons, oF_some, lpR_nx, lpR_ct, lpR_bk, lpR_rt, lpR_ex, tg2, tg3, len2, len3])
local macro_rules | `(tactic| walk_at "ux") => `(tactic| simp (disch := walk_at "sz") only [tp0, ls0, tp1, ls1, tp2, ls2, tp3, ls3, tp4, ls4, tp5, ls5, tp6, ls6, tp7, ls7, tp8, ls8, tp9, ls9, tp10, ls10, tp11, ls11, tp12, ls12, denF_eq, dSs_nil, dSs_cons, nxS_nx, nxS_rt, nxS_ex, nxS_bk, nxS_ct, lift_ok, lift_ex, oE_some, dS_asg, dS_par, dS_ret, dS_retN, dS_ex, dS_raise, dS_brk, dS_cnt, dS_pass, dS_ife, tgt_nm, set_nil, set_cons, dI_seq, dI_rng1, nI_some, iI_some, int_int, it_list, it_tup, it_f, fin_p, endF_nx, endF_rt, endF_ex, bind_ok, bind_ex, D1_p, D2_pp, mD_some, mkD_f, pD_some, dE_cst, dE_glob, dE_var, vR_ok, dE_bin, dE_neg, negV_int, tR_bool, tR_int, tR_none, tR_list, tR_tup, dE_not, dE_and, dE_or, andR_t, andR_f, orR_t, orR_f, andR_b, orR_b, oB_some, dE_cmp, dE_chain, chR_t, chR_f, chR_b, oC_some, dE_ife, ifR_t, ifR_f, dE_call, dE_b1, dE_b2, dE_idx, dE_isi, dE_tup, dE_lst, dEs_nil, dEs_cons, dats_nil, dats_cons, dT_none, dT_some, o_add, o_sub, c_lt, c_le, c_gt, c_ge, c_eqi, c_nei, u_abs, u_int, u_lenl, u_lent, u_tupl, u_tupt, x_tup, x_lst, a1_0, a2_0, a2_1, a3_0, a3_1, a3_2, a4_0, a4_1, a4_2, a4_3, List.length_cons, List.length_nil, List.map_cons, List.map_nil, List.replicate, List.cons_append, List.nil_append, List.getElem?_cons_zero, List.getElem?_cons_succ, List.set_cons_zero, List.set_cons_succ, Option.map_some, Nat.reduceSub, Nat.reduceAdd, List.take_length, List.isEmpty_nil, List.isEmpty_cons, Bool.not_true, Bool.not_false, wipe_nil, wipe_cons, tgt1, Int.reduceLT, Int.reduceLE, decide_true, decide_false, Bool.true_and, Bool.and_true, Bool.false_and, Bool.true_or, Bool.false_or, Bool.or_false, List.all_cons, List.all_nil, id_eq, nat_c0, nat_c1, nat_c2, nat_c3, nat_c4, nat_c5, Int.reduceEq, tgt2, tgt3, tgt4, c_isf, c_isn, c_inf, c_inn, c_iss, c_ins, Int.reduceMul, Int.reduceAdd, Int.reduceSub, fr_1, fr_0, fr_2, fr_h, x_f0, x_f1, u_tupf, u_lenf, c_eqfr, c_nefr, c_isfr, c_infr, o_mul, o_mod, o_div, n_le, n_ge, n_lt, n_gt, sp_add, sp_sub, sp_mul, sp_by, sp_isfr, sl_add, sl_sub, sl_mul, sl_by, List.take_succ_cons, List.take_zero, c_neb, c_eqb, c_isT, c_isF, c_insT, c_insF, u_repr, c_nes, beq_self_eq_true, sl_part, fin_lastF, D2_last, num_le_den, num_lt_den, num_eq_den, num_eq0, sub_ge, sub_lt, sub_gt, mk_pc, x_pc0, x_pc1, len_pc, tup_pc, tv_pc, tv_22, ls0T, ls1T, setL_nil, setL_cons, tgl2, tgl3, tgl4, len4, tg_pc, rng_2, D2_2, sL_last, dE_compE, cE_nil, cE_cons, oN_some, bindN_ok, cPut_l, cPut_2, cPut_3, cEnd_l, cEnd_2, cEnd_3, dS_forE, fE_nil, fE_cons, oF_some, lpR_nx, lpR_ct, lpR_bk, lpR_rt, lpR_ex, tg2, tg3, len2, len3, *])
section
variable {e t : Rat}
theorem Eg.sev (h : Eg e) : 1 ≤ (1 - e) * 7 := by
  obtain ⟨i, low, i0, il, l2, l7, el⟩ := h.ex
  have f0 : 0 ≤ 1 - e := by have := h.lt; grind
  have c1 : ((i : Int) : Rat) + 1 ≤ ((low : Int) : Rat) := by
    have : ((i + 1 : Int) : Rat) ≤ ((low : Int) : Rat) := Rat.intCast_le_intCast.mpr (by omega)
    rw [Rat.intCast_add] at this
    exact this
  have c2 : ((low : Int) : Rat) ≤ 7 := Rat.intCast_le_intCast.mpr (by omega : low ≤ 7)
  have m := Rat.mul_le_mul_of_nonneg_left c2 f0
  grind
theorem pw_mono {f : Rat} (h0 : 0 ≤ e) (h : e ≤ f) : ∀ k : Nat, pw e k ≤ pw f k
  | 0 => Rat.le_refl
  | k + 1 => by
    have ih := pw_mono h0 h k
    have a := Rat.mul_le_mul_of_nonneg_right ih h0
    have b := Rat.mul_le_mul_of_nonneg_left h (pw_nn (Rat.le_trans h0 h) k)
    show pw e k * e ≤ pw f k * f
    grind
theorem pw_67 : pw (6 / 7) 27 * 56 < 1 := by decide +kernel
theorem Eg.pw27 (h : Eg e) : pw e 27 * 56 < 1 := by
  have s := h.sev
  have m := pw_mono h.nn (by grind : e ≤ 6 / 7) 27
  have q := pw_67
  grind
theorem lim_mul (h : Eg e) : (1 + e) / (1 - e) * (1 - e) = 1 + e := by
  have : 1 - e ≠ 0 := by have := h.lt; grind
  grind
theorem lim_le (h : Eg e) : (1 + e) / (1 - e) ≤ 14 := by
  have s := h.sev
  have m := lim_mul h
  have l := h.lt
  have f0 : 0 < 1 - e := by grind
  rcases Rat.le_total (a := (1 + e) / (1 - e)) (b := 14) with z | z
  · exact z
  · have q := Rat.mul_le_mul_of_nonneg_right z (Rat.le_of_lt f0)
    rcases Rat.le_iff_lt_or_eq.mp z with z | z
    · have w := Rat.mul_lt_mul_of_pos_right z f0
      grind
    · grind
structure Gt (e t : Rat) : Prop where
  sz : SzR 300 t
  nn : 0 ≤ t
  le : t ≤ 1000
  sb : t < (1 + e) / (1 - e) → t < Sb e 26
theorem gt_1 (h : Eg e) {i1 : Int} (a : 0 ≤ i1) (b : i1 < 12) : Gt e (Rat.divInt i1 4) := by
  have t4 := divInt_mul (i := i1) (d := 4) (by decide)
  have t4 : Rat.divInt i1 4 * 4 = (i1 : Rat) := t4
  have t0 := divInt_nn (i := i1) (d := 4) a (by decide)
  have ib : ((i1 : Int) : Rat) ≤ 12 := Rat.intCast_le_intCast.mpr (by omega : i1 ≤ 12)
  refine ⟨(szi (b := 10) (by decide) (by omega) (by decide)).mono (by decide), t0, by grind, fun hl => ?_⟩
  generalize Rat.divInt i1 4 = t at *
  obtain ⟨i, low, i0, il, l2, l7, el⟩ := h.ex
  have f0 : 0 < 1 - e := by have := h.lt; grind
  have X0 : t * (1 - e) < 1 + e := by
    have := Rat.mul_lt_mul_of_pos_right hl f0
    rw [lim_mul h] at this
    exact this
  have cl : 0 < ((low : Int) : Rat) := Rat.intCast_pos.mpr (by omega)
  have c2 : ((low : Int) : Rat) ≤ 7 := Rat.intCast_le_intCast.mpr (by omega : low ≤ 7)
  have ex : (1 + e - t * (1 - e)) * (4 * (low : Rat)) = ((4 * (low + i) - i1 * (low - i) : Int) : Rat) := by
    rw [Rat.intCast_sub, Rat.intCast_mul, Rat.intCast_mul, Rat.intCast_add, Rat.intCast_sub, ← el, ← t4]
    have : ((4 : Int) : Rat) = 4 := rfl
    rw [this]
    grind
  have pos : 0 < ((4 * (low + i) - i1 * (low - i) : Int) : Rat) := by
    rw [← ex]
    exact Rat.mul_pos (by grind) (by grind)
  have one : (1 : Rat) ≤ ((4 * (low + i) - i1 * (low - i) : Int) : Rat) := Rat.intCast_le_intCast.mpr (show (1 : Int) ≤ _ by have := Rat.intCast_pos.mp pos; omega)
  rw [← ex] at one
  have X28 : 1 ≤ (1 + e - t * (1 - e)) * 28 := by
    have := Rat.mul_le_mul_of_nonneg_left (c := 1 + e - t * (1 - e)) (by grind : 4 * (low : Rat) ≤ 28) (by grind)
    grind
  have pc := h.pw27
  have cc := Sb_closed (e := e) 26
  have key : t * (1 - e) < Sb e 26 * (1 - e) := by
    rw [cc]
    show t * (1 - e) < 1 + e - 2 * pw e 27
    grind
  rcases Rat.le_total (a := Sb e 26) (b := t) with z | z
  · have := Rat.mul_le_mul_of_nonneg_right z (Rat.le_of_lt f0)
    grind
  · rcases Rat.le_iff_lt_or_eq.mp z with z | z
    · exact z
    · rw [z] at key; grind
theorem pw_le1 (h0 : 0 ≤ e) (h1 : e ≤ 1) : ∀ k : Nat, pw e k ≤ 1
  | 0 => Rat.le_refl
  | k + 1 => by
    have ih := pw_le1 h0 h1 k
    have a := Rat.mul_le_mul_of_nonneg_right ih h0
    show pw e k * e ≤ 1
    grind
theorem Sb_le (h0 : 0 ≤ e) (h1 : e ≤ 1) : Sb e 3 ≤ 7 := by
  have a := pw_le1 h0 h1 1
  have b := pw_le1 h0 h1 2
  have c := pw_le1 h0 h1 3
  show 1 + 2 * pw e 1 + 2 * pw e 2 + 2 * pw e 3 ≤ 7
  grind
theorem Sb_one (h0 : 0 ≤ e) (k : Nat) : 1 ≤ Sb e k := Sb_mono h0 (Nat.zero_le k)
theorem gt_2 (h : Eg e) {j : Nat} (hj : j < 4) : Gt e (Sb e j) := by
  have b1 := Sb_mono h.nn (by omega : j ≤ 3)
  have b2 := Sb_le h.nn (by have := h.lt; grind)
  have b3 := Sb_one h.nn j
  refine ⟨(sz_Sb h.sz j (by omega)).mono (by omega), by grind, by grind, fun hl => ?_⟩
  have en : 0 < e := by
    rcases Rat.le_iff_lt_or_eq.mp h.nn with z | z
    · exact z
    · exfalso
      rw [← z] at hl b3
      have : (1 + 0 : Rat) / (1 - 0) = 1 := by grind
      grind
  have p := pw_pos en (j + 1)
  have m := Sb_mono h.nn (by omega : j + 1 ≤ 26)
  have s : Sb e (j + 1) = Sb e j + 2 * pw e (j + 1) := rfl
  grind
theorem gt_3 (h : Eg e) : Gt e 0 := ⟨sz_c0.mono (by decide), Rat.le_refl, by decide, fun _ => by have := Sb_one h.nn 26; grind⟩
theorem gt_5 (h : Eg e) : Gt e ((1 + e) / (1 - e)) := ⟨by have := h.sz; walk_at "sz", by
  have := lim_mul h
  exact Rat.le_of_lt (by
    rw [Rat.div_def]
    exact Rat.mul_pos (by have := h.nn; grind) (Rat.inv_pos.mpr (by have := h.lt; grind))), by have := lim_le h; grind, fun hl => absurd hl (by grind)⟩
theorem gt_4 (h : Eg e) : Gt e ((1 + e) / (1 - e) + 1 / 2) := ⟨by have := h.sz; walk_at "sz", by have := (gt_5 h).nn; grind, by have := lim_le h; grind, fun hl => absurd hl (by grind)⟩
end
section
variable {a xs S : List PyData} {r st : Store} {e h t : Rat} {p q : Rat × Rat}
variable {o0 o1 o2 o3 o4 o5 o6 o7 o8 o9 o10 o11 o12 o13 o14 o15 o16 o17 o18 o19 o20 o21 o22 o23 o24 o25 o26 o27 o28 o29 o30 o31 o32 o33 : Option Val}
def body15 : Ss := (.cons (.ife (.cmp .Gt (.idx (.call 34 (.cons (.var 23) (.cons (.var 11) .nil))) (.cst (.int 0))) (.cst (.int 0))) (.cons (.asg (.nm 8) (.b1 false .len (.compH false [33] (.nm 33) 9 (.some (.cmp .GtE (.idx (.call 34 (.cons (.var 11) (.cons (.var 33) .nil))) (.cst (.int 0))) (.cst (.int 0)))) (.var 33)))) (.cons (.ife (.and (.cmp .Lt (.var 8) (.cst (.int 13))) (.cmp .NotEq (.b1 false .repr (.call 43 (.cons (.cst (.int 4)) (.cons (.var 3) (.cons (.var 11) (.cons (.cst .none) (.cons (.cst .none) .nil))))))) (.b1 false .repr (.var 8)))) (.cons (.ret (.cst (.bool false))) .nil) .nil) .nil)) (.cons (.ife (.cmp .NotEq (.call 43 (.cons (.cst (.int 4)) (.cons (.var 3) (.cons (.var 11) (.cons (.cst .none) (.cons (.cst .none) .nil)))))) (.cst (.str "!none"))) (.cons (.ret (.cst (.bool false))) .nil) .nil) .nil)) .nil)
theorem run_15 (he : Eg e) (ht : Gt e t) : ∃ o8', denSs (FT tab 9) body15 (o0 :: some (.l 1) :: o2 :: some (.p (frP e)) :: o4 :: o5 :: o6 :: o7 :: o8 :: some (.l 2) :: o10 :: some (.p (frP t)) :: o12 :: o13 :: o14 :: o15 :: o16 :: some (.p (frP 1)) :: some (.p (frP 0)) :: some (.p (frP (1 / 2))) :: o20 :: o21 :: o22 :: some (.p (frP ((1 + e) / (1 - e)))) :: o24 :: o25 :: o26 :: o27 :: o28 :: o29 :: o30 :: o31 :: o32 :: o33 :: []) [a, xs, sL e 12] = .ok (.nx (o0 :: some (.l 1) :: o2 :: some (.p (frP e)) :: o4 :: o5 :: o6 :: o7 :: o8' :: some (.l 2) :: o10 :: some (.p (frP t)) :: o12 :: o13 :: o14 :: o15 :: o16 :: some (.p (frP 1)) :: some (.p (frP 0)) :: some (.p (frP (1 / 2))) :: o20 :: o21 :: o22 :: some (.p (frP ((1 + e) / (1 - e)))) :: o24 :: o25 :: o26 :: o27 :: o28 :: o29 :: o30 :: o31 :: o32 :: o33 :: [])) [a, xs, sL e 12] := by
  have zt := ht.sz
  have ze := he.sz
  have zl : SzR 30 ((1 + e) / (1 - e)) := by walk_at "sz"
  by_cases hl : t < (1 + e) / (1 - e)
  · have d1 : decide (t < (1 + e) / (1 - e)) = true := decide_eq_true hl
    obtain ⟨k, k1, k2, k3, k4⟩ := sp_bounce (st := [a, xs, sL e 12]) 3 ze he.nn he.lt zt ht.nn ht.le hl (ht.sb hl)
    have a4 : FT tab 9 43 [.p (.int 4), .p (frP e), .p (frP t), .p .none, .p .none] [a, xs, sL e 12] = .ok (.p (.int (k : Int))) [a, xs, sL e 12] := ask3 8 (by decide) (by decide) rfl k4
    have c1 := compHF (T := FT tab 9) (e := (o0 :: some (.l 1) :: o2 :: some (.p (frP e)) :: o4 :: o5 :: o6 :: o7 :: o8 :: some (.l 2) :: o10 :: some (.p (frP t)) :: o12 :: o13 :: o14 :: o15 :: o16 :: some (.p (frP 1)) :: some (.p (frP 0)) :: some (.p (frP (1 / 2))) :: o20 :: o21 :: o22 :: some (.p (frP ((1 + e) / (1 - e)))) :: o24 :: o25 :: o26 :: o27 :: o28 :: o29 :: o30 :: o31 :: o32 :: o33 :: [])) (st := [a, xs, sL e 12]) (own := [33]) (t := .nm 33) (j := 9) (k := 2) (c := (.cmp .GtE (.idx (.call 34 (.cons (.var 11) (.cons (.var 33) .nil))) (.cst (.int 0))) (.cst (.int 0)))) (el := .var 33) (zs := List.range 13) (g := fun j => frP (Sb e j)) (f := fun j => frP (Sb e j)) (b := fun j => decide (Sb e j ≤ t)) rfl rfl (fun z hz => ⟨_, rfl, fun st' => by
      have zz : SzR 3000 (Sb e z) := (sz_Sb ze z (by have := List.mem_range.mp hz; omega)).mono (by have := List.mem_range.mp hz; omega)
      exact ⟨by walk_at "go", fun _ => by walk_at "go"⟩⟩) (by simp)
    have ln : b1D .len (.list (((List.range 13).filter fun j => decide (Sb e j ≤ t)).map fun j => frP (Sb e j))) = some (.int ((min k 13 : Nat) : Int)) := by
      show some (PyData.int ((((List.range 13).filter fun j => decide (Sb e j ≤ t)).map fun j => frP (Sb e j)).length : Int)) = _
      rw [List.length_map, filter_count k (fun j => decide (Sb e j ≤ t)) (fun j hj => decide_eq_true (k2 j hj)) (fun j hj => decide_eq_false (by have := Sb_mono he.nn hj; grind))]
    have shk : showOk (.int (k : Int)) = true := sh_okB (sh_int (by
      rw [Int.natAbs_natCast]
      exact Nat.lt_of_le_of_lt k3 (Nat.lt_of_lt_of_le (by decide : 26 < 2 ^ 5) (pow_mono (by decide))))) (by decide) (by decide)
    refine ⟨some (.p (.int ((min k 13 : Nat) : Int))), ?_⟩
    unfold body15
    walk_at "go"
    rw [d1]
    walk_at "go"
    rw [c1, bind_ok, D1_p, ln]
    walk_at "go"
    by_cases h13 : k < 13
    · have m1 : min k 13 = k := by omega
      have d2 : decide ((k : Int) < 13) = true := decide_eq_true (by omega)
      rw [m1, d2]
      walk_at "go"
      rw [a4]
      walk_at "gx"
    · have m1 : min k 13 = 13 := by omega
      have d2 : decide (((13 : Nat) : Int) < 13) = false := by decide
      rw [m1, d2]
      walk_at "go"
  · have d1 : decide (t < (1 + e) / (1 - e)) = false := decide_eq_false hl
    have k4 := sp_bounce_x (st := [a, xs, sL e 12]) 3 ze he.nn he.lt zt ht.nn ht.le (by grind)
    have a4 : FT tab 9 43 [.p (.int 4), .p (frP e), .p (frP t), .p .none, .p .none] [a, xs, sL e 12] = .ok (.p (.str "!none")) [a, xs, sL e 12] := ask3x 8 (by decide) (by decide) rfl k4 rfl
    refine ⟨o8, ?_⟩
    unfold body15
    walk_at "go"
    rw [d1]
    walk_at "go"
    rw [a4]
    walk_at "go"
end

end Law03

set_option Elab.async false
set_option linter.all false
set_option maxRecDepth 100000
set_option maxHeartbeats 1000000
set_option exponentiation.threshold 20000
namespace Law03
open PySem Rk
local macro_rules | `(tactic| walk_at "szc") => `(tactic| first | assumption | (apply sz_add <;> walk_at "szc") | (apply sz_sub <;> walk_at "szc") | (apply sz_mul <;> walk_at "szc") | (apply sz_div <;> walk_at "szc") | exact sz_c1 | exact sz_c2 | exact sz_ch | exact sz_c0 | (apply sz_neg; walk_at "szc"))
local macro_rules | `(tactic| walk_at "sz") => `(tactic| first | assumption | decide | (apply SzR.mono; (walk_at "szc"); decide) | (simp only [List.length_cons, List.length_nil, List.length_append, Nat.reduceAdd, Nat.reduceLT, Nat.reduceLeDiff]; done))
local macro_rules | `(tactic| walk_at "go") => `(tactic| simp (disch := walk_at "sz") only [tp0, ls0, tp1, ls1, tp2, ls2, tp3, ls3, tp4, ls4, tp5, ls5, tp6, ls6, tp7, ls7, tp8, ls8, tp9, ls9, tp10, ls10, tp11, ls11, tp12, ls12, denF_eq, dSs_nil, dSs_cons, nxS_nx, nxS_rt, nxS_ex, nxS_bk, nxS_ct, lift_ok, lift_ex, oE_some, dS_asg, dS_par, dS_ret, dS_retN, dS_ex, dS_raise, dS_brk, dS_cnt, dS_pass, dS_ife, tgt_nm, set_nil, set_cons, dI_seq, dI_rng1, nI_some, iI_some, int_int, it_list, it_tup, it_f, fin_p, endF_nx, endF_rt, endF_ex, bind_ok, bind_ex, D1_p, D2_pp, mD_some, mkD_f, pD_some, dE_cst, dE_glob, dE_var, vR_ok, dE_bin, dE_neg, negV_int, tR_bool, tR_int, tR_none, tR_list, tR_tup, dE_not, dE_and, dE_or, andR_t, andR_f, orR_t, orR_f, andR_b, orR_b, oB_some, dE_cmp, dE_chain, chR_t, chR_f, chR_b, oC_some, dE_ife, ifR_t, ifR_f, dE_call, dE_b1, dE_b2, dE_idx, dE_isi, dE_tup, dE_lst, dEs_nil, dEs_cons, dats_nil, dats_cons, dT_none, dT_some, o_add, o_sub, c_lt, c_le, c_gt, c_ge, c_eqi, c_nei, u_abs, u_int, u_lenl, u_lent, u_tupl, u_tupt, x_tup, x_lst, a1_0, a2_0, a2_1, a3_0, a3_1, a3_2, a4_0, a4_1, a4_2, a4_3, List.length_cons, List.length_nil, List.map_cons, List.map_nil, List.replicate, List.cons_append, List.nil_append, List.getElem?_cons_zero, List.getElem?_cons_succ, List.set_cons_zero, List.set_cons_succ, Option.map_some, Nat.reduceSub, Nat.reduceAdd, List.take_length, List.isEmpty_nil, List.isEmpty_cons, Bool.not_true, Bool.not_false, wipe_nil, wipe_cons, tgt1, Int.reduceLT, Int.reduceLE, decide_true, decide_false, Bool.true_and, Bool.and_true, Bool.false_and, Bool.true_or, Bool.false_or, Bool.or_false, List.all_cons, List.all_nil, id_eq, nat_c0, nat_c1, nat_c2, nat_c3, nat_c4, nat_c5, Int.reduceEq, tgt2, tgt3, tgt4, c_isf, c_isn, c_inf, c_inn, c_iss, c_ins, Int.reduceMul, Int.reduceAdd, Int.reduceSub, fr_1, fr_0, fr_2, fr_h, x_f0, x_f1, u_tupf, u_lenf, c_eqfr, c_nefr, c_isfr, c_infr, o_mul, o_mod, o_div, n_le, n_ge, n_lt, n_gt, sp_add, sp_sub, sp_mul, sp_by, sp_isfr, sl_add, sl_sub, sl_mul, sl_by, List.take_succ_cons, List.take_zero, c_neb, c_eqb, c_isT, c_isF, c_insT, c_insF, u_repr, c_nes, beq_self_eq_true, sl_part, fin_lastF, D2_last, num_le_den, num_lt_den, num_eq_den, num_eq0, sub_ge, sub_lt, sub_gt, mk_pc, x_pc0, x_pc1, len_pc, tup_pc, tv_pc, tv_22, ls0T, ls1T, setL_nil, setL_cons, tgl2, tgl3, tgl4, len4, tg_pc, rng_2, D2_2, sL_last])
local macro_rules | `(tactic| walk_at "gx") => `(tactic| simp (disch := walk_at "sz") only [tp0, ls0, tp1, ls1, tp2, ls2, tp3, ls3, tp4, ls4, tp5, ls5, tp6, ls6, tp7, ls7, tp8, ls8, tp9, ls9, tp10, ls10, tp11, ls11, tp12, ls12, denF_eq, dSs_nil, dSs_cons, nxS_nx, nxS_rt, nxS_ex, nxS_bk, nxS_ct, lift_ok, lift_ex, oE_some, dS_asg, dS_par, dS_ret, dS_retN, dS_ex, dS_raise, dS_brk, dS_cnt, dS_pass, dS_ife, tgt_nm, set_nil, set_cons, dI_seq, dI_rng1, nI_some, iI_some, int_int, it_list, it_tup, it_f, fin_p, endF_nx, endF_rt, endF_ex, bind_ok, bind_ex, D1_p, D2_pp, mD_some, mkD_f, pD_some, dE_cst, dE_glob, dE_var, vR_ok, dE_bin, dE_neg, negV_int, tR_bool, tR_int, tR_none, tR_list, tR_tup, dE_not, dE_and, dE_or, andR_t, andR_f, orR_t, orR_f, andR_b, orR_b, oB_some, dE_cmp, dE_chain, chR_t, chR_f, chR_b, oC_some, dE_ife, ifR_t, ifR_f, dE_call, dE_b1, dE_b2, dE_idx, dE_isi, dE_tup, dE_lst, dEs_nil, dEs_cons, dats_nil, dats_cons, dT_none, dT_some, o_add, o_sub, c_lt, c_le, c_gt, c_ge, c_eqi, c_nei, u_abs, u_int, u_lenl, u_lent, u_tupl, u_tupt, x_tup, x_lst, a1_0, a2_0, a2_1, a3_0, a3_1, a3_2, a4_0, a4_1, a4_2, a4_3, List.length_cons, List.length_nil, List.map_cons, List.map_nil, List.replicate, List.cons_append, List.nil_append, List.getElem?_cons_zero, List.getElem?_cons_succ, List.set_cons_zero, List.set_cons_succ, Option.map_some, Nat.reduceSub, Nat.reduceAdd, List.take_length, List.isEmpty_nil, List.isEmpty_cons, Bool.not_true, Bool.not_false, wipe_nil, wipe_cons, tgt1, Int.reduceLT, Int.reduceLE, decide_true, decide_false, Bool.true_and, Bool.and_true, Bool.false_and, Bool.true_or, Bool.false_or, Bool.or_false, List.all_cons, List.all_nil, id_eq, nat_c0, nat_c1, nat_c2, nat_c3, nat_c4, nat_c5, Int.reduceEq, tgt2, tgt3, tgt4, c_isf, c_isn, c_inf, c_inn, c_iss, c_ins, Int.reduceMul, Int.reduceAdd, Int.reduceSub, fr_1, fr_0, fr_2, fr_h, x_f0, x_f1, u_tupf, u_lenf, c_eqfr, c_nefr, c_isfr, c_infr, o_mul, o_mod, o_div, n_le, n_ge, n_lt, n_gt, sp_add, sp_sub, sp_mul, sp_by, sp_isfr, sl_add, sl_sub, sl_mul, sl_by, List.take_succ_cons, List.take_zero, c_neb, c_eqb, c_isT, c_isF, c_insT, c_insF, u_repr, c_nes, beq_self_eq_true, sl_part, fin_lastF, D2_last, num_le_den, num_lt_den, num_eq_den, num_eq0, sub_ge, sub_lt, sub_gt, mk_pc, x_pc0, x_pc1, len_pc, tup_pc, tv_pc, tv_22, ls0T, ls1T, setL_nil, setL_cons, tgl2, tgl3, tgl4, len4, tg_pc, rng_2, D2_2, sL_last, *])
local macro_rules | `(tactic| walk_at "un") => `(tactic| simp (disch := walk_at "sz") only [tp0, ls0, tp1, ls1, tp2, ls2, tp3, ls3, tp4, ls4, tp5, ls5, tp6, ls6, tp7, ls7, tp8, ls8, tp9, ls9, tp10, ls10, tp11, ls11, tp12, ls12, denF_eq, dSs_nil, dSs_cons, nxS_nx, nxS_rt, nxS_ex, nxS_bk, nxS_ct, lift_ok, lift_ex, oE_some, dS_asg, dS_par, dS_ret, dS_retN, dS_ex, dS_raise, dS_brk, dS_cnt, dS_pass, dS_ife, tgt_nm, set_nil, set_cons, dI_seq, dI_rng1, nI_some, iI_some, int_int, it_list, it_tup, it_f, fin_p, endF_nx, endF_rt, endF_ex, bind_ok, bind_ex, D1_p, D2_pp, mD_some, mkD_f, pD_some, dE_cst, dE_glob, dE_var, vR_ok, dE_bin, dE_neg, negV_int, tR_bool, tR_int, tR_none, tR_list, tR_tup, dE_not, dE_and, dE_or, andR_t, andR_f, orR_t, orR_f, andR_b, orR_b, oB_some, dE_cmp, dE_chain, chR_t, chR_f, chR_b, oC_some, dE_ife, ifR_t, ifR_f, dE_call, dE_b1, dE_b2, dE_idx, dE_isi, dE_tup, dE_lst, dEs_nil, dEs_cons, dats_nil, dats_cons, dT_none, dT_some, o_add, o_sub, c_lt, c_le, c_gt, c_ge, c_eqi, c_nei, u_abs, u_int, u_lenl, u_lent, u_tupl, u_tupt, x_tup, x_lst, a1_0, a2_0, a2_1, a3_0, a3_1, a3_2, a4_0, a4_1, a4_2, a4_3, List.length_cons, List.length_nil, List.map_cons, List.map_nil, List.replicate, List.cons_append, List.nil_append, List.getElem?_cons_zero, List.getElem?_cons_succ, List.set_cons_zero, List.set_cons_succ, Option.map_some, Nat.reduceSub, Nat.reduceAdd, List.take_length, List.isEmpty_nil, List.isEmpty_cons, Bool.not_true, Bool.not_false, wipe_nil, wipe_cons, tgt1, Int.reduceLT, Int.reduceLE, decide_true, decide_false, Bool.true_and, Bool.and_true, Bool.false_and, Bool.true_or, Bool.false_or, Bool.or_false, List.all_cons, List.all_nil, id_eq, nat_c0, nat_c1, nat_c2, nat_c3, nat_c4, nat_c5, Int.reduceEq, tgt2, tgt3, tgt4, c_isf, c_isn, c_inf, c_inn, c_iss, c_ins, Int.reduceMul, Int.reduceAdd, Int.reduceSub, fr_1, fr_0, fr_2, fr_h, x_f0, x_f1, u_tupf, u_lenf, c_eqfr, c_nefr, c_isfr, c_infr, o_mul, o_mod, o_div, n_le, n_ge, n_lt, n_gt, sp_add, sp_sub, sp_mul, sp_by, sp_isfr, sl_add, sl_sub, sl_mul, sl_by, List.take_succ_cons, List.take_zero, c_neb, c_eqb, c_isT, c_isF, c_insT, c_insF, u_repr, c_nes, beq_self_eq_true, sl_part, fin_lastF, D2_last, num_le_den, num_lt_den, num_eq_den, num_eq0, sub_ge, sub_lt, sub_gt, mk_pc, x_pc0, x_pc1, len_pc, tup_pc, tv_pc, tv_22, ls0T, ls1T, setL_nil, setL_cons, tgl2, tgl3, tgl4, len4, tg_pc, rng_2, D2_2, sL_last, dE_compE, cE_nil, cE_cons, oN_some, bindN_ok, cPut_l, cPut_2, cPut_3, cEnd_l, cEnd_2, cEnd_3, dS_forE, fE_nil, fE_cons, oF_some, lpR_nx, lpR_ct, lpR_bk, lpR_rt, lpR_ex, tg2, tg3, len2, len3])
local macro_rules | `(tactic| walk_at "ux") => `(tactic| simp (disch := walk_at "sz") only [tp0, ls0, tp1, ls1, tp2, ls2, tp3, ls3, tp4, ls4, tp5, ls5, tp6, ls6, tp7, ls7, tp8, ls8, tp9, ls9, tp10, ls10, tp11, ls11, tp12, ls12, denF_eq, dSs_nil, dSs_cons, nxS_nx, nxS_rt, nxS_ex, nxS_bk, nxS_ct, lift_ok, lift_ex, oE_some, dS_asg, dS_par, dS_ret, dS_retN, dS_ex, dS_raise, dS_brk, dS_cnt, dS_pass, dS_ife, tgt_nm, set_nil, set_cons, dI_seq, dI_rng1, nI_some, iI_some, int_int, it_list, it_tup, it_f, fin_p, endF_nx, endF_rt, endF_ex, bind_ok, bind_ex, D1_p, D2_pp, mD_some, mkD_f, pD_some, dE_cst, dE_glob, dE_var, vR_ok, dE_bin, dE_neg, negV_int, tR_bool, tR_int, tR_none, tR_list, tR_tup, dE_not, dE_and, dE_or, andR_t, andR_f, orR_t, orR_f, andR_b, orR_b, oB_some, dE_cmp, dE_chain, chR_t, chR_f, chR_b, oC_some, dE_ife, ifR_t, ifR_f, dE_call, dE_b1, dE_b2, dE_idx, dE_isi, dE_tup, dE_lst, dEs_nil, dEs_cons, dats_nil, dats_cons, dT_none, dT_some, o_add, o_sub, c_lt, c_le, c_gt, c_ge, c_eqi, c_nei, u_abs, u_int, u_lenl, u_lent, u_tupl, u_tupt, x_tup, x_lst, a1_0, a2_0, a2_1, a3_0, a3_1, a3_2, a4_0, a4_1, a4_2, a4_3, List.length_cons, List.length_nil, List.map_cons, List.map_nil, List.replicate, List.cons_append, List.nil_append, List.getElem?_cons_zero, List.getElem?_cons_succ, List.set_cons_zero, List.set_cons_succ, Option.map_some, Nat.reduceSub, Nat.reduceAdd, List.take_length, List.isEmpty_nil, List.isEmpty_cons, Bool.not_true, Bool.not_false, wipe_nil, wipe_cons, tgt1, Int.reduceLT, Int.reduceLE, decide_true, decide_false, Bool.true_and, Bool.and_true, Bool.false_and, Bool.true_or, Bool.false_or, Bool.or_false, List.all_cons, List.all_nil, id_eq, nat_c0, nat_c1, nat_c2, nat_c3, nat_c4, nat_c5, Int.reduceEq, tgt2, tgt3, tgt4, c_isf, c_isn, c_inf, c_inn, c_iss, c_ins, Int.reduceMul, Int.reduceAdd, Int.reduceSub, fr_1, fr_0, fr_2, fr_h, x_f0, x_f1, u_tupf, u_lenf, c_eqfr, c_nefr, c_isfr, c_infr, o_mul, o_mod, o_div, n_le, n_ge, n_lt, n_gt, sp_add, sp_sub, sp_mul, sp_by, sp_isfr, sl_add, sl_sub, sl_mul, sl_by, List.take_succ_cons, List.take_zero, c_neb, c_eqb, c_isT, c_isF, c_insT, c_insF, u_repr, c_nes, beq_self_eq_true, sl_part, fin_lastF, D2_last, num_le_den, num_lt_den, num_eq_den, num_eq0, sub_ge, sub_lt, sub_gt, mk_pc, x_pc0, x_pc1, len_pc, tup_pc, tv_pc, tv_22, ls0T, ls1T, setL_nil, setL_cons, tgl2, tgl3, tgl4, len4, tg_pc, rng_2, D2_2, sL_last, dE_compE, cE_nil, cE_cons, oN_some, bindN_ok, cPut_l, cPut_2, cPut_3, cEnd_l, cEnd_2, cEnd_3, dS_forE, fE_nil, fE_cons, oF_some, lpR_nx, lpR_ct, lpR_bk, lpR_rt, lpR_ex, tg2, tg3, len2, len3, *])
section
variable {a xs S : List PyData} {r st : Store} {e h t : Rat} {p q : Rat × Rat}
variable {o0 o1 o2 o3 o4 o5 o6 o7 o8 o9 o10 o11 o12 o13 o14 o15 o16 o17 o18 o19 o20 o21 o22 o23 o24 o25 o26 o27 o28 o29 o30 o31 o32 o33 : Option Val}
theorem st_15 (hd : Dr xs) (he : Eg e) (K : ∀ o8 o11 ys, Dr ys → OKs r45_16 (o0 :: some (.l 1) :: o2 :: some (.p (frP e)) :: o4 :: o5 :: o6 :: o7 :: o8 :: some (.l 2) :: o10 :: o11 :: o12 :: o13 :: o14 :: o15 :: o16 :: some (.p (frP 1)) :: some (.p (frP 0)) :: some (.p (frP (1 / 2))) :: o20 :: o21 :: o22 :: some (.p (frP ((1 + e) / (1 - e)))) :: o24 :: o25 :: o26 :: o27 :: o28 :: o29 :: o30 :: o31 :: o32 :: o33 :: []) [a, ys, sL e 12]) : OKs r45_15 (o0 :: some (.l 1) :: o2 :: some (.p (frP e)) :: o4 :: o5 :: o6 :: o7 :: o8 :: some (.l 2) :: o10 :: o11 :: o12 :: o13 :: o14 :: o15 :: o16 :: some (.p (frP 1)) :: some (.p (frP 0)) :: some (.p (frP (1 / 2))) :: o20 :: o21 :: o22 :: some (.p (frP ((1 + e) / (1 - e)))) :: o24 :: o25 :: o26 :: o27 :: o28 :: o29 :: o30 :: o31 :: o32 :: o33 :: []) [a, xs, sL e 12] := by
  obtain ⟨n1, ys1, a1, b1, hd1, r1⟩ := nx 8 a xs [sL e 12] hd
  obtain ⟨n2, ys2, a2, b2, hd2, r2⟩ := nx 8 a ys1 [sL e 12] hd1
  have ls := lst 7 (n1 % 12) 4 [a, ys1, sL e 12] (by decide) (by decide)
  have aj : L2.atI (sL e 12) (n2 % 4) = some (frP (Sb e (n2 % 4).toNat)) := by
    have q := at_nat (xs := sL e 12) (k := (n2 % 4).toNat) (x := frP (Sb e (n2 % 4).toNat)) (by
      unfold sL
      rw [List.getElem?_map, List.getElem?_range (by omega)]
      rfl)
    rw [show (((n2 % 4).toNat : Nat) : Int) = n2 % 4 by omega] at q
    exact q
  have z := he.sz
  have zl : SzR 30 ((1 + e) / (1 - e)) := by walk_at "sz"
  obtain ⟨x1, q1⟩ := run_15 (a := a) (xs := ys2) (o0 := o0) (o2 := o2) (o4 := o4) (o5 := o5) (o6 := o6) (o7 := o7) (o8 := o8) (o10 := o10) (o12 := o12) (o13 := o13) (o14 := o14) (o15 := o15) (o16 := o16) (o20 := o20) (o21 := o21) (o22 := o22) (o24 := o24) (o25 := o25) (o26 := o26) (o27 := o27) (o28 := o28) (o29 := o29) (o30 := o30) (o31 := o31) (o32 := o32) (o33 := o33) he (gt_1 he (i1 := n1 % 12) (by omega) (by omega))
  obtain ⟨x2, q2⟩ := run_15 (a := a) (xs := ys2) (o0 := o0) (o2 := o2) (o4 := o4) (o5 := o5) (o6 := o6) (o7 := o7) (o8 := x1) (o10 := o10) (o12 := o12) (o13 := o13) (o14 := o14) (o15 := o15) (o16 := o16) (o20 := o20) (o21 := o21) (o22 := o22) (o24 := o24) (o25 := o25) (o26 := o26) (o27 := o27) (o28 := o28) (o29 := o29) (o30 := o30) (o31 := o31) (o32 := o32) (o33 := o33) he (gt_2 he (j := (n2 % 4).toNat) (by omega))
  obtain ⟨x3, q3⟩ := run_15 (a := a) (xs := ys2) (o0 := o0) (o2 := o2) (o4 := o4) (o5 := o5) (o6 := o6) (o7 := o7) (o8 := x2) (o10 := o10) (o12 := o12) (o13 := o13) (o14 := o14) (o15 := o15) (o16 := o16) (o20 := o20) (o21 := o21) (o22 := o22) (o24 := o24) (o25 := o25) (o26 := o26) (o27 := o27) (o28 := o28) (o29 := o29) (o30 := o30) (o31 := o31) (o32 := o32) (o33 := o33) he (gt_3 he)
  obtain ⟨x4, q4⟩ := run_15 (a := a) (xs := ys2) (o0 := o0) (o2 := o2) (o4 := o4) (o5 := o5) (o6 := o6) (o7 := o7) (o8 := x3) (o10 := o10) (o12 := o12) (o13 := o13) (o14 := o14) (o15 := o15) (o16 := o16) (o20 := o20) (o21 := o21) (o22 := o22) (o24 := o24) (o25 := o25) (o26 := o26) (o27 := o27) (o28 := o28) (o29 := o29) (o30 := o30) (o31 := o31) (o32 := o32) (o33 := o33) he (gt_4 he)
  obtain ⟨x5, q5⟩ := run_15 (a := a) (xs := ys2) (o0 := o0) (o2 := o2) (o4 := o4) (o5 := o5) (o6 := o6) (o7 := o7) (o8 := x4) (o10 := o10) (o12 := o12) (o13 := o13) (o14 := o14) (o15 := o15) (o16 := o16) (o20 := o20) (o21 := o21) (o22 := o22) (o24 := o24) (o25 := o25) (o26 := o26) (o27 := o27) (o28 := o28) (o29 := o29) (o30 := o30) (o31 := o31) (o32 := o32) (o33 := o33) he (gt_5 he)
  refine ok_step ?_ (K x5 (some (.p (frP ((1 + e) / (1 - e))))) ys2 hd2)
  show denS (FT tab 9) (.for_ (.nm 11) (.seq (.lst false (.cons (.call 32 (.cons (.bin false .Mod (.b1 false .int (.call 28 (.cons (.var 1) .nil))) (.cst (.int 12))) (.cons (.cst (.int 4)) .nil))) (.cons (.idx (.var 9) (.bin false .Mod (.b1 false .int (.call 28 (.cons (.var 1) .nil))) (.cst (.int 4)))) (.cons (.var 18) (.cons (.call 33 (.cons (.var 23) (.cons (.var 19) .nil))) (.cons (.var 23) .nil))))))) body15) _ _ = _
  walk_at "un"
  rw [r1]
  walk_at "un"
  rw [ls]
  walk_at "un"
  rw [r2]
  walk_at "un"
  rw [aj]
  walk_at "un"
  rw [q1]
  walk_at "un"
  rw [q2]
  walk_at "un"
  rw [q3]
  walk_at "un"
  rw [q4]
  walk_at "un"
  rw [q5]
  walk_at "un"
theorem st_16 (hd : Dr xs) (K : ∀ (far : Nat) ys, far < 50 → Dr ys → OKs r45_17 (o0 :: some (.l 1) :: o2 :: some (.p (frP e)) :: o4 :: o5 :: o6 :: o7 :: o8 :: o9 :: o10 :: o11 :: some (.p (.int (far : Int))) :: o13 :: o14 :: o15 :: o16 :: some (.p (frP 1)) :: some (.p (frP 0)) :: some (.p (frP (1 / 2))) :: o20 :: o21 :: o22 :: o23 :: o24 :: o25 :: o26 :: o27 :: o28 :: o29 :: o30 :: o31 :: o32 :: o33 :: []) [a, ys, S]) : OKs r45_16 (o0 :: some (.l 1) :: o2 :: some (.p (frP e)) :: o4 :: o5 :: o6 :: o7 :: o8 :: o9 :: o10 :: o11 :: o12 :: o13 :: o14 :: o15 :: o16 :: some (.p (frP 1)) :: some (.p (frP 0)) :: some (.p (frP (1 / 2))) :: o20 :: o21 :: o22 :: o23 :: o24 :: o25 :: o26 :: o27 :: o28 :: o29 :: o30 :: o31 :: o32 :: o33 :: []) [a, xs, S] := by
  obtain ⟨n, ys, a1, b1, hd1, r1⟩ := nx 8 a xs [S] hd
  have en : n % 50 = (((n % 50).toNat : Nat) : Int) := by omega
  refine ok_step ?_ (K (n % 50).toNat ys (by omega) hd1)
  unfold s45_16
  walk_at "go"
  rw [r1]
  walk_at "go"
  rw [en]
  rfl
theorem far_all {P : Nat → Prop} (h0 : P 0) (h1 : P 1) (h2 : P 2) (h3 : P 3) (h4 : P 4) (h5 : P 5) (h6 : P 6) (h7 : P 7) (h8 : P 8) (h9 : P 9) (h10 : P 10) (h11 : P 11) (h12 : P 12) (h13 : P 13) (h14 : P 14) (h15 : P 15) (h16 : P 16) (h17 : P 17) (h18 : P 18) (h19 : P 19) (h20 : P 20) (h21 : P 21) (h22 : P 22) (h23 : P 23) (h24 : P 24) (h25 : P 25) (h26 : P 26) (h27 : P 27) (h28 : P 28) (h29 : P 29) (h30 : P 30) (h31 : P 31) (h32 : P 32) (h33 : P 33) (h34 : P 34) (h35 : P 35) (h36 : P 36) (h37 : P 37) (h38 : P 38) (h39 : P 39) (h40 : P 40) (h41 : P 41) (h42 : P 42) (h43 : P 43) (h44 : P 44) (h45 : P 45) (h46 : P 46) (h47 : P 47) (h48 : P 48) (h49 : P 49) : ∀ n, n < 50 → P n
  | 0, _ => h0
  | 1, _ => h1
  | 2, _ => h2
  | 3, _ => h3
  | 4, _ => h4
  | 5, _ => h5
  | 6, _ => h6
  | 7, _ => h7
  | 8, _ => h8
  | 9, _ => h9
  | 10, _ => h10
  | 11, _ => h11
  | 12, _ => h12
  | 13, _ => h13
  | 14, _ => h14
  | 15, _ => h15
  | 16, _ => h16
  | 17, _ => h17
  | 18, _ => h18
  | 19, _ => h19
  | 20, _ => h20
  | 21, _ => h21
  | 22, _ => h22
  | 23, _ => h23
  | 24, _ => h24
  | 25, _ => h25
  | 26, _ => h26
  | 27, _ => h27
  | 28, _ => h28
  | 29, _ => h29
  | 30, _ => h30
  | 31, _ => h31
  | 32, _ => h32
  | 33, _ => h33
  | 34, _ => h34
  | 35, _ => h35
  | 36, _ => h36
  | 37, _ => h37
  | 38, _ => h38
  | 39, _ => h39
  | 40, _ => h40
  | 41, _ => h41
  | 42, _ => h42
  | 43, _ => h43
  | 44, _ => h44
  | 45, _ => h45
  | 46, _ => h46
  | 47, _ => h47
  | 48, _ => h48
  | 49, _ => h49
  | n + 50, h => absurd h (by omega)
theorem st_17 {far : Nat} (hf : far < 50) (K : OKs r45_18 (o0 :: some (.l 1) :: o2 :: some (.p (frP e)) :: o4 :: o5 :: o6 :: o7 :: o8 :: o9 :: o10 :: o11 :: some (.p (.int (far : Int))) :: o13 :: o14 :: o15 :: o16 :: some (.p (frP 1)) :: some (.p (frP 0)) :: some (.p (frP (1 / 2))) :: o20 :: o21 :: o22 :: o23 :: o24 :: o25 :: o26 :: o27 :: o28 :: o29 :: o30 :: o31 :: o32 :: o33 :: []) [a, xs, S]) : OKs r45_17 (o0 :: some (.l 1) :: o2 :: some (.p (frP e)) :: o4 :: o5 :: o6 :: o7 :: o8 :: o9 :: o10 :: o11 :: some (.p (.int (far : Int))) :: o13 :: o14 :: o15 :: o16 :: some (.p (frP 1)) :: some (.p (frP 0)) :: some (.p (frP (1 / 2))) :: o20 :: o21 :: o22 :: o23 :: o24 :: o25 :: o26 :: o27 :: o28 :: o29 :: o30 :: o31 :: o32 :: o33 :: []) [a, xs, S] := by
  refine ok_step ?_ K
  refine far_all (P := fun far => denS (FT tab 9) s45_17 (o0 :: some (.l 1) :: o2 :: some (.p (frP e)) :: o4 :: o5 :: o6 :: o7 :: o8 :: o9 :: o10 :: o11 :: some (.p (.int (far : Int))) :: o13 :: o14 :: o15 :: o16 :: some (.p (frP 1)) :: some (.p (frP 0)) :: some (.p (frP (1 / 2))) :: o20 :: o21 :: o22 :: o23 :: o24 :: o25 :: o26 :: o27 :: o28 :: o29 :: o30 :: o31 :: o32 :: o33 :: []) [a, xs, S] = .ok (.nx (o0 :: some (.l 1) :: o2 :: some (.p (frP e)) :: o4 :: o5 :: o6 :: o7 :: o8 :: o9 :: o10 :: o11 :: some (.p (.int (far : Int))) :: o13 :: o14 :: o15 :: o16 :: some (.p (frP 1)) :: some (.p (frP 0)) :: some (.p (frP (1 / 2))) :: o20 :: o21 :: o22 :: o23 :: o24 :: o25 :: o26 :: o27 :: o28 :: o29 :: o30 :: o31 :: o32 :: o33 :: [])) [a, xs, S]) (by kernel_rfl) (by kernel_rfl) (by kernel_rfl) (by kernel_rfl) (by kernel_rfl) (by kernel_rfl) (by kernel_rfl) (by kernel_rfl) (by kernel_rfl) (by kernel_rfl) (by kernel_rfl) (by kernel_rfl) (by kernel_rfl) (by kernel_rfl) (by kernel_rfl) (by kernel_rfl) (by kernel_rfl) (by kernel_rfl) (by kernel_rfl) (by kernel_rfl) (by kernel_rfl) (by kernel_rfl) (by kernel_rfl) (by kernel_rfl) (by kernel_rfl) (by kernel_rfl) (by kernel_rfl) (by kernel_rfl) (by kernel_rfl) (by kernel_rfl) (by kernel_rfl) (by kernel_rfl) (by kernel_rfl) (by kernel_rfl) (by kernel_rfl) (by kernel_rfl) (by kernel_rfl) (by kernel_rfl) (by kernel_rfl) (by kernel_rfl) (by kernel_rfl) (by kernel_rfl) (by kernel_rfl) (by kernel_rfl) (by kernel_rfl) (by kernel_rfl) (by kernel_rfl) (by kernel_rfl) (by kernel_rfl) (by kernel_rfl) far hf
theorem st_18 (hd : Dr xs) (K : ∀ m0 rs ys, Ms m0 → (∀ q ∈ rs, Ms q) → 1 ≤ rs.length → rs.length ≤ 5 → Dr ys → OKs r45_19 (o0 :: some (.l 1) :: o2 :: some (.p (frP e)) :: o4 :: o5 :: o6 :: o7 :: o8 :: o9 :: o10 :: o11 :: o12 :: some (.p (.tuple ((m0 :: rs).map frP))) :: o14 :: o15 :: o16 :: some (.p (frP 1)) :: some (.p (frP 0)) :: some (.p (frP (1 / 2))) :: o20 :: o21 :: o22 :: o23 :: o24 :: o25 :: o26 :: o27 :: o28 :: o29 :: o30 :: o31 :: o32 :: o33 :: []) [a, ys, S]) : OKs r45_18 (o0 :: some (.l 1) :: o2 :: some (.p (frP e)) :: o4 :: o5 :: o6 :: o7 :: o8 :: o9 :: o10 :: o11 :: o12 :: o13 :: o14 :: o15 :: o16 :: some (.p (frP 1)) :: some (.p (frP 0)) :: some (.p (frP (1 / 2))) :: o20 :: o21 :: o22 :: o23 :: o24 :: o25 :: o26 :: o27 :: o28 :: o29 :: o30 :: o31 :: o32 :: o33 :: []) [a, xs, S] := by
  obtain ⟨n, ys1, a1, b1, hd1, r1⟩ := nx 8 a xs [S] hd
  obtain ⟨L, ys2, l1, l2, l3, l4⟩ := comp_drawR (T := FT tab 9) (e := (o0 :: some (.l 1) :: o2 :: some (.p (frP e)) :: o4 :: o5 :: o6 :: o7 :: o8 :: o9 :: o10 :: o11 :: o12 :: o13 :: o14 :: o15 :: o16 :: some (.p (frP 1)) :: some (.p (frP 0)) :: some (.p (frP (1 / 2))) :: o20 :: o21 :: o22 :: o23 :: o24 :: o25 :: o26 :: o27 :: o28 :: o29 :: o30 :: o31 :: o32 :: o33 :: [])) (own := [10]) (i := 10) (n := (.bin false .Add (.cst (.int 2)) (.bin false .Mod (.b1 false .int (.call 28 (.cons (.var 1) .nil))) (.cst (.int 5))))) (el := .call 38 (.cons (.var 1) .nil)) (k := (2 + n % 5).toNat) (a := a) (xs := xs) (xs2 := ys1) (r := [S]) Ms frP (by
    have rn := rngN (k := 2 + n % 5) (n := (2 + n % 5).toNat) (by omega) (by omega)
    walk_at "go"
    rw [r1]
    walk_at "go"
    rw [rn]
    walk_at "go") (by omega) hd1 (fun z xs acc hd => by
    obtain ⟨k1, ys1, a1, hd1, r1⟩ := dw_rate 6 a xs ([S] ++ [acc]) hd
    refine ⟨k1, ys1, a1, hd1, ?_⟩
    walk_at "go"
    exact r1)
  match L, l1, l2, l4 with
  | [], l1, _, _ => simp at l1; omega
  | m0 :: rs, l1, l2, l4 =>
    rw [List.length_cons] at l1
    refine ok_step ?_ (K m0 rs ys2 (l2 m0 List.mem_cons_self) (fun q hq => l2 q (List.mem_cons_of_mem _ hq)) (by omega) (by omega) l3)
    unfold s45_18
    rw [dS_asg, dE_b1, l4]
    generalize (m0 :: rs).map frP = d
    walk_at "go"
theorem st_19 {M : PyData} (K : OKs r45_20 (o0 :: some (.l 1) :: o2 :: some (.p (frP e)) :: o4 :: o5 :: o6 :: o7 :: o8 :: o9 :: o10 :: o11 :: o12 :: some (.p M) :: o14 :: o15 :: o16 :: some (.p (frP 1)) :: some (.p (frP 0)) :: some (.p (frP (1 / 2))) :: some (.l 3) :: o21 :: o22 :: o23 :: o24 :: some (.p (frP 1)) :: o26 :: o27 :: o28 :: o29 :: o30 :: o31 :: o32 :: o33 :: []) [a, xs, S, []]) : OKs r45_19 (o0 :: some (.l 1) :: o2 :: some (.p (frP e)) :: o4 :: o5 :: o6 :: o7 :: o8 :: o9 :: o10 :: o11 :: o12 :: some (.p M) :: o14 :: o15 :: o16 :: some (.p (frP 1)) :: some (.p (frP 0)) :: some (.p (frP (1 / 2))) :: o20 :: o21 :: o22 :: o23 :: o24 :: o25 :: o26 :: o27 :: o28 :: o29 :: o30 :: o31 :: o32 :: o33 :: []) [a, xs, S] := by
  refine ok_step ?_ K
  unfold s45_19
  rw [parT2 (v := .p (frP 1)) (w := .l 3) (st1 := [a, xs, S, []]) (by walk_at "go")]
  walk_at "go"
def cB : Ss := (.cons (.asg (.tp [(.nm 32), (.nm 25)]) (.call 41 (.cons (.tup (.cons (.var 25) (.cons (.idx (.var 13) (.var 14)) .nil))) (.cons (.tup (.cons (.var 18) (.cons (.idx (.var 13) (.bin false .Add (.var 14) (.cst (.int 1)))) .nil))) (.cons (.var 3) .nil))))) (.cons (.ex (.append (.var 20) (.var 32))) .nil))
theorem c_loop (he : Eg e) {L : List Rat} : ∀ (r : List Rat) (hh mm : Rat) (acc : List Rat) (k n : Nat) (o14 o32 : Option Val), L.drop k = mm :: r → SzR (szc n) hh → Ms mm → (∀ q ∈ r, Ms q) → n + r.length ≤ 5 → acc.length + r.length ≤ 100 →
    ∃ o14' o32', fE (FT tab 9) (.nm 14) cB ((List.range' k r.length).map fun (j : Nat) => PyData.int (j : Int)) (o0 :: some (.l 1) :: o2 :: some (.p (frP e)) :: o4 :: o5 :: o6 :: o7 :: o8 :: o9 :: o10 :: o11 :: o12 :: some (.p (.tuple (L.map frP))) :: o14 :: o15 :: o16 :: some (.p (frP 1)) :: some (.p (frP 0)) :: some (.p (frP (1 / 2))) :: some (.l 3) :: o21 :: o22 :: o23 :: o24 :: some (.p (frP hh)) :: o26 :: o27 :: o28 :: o29 :: o30 :: o31 :: o32 :: o33 :: []) [a, xs, S, acc.map frP] = .ok (.nx (o0 :: some (.l 1) :: o2 :: some (.p (frP e)) :: o4 :: o5 :: o6 :: o7 :: o8 :: o9 :: o10 :: o11 :: o12 :: some (.p (.tuple (L.map frP))) :: o14' :: o15 :: o16 :: some (.p (frP 1)) :: some (.p (frP 0)) :: some (.p (frP (1 / 2))) :: some (.l 3) :: o21 :: o22 :: o23 :: o24 :: some (.p (frP (chE e hh mm r))) :: o26 :: o27 :: o28 :: o29 :: o30 :: o31 :: o32' :: o33 :: [])) [a, xs, S, (acc ++ chF e hh mm r).map frP]
  | [], hh, mm, acc, k, n, o14, o32, _, _, _, _, _, _ => ⟨o14, o32, by rw [show acc ++ chF e hh mm [] = acc from List.append_nil _]; rfl⟩
  | m' :: r, hh, mm, acc, k, n, o14, o32, hL, hs, hm, hr, hn, hl => by
    rw [List.length_cons] at hn hl
    have hm' := hr m' List.mem_cons_self
    obtain ⟨a1, a2⟩ := sz_aft1 (b := szc n) (p := (hh, mm)) (q := (0, m')) (e := e) hs hm.1 rfl hm'.1 he.sz
    have hL2 : L.drop (k + 1) = m' :: r := by rw [← List.drop_drop, hL]; rfl
    obtain ⟨q14, q32, q⟩ := c_loop he (L := L) r (aft (hh, mm) (0, m') e).2 m' (acc ++ [(aft (hh, mm) (0, m') e).1]) (k + 1) (n + 1) (some (.p (.int (k : Int)))) (some (.p (frP (aft (hh, mm) (0, m') e).1))) hL2 a2 hm' (fun q hq => hr q (List.mem_cons_of_mem _ hq)) (by omega) (by rw [List.length_append]; simp only [List.length_cons, List.length_nil]; omega)
    refine ⟨q14, q32, ?_⟩
    have zh : SzR 900 hh := hs.mono (szc_le4 (by omega))
    have g1 : L2.atI (L.map frP) (k : Int) = some (frP mm) := at_nat (by
      rw [List.getElem?_map]
      have : (L.drop k)[0]? = some mm := by rw [hL]; rfl
      rw [List.getElem?_drop] at this
      rw [show k + 0 = k from rfl] at this
      rw [this]; rfl)
    have g2 : L2.atI (L.map frP) ((k : Int) + 1) = some (frP m') := by
      have q := at_nat (xs := L.map frP) (k := k + 1) (x := frP m') (by
        rw [List.getElem?_map]
        have : (L.drop (k + 1))[0]? = some m' := by rw [hL2]; rfl
        rw [List.getElem?_drop] at this
        rw [show k + 1 + 0 = k + 1 from rfl] at this
        rw [this]; rfl)
      exact q
    have af := sl_aft (st := [a, xs, S, acc.map frP]) 5 (hh, mm) (0, m') e zh hm.1 (sz_c0.mono (by decide)) hm'.1 he.sz hm.2 hm'.2
    have ap := dE_append (T := FT tab 9) (a := .var 20) (b := .var 32) (e := (o0 :: some (.l 1) :: o2 :: some (.p (frP e)) :: o4 :: o5 :: o6 :: o7 :: o8 :: o9 :: o10 :: o11 :: o12 :: some (.p (.tuple (L.map frP))) :: some (.p (.int (k : Int))) :: o15 :: o16 :: some (.p (frP 1)) :: some (.p (frP 0)) :: some (.p (frP (1 / 2))) :: some (.l 3) :: o21 :: o22 :: o23 :: o24 :: some (.p (frP (aft (hh, mm) (0, m') e).2)) :: o26 :: o27 :: o28 :: o29 :: o30 :: o31 :: some (.p (frP (aft (hh, mm) (0, m') e).1)) :: o33 :: [])) (st := [a, xs, S, acc.map frP]) (k := 3) (d := frP (aft (hh, mm) (0, m') e).1) (st1 := [a, xs, S, acc.map frP]) (st2 := [a, xs, S, acc.map frP]) (xs := acc.map frP) rfl rfl rfl (by rw [List.length_map]; omega)
    rw [List.length_cons, List.range'_succ, List.map_cons, fE_cons, tgt1, oF_some]
    unfold cB
    walk_at "go"
    rw [g1]
    walk_at "go"
    rw [g2]
    walk_at "go"
    rw [af]
    walk_at "go"
    rw [ap]
    walk_at "go"
    rw [lpR_nx]
    rw [List.map_append, List.append_assoc] at q
    exact q
theorem st_20 (he : Eg e) {m0 : Rat} {rs : List Rat} (hm : Ms m0) (hr : ∀ q ∈ rs, Ms q) (l1 : 1 ≤ rs.length) (l5 : rs.length ≤ 5) (K : ∀ o14 o32, OKs r45_21 (o0 :: some (.l 1) :: o2 :: some (.p (frP e)) :: o4 :: o5 :: o6 :: o7 :: o8 :: o9 :: o10 :: o11 :: o12 :: some (.p (.tuple ((m0 :: rs).map frP))) :: o14 :: o15 :: o16 :: some (.p (frP 1)) :: some (.p (frP 0)) :: some (.p (frP (1 / 2))) :: some (.l 3) :: o21 :: o22 :: o23 :: o24 :: some (.p (frP (chE e 1 m0 rs))) :: o26 :: o27 :: o28 :: o29 :: o30 :: o31 :: o32 :: o33 :: []) [a, xs, S, (chF e 1 m0 rs).map frP]) : OKs r45_20 (o0 :: some (.l 1) :: o2 :: some (.p (frP e)) :: o4 :: o5 :: o6 :: o7 :: o8 :: o9 :: o10 :: o11 :: o12 :: some (.p (.tuple ((m0 :: rs).map frP))) :: o14 :: o15 :: o16 :: some (.p (frP 1)) :: some (.p (frP 0)) :: some (.p (frP (1 / 2))) :: some (.l 3) :: o21 :: o22 :: o23 :: o24 :: some (.p (frP 1)) :: o26 :: o27 :: o28 :: o29 :: o30 :: o31 :: o32 :: o33 :: []) [a, xs, S, []] := by
  obtain ⟨q14, q32, q⟩ := c_loop (a := a) (xs := xs) (S := S) (o0 := o0) (o2 := o2) (o4 := o4) (o5 := o5) (o6 := o6) (o7 := o7) (o8 := o8) (o9 := o9) (o10 := o10) (o11 := o11) (o12 := o12) (o15 := o15) (o16 := o16) (o21 := o21) (o22 := o22) (o23 := o23) (o24 := o24) (o26 := o26) (o27 := o27) (o28 := o28) (o29 := o29) (o30 := o30) (o31 := o31) (o33 := o33) he (L := m0 :: rs) rs 1 m0 [] 0 0 o14 o32 rfl sz_c1 hm hr (by omega) (by simp only [List.length_nil]; omega)
  have rn := rngN (k := (rs.length : Int)) (n := rs.length) (by omega) (by omega)
  rw [rngL_range'] at rn
  have ln : b1D .len (.tuple ((m0 :: rs).map frP)) = some (.int ((rs.length : Int) + 1)) := by
    show some (PyData.int (((m0 :: rs).map frP).length : Int)) = _
    rw [List.length_map, List.length_cons]
    rfl
  refine ok_step ?_ (K q14 q32)
  unfold s45_20
  generalize PyData.tuple ((m0 :: rs).map frP) = M at *
  rw [dS_forE]
  walk_at "go"
  rw [ln]
  walk_at "go"
  rw [show (rs.length : Int) + 1 - 1 = (rs.length : Int) by omega, rn]
  walk_at "go"
  exact q
end

end Law03

set_option Elab.async false
set_option linter.all false
set_option maxRecDepth 100000
set_option maxHeartbeats 1000000
set_option exponentiation.threshold 20000
namespace Law03
open PySem Rk
local macro_rules | `(tactic| walk_at "szc") => `(tactic| first | assumption | (apply sz_add <;> walk_at "szc") | (apply sz_sub <;> walk_at "szc") | (apply sz_mul <;> walk_at "szc") | (apply sz_div <;> walk_at "szc") | exact sz_c1 | exact sz_c2 | exact sz_ch | exact sz_c0 | (apply sz_neg; walk_at "szc"))
local macro_rules | `(tactic| walk_at "sz") => `(tactic| first | assumption | decide | (apply SzR.mono; (walk_at "szc"); decide) | (simp only [List.length_cons, List.length_nil, List.length_append, Nat.reduceAdd, Nat.reduceLT, Nat.reduceLeDiff]; done))
local macro_rules | `(tactic| walk_at "go") => `(tactic| simp (disch := walk_at "sz") only [tp0, ls0, tp1, ls1, tp2, ls2, tp3, ls3, tp4, ls4, tp5, ls5, tp6, ls6, tp7, ls7, tp8, ls8, tp9, ls9, tp10, ls10, tp11, ls11, tp12, ls12, denF_eq, dSs_nil, dSs_cons, nxS_nx, nxS_rt, nxS_ex, nxS_bk, nxS_ct, lift_ok, lift_ex, oE_some, dS_asg, dS_par, dS_ret, dS_retN, dS_ex, dS_raise, dS_brk, dS_cnt, dS_pass, dS_ife, tgt_nm, set_nil, set_cons, dI_seq, dI_rng1, nI_some, iI_some, int_int, it_list, it_tup, it_f, fin_p, endF_nx, endF_rt, endF_ex, bind_ok, bind_ex, D1_p, D2_pp, mD_some, mkD_f, pD_some, dE_cst, dE_glob, dE_var, vR_ok, dE_bin, dE_neg, negV_int, tR_bool, tR_int, tR_none, tR_list, tR_tup, dE_not, dE_and, dE_or, andR_t, andR_f, orR_t, orR_f, andR_b, orR_b, oB_some, dE_cmp, dE_chain, chR_t, chR_f, chR_b, oC_some, dE_ife, ifR_t, ifR_f, dE_call, dE_b1, dE_b2, dE_idx, dE_isi, dE_tup, dE_lst, dEs_nil, dEs_cons, dats_nil, dats_cons, dT_none, dT_some, o_add, o_sub, c_lt, c_le, c_gt, c_ge, c_eqi, c_nei, u_abs, u_int, u_lenl, u_lent, u_tupl, u_tupt, x_tup, x_lst, a1_0, a2_0, a2_1, a3_0, a3_1, a3_2, a4_0, a4_1, a4_2, a4_3, List.length_cons, List.length_nil, List.map_cons, List.map_nil, List.replicate, List.cons_append, List.nil_append, List.getElem?_cons_zero, List.getElem?_cons_succ, List.set_cons_zero, List.set_cons_succ, Option.map_some, Nat.reduceSub, Nat.reduceAdd, List.take_length, List.isEmpty_nil, List.isEmpty_cons, Bool.not_true, Bool.not_false, wipe_nil, wipe_cons, tgt1, Int.reduceLT, Int.reduceLE, decide_true, decide_false, Bool.true_and, Bool.and_true, Bool.false_and, Bool.true_or, Bool.false_or, Bool.or_false, List.all_cons, List.all_nil, id_eq, nat_c0, nat_c1, nat_c2, nat_c3, nat_c4, nat_c5, Int.reduceEq, tgt2, tgt3, tgt4, c_isf, c_isn, c_inf, c_inn, c_iss, c_ins, Int.reduceMul, Int.reduceAdd, Int.reduceSub, fr_1, fr_0, fr_2, fr_h, x_f0, x_f1, u_tupf, u_lenf, c_eqfr, c_nefr, c_isfr, c_infr, o_mul, o_mod, o_div, n_le, n_ge, n_lt, n_gt, sp_add, sp_sub, sp_mul, sp_by, sp_isfr, sl_add, sl_sub, sl_mul, sl_by, List.take_succ_cons, List.take_zero, c_neb, c_eqb, c_isT, c_isF, c_insT, c_insF, u_repr, c_nes, beq_self_eq_true, sl_part, fin_lastF, D2_last, num_le_den, num_lt_den, num_eq_den, num_eq0, sub_ge, sub_lt, sub_gt, mk_pc, x_pc0, x_pc1, len_pc, tup_pc, tv_pc, tv_22, ls0T, ls1T, setL_nil, setL_cons, tgl2, tgl3, tgl4, len4, tg_pc, rng_2, D2_2, sL_last])
local macro_rules | `(tactic| walk_at "gx") => `(tactic| simp (disch := walk_at "sz") only [tp0, ls0, tp1, ls1, tp2, ls2, tp3, ls3, tp4, ls4, tp5, ls5, tp6, ls6, tp7, ls7, tp8, ls8, tp9, ls9, tp10, ls10, tp11, ls11, tp12, ls12, denF_eq, dSs_nil, dSs_cons, nxS_nx, nxS_rt, nxS_ex, nxS_bk, nxS_ct, lift_ok, lift_ex, oE_some, dS_asg, dS_par, dS_ret, dS_retN, dS_ex, dS_raise, dS_brk, dS_cnt, dS_pass, dS_ife, tgt_nm, set_nil, set_cons, dI_seq, dI_rng1, nI_some, iI_some, int_int, it_list, it_tup, it_f, fin_p, endF_nx, endF_rt, endF_ex, bind_ok, bind_ex, D1_p, D2_pp, mD_some, mkD_f, pD_some, dE_cst, dE_glob, dE_var, vR_ok, dE_bin, dE_neg, negV_int, tR_bool, tR_int, tR_none, tR_list, tR_tup, dE_not, dE_and, dE_or, andR_t, andR_f, orR_t, orR_f, andR_b, orR_b, oB_some, dE_cmp, dE_chain, chR_t, chR_f, chR_b, oC_some, dE_ife, ifR_t, ifR_f, dE_call, dE_b1, dE_b2, dE_idx, dE_isi, dE_tup, dE_lst, dEs_nil, dEs_cons, dats_nil, dats_cons, dT_none, dT_some, o_add, o_sub, c_lt, c_le, c_gt, c_ge, c_eqi, c_nei, u_abs, u_int, u_lenl, u_lent, u_tupl, u_tupt, x_tup, x_lst, a1_0, a2_0, a2_1, a3_0, a3_1, a3_2, a4_0, a4_1, a4_2, a4_3, List.length_cons, List.length_nil, List.map_cons, List.map_nil, List.replicate, List.cons_append, List.nil_append, List.getElem?_cons_zero, List.getElem?_cons_succ, List.set_cons_zero, List.set_cons_succ, Option.map_some, Nat.reduceSub, Nat.reduceAdd, List.take_length, List.isEmpty_nil, List.isEmpty_cons, Bool.not_true, Bool.not_false, wipe_nil, wipe_cons, tgt1, Int.reduceLT, Int.reduceLE, decide_true, decide_false, Bool.true_and, Bool.and_true, Bool.false_and, Bool.true_or, Bool.false_or, Bool.or_false, List.all_cons, List.all_nil, id_eq, nat_c0, nat_c1, nat_c2, nat_c3, nat_c4, nat_c5, Int.reduceEq, tgt2, tgt3, tgt4, c_isf, c_isn, c_inf, c_inn, c_iss, c_ins, Int.reduceMul, Int.reduceAdd, Int.reduceSub, fr_1, fr_0, fr_2, fr_h, x_f0, x_f1, u_tupf, u_lenf, c_eqfr, c_nefr, c_isfr, c_infr, o_mul, o_mod, o_div, n_le, n_ge, n_lt, n_gt, sp_add, sp_sub, sp_mul, sp_by, sp_isfr, sl_add, sl_sub, sl_mul, sl_by, List.take_succ_cons, List.take_zero, c_neb, c_eqb, c_isT, c_isF, c_insT, c_insF, u_repr, c_nes, beq_self_eq_true, sl_part, fin_lastF, D2_last, num_le_den, num_lt_den, num_eq_den, num_eq0, sub_ge, sub_lt, sub_gt, mk_pc, x_pc0, x_pc1, len_pc, tup_pc, tv_pc, tv_22, ls0T, ls1T, setL_nil, setL_cons, tgl2, tgl3, tgl4, len4, tg_pc, rng_2, D2_2, sL_last, *])
local macro_rules | `(tactic| walk_at "un") => `(tactic| simp (disch := walk_at "sz") only [tp0, ls0, tp1, ls1, tp2, ls2, tp3, ls3, tp4, ls4, tp5, ls5, tp6, ls6, tp7, ls7, tp8, ls8, tp9, ls9, tp10, ls10, tp11, ls11, tp12, ls12, denF_eq, dSs_nil, dSs_cons, nxS_nx, nxS_rt, nxS_ex, nxS_bk, nxS_ct, lift_ok, lift_ex, oE_some, dS_asg, dS_par, dS_ret, dS_retN, dS_ex, dS_raise, dS_brk, dS_cnt, dS_pass, dS_ife, tgt_nm, set_nil, set_cons, dI_seq, dI_rng1, nI_some, iI_some, int_int, it_list, it_tup, it_f, fin_p, endF_nx, endF_rt, endF_ex, bind_ok, bind_ex, D1_p, D2_pp, mD_some, mkD_f, pD_some, dE_cst, dE_glob, dE_var, vR_ok, dE_bin, dE_neg, negV_int, tR_bool, tR_int, tR_none, tR_list, tR_tup, dE_not, dE_and, dE_or, andR_t, andR_f, orR_t, orR_f, andR_b, orR_b, oB_some, dE_cmp, dE_chain, chR_t, chR_f, chR_b, oC_some, dE_ife, ifR_t, ifR_f, dE_call, dE_b1, dE_b2, dE_idx, dE_isi, dE_tup, dE_lst, dEs_nil, dEs_cons, dats_nil, dats_cons, dT_none, dT_some, o_add, o_sub, c_lt, c_le, c_gt, c_ge, c_eqi, c_nei, u_abs, u_int, u_lenl, u_lent, u_tupl, u_tupt, x_tup, x_lst, a1_0, a2_0, a2_1, a3_0, a3_1, a3_2, a4_0, a4_1, a4_2, a4_3, List.length_cons, List.length_nil, List.map_cons, List.map_nil, List.replicate, List.cons_append, List.nil_append, List.getElem?_cons_zero, List.getElem?_cons_succ, List.set_cons_zero, List.set_cons_succ, Option.map_some, Nat.reduceSub, Nat.reduceAdd, List.take_length, List.isEmpty_nil, List.isEmpty_cons, Bool.not_true, Bool.not_false, wipe_nil, wipe_cons, tgt1, Int.reduceLT, Int.reduceLE, decide_true, decide_false, Bool.true_and, Bool.and_true, Bool.false_and, Bool.true_or, Bool.false_or, Bool.or_false, List.all_cons, List.all_nil, id_eq, nat_c0, nat_c1, nat_c2, nat_c3, nat_c4, nat_c5, Int.reduceEq, tgt2, tgt3, tgt4, c_isf, c_isn, c_inf, c_inn, c_iss, c_ins, Int.reduceMul, Int.reduceAdd, Int.reduceSub, fr_1, fr_0, fr_2, fr_h, x_f0, x_f1, u_tupf, u_lenf, c_eqfr, c_nefr, c_isfr, c_infr, o_mul, o_mod, o_div, n_le, n_ge, n_lt, n_gt, sp_add, sp_sub, sp_mul, sp_by, sp_isfr, sl_add, sl_sub, sl_mul, sl_by, List.take_succ_cons, List.take_zero, c_neb, c_eqb, c_isT, c_isF, c_insT, c_insF, u_repr, c_nes, beq_self_eq_true, sl_part, fin_lastF, D2_last, num_le_den, num_lt_den, num_eq_den, num_eq0, sub_ge, sub_lt, sub_gt, mk_pc, x_pc0, x_pc1, len_pc, tup_pc, tv_pc, tv_22, ls0T, ls1T, setL_nil, setL_cons, tgl2, tgl3, tgl4, len4, tg_pc, rng_2, D2_2, sL_last, dE_compE, cE_nil, cE_cons, oN_some, bindN_ok, cPut_l, cPut_2, cPut_3, cEnd_l, cEnd_2, cEnd_3, dS_forE, fE_nil, fE_cons, oF_some, lpR_nx, lpR_ct, lpR_bk, lpR_rt, lpR_ex, tg2, tg3, len2, len3])
local macro_rules | `(tactic| walk_at "ux") => `(tactic| simp (disch := walk_at "sz") only [tp0, ls0, tp1, ls1, tp2, ls2, tp3, ls3, tp4, ls4, tp5, ls5, tp6, ls6, tp7, ls7, tp8, ls8, tp9, ls9, tp10, ls10, tp11, ls11, tp12, ls12, denF_eq, dSs_nil, dSs_cons, nxS_nx, nxS_rt, nxS_ex, nxS_bk, nxS_ct, lift_ok, lift_ex, oE_some, dS_asg, dS_par, dS_ret, dS_retN, dS_ex, dS_raise, dS_brk, dS_cnt, dS_pass, dS_ife, tgt_nm, set_nil, set_cons, dI_seq, dI_rng1, nI_some, iI_some, int_int, it_list, it_tup, it_f, fin_p, endF_nx, endF_rt, endF_ex, bind_ok, bind_ex, D1_p, D2_pp, mD_some, mkD_f, pD_some, dE_cst, dE_glob, dE_var, vR_ok, dE_bin, dE_neg, negV_int, tR_bool, tR_int, tR_none, tR_list, tR_tup, dE_not, dE_and, dE_or, andR_t, andR_f, orR_t, orR_f, andR_b, orR_b, oB_some, dE_cmp, dE_chain, chR_t, chR_f, chR_b, oC_some, dE_ife, ifR_t, ifR_f, dE_call, dE_b1, dE_b2, dE_idx, dE_isi, dE_tup, dE_lst, dEs_nil, dEs_cons, dats_nil, dats_cons, dT_none, dT_some, o_add, o_sub, c_lt, c_le, c_gt, c_ge, c_eqi, c_nei, u_abs, u_int, u_lenl, u_lent, u_tupl, u_tupt, x_tup, x_lst, a1_0, a2_0, a2_1, a3_0, a3_1, a3_2, a4_0, a4_1, a4_2, a4_3, List.length_cons, List.length_nil, List.map_cons, List.map_nil, List.replicate, List.cons_append, List.nil_append, List.getElem?_cons_zero, List.getElem?_cons_succ, List.set_cons_zero, List.set_cons_succ, Option.map_some, Nat.reduceSub, Nat.reduceAdd, List.take_length, List.isEmpty_nil, List.isEmpty_cons, Bool.not_true, Bool.not_false, wipe_nil, wipe_cons, tgt1, Int.reduceLT, Int.reduceLE, decide_true, decide_false, Bool.true_and, Bool.and_true, Bool.false_and, Bool.true_or, Bool.false_or, Bool.or_false, List.all_cons, List.all_nil, id_eq, nat_c0, nat_c1, nat_c2, nat_c3, nat_c4, nat_c5, Int.reduceEq, tgt2, tgt3, tgt4, c_isf, c_isn, c_inf, c_inn, c_iss, c_ins, Int.reduceMul, Int.reduceAdd, Int.reduceSub, fr_1, fr_0, fr_2, fr_h, x_f0, x_f1, u_tupf, u_lenf, c_eqfr, c_nefr, c_isfr, c_infr, o_mul, o_mod, o_div, n_le, n_ge, n_lt, n_gt, sp_add, sp_sub, sp_mul, sp_by, sp_isfr, sl_add, sl_sub, sl_mul, sl_by, List.take_succ_cons, List.take_zero, c_neb, c_eqb, c_isT, c_isF, c_insT, c_insF, u_repr, c_nes, beq_self_eq_true, sl_part, fin_lastF, D2_last, num_le_den, num_lt_den, num_eq_den, num_eq0, sub_ge, sub_lt, sub_gt, mk_pc, x_pc0, x_pc1, len_pc, tup_pc, tv_pc, tv_22, ls0T, ls1T, setL_nil, setL_cons, tgl2, tgl3, tgl4, len4, tg_pc, rng_2, D2_2, sL_last, dE_compE, cE_nil, cE_cons, oN_some, bindN_ok, cPut_l, cPut_2, cPut_3, cEnd_l, cEnd_2, cEnd_3, dS_forE, fE_nil, fE_cons, oF_some, lpR_nx, lpR_ct, lpR_bk, lpR_rt, lpR_ex, tg2, tg3, len2, len3, *])
section
variable {a xs S C E : List PyData} {r st : Store} {e h t m k x y : Rat} {p q : Rat × Rat}
variable {o0 o1 o2 o3 o4 o5 o6 o7 o8 o9 o10 o11 o12 o13 o14 o15 o16 o17 o18 o19 o20 o21 o22 o23 o24 o25 o26 o27 o28 o29 o30 o31 o32 o33 : Option Val}
theorem D2_3 {y : PyData} {f : PyData → PyData → M Val} {L : List PyData} {r : Store} : D2 (.l 3) (.p y) (a :: xs :: S :: L :: r) f = f (.list L) y (a :: xs :: S :: L :: r) := D2_lp rfl
theorem D2_4 {y : PyData} {f : PyData → PyData → M Val} {L : List PyData} {r : Store} : D2 (.l 4) (.p y) (a :: xs :: S :: C :: L :: r) f = f (.list L) y (a :: xs :: S :: C :: L :: r) := D2_lp rfl
theorem o_addl {xs ys : List PyData} (h : xs.length + ys.length ≤ 100000) : binD .Add (.list xs) (.list ys) = some (.list (xs ++ ys)) := if_pos (Nat.le_trans h (by decide))
local macro_rules | `(tactic| walk_at "go") => `(tactic| simp (disch := walk_at "sz") only [tp0, ls0, tp1, ls1, tp2, ls2, tp3, ls3, tp4, ls4, tp5, ls5, tp6, ls6, tp7, ls7, tp8, ls8, tp9, ls9, tp10, ls10, tp11, ls11, tp12, ls12, denF_eq, dSs_nil, dSs_cons, nxS_nx, nxS_rt, nxS_ex, nxS_bk, nxS_ct, lift_ok, lift_ex, oE_some, dS_asg, dS_par, dS_ret, dS_retN, dS_ex, dS_raise, dS_brk, dS_cnt, dS_pass, dS_ife, tgt_nm, set_nil, set_cons, dI_seq, dI_rng1, nI_some, iI_some, int_int, it_list, it_tup, it_f, fin_p, endF_nx, endF_rt, endF_ex, bind_ok, bind_ex, D1_p, D2_pp, mD_some, mkD_f, pD_some, dE_cst, dE_glob, dE_var, vR_ok, dE_bin, dE_neg, negV_int, tR_bool, tR_int, tR_none, tR_list, tR_tup, dE_not, dE_and, dE_or, andR_t, andR_f, orR_t, orR_f, andR_b, orR_b, oB_some, dE_cmp, dE_chain, chR_t, chR_f, chR_b, oC_some, dE_ife, ifR_t, ifR_f, dE_call, dE_b1, dE_b2, dE_idx, dE_isi, dE_tup, dE_lst, dEs_nil, dEs_cons, dats_nil, dats_cons, dT_none, dT_some, o_add, o_sub, c_lt, c_le, c_gt, c_ge, c_eqi, c_nei, u_abs, u_int, u_lenl, u_lent, u_tupl, u_tupt, x_tup, x_lst, a1_0, a2_0, a2_1, a3_0, a3_1, a3_2, a4_0, a4_1, a4_2, a4_3, List.length_cons, List.length_nil, List.map_cons, List.map_nil, List.replicate, List.cons_append, List.nil_append, List.getElem?_cons_zero, List.getElem?_cons_succ, List.set_cons_zero, List.set_cons_succ, Option.map_some, Nat.reduceSub, Nat.reduceAdd, List.take_length, List.isEmpty_nil, List.isEmpty_cons, Bool.not_true, Bool.not_false, wipe_nil, wipe_cons, tgt1, Int.reduceLT, Int.reduceLE, decide_true, decide_false, Bool.true_and, Bool.and_true, Bool.false_and, Bool.true_or, Bool.false_or, Bool.or_false, List.all_cons, List.all_nil, id_eq, nat_c0, nat_c1, nat_c2, nat_c3, nat_c4, nat_c5, Int.reduceEq, tgt2, tgt3, tgt4, c_isf, c_isn, c_inf, c_inn, c_iss, c_ins, Int.reduceMul, Int.reduceAdd, Int.reduceSub, fr_1, fr_0, fr_2, fr_h, x_f0, x_f1, u_tupf, u_lenf, c_eqfr, c_nefr, c_isfr, c_infr, o_mul, o_mod, o_div, n_le, n_ge, n_lt, n_gt, sp_add, sp_sub, sp_mul, sp_by, sp_isfr, sl_add, sl_sub, sl_mul, sl_by, List.take_succ_cons, List.take_zero, c_neb, c_eqb, c_isT, c_isF, c_insT, c_insF, u_repr, c_nes, beq_self_eq_true, sl_part, fin_lastF, D2_last, num_le_den, num_lt_den, num_eq_den, num_eq0, sub_ge, sub_lt, sub_gt, mk_pc, x_pc0, x_pc1, len_pc, tup_pc, tv_pc, tv_22, ls0T, ls1T, setL_nil, setL_cons, tgl2, tgl3, tgl4, len4, tg_pc, rng_2, D2_2, sL_last, D2_3, D2_4])
local macro_rules | `(tactic| walk_at "gx") => `(tactic| simp (disch := walk_at "sz") only [tp0, ls0, tp1, ls1, tp2, ls2, tp3, ls3, tp4, ls4, tp5, ls5, tp6, ls6, tp7, ls7, tp8, ls8, tp9, ls9, tp10, ls10, tp11, ls11, tp12, ls12, denF_eq, dSs_nil, dSs_cons, nxS_nx, nxS_rt, nxS_ex, nxS_bk, nxS_ct, lift_ok, lift_ex, oE_some, dS_asg, dS_par, dS_ret, dS_retN, dS_ex, dS_raise, dS_brk, dS_cnt, dS_pass, dS_ife, tgt_nm, set_nil, set_cons, dI_seq, dI_rng1, nI_some, iI_some, int_int, it_list, it_tup, it_f, fin_p, endF_nx, endF_rt, endF_ex, bind_ok, bind_ex, D1_p, D2_pp, mD_some, mkD_f, pD_some, dE_cst, dE_glob, dE_var, vR_ok, dE_bin, dE_neg, negV_int, tR_bool, tR_int, tR_none, tR_list, tR_tup, dE_not, dE_and, dE_or, andR_t, andR_f, orR_t, orR_f, andR_b, orR_b, oB_some, dE_cmp, dE_chain, chR_t, chR_f, chR_b, oC_some, dE_ife, ifR_t, ifR_f, dE_call, dE_b1, dE_b2, dE_idx, dE_isi, dE_tup, dE_lst, dEs_nil, dEs_cons, dats_nil, dats_cons, dT_none, dT_some, o_add, o_sub, c_lt, c_le, c_gt, c_ge, c_eqi, c_nei, u_abs, u_int, u_lenl, u_lent, u_tupl, u_tupt, x_tup, x_lst, a1_0, a2_0, a2_1, a3_0, a3_1, a3_2, a4_0, a4_1, a4_2, a4_3, List.length_cons, List.length_nil, List.map_cons, List.map_nil, List.replicate, List.cons_append, List.nil_append, List.getElem?_cons_zero, List.getElem?_cons_succ, List.set_cons_zero, List.set_cons_succ, Option.map_some, Nat.reduceSub, Nat.reduceAdd, List.take_length, List.isEmpty_nil, List.isEmpty_cons, Bool.not_true, Bool.not_false, wipe_nil, wipe_cons, tgt1, Int.reduceLT, Int.reduceLE, decide_true, decide_false, Bool.true_and, Bool.and_true, Bool.false_and, Bool.true_or, Bool.false_or, Bool.or_false, List.all_cons, List.all_nil, id_eq, nat_c0, nat_c1, nat_c2, nat_c3, nat_c4, nat_c5, Int.reduceEq, tgt2, tgt3, tgt4, c_isf, c_isn, c_inf, c_inn, c_iss, c_ins, Int.reduceMul, Int.reduceAdd, Int.reduceSub, fr_1, fr_0, fr_2, fr_h, x_f0, x_f1, u_tupf, u_lenf, c_eqfr, c_nefr, c_isfr, c_infr, o_mul, o_mod, o_div, n_le, n_ge, n_lt, n_gt, sp_add, sp_sub, sp_mul, sp_by, sp_isfr, sl_add, sl_sub, sl_mul, sl_by, List.take_succ_cons, List.take_zero, c_neb, c_eqb, c_isT, c_isF, c_insT, c_insF, u_repr, c_nes, beq_self_eq_true, sl_part, fin_lastF, D2_last, num_le_den, num_lt_den, num_eq_den, num_eq0, sub_ge, sub_lt, sub_gt, mk_pc, x_pc0, x_pc1, len_pc, tup_pc, tv_pc, tv_22, ls0T, ls1T, setL_nil, setL_cons, tgl2, tgl3, tgl4, len4, tg_pc, rng_2, D2_2, sL_last, D2_3, D2_4, *])
local macro_rules | `(tactic| walk_at "un") => `(tactic| simp (disch := walk_at "sz") only [tp0, ls0, tp1, ls1, tp2, ls2, tp3, ls3, tp4, ls4, tp5, ls5, tp6, ls6, tp7, ls7, tp8, ls8, tp9, ls9, tp10, ls10, tp11, ls11, tp12, ls12, denF_eq, dSs_nil, dSs_cons, nxS_nx, nxS_rt, nxS_ex, nxS_bk, nxS_ct, lift_ok, lift_ex, oE_some, dS_asg, dS_par, dS_ret, dS_retN, dS_ex, dS_raise, dS_brk, dS_cnt, dS_pass, dS_ife, tgt_nm, set_nil, set_cons, dI_seq, dI_rng1, nI_some, iI_some, int_int, it_list, it_tup, it_f, fin_p, endF_nx, endF_rt, endF_ex, bind_ok, bind_ex, D1_p, D2_pp, mD_some, mkD_f, pD_some, dE_cst, dE_glob, dE_var, vR_ok, dE_bin, dE_neg, negV_int, tR_bool, tR_int, tR_none, tR_list, tR_tup, dE_not, dE_and, dE_or, andR_t, andR_f, orR_t, orR_f, andR_b, orR_b, oB_some, dE_cmp, dE_chain, chR_t, chR_f, chR_b, oC_some, dE_ife, ifR_t, ifR_f, dE_call, dE_b1, dE_b2, dE_idx, dE_isi, dE_tup, dE_lst, dEs_nil, dEs_cons, dats_nil, dats_cons, dT_none, dT_some, o_add, o_sub, c_lt, c_le, c_gt, c_ge, c_eqi, c_nei, u_abs, u_int, u_lenl, u_lent, u_tupl, u_tupt, x_tup, x_lst, a1_0, a2_0, a2_1, a3_0, a3_1, a3_2, a4_0, a4_1, a4_2, a4_3, List.length_cons, List.length_nil, List.map_cons, List.map_nil, List.replicate, List.cons_append, List.nil_append, List.getElem?_cons_zero, List.getElem?_cons_succ, List.set_cons_zero, List.set_cons_succ, Option.map_some, Nat.reduceSub, Nat.reduceAdd, List.take_length, List.isEmpty_nil, List.isEmpty_cons, Bool.not_true, Bool.not_false, wipe_nil, wipe_cons, tgt1, Int.reduceLT, Int.reduceLE, decide_true, decide_false, Bool.true_and, Bool.and_true, Bool.false_and, Bool.true_or, Bool.false_or, Bool.or_false, List.all_cons, List.all_nil, id_eq, nat_c0, nat_c1, nat_c2, nat_c3, nat_c4, nat_c5, Int.reduceEq, tgt2, tgt3, tgt4, c_isf, c_isn, c_inf, c_inn, c_iss, c_ins, Int.reduceMul, Int.reduceAdd, Int.reduceSub, fr_1, fr_0, fr_2, fr_h, x_f0, x_f1, u_tupf, u_lenf, c_eqfr, c_nefr, c_isfr, c_infr, o_mul, o_mod, o_div, n_le, n_ge, n_lt, n_gt, sp_add, sp_sub, sp_mul, sp_by, sp_isfr, sl_add, sl_sub, sl_mul, sl_by, List.take_succ_cons, List.take_zero, c_neb, c_eqb, c_isT, c_isF, c_insT, c_insF, u_repr, c_nes, beq_self_eq_true, sl_part, fin_lastF, D2_last, num_le_den, num_lt_den, num_eq_den, num_eq0, sub_ge, sub_lt, sub_gt, mk_pc, x_pc0, x_pc1, len_pc, tup_pc, tv_pc, tv_22, ls0T, ls1T, setL_nil, setL_cons, tgl2, tgl3, tgl4, len4, tg_pc, rng_2, D2_2, sL_last, D2_3, D2_4, dE_compE, cE_nil, cE_cons, oN_some, bindN_ok, cPut_l, cPut_2, cPut_3, cEnd_l, cEnd_2, cEnd_3, dS_forE, fE_nil, fE_cons, oF_some, lpR_nx, lpR_ct, lpR_bk, lpR_rt, lpR_ex, tg2, tg3, len2, len3])
local macro_rules | `(tactic| walk_at "ux") => `(tactic| simp (disch := walk_at "sz") only [tp0, ls0, tp1, ls1, tp2, ls2, tp3, ls3, tp4, ls4, tp5, ls5, tp6, ls6, tp7, ls7, tp8, ls8, tp9, ls9, tp10, ls10, tp11, ls11, tp12, ls12, denF_eq, dSs_nil, dSs_cons, nxS_nx, nxS_rt, nxS_ex, nxS_bk, nxS_ct, lift_ok, lift_ex, oE_some, dS_asg, dS_par, dS_ret, dS_retN, dS_ex, dS_raise, dS_brk, dS_cnt, dS_pass, dS_ife, tgt_nm, set_nil, set_cons, dI_seq, dI_rng1, nI_some, iI_some, int_int, it_list, it_tup, it_f, fin_p, endF_nx, endF_rt, endF_ex, bind_ok, bind_ex, D1_p, D2_pp, mD_some, mkD_f, pD_some, dE_cst, dE_glob, dE_var, vR_ok, dE_bin, dE_neg, negV_int, tR_bool, tR_int, tR_none, tR_list, tR_tup, dE_not, dE_and, dE_or, andR_t, andR_f, orR_t, orR_f, andR_b, orR_b, oB_some, dE_cmp, dE_chain, chR_t, chR_f, chR_b, oC_some, dE_ife, ifR_t, ifR_f, dE_call, dE_b1, dE_b2, dE_idx, dE_isi, dE_tup, dE_lst, dEs_nil, dEs_cons, dats_nil, dats_cons, dT_none, dT_some, o_add, o_sub, c_lt, c_le, c_gt, c_ge, c_eqi, c_nei, u_abs, u_int, u_lenl, u_lent, u_tupl, u_tupt, x_tup, x_lst, a1_0, a2_0, a2_1, a3_0, a3_1, a3_2, a4_0, a4_1, a4_2, a4_3, List.length_cons, List.length_nil, List.map_cons, List.map_nil, List.replicate, List.cons_append, List.nil_append, List.getElem?_cons_zero, List.getElem?_cons_succ, List.set_cons_zero, List.set_cons_succ, Option.map_some, Nat.reduceSub, Nat.reduceAdd, List.take_length, List.isEmpty_nil, List.isEmpty_cons, Bool.not_true, Bool.not_false, wipe_nil, wipe_cons, tgt1, Int.reduceLT, Int.reduceLE, decide_true, decide_false, Bool.true_and, Bool.and_true, Bool.false_and, Bool.true_or, Bool.false_or, Bool.or_false, List.all_cons, List.all_nil, id_eq, nat_c0, nat_c1, nat_c2, nat_c3, nat_c4, nat_c5, Int.reduceEq, tgt2, tgt3, tgt4, c_isf, c_isn, c_inf, c_inn, c_iss, c_ins, Int.reduceMul, Int.reduceAdd, Int.reduceSub, fr_1, fr_0, fr_2, fr_h, x_f0, x_f1, u_tupf, u_lenf, c_eqfr, c_nefr, c_isfr, c_infr, o_mul, o_mod, o_div, n_le, n_ge, n_lt, n_gt, sp_add, sp_sub, sp_mul, sp_by, sp_isfr, sl_add, sl_sub, sl_mul, sl_by, List.take_succ_cons, List.take_zero, c_neb, c_eqb, c_isT, c_isF, c_insT, c_insF, u_repr, c_nes, beq_self_eq_true, sl_part, fin_lastF, D2_last, num_le_den, num_lt_den, num_eq_den, num_eq0, sub_ge, sub_lt, sub_gt, mk_pc, x_pc0, x_pc1, len_pc, tup_pc, tv_pc, tv_22, ls0T, ls1T, setL_nil, setL_cons, tgl2, tgl3, tgl4, len4, tg_pc, rng_2, D2_2, sL_last, D2_3, D2_4, dE_compE, cE_nil, cE_cons, oN_some, bindN_ok, cPut_l, cPut_2, cPut_3, cEnd_l, cEnd_2, cEnd_3, dS_forE, fE_nil, fE_cons, oF_some, lpR_nx, lpR_ct, lpR_bk, lpR_rt, lpR_ex, tg2, tg3, len2, len3, *])

theorem chF_len : ∀ (r : List Rat) (h m : Rat), (chF e h m r).length = r.length
  | [], _, _ => rfl
  | x :: r, h, m => by show (chF e _ x r).length + 1 = r.length + 1; rw [chF_len r]
theorem st_21 (he : Eg e) {m0 : Rat} {rs : List Rat} (hm : Ms m0) (hr : ∀ q ∈ rs, Ms q) (l1 : 1 ≤ rs.length) (l5 : rs.length ≤ 5) (K : OKs r45_22 (o0 :: some (.l 1) :: o2 :: some (.p (frP e)) :: o4 :: o5 :: o6 :: o7 :: o8 :: o9 :: o10 :: o11 :: o12 :: some (.p (.tuple ((m0 :: rs).map frP))) :: o14 :: o15 :: o16 :: some (.p (frP 1)) :: some (.p (frP 0)) :: some (.p (frP (1 / 2))) :: some (.l 3) :: o21 :: o22 :: o23 :: o24 :: some (.p (frP (chE e 1 m0 rs))) :: o26 :: o27 :: o28 :: o29 :: o30 :: o31 :: o32 :: o33 :: []) [a, xs, S, (chF e 1 m0 rs).map frP]) : OKs r45_21 (o0 :: some (.l 1) :: o2 :: some (.p (frP e)) :: o4 :: o5 :: o6 :: o7 :: o8 :: o9 :: o10 :: o11 :: o12 :: some (.p (.tuple ((m0 :: rs).map frP))) :: o14 :: o15 :: o16 :: some (.p (frP 1)) :: some (.p (frP 0)) :: some (.p (frP (1 / 2))) :: some (.l 3) :: o21 :: o22 :: o23 :: o24 :: some (.p (frP (chE e 1 m0 rs))) :: o26 :: o27 :: o28 :: o29 :: o30 :: o31 :: o32 :: o33 :: []) [a, xs, S, (chF e 1 m0 rs).map frP] := by
  have a5 : FT tab 9 43 [.p (.int 5), .p (.tuple ((m0 :: rs).map frP)), .p (frP e), .p .none, .p .none] [a, xs, S, (chF e 1 m0 rs).map frP] = _ := ask3 8 (by decide) (by decide) rfl (sp_cspeed 2 he.sz he.ch hm hr l1 l5)
  have a6 : FT tab 9 43 [.p (.int 6), .p (.tuple ((m0 :: rs).map frP)), .p (frP e), .p .none, .p .none] [a, xs, S, (chF e 1 m0 rs).map frP] = _ := ask3 8 (by decide) (by decide) rfl (sp_cspeeds 2 he.sz he.ch hm hr l1 l5)
  have sc := sz_ch he.sz rs 1 m0 0 sz_c1 hm hr
  have s5 : szc (0 + rs.length) ≤ 1900 := Nat.le_trans (szc_le (by omega)) (by decide)
  have ln : ((chF e 1 m0 rs ++ [chE e 1 m0 rs]).map frP).length ≤ 6 := by
    rw [List.length_map, List.length_append, chF_len]
    simp only [List.length_cons, List.length_nil]
    omega
  have st : Sh 24015 2 (.tuple ((chF e 1 m0 rs ++ [chE e 1 m0 rs]).map frP)) := (sh_tup (n := 4000) (k := 1) fun z hz => by
    obtain ⟨w, hw, rfl⟩ := List.mem_map.mp hz
    rcases List.mem_append.mp hw with hw | hw
    · exact sh_fr ((sc.2 w hw).mono s5)
    · cases List.mem_singleton.mp hw
      exact sh_fr (sc.1.mono s5)).mono (by omega) (by decide)
  have sh : showOk (.list [frP (chE e 1 m0 rs), .tuple ((chF e 1 m0 rs ++ [chE e 1 m0 rs]).map frP)]) = true := sh_okB (sh_l2 ((sh_fr (sc.1.mono s5)).mono (by decide) (by decide)) st) (by decide) (by decide)
  have ad : binD .Add (.list ((chF e 1 m0 rs).map frP)) (.list [frP (chE e 1 m0 rs)]) = some (.list ((chF e 1 m0 rs ++ [chE e 1 m0 rs]).map frP)) := by
    rw [o_addl (by rw [List.length_map, chF_len]; simp only [List.length_cons, List.length_nil]; omega), List.map_append]
    rfl
  refine ok_step ?_ K
  unfold s45_21
  clear K st sc
  generalize (chF e 1 m0 rs ++ [chE e 1 m0 rs]).map frP = W at *
  generalize (m0 :: rs).map frP = M at *
  generalize (chF e 1 m0 rs).map frP = C at *
  rw [dS_ife, dE_reprs (d := .list [frP (chE e 1 m0 rs), .tuple W]) _ _ sh]
  · walk_at "go"
  · walk_at "gx"
  · walk_at "go"
    rw [ad]
    walk_at "go"
theorem st_22 (hd : Dr xs) (K : ∀ m k x y ys, Ms m → Ms k → Ms x → Ms y → Dr ys → OKs r45_23 (o0 :: some (.l 1) :: o2 :: some (.p (frP e)) :: o4 :: o5 :: o6 :: o7 :: o8 :: o9 :: o10 :: o11 :: o12 :: o13 :: o14 :: o15 :: o16 :: some (.p (frP 1)) :: some (.p (frP 0)) :: some (.p (frP (1 / 2))) :: o20 :: o21 :: o22 :: o23 :: o24 :: o25 :: some (.p (frP m)) :: some (.p (frP k)) :: some (.p (frP x)) :: some (.p (frP y)) :: o30 :: o31 :: o32 :: o33 :: []) [a, ys, S, C]) : OKs r45_22 (o0 :: some (.l 1) :: o2 :: some (.p (frP e)) :: o4 :: o5 :: o6 :: o7 :: o8 :: o9 :: o10 :: o11 :: o12 :: o13 :: o14 :: o15 :: o16 :: some (.p (frP 1)) :: some (.p (frP 0)) :: some (.p (frP (1 / 2))) :: o20 :: o21 :: o22 :: o23 :: o24 :: o25 :: o26 :: o27 :: o28 :: o29 :: o30 :: o31 :: o32 :: o33 :: []) [a, xs, S, C] := by
  obtain ⟨L, ys2, l1, l2, l3, l4⟩ := comp_drawR (T := FT tab 9) (e := (o0 :: some (.l 1) :: o2 :: some (.p (frP e)) :: o4 :: o5 :: o6 :: o7 :: o8 :: o9 :: o10 :: o11 :: o12 :: o13 :: o14 :: o15 :: o16 :: some (.p (frP 1)) :: some (.p (frP 0)) :: some (.p (frP (1 / 2))) :: o20 :: o21 :: o22 :: o23 :: o24 :: o25 :: o26 :: o27 :: o28 :: o29 :: o30 :: o31 :: o32 :: o33 :: [])) (own := [10]) (i := 10) (n := .cst (.int 4)) (el := .call 38 (.cons (.var 1) .nil)) (k := 4) (a := a) (xs := xs) (xs2 := xs) (r := [S, C]) Ms frP (by
    have rn := rngN (k := 4) (n := 4) (by omega) (by omega)
    walk_at "go"
    rw [rn]
    walk_at "go") (by omega) hd (fun z xs acc hd => by
    obtain ⟨k1, ys1, a1, hd1, r1⟩ := dw_rate 6 a xs ([S, C] ++ [acc]) hd
    refine ⟨k1, ys1, a1, hd1, ?_⟩
    walk_at "go"
    exact r1)
  match L, l1, l2, l4 with
  | [m, k, x, y], _, l2, l4 =>
    refine ok_step ?_ (K m k x y ys2 (l2 m (by simp)) (l2 k (by simp)) (l2 x (by simp)) (l2 y (by simp)) l3)
    unfold s45_22
    rw [dS_asg, l4]
    walk_at "go"
theorem st_23 (K : OKs r45_24 (o0 :: some (.l 1) :: o2 :: some (.p (frP e)) :: o4 :: o5 :: o6 :: o7 :: o8 :: o9 :: o10 :: o11 :: o12 :: o13 :: o14 :: some (.l 4) :: o16 :: some (.p (frP 1)) :: some (.p (frP 0)) :: some (.p (frP (1 / 2))) :: o20 :: o21 :: o22 :: o23 :: o24 :: o25 :: some (.p (frP m)) :: some (.p (frP k)) :: some (.p (frP x)) :: some (.p (frP y)) :: o30 :: o31 :: o32 :: o33 :: []) [a, xs, S, C, []]) : OKs r45_23 (o0 :: some (.l 1) :: o2 :: some (.p (frP e)) :: o4 :: o5 :: o6 :: o7 :: o8 :: o9 :: o10 :: o11 :: o12 :: o13 :: o14 :: o15 :: o16 :: some (.p (frP 1)) :: some (.p (frP 0)) :: some (.p (frP (1 / 2))) :: o20 :: o21 :: o22 :: o23 :: o24 :: o25 :: some (.p (frP m)) :: some (.p (frP k)) :: some (.p (frP x)) :: some (.p (frP y)) :: o30 :: o31 :: o32 :: o33 :: []) [a, xs, S, C] := by
  refine ok_step ?_ K
  unfold s45_23
  walk_at "go"
theorem sl_aft2 (w : Nat) (p q : Rat × Rat) (h1 : SzR 100 p.1) (h2 : SzR 20 p.2) (h3 : SzR 100 q.1) (h4 : SzR 20 q.2) (p0 : 0 < p.2) (q0 : 0 < q.2) : FT tab (w + 4) 41 [.p (pcP p), .p (pcP q), .p (frP 1)] st = .ok (.p (pcP (aft p q 1))) st := by
  have n0 := pq_pos p0 q0
  rw [t41, denF_eq (by rfl)]
  unfold f41
  walk_at "go"
  rfl
theorem sz_aft2 {b c : Nat} {p q : Rat × Rat} (h1 : SzR b p.1) (h2 : SzR c p.2) (h3 : SzR b q.1) (h4 : SzR c q.2) : SzR (4 * b + 6 * c + 20) (aft p q 1).2 := (sz_div (sz_sub (sz_add (sz_mul h1 h2) (sz_mul h3 h4)) (sz_mul h2 (sz_mul sz_c1 (sz_sub h3 h1)))) (sz_add h2 h4)).mono (by omega)
/-- the first one's speed, the last one's -/
def fi (m x : Rat) : Rat := (aft (1, m) (0, x) 1).2
def en (m k x : Rat) : Rat := (aft (fi m x, x) (0, k) 1).2
theorem btw_pos (m0 : 0 < m) (k0 : 0 < k) (x0 : 0 < x) : 0 < btw m k x + (m + k) := by
  have p1 : 0 < m * k / x := by
    rw [Rat.div_def]
    exact Rat.mul_pos (Rat.mul_pos m0 k0) (Rat.inv_pos.mpr x0)
  unfold btw
  grind
theorem en_eq (m0 : 0 < m) (k0 : 0 < k) (x0 : 0 < x) : en m k x = 4 * m / (btw m k x + (m + k)) := by
  have n1 : m + x ≠ 0 := pq_ne m0 x0
  have n2 : x + k ≠ 0 := pq_ne x0 k0
  have n3 : x ≠ 0 := by grind
  have p1 : 0 < m * k / x := by
    rw [Rat.div_def]
    exact Rat.mul_pos (Rat.mul_pos m0 k0) (Rat.inv_pos.mpr x0)
  have e1 : btw m k x + (m + k) = (m + x) * (x + k) / x := by unfold btw; grind
  rw [e1]
  unfold en fi aft
  dsimp only
  have f1 : (1 * m + 0 * x - m * (1 * (0 - 1))) / (m + x) = 2 * m / (m + x) := by grind
  rw [f1]
  have n4 : (m + x) * (x + k) ≠ 0 := by
    have := Rat.mul_pos (pq_pos m0 x0) (pq_pos x0 k0)
    grind
  have e2 : (2 * m / (m + x) * x + 0 * k - x * (1 * (0 - 2 * m / (m + x)))) / (x + k) = 4 * m * x / ((m + x) * (x + k)) := by
    generalize hs : m + x = s at *
    generalize hu : x + k = u at *
    grind
  rw [e2]
  have n5 : (m + x) * (x + k) / x ≠ 0 := by
    rw [← e1]
    have := btw_pos m0 k0 x0
    grind
  clear e1 e2 f1
  generalize (m + x) * (x + k) = w at *
  grind
theorem div_le_div {c u v : Rat} (hc : 0 < c) (hu : 0 < u) (hv : 0 < v) : c / v ≤ c / u ↔ u ≤ v := by
  have iu : c / u * u = c := by have : u ≠ 0 := by grind
                                grind
  have iv : c / v * v = c := by have : v ≠ 0 := by grind
                                grind
  have pu : 0 < c / u := by rw [Rat.div_def]; exact Rat.mul_pos hc (Rat.inv_pos.mpr hu)
  have pv : 0 < c / v := by rw [Rat.div_def]; exact Rat.mul_pos hc (Rat.inv_pos.mpr hv)
  constructor
  · intro h
    rcases Rat.le_total (a := u) (b := v) with z | z
    · exact z
    · have a := Rat.mul_le_mul_of_nonneg_right h (Rat.le_of_lt hv)
      rcases Rat.le_iff_lt_or_eq.mp z with z | z
      · have b := Rat.mul_lt_mul_of_pos_left z pu
        grind
      · grind
  · intro h
    rcases Rat.le_total (a := c / v) (b := c / u) with z | z
    · exact z
    · have a := Rat.mul_le_mul_of_nonneg_left h (Rat.le_of_lt pv)
      rcases Rat.le_iff_lt_or_eq.mp z with z | z
      · have b := Rat.mul_lt_mul_of_pos_right z hu
        grind
      · grind
theorem en_btw (m0 : 0 < m) (k0 : 0 < k) (x0 : 0 < x) (y0 : 0 < y) : decide (en m k y ≤ en m k x) = decide (btw m k x ≤ btw m k y) := by
  rw [en_eq m0 k0 x0, en_eq m0 k0 y0]
  congr 1
  rw [div_le_div (by grind) (btw_pos m0 k0 x0) (btw_pos m0 k0 y0)]
  exact propext ⟨fun h => by grind, fun h => by grind⟩
def body24 : Ss := (.cons (.asg (.nm 30) (.idx (.call 41 (.cons (.tup (.cons (.var 17) (.cons (.var 26) .nil))) (.cons (.tup (.cons (.var 18) (.cons (.var 16) .nil))) (.cons (.var 17) .nil)))) (.cst (.int 1)))) (.cons (.ex (.append (.var 15) (.idx (.call 41 (.cons (.tup (.cons (.var 30) (.cons (.var 16) .nil))) (.cons (.tup (.cons (.var 18) (.cons (.var 27) .nil))) (.cons (.var 17) .nil)))) (.cst (.int 1))))) .nil))
theorem run_24 (hm : Ms m) (hk : Ms k) {z : Rat} (hz : SzR 6 z) (z0 : 0 < z) (hE : E.length ≤ 10) : denSs (FT tab 9) body24 (o0 :: some (.l 1) :: o2 :: some (.p (frP e)) :: o4 :: o5 :: o6 :: o7 :: o8 :: o9 :: o10 :: o11 :: o12 :: o13 :: o14 :: some (.l 4) :: some (.p (frP z)) :: some (.p (frP 1)) :: some (.p (frP 0)) :: some (.p (frP (1 / 2))) :: o20 :: o21 :: o22 :: o23 :: o24 :: o25 :: some (.p (frP m)) :: some (.p (frP k)) :: some (.p (frP x)) :: some (.p (frP y)) :: o30 :: o31 :: o32 :: o33 :: []) [a, xs, S, C, E] = .ok (.nx (o0 :: some (.l 1) :: o2 :: some (.p (frP e)) :: o4 :: o5 :: o6 :: o7 :: o8 :: o9 :: o10 :: o11 :: o12 :: o13 :: o14 :: some (.l 4) :: some (.p (frP z)) :: some (.p (frP 1)) :: some (.p (frP 0)) :: some (.p (frP (1 / 2))) :: o20 :: o21 :: o22 :: o23 :: o24 :: o25 :: some (.p (frP m)) :: some (.p (frP k)) :: some (.p (frP x)) :: some (.p (frP y)) :: some (.p (frP (fi m z))) :: o31 :: o32 :: o33 :: [])) [a, xs, S, C, E ++ [frP (en m k z)]] := by
  have f1 := sl_aft2 (st := [a, xs, S, C, E]) 5 (1, m) (0, z) (sz_c1.mono (by decide)) (hm.1.mono (by decide)) (sz_c0.mono (by decide)) (hz.mono (by decide)) hm.2 z0
  have zf : SzR 100 (fi m z) := (sz_aft2 (b := 1) (c := 6) (p := (1, m)) (q := (0, z)) sz_c1 (hm.1.mono (by decide)) sz_c0 hz).mono (by decide)
  have f2 := sl_aft2 (st := [a, xs, S, C, E]) 5 (fi m z, z) (0, k) zf (hz.mono (by decide)) (sz_c0.mono (by decide)) (hk.1.mono (by decide)) z0 hk.2
  have ap := dE_append (T := FT tab 9) (a := .var 15) (b := (.idx (.call 41 (.cons (.tup (.cons (.var 30) (.cons (.var 16) .nil))) (.cons (.tup (.cons (.var 18) (.cons (.var 27) .nil))) (.cons (.var 17) .nil)))) (.cst (.int 1)))) (e := (o0 :: some (.l 1) :: o2 :: some (.p (frP e)) :: o4 :: o5 :: o6 :: o7 :: o8 :: o9 :: o10 :: o11 :: o12 :: o13 :: o14 :: some (.l 4) :: some (.p (frP z)) :: some (.p (frP 1)) :: some (.p (frP 0)) :: some (.p (frP (1 / 2))) :: o20 :: o21 :: o22 :: o23 :: o24 :: o25 :: some (.p (frP m)) :: some (.p (frP k)) :: some (.p (frP x)) :: some (.p (frP y)) :: some (.p (frP (fi m z))) :: o31 :: o32 :: o33 :: [])) (st := [a, xs, S, C, E]) (k := 4) (d := frP (en m k z)) (st1 := [a, xs, S, C, E]) (st2 := [a, xs, S, C, E]) (xs := E) rfl (by
    walk_at "go"
    rw [f2]
    walk_at "go"
    rfl) rfl (by omega)
  have ef : frP (aft (1, m) (0, z) 1).2 = frP (fi m z) := rfl
  unfold body24
  walk_at "go"
  rw [f1]
  walk_at "go"
  rw [ef, ap]
  walk_at "go"
theorem st_24 (hm : Ms m) (hk : Ms k) (hx : Ms x) (hy : Ms y) (K : ∀ o16 o30 v w, OKs r45_25 (o0 :: some (.l 1) :: o2 :: some (.p (frP e)) :: o4 :: o5 :: o6 :: o7 :: o8 :: o9 :: o10 :: o11 :: o12 :: o13 :: o14 :: some (.l 4) :: o16 :: some (.p (frP 1)) :: some (.p (frP 0)) :: some (.p (frP (1 / 2))) :: o20 :: o21 :: o22 :: o23 :: o24 :: o25 :: some (.p (frP m)) :: some (.p (frP k)) :: some (.p (frP x)) :: some (.p (frP y)) :: o30 :: o31 :: o32 :: o33 :: []) [a, xs, S, C, [frP (en m k x), frP (en m k y), v, w]]) : OKs r45_24 (o0 :: some (.l 1) :: o2 :: some (.p (frP e)) :: o4 :: o5 :: o6 :: o7 :: o8 :: o9 :: o10 :: o11 :: o12 :: o13 :: o14 :: some (.l 4) :: o16 :: some (.p (frP 1)) :: some (.p (frP 0)) :: some (.p (frP (1 / 2))) :: o20 :: o21 :: o22 :: o23 :: o24 :: o25 :: some (.p (frP m)) :: some (.p (frP k)) :: some (.p (frP x)) :: some (.p (frP y)) :: o30 :: o31 :: o32 :: o33 :: []) [a, xs, S, C, []] := by
  have mk : SzR 6 (m * k) := sz_mul hm.1 hk.1
  have h1 := hm.1
  have h2 := hk.1
  refine ok_step ?_ (K (some (.p (frP (m * k)))) (some (.p (frP (fi m (m * k))))) (frP (en m k m)) (frP (en m k (m * k))))
  show denS (FT tab 9) (.for_ (.nm 16) (.seq (.lst false (.cons (.var 28) (.cons (.var 29) (.cons (.var 26) (.cons (.call 35 (.cons (.var 26) (.cons (.var 27) .nil))) .nil)))))) body24) _ _ = _
  walk_at "un"
  rw [run_24 hm hk (hx.1.mono (by decide)) hx.2 (by simp)]
  walk_at "un"
  rw [run_24 hm hk (hy.1.mono (by decide)) hy.2 (by simp)]
  walk_at "un"
  rw [run_24 hm hk (hm.1.mono (by decide)) hm.2 (by simp)]
  walk_at "un"
  rw [run_24 hm hk mk (Rat.mul_pos hm.2 hk.2) (by simp)]
  walk_at "un"
theorem sz_en (hm : Ms m) (hk : Ms k) (hx : Ms x) : SzR 300 (en m k x) := (sz_aft2 (b := 60) (c := 3) (p := (fi m x, x)) (q := (0, k)) ((sz_aft2 (b := 1) (c := 3) (p := (1, m)) (q := (0, x)) sz_c1 hm.1 sz_c0 hx.1).mono (by decide)) hx.1 (sz_c0.mono (by decide)) hk.1).mono (by decide)
theorem st_25 {v w : PyData} (hm : Ms m) (hk : Ms k) (hx : Ms x) (hy : Ms y) (K : OKs r45_26 (o0 :: some (.l 1) :: o2 :: some (.p (frP e)) :: o4 :: o5 :: o6 :: o7 :: o8 :: o9 :: o10 :: o11 :: o12 :: o13 :: o14 :: some (.l 4) :: o16 :: some (.p (frP 1)) :: some (.p (frP 0)) :: some (.p (frP (1 / 2))) :: o20 :: o21 :: o22 :: o23 :: o24 :: o25 :: some (.p (frP m)) :: some (.p (frP k)) :: some (.p (frP x)) :: some (.p (frP y)) :: o30 :: o31 :: o32 :: o33 :: []) [a, xs, S, C, [frP (en m k x), frP (en m k y), v, w]]) : OKs r45_25 (o0 :: some (.l 1) :: o2 :: some (.p (frP e)) :: o4 :: o5 :: o6 :: o7 :: o8 :: o9 :: o10 :: o11 :: o12 :: o13 :: o14 :: some (.l 4) :: o16 :: some (.p (frP 1)) :: some (.p (frP 0)) :: some (.p (frP (1 / 2))) :: o20 :: o21 :: o22 :: o23 :: o24 :: o25 :: some (.p (frP m)) :: some (.p (frP k)) :: some (.p (frP x)) :: some (.p (frP y)) :: o30 :: o31 :: o32 :: o33 :: []) [a, xs, S, C, [frP (en m k x), frP (en m k y), v, w]] := by
  have a1 : FT tab 9 43 [.p (.int 9), .p (frP m), .p (frP k), .p (frP x), .p (frP y)] [a, xs, S, C, [frP (en m k x), frP (en m k y), v, w]] = _ := ask_9 8 (sp_better 4 (hm.1.mono (by decide)) (hk.1.mono (by decide)) (hx.1.mono (by decide)) (hy.1.mono (by decide)) hm.2 hk.2 hx.2 hy.2)
  have a2 : FT tab 9 43 [.p (.int 9), .p (frP m), .p (frP k), .p (frP y), .p (frP x)] [a, xs, S, C, [frP (en m k x), frP (en m k y), v, w]] = _ := ask_9 8 (sp_better 4 (hm.1.mono (by decide)) (hk.1.mono (by decide)) (hy.1.mono (by decide)) (hx.1.mono (by decide)) hm.2 hk.2 hy.2 hx.2)
  have z1 := sz_en hm hk hx
  have z2 := sz_en hm hk hy
  have e1 := en_btw hm.2 hk.2 hx.2 hy.2
  have e2 := en_btw hm.2 hk.2 hy.2 hx.2
  have sb : ∀ b : Bool, showOk (.bool b) = true := fun b => sh_okB (sh_bool b) (by decide) (by decide)
  have sb1 := sb (decide (btw m k x ≤ btw m k y))
  have sb2 := sb (decide (btw m k y ≤ btw m k x))
  refine ok_step ?_ K
  unfold s45_25
  walk_at "gx"
theorem amgm (k0 : 0 < k) (x0 : 0 < x) (y0 : 0 < y) : decide (btw (x * x) (y * y) (x * y) ≤ btw (x * x) (y * y) k) = true := by
  have xy := Rat.mul_pos x0 y0
  have n1 : x * y ≠ 0 := by grind
  have n2 : k ≠ 0 := by grind
  have e1 : btw (x * x) (y * y) (x * y) = 2 * (x * y) := by
    unfold btw
    have : x * x * (y * y) / (x * y) = x * y := by
      have : x * x * (y * y) = x * y * (x * y) := by grind
      rw [this]
      generalize x * y = u at *
      grind
    rw [this]
    grind
  have sq : 0 ≤ (k - x * y) * (k - x * y) := by
    rcases Rat.le_total (a := 0) (b := k - x * y) with h | h
    · exact Rat.mul_nonneg h h
    · have := Rat.mul_nonneg (a := -(k - x * y)) (b := -(k - x * y)) (by grind) (by grind)
      grind
  have ki : 0 < 1 / k := by rw [Rat.div_def]; exact Rat.mul_pos (by decide) (Rat.inv_pos.mpr k0)
  have m := Rat.mul_nonneg sq (Rat.le_of_lt ki)
  have e2 : btw (x * x) (y * y) k - 2 * (x * y) = (k - x * y) * (k - x * y) * (1 / k) := by
    unfold btw
    have : x * x * (y * y) = x * y * (x * y) := by grind
    rw [this]
    generalize x * y = u at *
    grind
  rw [e1]
  exact decide_eq_true (by grind)
theorem st_26 (hm : Ms m) (hk : Ms k) (hx : Ms x) (hy : Ms y) (K : OKs r45_27 (o0 :: some (.l 1) :: o2 :: some (.p (frP e)) :: o4 :: o5 :: o6 :: o7 :: o8 :: o9 :: o10 :: o11 :: o12 :: o13 :: o14 :: some (.l 4) :: o16 :: some (.p (frP 1)) :: some (.p (frP 0)) :: some (.p (frP (1 / 2))) :: o20 :: o21 :: o22 :: o23 :: o24 :: o25 :: some (.p (frP m)) :: some (.p (frP k)) :: some (.p (frP x)) :: some (.p (frP y)) :: o30 :: o31 :: o32 :: o33 :: []) [a, xs, S, C, E]) : OKs r45_26 (o0 :: some (.l 1) :: o2 :: some (.p (frP e)) :: o4 :: o5 :: o6 :: o7 :: o8 :: o9 :: o10 :: o11 :: o12 :: o13 :: o14 :: some (.l 4) :: o16 :: some (.p (frP 1)) :: some (.p (frP 0)) :: some (.p (frP (1 / 2))) :: o20 :: o21 :: o22 :: o23 :: o24 :: o25 :: some (.p (frP m)) :: some (.p (frP k)) :: some (.p (frP x)) :: some (.p (frP y)) :: o30 :: o31 :: o32 :: o33 :: []) [a, xs, S, C, E] := by
  have h1 := hx.1
  have h2 := hy.1
  have h3 := hk.1
  have b1 : FT tab 9 23 [.p (frP (x * x)), .p (frP (y * y)), .p (frP (x * y)), .p (frP k)] [a, xs, S, C, E] = _ := sp_better 5 (by walk_at "sz") (by walk_at "sz") (by walk_at "sz") (by walk_at "sz") (Rat.mul_pos hx.2 hx.2) (Rat.mul_pos hy.2 hy.2) (Rat.mul_pos hx.2 hy.2) hk.2
  rw [amgm hk.2 hx.2 hy.2] at b1
  refine ok_step ?_ K
  unfold s45_26
  walk_at "gx"
/-! walls -/
def totB (A : Nat) : Ss := (.cons (.asg (.nm 1) (.call A (.cons (.var 1) (.cons (.var 2) .nil)))) .nil)
theorem tot_loop {T : Nat → Fn} {A : Nat} (hA : ∀ (p q : Rat) (st : Store), Sm p → Sm q → T A [.p (frP p), .p (frP q)] st = .ok (.p (frP (p + q))) st) {st : Store} {c : Nat} (hc : c ≤ 4000) {o0 : Option Val} : ∀ (L : List Rat) (a : Rat) (b : Nat) (o2 : Option Val), (∀ q ∈ L, SzR c q) → SzR b a → b + (c + 1) * L.length ≤ 4000 →
    ∃ o2', fE T (.nm 2) (totB A) (L.map frP) [o0, some (.p (frP a)), o2] st = .ok (.nx [o0, some (.p (frP (a + sm L))), o2']) st
  | [], a, b, o2, _, _, _ => ⟨o2, by rw [show a + sm [] = a by show a + 0 = a; grind]; rfl⟩
  | x :: L, a, b, o2, h, ha, hb => by
    rw [List.length_cons, Nat.mul_add] at hb
    have hx := h x List.mem_cons_self
    obtain ⟨q2, q⟩ := tot_loop hA hc (o0 := o0) L (a + x) (b + c + 1) (some (.p (frP x))) (fun y hy => h y (List.mem_cons_of_mem _ hy)) (sz_add ha hx) (by omega)
    refine ⟨q2, ?_⟩
    have r := hA a x st (ha.mono (by omega)) (hx.mono hc)
    rw [List.map_cons, fE_cons, tgt1, oF_some]
    unfold totB
    walk_at "gx"
    rw [lpR_nx]
    unfold totB at q
    rw [q, show a + x + sm L = a + sm (x :: L) by show _ = a + (x + sm L); grind]
theorem sl_total (m : Nat) {c : Nat} (hc : c ≤ 300) (L : List Rat) (h : ∀ q ∈ L, SzR c q) (hl : L.length ≤ 10) (st : Store) : FT tab (m + 4) 37 [.p (.list (L.map frP))] st = .ok (.p (frP (sm L))) st := by
  have hb : (c + 1) * L.length ≤ 3010 := Nat.le_trans (Nat.mul_le_mul (by omega : c + 1 ≤ 301) hl) (by decide)
  obtain ⟨o, q⟩ := tot_loop (T := FT tab (m + 3)) (A := 33) (sl_add m) (st := st) (by omega : c ≤ 4000) (o0 := some (.p (.list (L.map frP)))) L 0 1 none h sz_c0 (by omega)
  rw [t37, denF_eq (by rfl)]
  unfold f37
  walk_at "go"
  rw [dS_forE]
  walk_at "go"
  unfold totB at q
  rw [q]
  walk_at "go"
  rw [show 0 + sm L = sm L by grind]
theorem st_27 (hd : Dr xs) (he : Eg e) (K : ∀ o8 o31 ys, OKs r45_28 (o0 :: some (.l 1) :: o2 :: some (.p (frP e)) :: o4 :: o5 :: o6 :: o7 :: o8 :: o9 :: o10 :: o11 :: o12 :: o13 :: o14 :: o15 :: o16 :: some (.p (frP 1)) :: some (.p (frP 0)) :: some (.p (frP (1 / 2))) :: o20 :: o21 :: o22 :: o23 :: o24 :: o25 :: o26 :: o27 :: o28 :: o29 :: o30 :: o31 :: o32 :: o33 :: []) [a, ys, S, C, E]) : OKs r45_27 (o0 :: some (.l 1) :: o2 :: some (.p (frP e)) :: o4 :: o5 :: o6 :: o7 :: o8 :: o9 :: o10 :: o11 :: o12 :: o13 :: o14 :: o15 :: o16 :: some (.p (frP 1)) :: some (.p (frP 0)) :: some (.p (frP (1 / 2))) :: o20 :: o21 :: o22 :: o23 :: o24 :: o25 :: o26 :: o27 :: o28 :: o29 :: o30 :: o31 :: o32 :: o33 :: []) [a, xs, S, C, E] := by
  by_cases h0 : 0 < e
  · obtain ⟨n, ys, a1, b1, hd1, r1⟩ := nx 8 a xs [S, C, E] hd
    have d1 : decide (0 < e) = true := decide_eq_true h0
    obtain ⟨w, hw⟩ : ∃ w : Nat, 1 + n % 6 = (w : Int) := ⟨(1 + n % 6).toNat, by omega⟩
    have ze := he.sz
    have rn := rngN (k := (w : Int)) (n := w) rfl (by omega)
    have c1 := compA (T := FT tab 9) (e := (o0 :: some (.l 1) :: o2 :: some (.p (frP e)) :: o4 :: o5 :: o6 :: o7 :: o8 :: o9 :: o10 :: o11 :: o12 :: o13 :: o14 :: o15 :: o16 :: some (.p (frP 1)) :: some (.p (frP 0)) :: some (.p (frP (1 / 2))) :: o20 :: o21 :: o22 :: o23 :: o24 :: o25 :: o26 :: o27 :: o28 :: o29 :: o30 :: some (.p (.int (w : Int))) :: o32 :: o33 :: [])) (st := [a, ys, S, C, E]) (own := [14]) (t := .nm 14) (it := .rng1 (.var 31)) (el := .call 36 (.cons (.var 17) (.cons (.call 39 (.cons (.var 3) (.cons (.var 14) .nil))) .nil))) (st1 := [a, ys, S, C, E]) (List.range w) (fun j => .int (j : Int)) (fun j => frP (1 / pw e j)) (by walk_at "go"; rw [rn]; rfl) (fun z hz => ⟨_, rfl, fun st' => by
      have rs := sl_raised (st := st') 5 (e := e) (b := 3) ze (by decide) z (by have := List.mem_range.mp hz; omega)
      have zp : SzR 100 (pw e z) := (sz_pw ze z).mono (by have := List.mem_range.mp hz; omega)
      have pp := pw_pos h0 z
      walk_at "go"
      rw [rs]
      walk_at "go"⟩) (by simp; omega)
    have e1 : ((List.range w).map fun j => frP (1 / pw e j)) = ((List.range w).map fun j => 1 / pw e j).map frP := by rw [List.map_map]; rfl
    rw [e1] at c1
    have tq := sl_total 5 (c := 30) (by decide) ((List.range w).map fun j => 1 / pw e j) (fun q hq => by
      obtain ⟨j, hj, rfl⟩ := List.mem_map.mp hq
      exact (sz_div sz_c1 (sz_pw ze j)).mono (by have := List.mem_range.mp hj; omega)) (by rw [List.length_map, List.length_range]; omega) [a, ys, S, C, E]
    have a7 : FT tab 9 43 [.p (.int 7), .p (frP e), .p (.int (w : Int)), .p .none, .p .none] [a, ys, S, C, E] = _ := ask3 8 (by decide) (by decide) rfl (sp_walls 2 ze h0 he.lt w (by omega) (by omega))
    have sh : showOk (frP (wl e w)) = true := sh_okB (sh_fr ((sz_wl ze w (by omega)).mono (by omega))) (by decide) (by decide)
    refine ok_step ?_ (K (some (.p (frP (wl e w)))) (some (.p (.int (w : Int)))) ys)
    unfold s45_27
    walk_at "go"
    rw [d1]
    walk_at "go"
    rw [r1]
    walk_at "go"
    rw [hw, c1]
    walk_at "go"
    rw [show FT tab 9 37 [.p (.list (((List.range w).map fun j => 1 / pw e j).map frP))] [a, ys, S, C, E] = .ok (.p (frP (wl e w))) [a, ys, S, C, E] from tq]
    walk_at "go"
    rw [a7]
    walk_at "gx"
  · have d1 : decide (0 < e) = false := decide_eq_false h0
    refine ok_step ?_ (K o8 o31 xs)
    unfold s45_27
    walk_at "go"
    rw [d1]
    walk_at "go"
theorem st_28 : OKs r45_28 (o0 :: some (.l 1) :: o2 :: o3 :: o4 :: o5 :: o6 :: o7 :: o8 :: o9 :: o10 :: o11 :: o12 :: o13 :: o14 :: o15 :: o16 :: o17 :: o18 :: o19 :: o20 :: o21 :: o22 :: o23 :: o24 :: o25 :: o26 :: o27 :: o28 :: o29 :: o30 :: o31 :: o32 :: o33 :: []) [a, xs, S, C, E] := by
  refine ⟨[a, xs, S, C, E], ?_⟩
  kernel_rfl
end
theorem holds : ∀ ns : List Int, ns.length ≤ 63 → ∃ st, FT tab (9 + 1) 45 [.f (ns.map PyData.int)] [] = .ok (.p (.bool true)) st := by
  intro ns hl
  have big : OKs r45_0 (some (.f (ns.map PyData.int)) :: List.replicate 33 none) [] := by
    refine st_0 hl fun xs h1 h2 => ?_
    refine st_1 h1 h2 fun a xs h1 => ?_
    refine st_2 ?_
    refine st_3 ?_
    refine st_4 h1 fun low xs l1 l2 h1 => ?_
    refine st_5 h1 l1 l2 fun e xs he h1 => ?_
    refine st_6 h1 he fun p q xs hp hq h1 => ?_
    refine st_7 hp hq he fun o5 o20 o21 o22 => ?_
    refine st_8 h1 he fun h xs hh h1 => ?_
    refine st_9 he ?_
    refine st_10 h1 fun n xs hn h1 => ?_
    refine st_11 he hh hn ?_
    refine st_12 he hh hn ?_
    refine st_13 ?_
    refine st_14 he fun o10 => ?_
    refine st_15 h1 he fun o8 o11 xs h1 => ?_
    refine st_16 h1 fun far xs hf h1 => ?_
    refine st_17 hf ?_
    refine st_18 h1 fun m0 rs xs hm hr l1 l5 h1 => ?_
    refine st_19 ?_
    refine st_20 he hm hr l1 l5 fun o14 o32 => ?_
    refine st_21 he hm hr l1 l5 ?_
    refine st_22 h1 fun m k x y xs gm gk gx gy h1 => ?_
    refine st_23 ?_
    refine st_24 gm gk gx gy fun o16 o30 v w => ?_
    refine st_25 gm gk gx gy ?_
    refine st_26 gm gk gx gy ?_
    refine st_27 h1 he fun o8 o31 xs => ?_
    exact st_28
  obtain ⟨st, big⟩ := big
  refine ⟨st.take 0, ?_⟩
  rw [t45, denF_eq (by rfl)]
  show endF false 0 (denSs (FT tab 9) r45_0 _ []) = _
  rw [show ([Val.f (ns.map PyData.int)].map some ++ List.replicate (f45.nn - f45.np) none) = some (.f (ns.map PyData.int)) :: List.replicate 33 none from rfl, big]
  rfl

end Law03

open PySem PySem.W PySem.Calls PyProof.Rows
theorem PySem.Challenge.cw_motionsheld_k03_bouncing_with_loss_holds : PySem.Challenge.rw_motionsheld_k03_bouncing_with_loss.Holds := by
  w_on; o_law
  refine HandSHeadRun.head_any (r := OpenLaw.row PySem.Challenge.rw_motionsheld_k03_bouncing_with_loss) (q := view (OpenLaw.row PySem.Challenge.rw_motionsheld_k03_bouncing_with_loss).prog [62]) (H := Law03.hk) (ob := Law03.ob) (M := 4000) (loose := Law03.loose) (d := HandSHeadRun.topDef (OpenLaw.row PySem.Challenge.rw_motionsheld_k03_bouncing_with_loss).prog 62) (kwd := []) Law03.ob_eq
    (by kernel_rfl) (fun s => by kernel_rfl) Law03.run (by kernel_rfl) (by kernel_rfl) (by kernel_rfl) (by rfl) (by first | assumption | decide +kernel) (by decide +kernel) ⟨rfl, rfl, rfl, rfl, rfl, by decide +kernel⟩ ?hw ?hc
  case hw => w_witness2
  case hc =>
    exact Rk.law_walk (l := PySem.Challenge.rw_motionsheld_k03_bouncing_with_loss) (n := 63) (dep := Law03.dep) (j := 45) (f := Law03.f45) (k := Law03.kd) rfl (by decide) (by kernel_rfl) ⟨rfl, by decide, by decide⟩ Law03.chk Law03.bds rfl rfl (by kernel_rfl) Law03.holds
