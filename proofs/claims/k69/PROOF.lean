import PyProof.Rows.All
import Wide.All
import OpenK.AllK
import Wide.FinOn
import PySem.Challenge.RW_rimtrees_k69_errors_of_chords
import KE.LtData
import KE.DataCmp
import KE.DataEq
import KE.DataMinMax
import KE.SortData
import HandS.Base
import HandS.Call
import HandS.List
import HandS.Comp
import HandS.Dict
import HandS.Iter
import HandS.Text
import HandS.Exc
import HandS.ExcOwn
import HandS.Wide
import HandS.TryMany
import HandS.Words
import HandS.Defaults
import HandS.Lambda
import HandS.TupAny
import HandS.TupMul
import HandS.TupLen
import HandS.Zip
import HandS.Deep
import HandS.Strs
import PyProof.SeqIndex
import PyProof.FactsAll.tuple_3
import KE.KExcSuper
import HandS.Star
import HandS.DictComp
import KE.KDictSum
import KE.KDictCopyH
import KE.KDictWalk
import HandS.Conv
import PyProof.ReprRoads
import HandS.Style
import PyProof.CallFns
import KE.GoesEnum
import KE.KDictDisplayH
import KE.KDictPairs
import HandS.ExcField
import KE.KExcIs
import KE.KStateDown
import HandS.Ends
import HandS.More
import HandS.WordsExc
import HandS.Head0
import HandS.Head1
import HandS.Head2
import HandS.HeadEnd
import HandS.HeadHook1
import HandS.HeadHook2
import HandS.HeadNt
import HandS.HeadHook4
set_option Elab.async false
set_option linter.all false
set_option maxRecDepth 100000
set_option maxHeartbeats 0
/-! The E layer, part A: plain values, a small syntax of the Python in hand, and its evaluator. -/
namespace EV
open PySem

abbrev Key := L2.Key
/-- values: tuples are trees; lists and dicts are places of the store; rol, rot: a list, a tuple that is only read; fn: a def of the text -/
inductive PV where
  | non | bl (b : Bool) | int (i : Int) | str (x : Str) | tup (l : List PV) | rot (l : List PV) | rol (l : List PV) | loc (n : Nat) | fn (n : Nat)
/-- what a place holds -/
inductive SO where
  | lst (l : List PV) | dk (l : List (Key × PV)) | dt (l : List (List Key × PV))
abbrev Store := List SO
/-- a value in hand: also a list or a dict that no place holds so far -/
inductive AV where
  | v (p : PV) | l (items : List PV) | dk (kvs : List (Key × PV)) | dt (kvs : List (List Key × PV))
/-- an error of the text: its class, what it keeps -/
structure Exn where
  c : Nat
  k : Option PV
inductive Res (α : Type) where
  | ok (a : α) (S : Store) | err (e : Exn) (S : Store) | bad
abbrev Env := List (Option PV)
inductive SRes where
  | next (env : Env) (S : Store) | brk (env : Env) (S : Store) | cont (env : Env) (S : Store)
  | ret (p : PV) (S : Store) | err (e : Exn) (env : Env) (S : Store) | bad
section
variable {α β : Type}
def Res.bind : Res α → (α → Store → Res β) → Res β
  | .ok a S, f => f a S
  | .err e S, _ => .err e S
  | .bad, _ => .bad
/-- out of a comprehension nothing is raised -/
def Res.calm : Res α → Res α
  | .ok a S => .ok a S
  | _ => .bad
def Res.andS : Res α → Env → (α → Store → SRes) → SRes
  | .ok a S, _, f => f a S
  | .err e S, env, _ => .err e env S
  | .bad, _, _ => .bad
def orBad (S : Store) : Option α → Res α
  | some a => .ok a S
  | none => .bad
/-- of a bool, of an int alone -/
def onBl (x : AV) (f : Bool → Store → Res α) (S : Store) : Res α := match x with
  | .v (.bl c) => f c S
  | _ => .bad
def onInt (x : AV) (f : Int → Store → Res α) (S : Store) : Res α := match x with
  | .v (.int c) => f c S
  | _ => .bad
end
/-- a value in hand is laid into the store -/
def keep : AV → Store → Res PV
  | .v p, S => .ok p S
  | .l xs, S => .ok (.loc S.length) (S ++ [.lst xs])
  | .dk ks, S => .ok (.loc S.length) (S ++ [.dk ks])
  | .dt ks, S => .ok (.loc S.length) (S ++ [.dt ks])

def mapO {α β : Type} (f : α → Option β) : List α → Option (List β)
  | [] => some []
  | x :: r => match f x with
    | some y => (match mapO f r with
      | some ys => some (y :: ys)
      | none => none)
    | none => none
/-- a value as data, lists and tuples to the depth of the fuel -/
def dat (S : Store) : Nat → PV → Option PyData
  | _, .non => some .none
  | _, .bl b => some (.bool b)
  | _, .int i => some (.int i)
  | _, .str x => some (.str x)
  | k + 1, .tup l => (mapO (dat S k) l).map .tuple
  | k + 1, .rot l => (mapO (dat S k) l).map .tuple
  | k + 1, .rol l => (mapO (dat S k) l).map .list
  | k + 1, .loc n => (match S[n]? with
    | some (.lst l) => (mapO (dat S k) l).map .list
    | _ => none)
  | _, _ => none
abbrev deep : Nat := 12
def datA (S : Store) : AV → Option PyData
  | .v p => dat S deep p
  | .l xs => (mapO (dat S deep) xs).map .list
  | _ => none
/-- the items of a list, a tuple in hand -/
def listOf (S : Store) : AV → Option (List PV)
  | .v (.rol l) => some l
  | .v (.loc n) => (match S[n]? with
    | some (.lst l) => some l
    | _ => none)
  | .l xs => some xs
  | _ => none
/-- .. of a list that may be written -/
def lstOf (S : Store) : AV → Option (List PV)
  | .v (.loc n) => (match S[n]? with
    | some (.lst l) => some l
    | _ => none)
  | .l xs => some xs
  | _ => none
def tupOf : AV → Option (List PV)
  | .v (.tup l) => some l
  | .v (.rot l) => some l
  | _ => none
def dkOf (S : Store) : AV → Option (List (Key × PV))
  | .v (.loc n) => (match S[n]? with
    | some (.dk kvs) => some kvs
    | _ => none)
  | .dk kvs => some kvs
  | _ => none
def dtOf (S : Store) : AV → Option (List (List Key × PV))
  | .v (.loc n) => (match S[n]? with
    | some (.dt kvs) => some kvs
    | _ => none)
  | .dt kvs => some kvs
  | _ => none

/-- the items of a list or a tuple -/
def seqOf (S : Store) (a : AV) : Option (List PV) := match tupOf a with
  | some l => some l
  | none => listOf S a
def truth (S : Store) (a : AV) : Option Bool := match a with
  | .v .non => some false
  | .v (.bl b) => some b
  | .v (.int i) => some (decide (i ≠ 0))
  | .v (.str x) => if x.length ≤ 1000000 then some (decide (x.length ≠ 0)) else none
  | a => match seqOf S a with
    | some l => some (!l.isEmpty)
    | none => (dkOf S a).map fun l => !l.isEmpty

def eqA (S : Store) (a b : AV) : Option Bool :=
  match datA S a, datA S b with
  | some d, some e => if (SeqAt.shaped d && SeqAt.shaped e) = true then some (PyData.eqv d e) else none
  | _, _ => none
def cmpOk (d e : PyData) : Bool := PySem.W.alike d e && (match d with | .none => false | _ => true) && decide (d.depth ≤ 60)
def ltA (S : Store) (a b : AV) : Option Bool :=
  match datA S a, datA S b with
  | some d, some e => if cmpOk d e = true then some (PySem.W.dataLt d e) else none
  | _, _ => none
def leA (S : Store) (a b : AV) : Option Bool :=
  match datA S a, datA S b with
  | some d, some e => if cmpOk d e = true then some (!PySem.W.dataLt e d) else none
  | _, _ => none
def gtA (S : Store) (a b : AV) : Option Bool :=
  match datA S a, datA S b with
  | some d, some e => if cmpOk d e = true then some (PySem.W.dataLt e d) else none
  | _, _ => none
def geA (S : Store) (a b : AV) : Option Bool :=
  match datA S a, datA S b with
  | some d, some e => if cmpOk d e = true then some (!PySem.W.dataLt d e) else none
  | _, _ => none

/-- a key of a dict -/
def keyOf : PV → Option Key
  | .int i => some (.inl i)
  | .str x => some (.inr x)
  | _ => none
def keyP : Key → PV
  | .inl i => .int i
  | .inr x => .str x
def keysOf : PV → Option (List Key)
  | .tup l => mapO keyOf l
  | _ => none
def keysP (ks : List Key) : PV := .tup (ks.map keyP)
section
variable {κ : Type} [DecidableEq κ]
def getK (k : κ) (l : List (κ × PV)) : Option PV := (l.find? fun q => decide (q.1 = k)).map (·.2)
/-- in its place, or at the end -/
def setK (k : κ) (v : PV) (l : List (κ × PV)) : List (κ × PV) :=
  if (l.any fun q => decide (q.1 = k)) = true then l.map (fun q => if q.1 = k then (q.1, v) else q) else l ++ [(k, v)]
end
/-- what a dict holds under a key: some none, if nothing -/
def dGet (S : Store) (d : AV) (k : PV) : Option (Option PV) :=
  match keyOf k, dkOf S d with
  | some k, some kvs => some (getK k kvs)
  | _, _ => match keysOf k, dtOf S d with
    | some k, some kvs => some (getK k kvs)
    | _, _ => none

/-- x in a list, a tuple, a dict -/
def inSeq (S : Store) (x : AV) (l : List PV) : Option Bool := match datA S x, mapO (dat S deep) l with
  | some d, some ds => if (PyData.plain d && PyData.plainAll ds && decide (PyData.depthAll ds ≤ 60) && decide (d.depth ≤ 60)) = true then some (ds.any fun y => PyData.eqv y d) else none
  | _, _ => none
def inA (S : Store) (x c : AV) : Option Bool := match seqOf S c with
  | some l => inSeq S x l
  | none => match x with
    | .v k => (dGet S c k).map (·.isSome)
    | _ => none

inductive BOp where
  | add | sub | mul | fdiv | mod | pow | shl | shr | band | bor | bxor
  deriving DecidableEq
inductive COp where
  | eq | ne | lt | le | gt | ge | isin | notin | isN | notN
  deriving DecidableEq
def rep {α : Type} (l : List α) (n : Nat) : List α := (List.replicate n l).flatten
def fitsM (i j : Int) : Bool := decide (i.natAbs.log2 + j.natAbs.log2 < 1000000)
def fitsD (j : Int) : Bool := decide (0 < j) && decide (j.natAbs.log2 < 9000)
def fitsP (i j : Int) : Bool := decide (0 ≤ j) && decide (j ≤ 1000000) && decide (i.natAbs < 2 ^ 64)
def biInt (o : BOp) (i j : Int) : Option AV := match o with
  | .add => some (.v (.int (i + j)))
  | .sub => some (.v (.int (i - j)))
  | .mul => if fitsM i j = true then some (.v (.int (i * j))) else none
  | .fdiv => if fitsD j = true then some (.v (.int (i / j))) else if j ≠ 0 ∧ j.natAbs < 1073741824 then some (.v (.int (i.fdiv j))) else none
  | .mod => if 0 < j then some (.v (.int (i % j))) else none
  | .pow => if fitsP i j = true then some (.v (.int (i ^ j.toNat))) else none
  | .shl => if fitsP i j = true then some (.v (.int (i * 2 ^ j.toNat))) else none
  | .shr => if 0 ≤ j then some (.v (.int (i / 2 ^ j.toNat))) else none
  | .band => some (.v (.int (Builtin.bitAnd i j)))
  | .bor => some (.v (.int (Builtin.bitOr i j)))
  | .bxor => some (.v (.int (Builtin.bitXor i j)))
abbrev big : Nat := 1000000
/-- t + u: one of them itself, if the other is empty -/
def catV (p : PV) (x : List PV) (q : PV) (y : List PV) : PV := if x.isEmpty = true then q else if y.isEmpty = true then p else .tup (x ++ y)
def biOp (S : Store) (o : BOp) (a b : AV) : Option AV :=
  match a, b with
  | .v (.int i), .v (.int j) => biInt o i j
  | .v (.str x), .v (.str y) => if o = .add ∧ x.length + y.length ≤ big then some (.v (.str (x ++ y))) else none
  | .v (.tup x), .v (.tup y) => if o = .add ∧ x.length + y.length ≤ big then some (.v (.tup (x ++ y))) else none
  | .v (.rot x), .v (.rot y) => if o = .add ∧ x.length + y.length ≤ big then some (.v (catV (.rot x) x (.rot y) y)) else none
  | .v (.rot x), .v (.tup y) => if o = .add ∧ x.length + y.length ≤ big then some (.v (catV (.rot x) x (.tup y) y)) else none
  | .v (.tup x), .v (.rot y) => if o = .add ∧ x.length + y.length ≤ big then some (.v (catV (.tup x) x (.rot y) y)) else none
  | .v (.tup x), .v (.int j) => if o = .mul ∧ x ≠ [] ∧ 2 ≤ j ∧ x.length * j.toNat ≤ 1000000 then some (.v (.tup (rep x j.toNat))) else none
  | a, .v (.int j) => (match lstOf S a with
    | some x => if o = .mul ∧ -(2 ^ 63) ≤ j ∧ j < 2 ^ 63 ∧ x.length * j.toNat ≤ big then some (.l (rep x j.toNat)) else none
    | none => none)
  | a, b => (match lstOf S a, lstOf S b with
    | some x, some y => if o = .add ∧ x.length + y.length ≤ big then some (.l (x ++ y)) else none
    | _, _ => none)
def isNon : AV → Bool
  | .v .non => true
  | _ => false
def coOp (S : Store) (o : COp) (a b : AV) : Option Bool :=
  match o with
  | .isN => (match b with | .v .non => some (isNon a) | _ => none)
  | .notN => (match b with | .v .non => some (!isNon a) | _ => none)
  | .isin => inA S a b
  | .notin => (inA S a b).map (!·)
  | .eq => (match a, b with | .v (.int i), .v (.int j) => some (decide (i = j)) | a, b => eqA S a b)
  | .ne => (match a, b with | .v (.int i), .v (.int j) => some (!decide (i = j)) | a, b => (eqA S a b).map (!·))
  | .lt => (match a, b with | .v (.int i), .v (.int j) => some (decide (i < j)) | a, b => ltA S a b)
  | .le => (match a, b with | .v (.int i), .v (.int j) => some (decide (i ≤ j)) | a, b => leA S a b)
  | .gt => (match a, b with | .v (.int i), .v (.int j) => some (decide (j < i)) | a, b => gtA S a b)
  | .ge => (match a, b with | .v (.int i), .v (.int j) => some (decide (j ≤ i)) | a, b => geA S a b)

/-- a[i] -/
def atA {α : Type} (xs : List α) (i : Int) : Option α := L2.atI xs i
def ixOp (S : Store) (a b : AV) : Option PV := match b with
  | .v k => match seqOf S a with
    | some l => (match k with | .int i => atA l i | _ => none)
    | none => (dGet S a k).join
  | _ => none
/-- .. of a list, a dict -/
def ixP (S : Store) (a : AV) (k : PV) : Option PV := match tupOf a with
  | some _ => none
  | none => ixOp S a (.v k)
def cut {α : Type} (xs : List α) (lo hi : Option Int) : List α := (xs.drop (HT.sIx xs.length 0 lo)).take (HT.sIx xs.length xs.length hi - HT.sIx xs.length 0 lo)

/-! ### the syntax -/
inductive Ty where
  | int | bool | tuple | list | dict | str
  deriving DecidableEq
/-- a built-in function of values in hand -/
inductive BF where
  | len | abs | max2 | min2 | int | all | any | sum | sorted | tuple | tupS | list | maxL | minL | repr | isi (t : Ty)
  deriving DecidableEq
/-- a method -/
inductive MF where
  | append | pop | popAt | extend | update | index | indexT | indexL | indexU | countT | get1 | get2 | bits
  deriving DecidableEq
mutual
inductive Ex where
  | var (i : Nat) | cst (p : PV) | glo (k : Nat)
  | tup (es : Exs) | tuq (es : Exs) | lst (es : Exs) | dnw (t : Bool) | dct (es : Exs) | dcu (es : Exs)
  | bin (o : BOp) (a b : Ex) | neg (a : Ex) | inv (a : Ex) | no (a : Ex) | and (a b : Ex) | or (a b : Ex)
  | cmp (o : COp) (a b : Ex) | chn (o p : COp) (a b c : Ex) | ifx (c a b : Ex)
  | ix (a b : Ex) | sl (a : Ex) (lo hi : Exo)
  | call (f : Nat) (es : Exs) | cav (i : Nat) (es : Exs) | lam (g : Nat) (b : Ex) | thk | fnv (i : Nat)
  | bf1 (f : BF) (a : Ex) | bf2 (f : BF) (a b : Ex) | mt (m : MF) (o : Ex) (es : Exs) | mtk (m : MF) (o : Ex) (es : Exs) | revL (a : Ex)
  | lc (own : List (Str × Nat)) (tg : Tg) (it : Ix) (c : Exo) (e : Ex) | dead
  | lc2 (own : List (Str × Nat)) (tg : Tg) (it : Ix) (c : Exo) (tg1 : Tg) (it1 : Ix) (c1 : Exo) (e : Ex)
  | rgl (t : Bool) (a : Exo) (b : Ex)
  | dc (own : List (Str × Nat)) (tg : Tg) (it : Ix) (c : Exo) (k v : Ex)
  | dcT (own : List (Str × Nat)) (tg : Tg) (it : Ix) (c : Exo) (k v : Ex)
inductive Exs where
  | nil | one (e : Ex) (r : Exs) | star (e : Ex) (r : Exs)
inductive Exo where
  | no | so (e : Ex)
/-- what is walked -/
inductive Ix where
  | seq (e : Ex) | rng (a : Exo) (b : Ex) | enum (e : Ex) | zip (a b : Ex)
/-- a target -/
inductive Tg where
  | nm (i : Nat) | tp (ts : Tgs) | sub (o i : Ex)
inductive Tgs where
  | nil | cons (t : Tg) (r : Tgs)
end
/-- what an except suite hands back -/
inductive Hx where
  | cst (p : PV) | rep (pre : Str) (attr : Str) | fld (attr : Str) | tup (p : PV) (attr : Str) | isf (b : String) (x y : Int) (attr : Str) | isb (b : String)
/-- a constant of a text -/
def PV.flat : PV → Bool
  | .int _ => true | .str _ => true | .bl _ => true | .non => true
  | _ => false
mutual
inductive Sx where
  | ex (e : Ex) | set (t : Tg) (e : Ex) | par (is : List Nat) (es : Exs)
  | aug (i : Nat) (o : BOp) (e : Ex) | augS (o i : Ex) (op : BOp) (e : Ex)
  | ret (e : Exo) | ife (c : Ex) (a b : Sxs) | whl (c : Ex) (b : Sxs) | for_ (tg : Tg) (it : Ix) (b : Sxs) | brk | cnt | pass
  | rai (c : Nat) (e : Exo) | tr (b : Sxs) (hs : List (Nat × Hx)) | dead
inductive Sxs where
  | nil | cons (s : Sx) (r : Sxs)
end

/-- lists, for printed trees -/
def xs : List Ex → Exs
  | [] => .nil
  | e :: r => .one e (xs r)
def ss : List Sx → Sxs
  | [] => .nil
  | e :: r => .cons e (ss r)
def ts : List Tg → Tgs
  | [] => .nil
  | e :: r => .cons e (ts r)
/-! ### the evaluator -/
/-- what the evaluator leans on: calls, a call with a thunk, the thunk in hand, what an except suite gives -/
structure Ev where
  call : Nat → List PV → Store → Res PV
  callT : Nat → ((Nat → List PV → Store → Res PV) → Store → Res AV) → Store → Res PV
  thk : Option (Store → Res PV)
  hand : Exn → List (Nat × Hx) → Store → Option (Option PV)
  gd : Bool
  gl : List PV
abbrev fuel : Nat := 1000000
/-- where an iterator's items stand -/
inductive Src where
  | tup (l : List PV) | fr (l : List PV) | live (n : Nat)
inductive It where
  | src (s : Src) | rng (lo : Int) (n : Nat) | enum (s : Src) | zip (a b : Src)
def srcAt (S : Store) : Src → Nat → Option (Option PV)
  | .tup l, i => some l[i]?
  | .fr l, i => some l[i]?
  | .live n, i => (listOf S (.v (.loc n))).map (·[i]?)
/-- the i-th item (some none: the end) -/
def itAt (S : Store) : It → Nat → Option (Option PV)
  | .src s, i => srcAt S s i
  | .rng lo n, i => if i < n then some (some (.int (lo + i))) else some none
  | .enum s, i => (srcAt S s i).map (·.map fun p => .tup [.int i, p])
  | .zip a b, i => match srcAt S a i, srcAt S b i with
    | some (some x), some (some y) => some (some (.tup [x, y]))
    | some none, some _ => some none
    | some (some _), some none => some none
    | _, _ => none
def srcOf (S : Store) : AV → Option Src
  | .v (.tup l) => some (.tup l)
  | .v (.rot l) => some (.tup l)
  | .l xs => some (.fr xs)
  | .v (.rol xs) => some (.fr xs)
  | .v (.loc n) => (listOf S (.v (.loc n))).map fun _ => .live n
  | _ => none
def isT : Src → Bool
  | .tup _ => true
  | _ => false
/-- two lists or two tuples -/
def zipOf (S : Store) (x y : AV) : Option It := match srcOf S x, srcOf S y with
  | some s, some t => if (isT s == isT t) = true then some (.zip s t) else none
  | _, _ => none
def forL (body : PV → Env → Store → SRes) (it : It) : Nat → Nat → Env → Store → SRes
  | 0, _, _, _ => .bad
  | f + 1, i, env, S => match itAt S it i with
    | none => .bad
    | some none => .next env S
    | some (some p) => match body p env S with
      | .next env' S' => forL body it f (i + 1) env' S'
      | .cont env' S' => forL body it f (i + 1) env' S'
      | .brk env' S' => .next env' S'
      | .ret p S => .ret p S
      | .err e env S => .err e env S
      | .bad => .bad
def whlL (test : Env → Store → Res Bool) (body : Env → Store → SRes) : Nat → Env → Store → SRes
  | 0, _, _ => .bad
  | f + 1, env, S => (test env S).andS env fun b S1 => if b = true then (match body env S1 with
      | .next env' S' => whlL test body f env' S'
      | .cont env' S' => whlL test body f env' S'
      | .brk env' S' => .next env' S'
      | .ret p S => .ret p S
      | .err e env S => .err e env S
      | .bad => .bad) else .next env S1
mutual
def slots : Tg → List Nat
  | .nm i => [i]
  | .tp ts => slotsL ts
  | .sub _ _ => []
def slotsL : Tgs → List Nat
  | .nil => []
  | .cons t r => slots t ++ slotsL r
end
def lcL (body : PV → Store → Res (Option PV)) (it : It) : Nat → Nat → Store → Res (List PV)
  | 0, _, _ => .bad
  | f + 1, i, S => match itAt S it i with
    | none => .bad
    | some none => .ok [] S
    | some (some p) => (body p S).bind fun o S1 => (lcL body it f (i + 1) S1).bind fun r S2 => match o with
      | some x => .ok (x :: r) S2
      | none => .ok r S2
def lcN (body : PV → Store → Res (List PV)) (it : It) : Nat → Nat → Store → Res (List PV)
  | 0, _, _ => .bad
  | f + 1, i, S => match itAt S it i with
    | none => .bad
    | some none => .ok [] S
    | some (some p) => (body p S).bind fun o S1 => (lcN body it f (i + 1) S1).bind fun r S2 => .ok (o ++ r) S2
def noFrS : Src → Bool
  | .fr _ => false
  | _ => true
/-- no list that no place holds -/
def noFr : It → Bool
  | .src s => noFrS s
  | .rng _ _ => true
  | .enum s => noFrS s
  | .zip s t => noFrS s && noFrS t
def shortL (l : List PV) (S : Store) : Res AV := if l.length ≤ 1000000 then .ok (.l l) S else .bad
def dcL (body : PV → Store → Res (Option (PV × PV))) (it : It) : Nat → Nat → List (Key × PV) → Store → Res (List (Key × PV))
  | 0, _, _, _ => .bad
  | f + 1, i, kvs, S => match itAt S it i with
    | none => .bad
    | some none => .ok kvs S
    | some (some p) => (body p S).bind fun o S1 => match o with
      | none => dcL body it f (i + 1) kvs S1
      | some q => match keyOf q.1 with
        | some k => dcL body it f (i + 1) (setK k q.2 kvs) S1
        | none => .bad
def dcLT (body : PV → Store → Res (Option (PV × PV))) (it : It) : Nat → Nat → List (List Key × PV) → Store → Res (List (List Key × PV))
  | 0, _, _, _ => .bad
  | f + 1, i, kvs, S => match itAt S it i with
    | none => .bad
    | some none => .ok kvs S
    | some (some p) => (body p S).bind fun o S1 => match o with
      | none => dcLT body it f (i + 1) kvs S1
      | some q => match keysOf q.1 with
        | some k => dcLT body it f (i + 1) (setK k q.2 kvs) S1
        | none => .bad
def wipe (env : Env) : List Nat → Env
  | [] => env
  | v :: vs => (wipe env vs).set v none

def asTup (n : Nat) (p : PV) (S : Store) : Res (List PV) := match tupOf (.v p) with
  | some l => if l.length = n then .ok l S else .bad
  | none => .bad
def lenT : Tgs → Nat
  | .nil => 0
  | .cons _ r => lenT r + 1
def tyIs (S : Store) (t : Ty) : AV → Option Bool
  | .v .non => some false
  | .v (.bl _) => some (match t with | .bool => true | .int => true | _ => false)
  | .v (.int _) => some (match t with | .int => true | _ => false)
  | .v (.str _) => some (match t with | .str => true | _ => false)
  | .v (.tup _) => some (match t with | .tuple => true | _ => false)
  | .v (.rot _) => some (match t with | .tuple => true | _ => false)
  | .v (.loc n) => (match S[n]? with
    | some (.lst _) => some (match t with | .list => true | _ => false)
    | some (.dk _) => some (match t with | .dict => true | _ => false)
    | some (.dt _) => some (match t with | .dict => true | _ => false)
    | _ => none)
  | _ => none
def lenA (S : Store) (a : AV) : Option Nat := match a with
  | .v (.str x) => if x.length ≤ 1000000 then some x.length else none
  | a => match seqOf S a with
    | some l => some l.length
    | none => match dkOf S a with
      | some l => some l.length
      | none => (dtOf S a).map List.length
def bools : List PV → Option (List Bool)
  | [] => some []
  | .bl b :: r => (bools r).map (b :: ·)
  | _ :: _ => none
def intsO : List PV → Option (List Int)
  | [] => some []
  | .int b :: r => (intsO r).map (b :: ·)
  | _ :: _ => none
/-- data that can be put in order -/
def ordOk (ds : List PyData) : Bool := (ds.all fun d => ds.all fun e => PySem.W.alike d e) && ds.all fun d => decide (d.depth ≤ 60)
def leP (S : Store) (a b : PV) : Bool := match dat S deep a, dat S deep b with
  | some d, some e => !PySem.W.dataLt e d
  | _, _ => false
def sortableD (ds : List PyData) : Bool := (ds.all fun d => match d with | .tuple _ => true | _ => false) || ds.all fun d => match d with | .none => false | .tuple _ => false | _ => true
/-- by insertion, the first of equals first -/
def insL {α : Type} (le : α → α → Bool) (a : α) : List α → List α
  | [] => [a]
  | b :: r => if le a b = true then a :: b :: r else b :: insL le a r
def sortL {α : Type} (le : α → α → Bool) : List α → List α
  | [] => []
  | a :: r => insL le a (sortL le r)
def leQ (S : Store) : PV → PV → Bool := PySem.W.dataLe false fun p => (dat S deep p).getD .none
/-- sorted; the order of alike data -/
def sortP (S : Store) (l : List PV) : Option (List PV) := match mapO (dat S deep) l with
  | some ds => if ordOk ds = true ∧ sortableD ds = true ∧ l.length ≤ 1000000 then some (sortL (leQ S) l) else none
  | none => none
mutual
/-- told by its data -/
def plainP : PV → Bool
  | .tup l => plainL l
  | .rot _ => false
  | .rol _ => false
  | .loc _ => false
  | .fn _ => false
  | _ => true
def plainL : List PV → Bool
  | [] => true
  | p :: r => plainP p && plainL r
end
/-- the first of the least, of the greatest -/
def datD (S : Store) (p : PV) : PyData := (dat S deep p).getD .none
def betQ (S : Store) (mx : Bool) (a y : PV) : Bool := if mx = true then PySem.W.dataLt (datD S a) (datD S y) else PySem.W.dataLt (datD S y) (datD S a)
def bestL (S : Store) (mx : Bool) (l : List PV) : Option PV := match l with
  | [] => none
  | p :: r => (match mapO (dat S deep) (p :: r) with
    | some ds => if (ordOk ds && ds.all (fun d => match d with | .none => false | _ => true)) = true then some (r.foldl (fun a y => if betQ S mx a y = true then y else a) p) else none
    | none => none)
def isSeqD : PyData → Bool
  | .list _ => true
  | .tuple _ => true
  | _ => false
/-- a dict of keys and plain scalars as data -/
def keyD : Key → PyData
  | .inl i => .int i
  | .inr x => .str x
def kvsD {κ : Type} (kf : κ → PyData) : List (κ × PV) → Option (List (PyData × PyData))
  | [] => some []
  | kv :: r => match dat [] 0 kv.2, kvsD kf r with
    | some d, some ds => some ((kf kv.1, d) :: ds)
    | _, _ => none
def dctD (S : Store) (a : AV) : Option PyData := match dkOf S a with
  | some l => (kvsD keyD l).map .dict
  | none => (match dtOf S a with
    | some l => (kvsD (fun k => .tuple (k.map keyD)) l).map .dict
    | none => none)
/-- repr -/
def reprA (gd : Bool) (S : Store) (a : AV) : Option Str := match datA S a with
  | some d => if ((d.showable && !d.hasDict) && (decide (d.shown.length ≤ 1000000) && decide (d.depth ≤ 60)) && (gd || !isSeqD d)) = true then some d.shown else none
  | none => match dctD S a with
    | some d => if (gd && (d.showable && (decide (d.shown.length ≤ 1000000) && decide (d.depth ≤ 60)))) = true then some d.shown else none
    | none => none
/-- what is walked of a list, a tuple, a dict with tuples as keys -/
def itemsA (S : Store) (a : AV) : Option (List PV) := match seqOf S a with
  | some l => some l
  | none => (dtOf S a).map fun kvs => kvs.map fun q => keysP q.1
def fn1 (gd : Bool) (S : Store) (f : BF) (a : AV) : Option AV := match f with
  | .repr => (reprA gd S a).map fun x => .v (.str x)
  | .len => (lenA S a).map fun n : Nat => AV.v (.int (n : Int))
  | .abs => (match a with | .v (.int i) => some (.v (.int (if i < 0 then -i else i))) | _ => none)
  | .int => (match a with | .v (.int i) => some (.v (.int i)) | .v (.bl b) => some (.v (.int (if b then 1 else 0))) | _ => none)
  | .all => ((listOf S a).bind bools).map fun bs => .v (.bl (bs.all id))
  | .any => ((listOf S a).bind bools).map fun bs => .v (.bl (bs.any id))
  | .sum => ((listOf S a).bind intsO).map fun ns => .v (.int ns.sum)
  | .tuple => (match tupOf a with | some _ => some a | none => (listOf S a).map fun l => .v (.tup l))
  | .tupS => (listOf S a).map fun l => .v (.rot l)
  | .list => (seqOf S a).map .l
  | .sorted => ((itemsA S a).bind (sortP S)).map .l
  | .maxL => ((seqOf S a).bind (bestL S true)).map .v
  | .minL => ((seqOf S a).bind (bestL S false)).map .v
  | .isi t => (tyIs S t a).map fun b => .v (.bl b)
  | _ => none
def fn2 (S : Store) (f : BF) (a b : AV) : Option AV := match a, b with
  | .v (.int i), .v (.int j) => (match f with
    | .max2 => some (.v (.int (if j > i then j else i)))
    | .min2 => some (.v (.int (if j < i then j else i)))
    | _ => none)
  | _, _ => none
/-- the first place of equal data -/
def idxP (S : Store) (p : PV) (l : List PV) : Option Nat := match dat S deep p, mapO (dat S deep) l with
  | some d, some ds => if (SeqAt.shaped d && SeqAt.shaped (.list ds)) = true then ds.findIdx? (fun y => PyData.eqv y d) else none
  | _, _ => none
/-- a tuple whose object is known -/
def rotOf : AV → Option (List PV)
  | .v (.rot l) => some l
  | _ => none
/-- o is what the method wants -/
def recv (S : Store) (m : MF) (o : AV) : Bool := match m with
  | .append | .pop | .popAt | .extend | .indexL => (lstOf S o).isSome
  | .index => (rotOf o).isSome || (lstOf S o).isSome
  | .update => (dkOf S o).isSome
  | .get1 | .get2 => (dkOf S o).isSome || (dtOf S o).isSome
  | .indexT | .indexU | .countT => (rotOf o).isSome
  | .bits => (match o with | .v (.int _) => true | _ => false)
def isLoc : AV → Option Nat
  | .v (.loc n) => some n
  | _ => none
/-! o.m(args): what comes back, and the place that changes -/
def mAppend (S : Store) (o : AV) (xs : List AV) : Option (AV × Store) := match xs with
  | [.v p] => (match isLoc o, lstOf S o with
    | some n, some l => if l.length < 1000000 then some (.v .non, S.set n (.lst (l ++ [p]))) else none
    | _, _ => none)
  | _ => none
def mPop (S : Store) (o : AV) (xs : List AV) : Option (AV × Store) := match xs with
  | [] => (match isLoc o, lstOf S o with
    | some n, some l => (match l[l.length - 1]? with | some p => some (.v p, S.set n (.lst l.dropLast)) | none => none)
    | _, _ => none)
  | _ => none
def mPopAt (S : Store) (o : AV) (xs : List AV) : Option (AV × Store) := match xs with
  | [.v (.int i)] => (match isLoc o, lstOf S o with
    | some n, some l => if (decide (0 ≤ i) && decide (i < 1000000)) = true then (match l[i.toNat]? with | some p => some (.v p, S.set n (.lst (l.eraseIdx i.toNat))) | none => none) else none
    | _, _ => none)
  | _ => none
def mExtend (S : Store) (o : AV) (xs : List AV) : Option (AV × Store) := match xs with
  | [a] => (match isLoc o, lstOf S o, lstOf S a with
    | some n, some l, some xs => if l.length + xs.length ≤ 1000000 then some (.v .non, S.set n (.lst (l ++ xs))) else none
    | _, _, _ => none)
  | _ => none
def mUpdate (S : Store) (o : AV) (xs : List AV) : Option (AV × Store) := match xs with
  | [.dk more] => (match isLoc o, dkOf S o with
    | some n, some kvs => if kvs.length + more.length ≤ 1000000 then some (.v .non, S.set n (.dk (more.foldl (fun acc kv => setK kv.1 kv.2 acc) kvs))) else none
    | _, _ => none)
  | _ => none
def mGet1 (S : Store) (o : AV) (xs : List AV) : Option (AV × Store) := match xs with
  | [.v k] => (dGet S o k).map fun r => (.v (r.getD .non), S)
  | _ => none
def mGet2 (S : Store) (o : AV) (xs : List AV) : Option (AV × Store) := match xs with
  | [.v k, .v p] => (dGet S o k).map fun r => (.v (r.getD p), S)
  | _ => none
def mIndex (S : Store) (l : Option (List PV)) (xs : List AV) : Option (AV × Store) := match xs with
  | [.v p] => (l.bind (idxP S p)).map fun i : Nat => (AV.v (.int (i : Int)), S)
  | _ => none
/-- how many are equal -/
def cntP (S : Store) (p : PV) (l : List PV) : Option Nat := match dat S deep p, mapO (dat S deep) l with
  | some d, some ds => if (SeqAt.shaped d && SeqAt.shaped (.list ds)) = true then some (ds.countP fun y => PyData.eqv y d) else none
  | _, _ => none
def mCount (S : Store) (l : Option (List PV)) (xs : List AV) : Option (AV × Store) := match xs with
  | [.v p] => (l.bind (cntP S p)).map fun i : Nat => (AV.v (.int (i : Int)), S)
  | _ => none
/-- the first place of equal data from k on -/
def idxU (S : Store) (p : PV) (k : Nat) (l : List PV) : Option Nat := match dat S deep p, mapO (dat S deep) l with
  | some d, some ds => if (SeqAt.shaped d && SeqAt.shaped (.list ds)) = true then ((ds.drop k).findIdx? (fun y => PyData.eqv y d)).map (k + ·) else none
  | _, _ => none
def mIndexU (S : Store) (l : Option (List PV)) (xs : List AV) : Option (AV × Store) := match xs with
  | [.v p, .v (.int k)] => if 0 ≤ k then (l.bind (idxU S p k.toNat)).map fun i : Nat => (AV.v (.int (i : Int)), S) else none
  | _ => none
def mth (S : Store) (m : MF) (o : AV) (xs : List AV) : Option (AV × Store) := match m with
  | .append => mAppend S o xs
  | .pop => mPop S o xs
  | .popAt => mPopAt S o xs
  | .extend => mExtend S o xs
  | .update => mUpdate S o xs
  | .get1 => mGet1 S o xs
  | .get2 => mGet2 S o xs
  | .index => mIndex S (match rotOf o with | some l => some l | none => lstOf S o) xs
  | .indexL => mIndex S (lstOf S o) xs
  | .indexT => mIndex S (rotOf o) xs
  | .indexU => mIndexU S (rotOf o) xs
  | .countT => mCount S (rotOf o) xs
  | .bits => (match o, xs with | .v (.int i), [] => some (.v (.int (Builtin.Int.intBits i)), S) | _, _ => none)
/-- o[i] = v -/
def putA (S : Store) (o : AV) (i v : PV) : Option Store := match o with
  | .v (.loc n) => (match S[n]? with
    | some (.lst l) => (match i with | .int k => (L2.ixN l.length k).map fun j => S.set n (.lst (l.set j v)) | _ => none)
    | some (.dk kvs) => if decide (kvs.length < 1000000) then (match keyOf i with
      | some k => some (S.set n (.dk (setK k v kvs)))
      | none => none) else none
    | some (.dt kvs) => if decide (kvs.length < 1000000) then (match keysOf i with
      | some k => some (S.set n (.dt (setK k v kvs)))
      | none => none) else none
    | _ => none)
  | _ => none
/-- p op= y: the new value; a list grows in its place -/
def ipI (o : BOp) (i j : Int) : Option Int := match o with
  | .add => some (i + j)
  | .sub => some (i - j)
  | .mul => if decide (i.natAbs < 18446744073709551616) || decide (j.natAbs < 18446744073709551616) then some (i * j) else none
  | .fdiv => if decide (0 < j) && decide (j < 1073741824) then some (i / j) else none
  | .mod => if decide (0 < j) then some (i % j) else none
  | .band => some (Builtin.bitAnd i j)
  | .bor => some (Builtin.bitOr i j)
  | .bxor => some (Builtin.bitXor i j)
  | .shl => if fitsP i j = true then some (i * 2 ^ j.toNat) else none
  | .shr => if 0 ≤ j then some (i / 2 ^ j.toNat) else none
  | .pow => none
def ipA (S : Store) (o : BOp) (p : PV) (y : AV) : Option (PV × Store) := match p, y with
  | .int i, .v (.int j) => (ipI o i j).map fun k => (.int k, S)
  | .str x, .v (.str z) => if o = .add ∧ x.length + z.length ≤ 1000000 then some (.str (x ++ z), S) else none
  | .loc n, y => (match S[n]?, lstOf S y with
    | some (.lst l), some m => if o = .add ∧ l.length + m.length ≤ 1000000 then some (.loc n, S.set n (.lst (l ++ m))) else none
    | _, _ => none)
  | _, _ => none
def bl (b : Bool) : AV := .v (.bl b)
def rngOf (x : Option Int) (j : Int) : Option It := match x with
  | none => if (decide (-1000000 ≤ j) && decide (j < 1000000)) = true then some (.rng 0 j.toNat) else none
  | some i => if ((decide (-1000000 ≤ i) && decide (i < 1000000)) && (decide (-1000000 ≤ j) && decide (j < 1000000))) = true then some (.rng i (j - i).toNat) else none
/-- list(range(..)), tuple(range(..)) -/
def rgOf (t : Bool) (x : Option Int) (j : Int) : Option AV := match rngOf x j with
  | some (.rng lo n) => let l : List PV := (List.range n).map fun i : Nat => PV.int (lo + (i : Int))
    some (if t = true then .v (.tup l) else .l l)
  | _ => none
def cutA (S : Store) (a : AV) (lo hi : Option Int) : Option AV := match a with
  | .v (.tup l) => some (.v (.tup (cut l lo hi)))
  | .v (.rot l) => if HT.sIx l.length 0 lo = 0 ∧ HT.sIx l.length l.length hi = l.length then some (.v (.rot l)) else some (.v (.tup (cut l lo hi)))
  | a => (listOf S a).map fun l => .l (cut l lo hi)

/-- backwards -/
def revA (S : Store) (x : AV) : Option AV := match tupOf x with
  | some l => some (.v (.tup l.reverse))
  | none => (lstOf S x).map fun l => .l l.reverse
/-- keys and values in turns -/
def pairsOf : List PV → Option (List (Key × PV))
  | [] => some []
  | [_] => none
  | k :: v :: r => match keyOf k, pairsOf r with
    | some k, some l => some ((k, v) :: l)
    | _, _ => none
/-- .. with tuples as keys -/
def pairsT : List PV → Option (List (List Key × PV))
  | [] => some []
  | [_] => none
  | k :: v :: r => match keysOf k, pairsT r with
    | some k, some l => some ((k, v) :: l)
    | _, _ => none
mutual
def ev (E : Ev) : Ex → Env → Store → Res AV
  | .var i, env, S => match env[i]? with
    | some (some p) => .ok (.v p) S
    | _ => .bad
  | .cst p, _, S => .ok (.v p) S
  | .glo k, _, S => (orBad S E.gl[k]?).bind fun p S => .ok (.v p) S
  | .tup es, env, S => (evs E es env S).bind fun l S => if l.length ≤ 1000000 then .ok (.v (.tup l)) S else .bad
  | .tuq es, env, S => (evs E es env S).bind fun l S => if l.length ≤ 1000000 then .ok (.v (.rot l)) S else .bad
  | .lst es, env, S => (evs E es env S).bind fun l S => if l.length ≤ 1000000 then .ok (.l l) S else .bad
  | .dnw t, _, S => .ok (if t = true then .dt [] else .dk []) S
  | .dct es, env, S => (evs E es env S).bind fun l S => orBad S ((pairsOf l).bind fun kvs => if kvs.length ≤ 15 then some (.dk (kvs.foldl (fun acc kv => setK kv.1 kv.2 acc) [])) else none)
  | .dcu es, env, S => (evs E es env S).bind fun l S => orBad S ((pairsT l).bind fun kvs => if kvs.length ≤ 15 then some (.dt (kvs.foldl (fun acc kv => setK kv.1 kv.2 acc) [])) else none)
  | .bin o a b, env, S => (ev E a env S).bind fun x S => (ev E b env S).bind fun y S => orBad S (biOp S o x y)
  | .neg a, env, S => (ev E a env S).bind fun x S => onInt x (fun i S => .ok (.v (.int (-i))) S) S
  | .inv a, env, S => (ev E a env S).bind fun x S => onInt x (fun i S => .ok (.v (.int (Builtin.bitNot i))) S) S
  | .no a, env, S => (ev E a env S).bind fun x S => (orBad S (truth S x)).bind fun b S => .ok (bl (!b)) S
  | .and a b, env, S => (ev E a env S).bind fun x S => onBl x (fun c S => if c = true then (ev E b env S).bind fun y S => onBl y (fun c S => .ok (bl c) S) S else .ok (bl false) S) S
  | .or a b, env, S => (ev E a env S).bind fun x S => onBl x (fun c S => if c = true then .ok (bl true) S else (ev E b env S).bind fun y S => onBl y (fun c S => .ok (bl c) S) S) S
  | .cmp o a b, env, S => (ev E a env S).bind fun x S => (ev E b env S).bind fun y S => (orBad S (coOp S o x y)).bind fun c S => .ok (bl c) S
  | .chn o p a b c, env, S => (ev E a env S).bind fun x S => (ev E b env S).bind fun y S => (orBad S (coOp S o x y)).bind fun k S =>
      if k = true then (ev E c env S).bind fun z S => (orBad S (coOp S p y z)).bind fun k S => .ok (bl k) S else .ok (bl false) S
  | .ifx c a b, env, S => (ev E c env S).bind fun x S => (orBad S (truth S x)).bind fun k S => if k = true then ev E a env S else ev E b env S
  | .ix a b, env, S => (ev E a env S).bind fun x S => (ev E b env S).bind fun y S => (orBad S (ixOp S x y)).bind fun p S => .ok (.v p) S
  | .sl a lo hi, env, S => (ev E a env S).bind fun x S => (evo E lo env S).bind fun l S => (evo E hi env S).bind fun h S => orBad S (cutA S x l h)
  | .call f es, env, S => (evs E es env S).bind fun l S => (E.call f l S).bind fun p S => .ok (.v p) S
  | .cav i es, env, S => match env[i]? with
    | some (some (.fn f)) => (evs E es env S).bind fun l S => (E.call f l S).bind fun p S => .ok (.v p) S
    | _ => .bad
  | .lam g b, env, S => (E.callT g (fun c S => ev ⟨c, fun _ _ _ => .bad, none, E.hand, E.gd, E.gl⟩ b env S) S).calm.bind fun p S => .ok (.v p) S
  | .fnv i, _, S => .ok (.v (.fn i)) S
  | .dead, _, _ => .bad
  | .rgl t a b, env, S => (evo E a env S).bind fun x S => (ev E b env S).bind fun y S => onInt y (fun j S => orBad S (rgOf t x j)) S
  | .thk, _, _ => .bad
  | .bf1 f a, env, S => (ev E a env S).bind fun x S => orBad S (fn1 E.gd S f x)
  | .bf2 f a b, env, S => (ev E a env S).bind fun x S => (ev E b env S).bind fun y S => orBad S (fn2 S f x y)
  | .mt m o es, env, S => (ev E o env S).bind fun x S => if recv S m x = true then ((eva E es env S).bind fun l S => match mth S m x l with
    | some (a, S) => .ok a S
    | none => .bad) else .bad
  | .mtk m o es, env, S => (ev E o env S).bind fun x S => if recv S m x = true then (((evs E es env S).bind fun l S => .ok (l.map AV.v) S).bind fun l S => match mth S m x l with
    | some (a, S) => .ok a S
    | none => .bad) else .bad
  | .revL a, env, S => (ev E a env S).bind fun x S => orBad S (revA S x)
  | .lc own tg it c e, env, S => (evi E it env S).bind fun i S =>
      (lcL (fun p S => (asg E tg p (wipe env (own.map (·.2))) S).calm.bind fun env S => (evc E c env S).bind fun k S =>
        if k = true then ((ev E e env S).bind keep).bind fun q S => .ok (some q) S else .ok none S) i fuel 0 S).calm.bind fun l S => .ok (.l l) S
  | .lc2 own tg it c tg1 it1 c1 e, env, S => (evi E it env S).bind fun i S =>
      (lcN (fun p S => (asg E tg p (wipe env (own.map (·.2))) S).calm.bind fun env S => (evc E c env S).bind fun k S =>
        if k = true then (evi E it1 env S).bind fun i1 S => if noFr i1 = true then lcL (fun p S => (asg E tg1 p (wipe env (slots tg1)) S).calm.bind fun env S => (evc E c1 env S).bind fun k S =>
          if k = true then ((ev E e env S).bind keep).bind fun q S => .ok (some q) S else .ok none S) i1 fuel 0 S else .bad else .ok [] S) i fuel 0 S).calm.bind shortL
  | .dc own tg it c k v, env, S => (evi E it env S).bind fun i S =>
      (dcL (fun p S => (asg E tg p (wipe env (own.map (·.2))) S).calm.bind fun env S => (evc E c env S).bind fun b S =>
        if b = true then ((ev E k env S).bind keep).bind fun q S => ((ev E v env S).bind keep).bind fun r S => .ok (some (q, r)) S else .ok none S) i fuel 0 [] S).calm.bind fun l S => .ok (.dk l) S
  | .dcT own tg it c k v, env, S => (evi E it env S).bind fun i S =>
      (dcLT (fun p S => (asg E tg p (wipe env (own.map (·.2))) S).calm.bind fun env S => (evc E c env S).bind fun b S =>
        if b = true then ((ev E k env S).bind keep).bind fun q S => ((ev E v env S).bind keep).bind fun r S => .ok (some (q, r)) S else .ok none S) i fuel 0 [] S).calm.bind fun l S => .ok (.dt l) S
/-- the values of an argument list, of a display, laid -/
def evs (E : Ev) : Exs → Env → Store → Res (List PV)
  | .nil, _, S => .ok [] S
  | .one e r, env, S => ((ev E e env S).bind keep).bind fun p S => (evs E r env S).bind fun l S => .ok (p :: l) S
  | .star e r, env, S => (ev E e env S).bind fun x S => match seqOf S x with
    | some l => (evs E r env S).bind fun m S => .ok (l ++ m) S
    | none => .bad
/-- .. in hand -/
def eva (E : Ev) : Exs → Env → Store → Res (List AV)
  | .nil, _, S => .ok [] S
  | .one e r, env, S => (ev E e env S).bind fun p S => (eva E r env S).bind fun l S => .ok (p :: l) S
  | .star _ _, _, _ => .bad
def evo (E : Ev) : Exo → Env → Store → Res (Option Int)
  | .no, _, S => .ok none S
  | .so e, env, S => (ev E e env S).bind fun x S => onInt x (fun i S => .ok (some i) S) S
/-- a clause's test -/
def evc (E : Ev) : Exo → Env → Store → Res Bool
  | .no, _, S => .ok true S
  | .so e, env, S => (ev E e env S).bind fun x S => orBad S (truth S x)
def evi (E : Ev) : Ix → Env → Store → Res It
  | .seq e, env, S => (ev E e env S).bind fun x S => (orBad S (srcOf S x)).bind fun s S => .ok (.src s) S
  | .rng a b, env, S => (evo E a env S).bind fun x S => (ev E b env S).bind fun y S => onInt y (fun j S => orBad S (rngOf x j)) S
  | .enum e, env, S => (ev E e env S).bind fun x S => (orBad S (srcOf S x)).bind fun s S => .ok (.enum s) S
  | .zip a b, env, S => (ev E a env S).bind fun x S => (ev E b env S).bind fun y S => (orBad S (zipOf S x y)).bind fun z S => .ok z S
def asg (E : Ev) : Tg → PV → Env → Store → Res Env
  | .nm i, p, env, S => .ok (env.set i (some p)) S
  | .tp ts, p, env, S => (asTup (lenT ts) p S).bind fun l S => asgs E ts l env S
  | .sub o i, p, env, S => (ev E o env S).bind fun x S => ((ev E i env S).bind keep).bind fun y S => match putA S x y p with
    | some S => .ok env S
    | none => .bad
def asgs (E : Ev) : Tgs → List PV → Env → Store → Res Env
  | .nil, [], env, S => .ok env S
  | .cons t r, p :: l, env, S => (asg E t p env S).bind fun env S => asgs E r l env S
  | _, _, _, _ => .bad
end
def evT (E : Ev) (c : Ex) (env : Env) (S : Store) : Res Bool := (ev E c env S).bind fun x S => orBad S (truth S x)
mutual
def evS (E : Ev) : Sx → Env → Store → SRes
  | .ex e, env, S => (ev E e env S).andS env fun _ S => .next env S
  | .set t e, env, S => ((ev E e env S).bind keep).andS env fun p S => (asg E t p env S).calm.andS env fun env S => .next env S
  | .par is es, env, S => (evs E es env S).andS env fun l S => if l.length = is.length then .next ((is.zip l).foldl (fun env q => env.set q.1 (some q.2)) env) S else .bad
  | .aug i o e, env, S => match env[i]? with
    | some (some p) => (ev E e env S).andS env fun y S => match ipA S o p y with
      | some (q, S) => .next (env.set i (some q)) S
      | none => .bad
    | _ => .bad
  | .augS o i op e, env, S => (ev E o env S).andS env fun x S => ((ev E i env S).bind keep).andS env fun k S => (orBad S (ixP S x k)).andS env fun p S =>
      (ev E e env S).andS env fun y S => match ipA S op p y with
        | some (q, S) => (match putA S x k q with
          | some S => .next env S
          | none => .bad)
        | none => .bad
  | .ret .no, _, S => .ret .non S
  | .ret (.so e), env, S => ((ev E e env S).bind keep).andS env fun p S => .ret p S
  | .ife c a b, env, S => (evT E c env S).andS env fun k S => if k = true then evSs E a env S else evSs E b env S
  | .whl c b, env, S => whlL (evT E c) (evSs E b) fuel env S
  | .for_ tg it b, env, S => (evi E it env S).andS env fun i S => forL (fun p env S => (asg E tg p env S).calm.andS env fun env S => evSs E b env S) i fuel 0 env S
  | .brk, env, S => .brk env S
  | .cnt, env, S => .cont env S
  | .pass, env, S => .next env S
  | .dead, _, _ => .bad
  | .rai c .no, env, S => .err ⟨c, none⟩ env S
  | .rai c (.so e), env, S => ((ev E e env S).bind keep).andS env fun p S => .err ⟨c, some p⟩ env S
  | .tr b hs, env, S => match evSs E b env S with
    | .err e env S => (match E.hand e hs S with
      | some (some p) => .ret p S
      | some none => .err e env S
      | none => .bad)
    | r => r
def evSs (E : Ev) : Sxs → Env → Store → SRes
  | .nil, env, S => .next env S
  | .cons s r, env, S => match evS E s env S with
    | .next env S => evSs E r env S
    | .brk env S => .brk env S
    | .cont env S => .cont env S
    | .ret p S => .ret p S
    | .err e env S => .err e env S
    | .bad => .bad
end

/-! ### calls: a def sees what its arguments reach, and nothing else of the store -/
mutual
def locsP : PV → List Nat
  | .loc n => [n]
  | .tup l => locsL l
  | .rot l => locsL l
  | .rol l => locsL l
  | _ => []
def locsL : List PV → List Nat
  | [] => []
  | p :: r => locsP p ++ locsL r
end
def locsO : SO → List Nat
  | .lst l => locsL l
  | .dk l => locsL (l.map (·.2))
  | .dt l => locsL (l.map (·.2))
mutual
def mapP (f : Nat → Nat) : PV → PV
  | .non => .non
  | .bl b => .bl b
  | .int i => .int i
  | .str x => .str x
  | .tup l => .tup (mapL f l)
  | .rot l => .rot (mapL f l)
  | .rol l => .rol (mapL f l)
  | .loc n => .loc (f n)
  | .fn n => .fn n
def mapL (f : Nat → Nat) : List PV → List PV
  | [] => []
  | p :: r => mapP f p :: mapL f r
end
def mapS (f : Nat → Nat) : SO → SO
  | .lst l => .lst (mapL f l)
  | .dk l => .dk (l.map fun q => (q.1, mapP f q.2))
  | .dt l => .dt (l.map fun q => (q.1, mapP f q.2))
/-- the places that some values reach, each once -/
def reach (S : Store) : Nat → List Nat → List Nat → Option (List Nat)
  | 0, _, _ => none
  | _ + 1, seen, [] => some seen
  | f + 1, seen, n :: r => if seen.contains n then reach S f seen r else match S[n]? with
    | some o => reach S f (seen ++ [n]) (locsO o ++ r)
    | none => none
/-- the store that a call sees -/
def under (S : Store) (R : List Nat) : Store := R.filterMap fun n => (S[n]?).map (mapS fun m => R.idxOf m)
/-- where a callee's place stands in the caller's store -/
def outer (S : Store) (R : List Nat) (i : Nat) : Nat := match R[i]? with
  | some n => n
  | none => S.length + (i - R.length)
def back (f : Nat → Nat) (S : Store) : List Nat → Store → Store
  | n :: R, o :: G => back f (S.set n (mapS f o)) R G
  | _, _ => S
/-- behind a call: places that nothing reaches are dropped -/
def after (S : Store) (R : List Nat) (ps : List PV) (G : Store) : Store :=
  if (locsL ps).all (fun i => decide (i < R.length)) && (G.take R.length).all (fun o => (locsO o).all fun i => decide (i < R.length)) then back (outer S R) S R G
  else back (outer S R) S R G ++ (G.drop R.length).map (mapS (outer S R))
def hcall (run : List PV → Store → Res PV) (args : List PV) (S : Store) : Res PV := match reach S fuel [] (locsL args) with
  | none => .bad
  | some R => match run (mapL (fun m => R.idxOf m) args) (under S R) with
    | .ok p G => .ok (mapP (outer S R) p) (after S R [p] G)
    | .err e G => .err ⟨e.c, e.k.map (mapP (outer S R))⟩ (after S R e.k.toList G)
    | .bad => .bad
/-- places behind the first n are dropped, if nothing points at them -/
def trim (n : Nat) (ps : List PV) (G : Store) : Store :=
  if Nat.beq G.length n then G else if ((locsL ps).all (fun i => Nat.blt i n) && (G.take n).all fun o => (locsO o).all fun i => Nat.blt i n) then G.take n else G
/-- a call that sees all -/
def fcall (run : List PV → Store → Res PV) (args : List PV) (S : Store) : Res PV := match run args S with
  | .ok p G => .ok p (trim S.length [p] G)
  | .err e G => .err e (trim S.length e.k.toList G)
  | .bad => .bad
structure Fn where
  np : Nat
  ns : Nat
  body : Sxs
/-- the text: its defs; which class of its errors a handler's class takes; the field that a class keeps -/
structure Prog where
  fns : List Fn
  exm : List (List Bool)
  fld : List (Option Str)
  gl : List PV
  isx : List (List (String × Bool)) := []
  /-- the defs that see all of the store -/
  full : List Nat := []
def outOf : SRes → Res PV
  | .next _ S => .ok .non S
  | .ret p S => .ok p S
  | .err e _ S => .err e S
  | _ => .bad
def runFn (E : Ev) (fn : Fn) (args : List PV) (S : Store) : Res PV :=
  if args.length = fn.np then outOf (evSs E fn.body (args.map some ++ List.replicate (fn.ns - fn.np) none) S) else .bad
def kept (P : Prog) (e : Exn) (attr : Str) : Option PV := match P.fld[e.c]?, e.k with
  | some (some f), some p => if f = attr then some p else none
  | _, _ => none
def suite (P : Prog) (gd : Bool) (e : Exn) (S : Store) : Hx → Option PV
  | .cst p => if p.flat = true then some p else none
  | .rep pre attr => (kept P e attr).bind fun p => (reprA gd S (.v p)).bind fun x => if pre.length + x.length ≤ big then some (.str (pre ++ x)) else none
  | .fld attr => kept P e attr
  | .tup q attr => if q.flat = true then (kept P e attr).map fun p => .tup [q, p] else none
  | .isb b => ((P.isx[e.c]?).bind fun l => l.lookup b).map .bl
  | .isf b x y attr => (kept P e attr).bind fun p => ((P.isx[e.c]?).bind fun l => l.lookup b).map fun c => .tup [.int (if c = true then x else y), p]
/-- the except clauses, one behind the other -/
def handle (P : Prog) (gd : Bool) (e : Exn) (S : Store) : List (Nat × Hx) → Option (Option PV)
  | [] => some none
  | (c, h) :: r => match (P.exm[e.c]?).bind (·[c]?) with
    | some true => (suite P gd e S h).map some
    | some false => handle P gd e S r
    | none => none
abbrev Hand := Bool → Exn → List (Nat × Hx) → Store → Option (Option PV)
def handOf (P : Prog) : Hand := fun gd e hs S => handle P gd e S hs
/-- a call at a depth -/
def callOf (P : Prog) (E : Ev) (f : Nat) (args : List PV) (S : Store) : Res PV := match P.fns[f]? with
  | some fn => if P.full.contains f = true then fcall (runFn E fn) args S else hcall (runFn E fn) args S
  | none => .bad
/-- try: x() except ..: return ..; return ..: the clauses, what is handed back behind -/
def metS : Sxs → Option (List (Nat × Hx) × PV)
  | .cons (.tr (.cons (.ex .thk) .nil) hs) (.cons (.ret (.so (.cst p))) .nil) => if p.flat = true then some (hs, p) else none
  | _ => none
def metOf (P : Prog) (gd : Bool) (low : Nat → List PV → Store → Res PV) (g : Nat) (th : (Nat → List PV → Store → Res PV) → Store → Res AV) (S : Store) : Res PV := match (P.fns[g]?).bind fun fn => metS fn.body with
  | some (hs, p) => (match th low S with
    | .ok _ S => .ok p S
    | .err e S => (match handle P gd e S hs with
      | some (some q) => .ok q S
      | some none => .err e S
      | none => .bad)
    | .bad => .bad)
  | none => .bad
/-- the text's calls, to a depth; gd: what the stack holds is known (so that repr of a list may be asked) -/
def evK (P : Prog) : Nat → Bool → Ev
  | 0, gd => ⟨fun _ _ _ => .bad, fun _ _ _ => .bad, none, handOf P gd, gd, P.gl⟩
  | 1, gd => ⟨callOf P (evK P 0 gd), fun _ _ _ => .bad, none, handOf P gd, gd, P.gl⟩
  | 2, gd => ⟨callOf P (evK P 1 gd), fun _ _ _ => .bad, none, handOf P gd, gd, P.gl⟩
  | k + 3, gd => ⟨callOf P (evK P (k + 2) gd), metOf P gd (evK P k gd).call, none, handOf P gd, gd, P.gl⟩
end EV
/-! The E layer, part B: how plain values lie in the heap; steps; what an expression's end is. -/
namespace EV
open PySem PySem.Spec L2
open PyProof.Rows hiding St

/-- the text's written part and where its defs stand -/
structure TX where
  K : PySem.W.Frag
  fa : Nat → Option Addr
  ca : Nat → Option Addr
  fl : Nat → Option Str
  /-- the tables of code objects, and the name that each code object in them bears -/
  tabs : List (Addr × Str)
/-- a list that nobody writes -/
def SqF (K : PySem.W.Frag) (H : Hp) (a : Addr) (xs : List V) : Prop :=
  (∃ o, H a = some (.frz o (.lst xs))) ∨ ∃ (o : Obj) (its : Array Value) (n : Nat), K.lookup a = some o ∧ o.cls = .type "list" ∧ o.dict = none ∧ o.data = .seq its n ∧ its.size ≤ sizeLine ∧ Vals xs its.toList
theorem SqF.l {K : PySem.W.Frag} {H : Hp} {a : Addr} {xs : List V} (h : SqF K H a xs) : SqL K H a xs := h.elim (fun q => .inl (.inr q)) .inr
/-- a tuple whose object is known to have no dict of its own -/
def SqR (K : PySem.W.Frag) (H : Hp) (a : Addr) (xs : List V) : Prop :=
  (∃ o, H a = some (.frz o (.tup xs)) ∧ o.dict = none) ∨ ∃ (o : Obj) (its : Array Value) (n : Nat), K.lookup a = some o ∧ o.cls = .type "tuple" ∧ o.dict = none ∧ o.data = .seq its n ∧ its.size ≤ sizeLine ∧ Vals xs its.toList
theorem SqR.t {K : PySem.W.Frag} {H : Hp} {a : Addr} {xs : List V} (h : SqR K H a xs) : SqT K H a xs := h.elim (fun ⟨o, q, _⟩ => .inl (.inr ⟨o, q⟩)) fun ⟨o, its, n, q1, q2, _, q4, q5, q6⟩ => .inr ⟨o, its, n, q1, q2, q4, q5, q6⟩
section
variable (T : TX) (ρ : List Addr) (H : Hp)
mutual
def Rep : PV → V → Prop
  | .non, v => v = .non
  | .bl b, v => v = .bl b
  | .int i, v => v = .int i
  | .str x, v => v = .str x
  | .tup l, v => ∃ a xs, v = .ref a ∧ H a = some (.tup xs) ∧ Reps l xs
  | .rot l, v => ∃ a xs, v = .ref a ∧ SqR T.K H a xs ∧ Reps l xs
  | .rol l, v => ∃ a xs, v = .ref a ∧ SqF T.K H a xs ∧ Reps l xs
  | .loc n, v => ∃ a, ρ[n]? = some a ∧ v = .ref a
  | .fn n, v => ∃ a, T.fa n = some a ∧ v = .ref a
def Reps : List PV → List V → Prop
  | [], xs => xs = []
  | p :: l, xs => ∃ x r, xs = x :: r ∧ Rep p x ∧ Reps l r
end
def RepK {κ : Type} (kvs : List (κ × PV)) (ks : List (κ × V)) : Prop := kvs.map (·.1) = ks.map (·.1) ∧ Reps T ρ H (kvs.map (·.2)) (ks.map (·.2))
def ORep (a : Addr) : SO → Prop
  | .lst l => ∃ xs, H a = some (.lst xs) ∧ Reps T ρ H l xs
  | .dk kvs => ∃ ks, H a = some (.dK ks) ∧ RepK T ρ H kvs ks
  | .dt kvs => ∃ ks, H a = some (.dT ks) ∧ RepK T ρ H kvs ks
structure SRep (S : Store) : Prop where
  len : ρ.length = S.length
  nd : ρ.Nodup
  at_ : ∀ (n : Nat) (a : Addr) (o : SO), ρ[n]? = some a → S[n]? = some o → ORep T ρ H a o
  tab : LamX.Tabs T.tabs H
structure EnvRep (env : Env) (σ : St) : Prop where
  len : env.length = σ.length
  at_ : ∀ (i : Nat) (p : PV), env[i]? = some (some p) → ∃ v, σ[i]? = some (some v) ∧ Rep T ρ H p v
end
/-- from one heap to a later one: what is in hand elsewhere stays -/
structure Step (ρ : List Addr) (H : Hp) (ρ' : List Addr) (H' : Hp) : Prop where
  pre : ∃ more, ρ' = ρ ++ more
  new : ∀ b ∈ ρ', b ∉ ρ → H b = none
  fr : ∀ b o, H b = some o → b ∉ ρ → (∀ ps, o ≠ .tbl ps) → H' b = some o
  tb : ∀ b ps, H b = some (.tbl ps) → b ∉ ρ → ∃ more, H' b = some (.tbl (ps ++ more))
  tu : ∀ b xs, H b = some (.tup xs) → H' b = some (.tup xs)
  fz : ∀ b o u, H b = some (.frz o u) → H' b = some (.frz o u)
section
variable {T : TX} {ρ ρ' ρ1 ρ2 : List Addr} {H H' H1 H2 : Hp}
theorem Step.refl : Step ρ H ρ H := ⟨⟨[], by simp⟩, fun b h n => absurd h n, fun _ _ h _ _ => h, fun _ ps h _ => ⟨#[], by simpa using h⟩, fun _ _ h => h, fun _ _ _ h => h⟩
theorem Step.mem (s : Step ρ H ρ' H') {b : Addr} (h : b ∈ ρ) : b ∈ ρ' := by
  obtain ⟨m, e⟩ := s.pre
  rw [e]
  exact List.mem_append_left _ h
theorem Step.get (s : Step ρ H ρ' H') {n : Nat} {a : Addr} (h : ρ[n]? = some a) : ρ'[n]? = some a := by
  obtain ⟨m, e⟩ := s.pre
  rw [e]
  have hn : n < ρ.length := (List.getElem?_eq_some_iff.mp h).1
  rw [List.getElem?_append_left hn]
  exact h
/-- what stands outside stays known -/
theorem Step.known (s : Step ρ H ρ' H') {b : Addr} (h : H b ≠ none) (n : b ∉ ρ) : H' b ≠ none := by
  cases e : H b with
  | none => exact absurd e h
  | some o =>
    by_cases t : ∃ ps, o = .tbl ps
    · obtain ⟨ps, rfl⟩ := t
      obtain ⟨m, q⟩ := s.tb b ps e n
      rw [q]
      simp
    · rw [s.fr b o e n fun ps z => t ⟨ps, z⟩]
      simp
theorem Step.trans (s : Step ρ H ρ1 H1) (t : Step ρ1 H1 ρ2 H2) : Step ρ H ρ2 H2 := by
  have apart : ∀ b, H b ≠ none → b ∉ ρ → b ∉ ρ1 := fun b h n m => h (s.new b m n)
  refine ⟨?_, fun b hb n => ?_, fun b o e n nt => ?_, fun b ps e n => ?_, fun b xs e => t.tu _ _ (s.tu _ _ e), fun b o u e => t.fz _ _ _ (s.fz _ _ _ e)⟩
  · obtain ⟨m, rfl⟩ := s.pre
    obtain ⟨m', rfl⟩ := t.pre
    exact ⟨m ++ m', by simp⟩
  · by_cases h1 : b ∈ ρ1
    · exact s.new b h1 n
    · have z := t.new b hb h1
      cases e : H b with
      | none => rfl
      | some o => exact absurd z (s.known (by rw [e]; simp) n)
  · exact t.fr b o (s.fr b o e n nt) (apart b (by rw [e]; simp) n) nt
  · obtain ⟨m, q⟩ := s.tb b ps e n
    obtain ⟨m', q'⟩ := t.tb b _ q (apart b (by rw [e]; simp) n)
    exact ⟨m ++ m', by rw [q', Array.append_assoc]⟩
theorem Step.sqf (s : Step ρ H ρ' H') {K : PySem.W.Frag} {a : Addr} {xs : List V} (h : SqF K H a xs) : SqF K H' a xs := by
  rcases h with ⟨o, h⟩ | h
  · exact .inl ⟨o, s.fz _ _ _ h⟩
  · exact .inr h
theorem Step.sqt (s : Step ρ H ρ' H') {K : PySem.W.Frag} {a : Addr} {xs : List V} (h : SqT K H a xs) : SqT K H' a xs := by
  rcases h with (h | ⟨o, h⟩) | h
  · exact .inl (.inl (s.tu _ _ h))
  · exact .inl (.inr ⟨o, s.fz _ _ _ h⟩)
  · exact .inr h
theorem Step.sqr (s : Step ρ H ρ' H') {K : PySem.W.Frag} {a : Addr} {xs : List V} (h : SqR K H a xs) : SqR K H' a xs := h.imp (fun ⟨o, q, d⟩ => ⟨o, s.fz _ _ _ q, d⟩) fun q => q
mutual
theorem Rep.step (s : Step ρ H ρ' H') : ∀ (p : PV) (v : V), Rep T ρ H p v → Rep T ρ' H' p v
  | .non, _, h => h
  | .bl _, _, h => h
  | .int _, _, h => h
  | .str _, _, h => h
  | .tup l, _, h => by
    unfold Rep at h ⊢
    obtain ⟨a, xs, e, q, r⟩ := h
    exact ⟨a, xs, e, s.tu _ _ q, Reps.step s l xs r⟩
  | .rot l, _, h => by
    unfold Rep at h ⊢
    obtain ⟨a, xs, e, q, r⟩ := h
    exact ⟨a, xs, e, s.sqr q, Reps.step s l xs r⟩
  | .rol l, _, h => by
    unfold Rep at h ⊢
    obtain ⟨a, xs, e, q, r⟩ := h
    exact ⟨a, xs, e, s.sqf q, Reps.step s l xs r⟩
  | .loc n, _, h => by
    unfold Rep at h ⊢
    obtain ⟨a, e, q⟩ := h
    exact ⟨a, s.get e, q⟩
  | .fn n, _, h => by
    unfold Rep at h ⊢
    exact h
theorem Reps.step (s : Step ρ H ρ' H') : ∀ (l : List PV) (xs : List V), Reps T ρ H l xs → Reps T ρ' H' l xs
  | [], _, h => by
    unfold Reps at h ⊢
    exact h
  | p :: l, _, h => by
    unfold Reps at h ⊢
    obtain ⟨x, r, e, h1, h2⟩ := h
    exact ⟨x, r, e, Rep.step s p x h1, Reps.step s l r h2⟩
end
theorem RepK.step {κ : Type} (s : Step ρ H ρ' H') {kvs : List (κ × PV)} {ks : List (κ × V)} (h : RepK T ρ H kvs ks) : RepK T ρ' H' kvs ks := ⟨h.1, Reps.step s _ _ h.2⟩
theorem EnvRep.step (s : Step ρ H ρ' H') {env : Env} {σ : St} (h : EnvRep T ρ H env σ) : EnvRep T ρ' H' env σ :=
  ⟨h.len, fun i p e => let ⟨v, e1, r⟩ := h.at_ i p e; ⟨v, e1, Rep.step s _ _ r⟩⟩
theorem EnvRep.set {env : Env} {σ : St} {p : PV} {v : V} (h : EnvRep T ρ H env σ) (i : Nat) (r : Rep T ρ H p v) : EnvRep T ρ H (env.set i (some p)) (σ.set i (some v)) := by
  refine ⟨by simp [h.len], fun j q e => ?_⟩
  by_cases hj : j = i
  · subst hj
    have hl : j < (env.set j (some p)).length := (List.getElem?_eq_some_iff.mp e).1
    rw [List.length_set] at hl
    rw [List.getElem?_set_self hl] at e
    cases e
    exact ⟨v, by rw [List.getElem?_set_self (by rw [← h.len]; exact hl)], r⟩
  · rw [List.getElem?_set_ne (fun z => hj z.symm)] at e
    obtain ⟨w, e1, r1⟩ := h.at_ j q e
    exact ⟨w, by rw [List.getElem?_set_ne (fun z => hj z.symm)]; exact e1, r1⟩
theorem EnvRep.wipe {env : Env} {σ : St} (h : EnvRep T ρ H env σ) : ∀ vs : List Nat, EnvRep T ρ H (EV.wipe env vs) (L2.wipe σ vs)
  | [] => h
  | v :: vs => by
    have ih := EnvRep.wipe h vs
    refine ⟨?_, fun j q e => ?_⟩
    · show ((EV.wipe env vs).set v none).length = ((L2.wipe σ vs).set v none).length
      simp [ih.len]
    · have e : ((EV.wipe env vs).set v none)[j]? = some (some q) := e
      show ∃ w, ((L2.wipe σ vs).set v none)[j]? = some (some w) ∧ _
      by_cases hj : j = v
      · subst hj
        have hl : j < ((EV.wipe env vs).set j none).length := (List.getElem?_eq_some_iff.mp e).1
        rw [List.length_set] at hl
        rw [List.getElem?_set_self hl] at e
        cases e
      · rw [List.getElem?_set_ne (fun z => hj z.symm)] at e ⊢
        exact ih.at_ j q e
end

/-! ### lists of values -/
section
variable {T : TX} {ρ : List Addr} {H : Hp}
theorem Reps.length : ∀ {l : List PV} {xs : List V}, Reps T ρ H l xs → l.length = xs.length
  | [], _, h => by unfold Reps at h; rw [h]; rfl
  | p :: l, _, h => by
    unfold Reps at h
    obtain ⟨x, r, rfl, _, h2⟩ := h
    simp [Reps.length h2]
theorem Reps.nil : Reps T ρ H [] [] := by unfold Reps; rfl
theorem Reps.cons {p : PV} {x : V} {l : List PV} {xs : List V} (h : Rep T ρ H p x) (r : Reps T ρ H l xs) : Reps T ρ H (p :: l) (x :: xs) := by
  unfold Reps
  exact ⟨x, xs, rfl, h, r⟩
theorem Reps.app : ∀ {l m : List PV} {xs ys : List V}, Reps T ρ H l xs → Reps T ρ H m ys → Reps T ρ H (l ++ m) (xs ++ ys)
  | [], _, _, _, h, r => by
    unfold Reps at h
    rw [h]
    exact r
  | p :: l, _, _, _, h, r => by
    unfold Reps at h
    obtain ⟨x, t, rfl, h1, h2⟩ := h
    exact .cons h1 (Reps.app h2 r)
theorem Reps.get : ∀ {l : List PV} {xs : List V} {i : Nat} {p : PV}, Reps T ρ H l xs → l[i]? = some p → ∃ x, xs[i]? = some x ∧ Rep T ρ H p x
  | [], _, _, _, _, e => by simp at e
  | q :: l, _, 0, p, h, e => by
    unfold Reps at h
    obtain ⟨x, t, rfl, h1, h2⟩ := h
    simp at e
    subst e
    exact ⟨x, rfl, h1⟩
  | q :: l, _, i + 1, p, h, e => by
    unfold Reps at h
    obtain ⟨x, t, rfl, h1, h2⟩ := h
    simpa using Reps.get (i := i) (p := p) h2 (by simpa using e)
theorem Reps.get' {l : List PV} {xs : List V} {i : Nat} {x : V} (h : Reps T ρ H l xs) (e : xs[i]? = some x) : ∃ p, l[i]? = some p ∧ Rep T ρ H p x := by
  have hi : i < xs.length := (List.getElem?_eq_some_iff.mp e).1
  have hl := h.length
  have e2 : l[i]? = some (l[i]'(by omega)) := by simp
  obtain ⟨y, e3, r⟩ := h.get e2
  rw [e] at e3
  cases e3
  exact ⟨_, e2, r⟩
theorem Reps.set : ∀ {l : List PV} {xs : List V} {p : PV} {x : V} (i : Nat), Reps T ρ H l xs → Rep T ρ H p x → Reps T ρ H (l.set i p) (xs.set i x)
  | [], _, _, _, _, h, _ => by
    unfold Reps at h
    rw [h]
    simpa using Reps.nil
  | q :: l, _, p, x, 0, h, r => by
    unfold Reps at h
    obtain ⟨y, t, rfl, h1, h2⟩ := h
    exact .cons r h2
  | q :: l, _, p, x, i + 1, h, r => by
    unfold Reps at h
    obtain ⟨y, t, rfl, h1, h2⟩ := h
    exact .cons h1 (Reps.set i h2 r)
theorem Reps.take : ∀ {l : List PV} {xs : List V} (n : Nat), Reps T ρ H l xs → Reps T ρ H (l.take n) (xs.take n)
  | _, _, 0, _ => by simpa using Reps.nil
  | [], _, n + 1, h => by
    unfold Reps at h
    rw [h]
    simpa using Reps.nil
  | q :: l, _, n + 1, h => by
    unfold Reps at h
    obtain ⟨y, t, rfl, h1, h2⟩ := h
    exact .cons h1 (Reps.take n h2)
theorem Reps.drop : ∀ {l : List PV} {xs : List V} (n : Nat), Reps T ρ H l xs → Reps T ρ H (l.drop n) (xs.drop n)
  | _, _, 0, h => by simpa using h
  | [], _, n + 1, h => by
    unfold Reps at h
    rw [h]
    simpa using Reps.nil
  | q :: l, _, n + 1, h => by
    unfold Reps at h
    obtain ⟨y, t, rfl, h1, h2⟩ := h
    simpa using Reps.drop n h2
theorem Reps.eraseIdx : ∀ {l : List PV} {xs : List V} (n : Nat), Reps T ρ H l xs → Reps T ρ H (l.eraseIdx n) (xs.eraseIdx n)
  | [], _, n, h => by
    unfold Reps at h
    rw [h]
    simpa using Reps.nil
  | q :: l, _, 0, h => by
    unfold Reps at h
    obtain ⟨y, t, rfl, h1, h2⟩ := h
    exact h2
  | q :: l, _, n + 1, h => by
    unfold Reps at h
    obtain ⟨y, t, rfl, h1, h2⟩ := h
    exact .cons h1 (Reps.eraseIdx n h2)
theorem Reps.dropLast {l : List PV} {xs : List V} (h : Reps T ρ H l xs) : Reps T ρ H l.dropLast xs.dropLast := by
  rw [List.dropLast_eq_take, List.dropLast_eq_take, ← h.length]
  exact h.take _
theorem Reps.rev : ∀ {l : List PV} {xs : List V}, Reps T ρ H l xs → Reps T ρ H l.reverse xs.reverse
  | [], xs, h => by
    unfold Reps at h
    subst h
    exact Reps.nil
  | p :: l, xs, h => by
    unfold Reps at h
    obtain ⟨x, r, rfl, h1, h2⟩ := h
    rw [List.reverse_cons, List.reverse_cons]
    exact (Reps.rev h2).app (.cons h1 .nil)
theorem Reps.rep {l : List PV} {xs : List V} (h : Reps T ρ H l xs) : ∀ n : Nat, Reps T ρ H (EV.rep l n) (List.replicate n xs).flatten
  | 0 => Reps.nil
  | n + 1 => by
    unfold EV.rep
    rw [List.replicate_succ, List.replicate_succ, List.flatten_cons, List.flatten_cons]
    exact h.app (Reps.rep h n)
theorem Reps.of_map {α : Type} {f : α → PV} {g : α → V} (h : ∀ a, Rep T ρ H (f a) (g a)) : ∀ l : List α, Reps T ρ H (l.map f) (l.map g)
  | [] => Reps.nil
  | a :: l => .cons (h a) (Reps.of_map h l)
end

/-! ### a value in hand, an error, an end -/
def RepA (T : TX) (H0 : Hp) (ρ : List Addr) (H : Hp) : AV → V → Prop
  | .v p, v => Rep T ρ H p v
  | .l xs, v => ∃ a ys, v = .ref a ∧ H0 a = none ∧ a ∉ ρ ∧ H a = some (.lst ys) ∧ Reps T ρ H xs ys
  | .dk kvs, v => ∃ a ks, v = .ref a ∧ H0 a = none ∧ a ∉ ρ ∧ H a = some (.dK ks) ∧ RepK T ρ H kvs ks
  | .dt kvs, v => ∃ a ks, v = .ref a ∧ H0 a = none ∧ a ∉ ρ ∧ H a = some (.dT ks) ∧ RepK T ρ H kvs ks
def ERep (T : TX) (ρ : List Addr) (H : Hp) (e : Exn) (cls : Value) (d : Option Addr) : Prop :=
  (∃ c, T.ca e.c = some c ∧ cls = .ref c) ∧ match e.k with
    | none => d = none
    | some p => ∃ a x f, d = some a ∧ a ∉ ρ ∧ H a = some (.xd [(f, x)]) ∧ T.fl e.c = some f ∧ Rep T ρ H p x
abbrev Rl (α β : Type) := Hp → List Addr → Hp → α → β → Prop
section
variable {T : TX} {ρ ρ' ρ0 ρ1 ρ2 : List Addr} {H H' H0 H1 H2 : Hp} {α β γ δ : Type}
theorem Step.out (s : Step ρ H ρ' H') {a : Addr} {o : HO} (e : H a = some o) (n : a ∉ ρ) : a ∉ ρ' := fun m => by
  have := s.new a m n
  rw [e] at this
  cases this
theorem Step.back (s : Step ρ0 H0 ρ1 H1) {a : Addr} (e : H1 a = none) (n : a ∉ ρ1) : H0 a = none := by
  cases q : H0 a with
  | none => rfl
  | some o => exact absurd e (s.known (by rw [q]; simp) fun m => n (s.mem m))
theorem RepA.step {a : AV} {v : V} (h : RepA T H0 ρ H a v) (s : Step ρ H ρ' H') : RepA T H0 ρ' H' a v := by
  cases a with
  | v p => exact Rep.step s p v h
  | l xs =>
    obtain ⟨a, ys, e, z, n, q, r⟩ := h
    exact ⟨a, ys, e, z, s.out q n, s.fr a _ q n (fun ps z => by cases z), Reps.step s _ _ r⟩
  | dk xs =>
    obtain ⟨a, ys, e, z, n, q, r⟩ := h
    exact ⟨a, ys, e, z, s.out q n, s.fr a _ q n (fun ps z => by cases z), r.step s⟩
  | dt xs =>
    obtain ⟨a, ys, e, z, n, q, r⟩ := h
    exact ⟨a, ys, e, z, s.out q n, s.fr a _ q n (fun ps z => by cases z), r.step s⟩
theorem RepA.since {a : AV} {v : V} (h : RepA T H1 ρ H a v) (s : Step ρ0 H0 ρ1 H1) (t : Step ρ1 H1 ρ H) : RepA T H0 ρ H a v := by
  cases a with
  | v p => exact h
  | l xs =>
    obtain ⟨a, ys, e, z, n, q, r⟩ := h
    exact ⟨a, ys, e, s.back z fun m => n (t.mem m), n, q, r⟩
  | dk xs =>
    obtain ⟨a, ys, e, z, n, q, r⟩ := h
    exact ⟨a, ys, e, s.back z fun m => n (t.mem m), n, q, r⟩
  | dt xs =>
    obtain ⟨a, ys, e, z, n, q, r⟩ := h
    exact ⟨a, ys, e, s.back z fun m => n (t.mem m), n, q, r⟩
/-- a relation that may be told of an earlier start -/
structure Good (R : Rl α β) : Prop where
  of : ∀ {ρ0 ρ1 ρ : List Addr} {H0 H1 H : Hp} {a : α} {x : β}, Step ρ0 H0 ρ1 H1 → Step ρ1 H1 ρ H → R H1 ρ H a x → R H0 ρ H a x
abbrev RA (T : TX) : Rl AV V := fun H0 ρ H a v => RepA T H0 ρ H a v
abbrev RP (T : TX) : Rl PV V := fun _ ρ H p v => Rep T ρ H p v
abbrev RPs (T : TX) : Rl (List PV) (List V) := fun _ ρ H p v => Reps T ρ H p v
abbrev RB : Rl Bool Bool := fun _ _ _ b c => c = b
theorem good_A : Good (RA T) := ⟨fun s t h => RepA.since h s t⟩
theorem good_P : Good (RP T) := ⟨fun _ _ h => h⟩
theorem good_Ps : Good (RPs T) := ⟨fun _ _ h => h⟩
theorem good_B : Good RB := ⟨fun _ _ h => h⟩
/-- what an end asks: of a value, of an error -/
def Fin (T : TX) (W : XK) (R : Rl α β) (ρ : List Addr) (H : Hp) (r : Res α) (Q : β → Hp → Prop) : Prop := match r with
  | .ok a S => ∀ ρ' H' x, Step ρ H ρ' H' → SRep T ρ' H' S → R H ρ' H' a x → Q x H'
  | .err e S => ∀ ρ' H' cls d, Step ρ H ρ' H' → SRep T ρ' H' S → ERep T ρ' H' e cls d → W cls d H'
  | .bad => False
section
variable {W : XK} {R : Rl α β} {R1 : Rl γ δ} {r : Res α} {Q Q' : β → Hp → Prop}
theorem Fin.imp (h : Fin T W R ρ H r Q) (i : ∀ x H, Q x H → Q' x H) : Fin T W R ρ H r Q' := by
  cases r with
  | ok a S => exact fun ρ' H' x s hs hr => i _ _ (h ρ' H' x s hs hr)
  | err e S => exact h
  | bad => exact h
theorem Fin.since (g : Good R) (s : Step ρ H ρ1 H1) (h : Fin T W R ρ H r Q) : Fin T W R ρ1 H1 r Q := by
  cases r with
  | ok a S => exact fun ρ' H' x t hs hr => h ρ' H' x (s.trans t) hs (g.of s t hr)
  | err e S => exact fun ρ' H' c d t hs hr => h ρ' H' c d (s.trans t) hs hr
  | bad => exact h
theorem Fin.bind (g : Good R) {r1 : Res γ} {f : γ → Store → Res α} (h : Fin T W R ρ H (r1.bind f) Q) :
    Fin T W R1 ρ H r1 (fun x H1 => ∃ a ρ1 S1, Step ρ H ρ1 H1 ∧ SRep T ρ1 H1 S1 ∧ R1 H ρ1 H1 a x ∧ Fin T W R ρ1 H1 (f a S1) Q) := by
  cases r1 with
  | ok a S => exact fun ρ' H' x s hs hr => ⟨a, ρ', S, s, hs, hr, Fin.since g s (show Fin T W R ρ H (f a S) Q from h)⟩
  | err e S => exact h
  | bad => exact h
theorem Fin.ok {a : α} {S : Store} {x : β} (h : Fin T W R ρ H (.ok a S) Q) (hs : SRep T ρ H S) (hr : R H ρ H a x) : Q x H := h ρ H x Step.refl hs hr
end
end
end EV
/-! The E layer, part C: what lies in the store is read and laid; the operators. -/
namespace EV
open PySem PySem.Spec L2
open PyProof.Rows hiding St

section
variable {T : TX} {ρ ρ' : List Addr} {H H' H0 : Hp}
mutual
theorem Rep.more (m : List Addr) : ∀ (p : PV) (v : V), Rep T ρ H p v → Rep T (ρ ++ m) H p v
  | .non, _, h => h
  | .bl _, _, h => h
  | .int _, _, h => h
  | .str _, _, h => h
  | .tup l, _, h => by
    unfold Rep at h ⊢
    obtain ⟨a, xs, e, q, r⟩ := h
    exact ⟨a, xs, e, q, Reps.more m l xs r⟩
  | .rot l, _, h => by
    unfold Rep at h ⊢
    obtain ⟨a, xs, e, q, r⟩ := h
    exact ⟨a, xs, e, q, Reps.more m l xs r⟩
  | .rol l, _, h => by
    unfold Rep at h ⊢
    obtain ⟨a, xs, e, q, r⟩ := h
    exact ⟨a, xs, e, q, Reps.more m l xs r⟩
  | .loc n, _, h => by
    unfold Rep at h ⊢
    obtain ⟨a, e, q⟩ := h
    refine ⟨a, ?_, q⟩
    rw [List.getElem?_append_left (List.getElem?_eq_some_iff.mp e).1]
    exact e
  | .fn n, _, h => by
    unfold Rep at h ⊢
    exact h
theorem Reps.more (m : List Addr) : ∀ (l : List PV) (xs : List V), Reps T ρ H l xs → Reps T (ρ ++ m) H l xs
  | [], _, h => by
    unfold Reps at h ⊢
    exact h
  | p :: l, _, h => by
    unfold Reps at h ⊢
    obtain ⟨x, r, e, h1, h2⟩ := h
    exact ⟨x, r, e, Rep.more m p x h1, Reps.more m l r h2⟩
end
theorem RepK.more {κ : Type} (m : List Addr) {kvs : List (κ × PV)} {ks : List (κ × V)} (h : RepK T ρ H kvs ks) : RepK T (ρ ++ m) H kvs ks := ⟨h.1, Reps.more m _ _ h.2⟩
theorem ORep.more (m : List Addr) {a : Addr} {o : SO} (h : ORep T ρ H a o) : ORep T (ρ ++ m) H a o := by
  cases o with
  | lst l => obtain ⟨xs, q, r⟩ := h; exact ⟨xs, q, Reps.more m _ _ r⟩
  | dk l => obtain ⟨xs, q, r⟩ := h; exact ⟨xs, q, r.more m⟩
  | dt l => obtain ⟨xs, q, r⟩ := h; exact ⟨xs, q, r.more m⟩
/-- what stands outside is taken in -/
theorem SRep.take {S : Store} {a : Addr} {o : SO} (h : SRep T ρ H S) (n : a ∉ ρ) (r : ORep T ρ H a o) : SRep T (ρ ++ [a]) H (S ++ [o]) := by
  refine ⟨by simp [h.len], ?_, fun k b u e1 e2 => ?_, h.tab⟩
  · refine List.nodup_append.mpr ⟨h.nd, by simp, fun x hx y hy => ?_⟩
    have : y = a := by simpa using hy
    subst this
    exact fun z => n (z ▸ hx)
  · by_cases hk : k < ρ.length
    · rw [List.getElem?_append_left hk] at e1
      rw [List.getElem?_append_left (by rw [← h.len]; exact hk)] at e2
      exact (h.at_ k b u e1 e2).more _
    · have e3 : k = ρ.length := by
        have := (List.getElem?_eq_some_iff.mp e1).1
        simp at this
        omega
      subst e3
      rw [List.getElem?_append_right (Nat.le_refl _)] at e1
      rw [h.len, List.getElem?_append_right (Nat.le_refl _)] at e2
      simp at e1 e2
      subst e1 e2
      exact r.more _
theorem Step.take {ρ0 : List Addr} (s : Step ρ0 H0 ρ H) {a : Addr} (z : H0 a = none) : Step ρ0 H0 (ρ ++ [a]) H := by
  refine ⟨?_, fun b hb n => ?_, s.fr, s.tb, s.tu, s.fz⟩
  · obtain ⟨m, e⟩ := s.pre
    exact ⟨m ++ [a], by rw [e]; simp⟩
  · rcases List.mem_append.mp hb with q | q
    · exact s.new b q n
    · have : b = a := by simpa using q
      subst this
      exact z
theorem rep_loc_new {a : Addr} {n : Nat} (e : ρ.length = n) : Rep T (ρ ++ [a]) H (.loc n) (.ref a) := by
  unfold Rep
  exact ⟨a, by rw [← e]; simp, rfl⟩
/-- a value in hand may be laid -/
theorem Fin.keep {W : XK} {r : Res AV} {Q : V → Hp → Prop} (h : Fin T W (RP T) ρ H (r.bind EV.keep) Q) : Fin T W (RA T) ρ H r Q := by
  cases r with
  | ok a S =>
    intro ρ' H' v st hs hr
    cases a with
    | v p => exact h ρ' H' v st hs hr
    | l xs =>
      obtain ⟨a, ys, rfl, z, n, q, r⟩ := hr
      exact h (ρ' ++ [a]) H' (.ref a) (st.take z) (hs.take n ⟨ys, q, r⟩) (rep_loc_new hs.len)
    | dk xs =>
      obtain ⟨a, ys, rfl, z, n, q, r⟩ := hr
      exact h (ρ' ++ [a]) H' (.ref a) (st.take z) (hs.take n ⟨ys, q, r⟩) (rep_loc_new hs.len)
    | dt xs =>
      obtain ⟨a, ys, rfl, z, n, q, r⟩ := hr
      exact h (ρ' ++ [a]) H' (.ref a) (st.take z) (hs.take n ⟨ys, q, r⟩) (rep_loc_new hs.len)
  | err e S => exact h
  | bad => exact h

/-! ### reading -/
theorem SRep.get {S : Store} {n : Nat} {o : SO} (h : SRep T ρ H S) (e : S[n]? = some o) : ∃ a, ρ[n]? = some a ∧ ORep T ρ H a o := by
  have hn : n < S.length := (List.getElem?_eq_some_iff.mp e).1
  have e2 : ρ[n]? = some (ρ[n]'(by rw [h.len]; exact hn)) := by simp
  exact ⟨_, e2, h.at_ _ _ _ e2 e⟩
theorem rep_loc {n : Nat} {v : V} {a : Addr} (h : Rep T ρ H (.loc n) v) (e : ρ[n]? = some a) : v = .ref a := by
  unfold Rep at h
  obtain ⟨b, q, rfl⟩ := h
  rw [e] at q
  cases q
  rfl
/-- a list in hand, as the layer reads it -/
theorem listOf_ok {S : Store} {a : AV} {v : V} {l : List PV} (hs : SRep T ρ H S) (ha : RepA T H0 ρ H a v) (e : listOf S a = some l) : ∃ p xs, v = .ref p ∧ SqL T.K H p xs ∧ Reps T ρ H l xs := by
  cases a with
  | v p =>
    cases p with
    | loc n =>
      simp only [listOf] at e
      cases q : S[n]? with
      | none => rw [q] at e; cases e
      | some o =>
        rw [q] at e
        obtain ⟨b, e1, r⟩ := hs.get q
        have ev := rep_loc (T := T) (H := H) ha e1
        cases o with
        | lst xs => cases e; obtain ⟨ys, q1, r1⟩ := r; exact ⟨b, ys, ev, .inl (.inl q1), r1⟩
        | dk _ => cases e
        | dt _ => cases e
    | rol l =>
      cases e
      have ha : Rep T ρ H (.rol l) v := ha
      unfold Rep at ha
      obtain ⟨b, ys, rfl, q, r⟩ := ha
      exact ⟨b, ys, rfl, q.l, r⟩
    | _ => cases e
  | l xs => cases e; obtain ⟨b, ys, rfl, _, _, q, r⟩ := ha; exact ⟨b, ys, rfl, .inl (.inl q), r⟩
  | dk _ => cases e
  | dt _ => cases e
theorem lstOf_ok {S : Store} {a : AV} {v : V} {l : List PV} (hs : SRep T ρ H S) (ha : RepA T H0 ρ H a v) (e : lstOf S a = some l) : ∃ p xs, v = .ref p ∧ H p = some (.lst xs) ∧ Reps T ρ H l xs := by
  cases a with
  | v p =>
    cases p with
    | loc n =>
      simp only [lstOf] at e
      cases q : S[n]? with
      | none => rw [q] at e; cases e
      | some o =>
        rw [q] at e
        obtain ⟨b, e1, r⟩ := hs.get q
        have ev := rep_loc (T := T) (H := H) ha e1
        cases o with
        | lst xs => cases e; obtain ⟨ys, q1, r1⟩ := r; exact ⟨b, ys, ev, q1, r1⟩
        | dk _ => cases e
        | dt _ => cases e
    | _ => cases e
  | l xs => cases e; obtain ⟨b, ys, rfl, _, _, q, r⟩ := ha; exact ⟨b, ys, rfl, q, r⟩
  | dk _ => cases e
  | dt _ => cases e
theorem dkOf_ok {S : Store} {a : AV} {v : V} {l : List (Key × PV)} (hs : SRep T ρ H S) (ha : RepA T H0 ρ H a v) (e : dkOf S a = some l) : ∃ p xs, v = .ref p ∧ H p = some (.dK xs) ∧ RepK T ρ H l xs := by
  cases a with
  | v p =>
    cases p with
    | loc n =>
      simp only [dkOf] at e
      cases q : S[n]? with
      | none => rw [q] at e; cases e
      | some o =>
        rw [q] at e
        obtain ⟨b, e1, r⟩ := hs.get q
        have ev := rep_loc (T := T) (H := H) ha e1
        cases o with
        | dk xs => cases e; obtain ⟨ys, q1, r1⟩ := r; exact ⟨b, ys, ev, q1, r1⟩
        | lst _ => cases e
        | dt _ => cases e
    | _ => cases e
  | dk xs => cases e; obtain ⟨b, ys, rfl, _, _, q, r⟩ := ha; exact ⟨b, ys, rfl, q, r⟩
  | l _ => cases e
  | dt _ => cases e

theorem dtOf_ok {S : Store} {a : AV} {v : V} {l : List (List Key × PV)} (hs : SRep T ρ H S) (ha : RepA T H0 ρ H a v) (e : dtOf S a = some l) : ∃ p xs, v = .ref p ∧ H p = some (.dT xs) ∧ RepK T ρ H l xs := by
  cases a with
  | v p =>
    cases p with
    | loc n =>
      simp only [dtOf] at e
      cases q : S[n]? with
      | none => rw [q] at e; cases e
      | some o =>
        rw [q] at e
        obtain ⟨b, e1, r⟩ := hs.get q
        have ev := rep_loc (T := T) (H := H) ha e1
        cases o with
        | dt xs => cases e; obtain ⟨ys, q1, r1⟩ := r; exact ⟨b, ys, ev, q1, r1⟩
        | lst _ => cases e
        | dk _ => cases e
    | _ => cases e
  | dt xs => cases e; obtain ⟨b, ys, rfl, _, _, q, r⟩ := ha; exact ⟨b, ys, rfl, q, r⟩
  | l _ => cases e
  | dk _ => cases e
theorem tupOf_ok {a : AV} {v : V} {l : List PV} (ha : RepA T H0 ρ H a v) (e : tupOf a = some l) : ∃ p xs, v = .ref p ∧ SqT T.K H p xs ∧ Reps T ρ H l xs := by
  cases a with
  | v p =>
    cases p with
    | tup l =>
      cases e
      have ha : Rep T ρ H (.tup l) v := ha
      unfold Rep at ha
      obtain ⟨b, ys, rfl, q, r⟩ := ha
      exact ⟨b, ys, rfl, .inl (.inl q), r⟩
    | rot l =>
      cases e
      have ha : Rep T ρ H (.rot l) v := ha
      unfold Rep at ha
      obtain ⟨b, ys, rfl, q, r⟩ := ha
      exact ⟨b, ys, rfl, q.t, r⟩
    | _ => cases e
  | _ => cases e
theorem rotOf_ok {a : AV} {v : V} {l : List PV} (ha : RepA T H0 ρ H a v) (e : rotOf a = some l) : ∃ p xs, v = .ref p ∧ SqR T.K H p xs ∧ Reps T ρ H l xs := by
  cases a with
  | v p =>
    cases p with
    | rot l =>
      cases e
      have ha : Rep T ρ H (.rot l) v := ha
      unfold Rep at ha
      obtain ⟨b, ys, rfl, q, r⟩ := ha
      exact ⟨b, ys, rfl, q, r⟩
    | _ => cases e
  | _ => cases e
theorem seqOf_ok {S : Store} {a : AV} {v : V} {l : List PV} (hs : SRep T ρ H S) (ha : RepA T H0 ρ H a v) (e : seqOf S a = some l) : ∃ p xs, v = .ref p ∧ (SqL T.K H p xs ∨ SqT T.K H p xs) ∧ Reps T ρ H l xs := by
  unfold seqOf at e
  split at e
  · rename_i l2 h
    cases e
    obtain ⟨p, xs, rfl, q, r⟩ := tupOf_ok ha h
    exact ⟨p, xs, rfl, .inr q, r⟩
  · obtain ⟨p, xs, rfl, q, r⟩ := listOf_ok hs ha e
    exact ⟨p, xs, rfl, .inl q, r⟩

/-! ### data -/
theorem mapO_cons {α β : Type} {f : α → Option β} {x : α} {r : List α} {ys : List β} (h : mapO f (x :: r) = some ys) : ∃ y zs, ys = y :: zs ∧ f x = some y ∧ mapO f r = some zs := by
  simp only [mapO] at h
  cases e : f x with
  | none => rw [e] at h; cases h
  | some y =>
    rw [e] at h
    cases e2 : mapO f r with
    | none => rw [e2] at h; cases h
    | some zs => rw [e2] at h; cases h; exact ⟨y, zs, rfl, rfl, rfl⟩
theorem mapO_dp {f : PV → Option PyData} (hf : ∀ p d v, f p = some d → Rep T ρ H p v → Dp T.K H v d) : ∀ {l : List PV} {ds : List PyData} {xs : List V}, mapO f l = some ds → Reps T ρ H l xs → DpAll T.K H xs ds
  | [], _, _, e, r => by
    unfold Reps at r
    subst r
    simp only [mapO] at e
    cases e
    exact .nil
  | p :: l, _, _, e, r => by
    unfold Reps at r
    obtain ⟨x, t, rfl, h1, h2⟩ := r
    obtain ⟨y, zs, rfl, e1, e2⟩ := mapO_cons e
    exact .cons (hf _ _ _ e1 h1) (mapO_dp hf e2 h2)
theorem dat_ok {S : Store} (hs : SRep T ρ H S) : ∀ (k : Nat) (p : PV) (d : PyData) (v : V), dat S k p = some d → Rep T ρ H p v → Dp T.K H v d := by
  intro k
  induction k with
  | zero =>
    intro p d v e r
    cases p <;> simp only [dat] at e <;> cases e <;> (unfold Rep at r; subst r; constructor)
  | succ k ih =>
    intro p d v e r
    cases p with
    | tup l =>
      simp only [dat, Option.map_eq_some_iff] at e
      obtain ⟨ds, e1, rfl⟩ := e
      unfold Rep at r
      obtain ⟨a, xs, rfl, q, r⟩ := r
      exact .tup (.inl (.inl q)) (mapO_dp ih e1 r)
    | rot l =>
      simp only [dat, Option.map_eq_some_iff] at e
      obtain ⟨ds, e1, rfl⟩ := e
      unfold Rep at r
      obtain ⟨a, xs, rfl, q, r⟩ := r
      exact .tup q.t (mapO_dp ih e1 r)
    | rol l =>
      simp only [dat, Option.map_eq_some_iff] at e
      obtain ⟨ds, e1, rfl⟩ := e
      unfold Rep at r
      obtain ⟨a, xs, rfl, q, r⟩ := r
      exact .lst q.l (mapO_dp ih e1 r)
    | loc n =>
      simp only [dat] at e
      cases q : S[n]? with
      | none => rw [q] at e; cases e
      | some o =>
        rw [q] at e
        obtain ⟨b, e1, r1⟩ := hs.get q
        have ev := rep_loc r e1
        subst ev
        cases o with
        | lst l =>
          simp only [Option.map_eq_some_iff] at e
          obtain ⟨ds, e1, rfl⟩ := e
          obtain ⟨xs, q1, r1⟩ := r1
          exact .lst (.inl (.inl q1)) (mapO_dp ih e1 r1)
        | dk _ => cases e
        | dt _ => cases e
    | fn n => simp only [dat] at e; cases e
    | _ => simp only [dat] at e; cases e; unfold Rep at r; subst r; constructor
theorem datA_ok {S : Store} {a : AV} {d : PyData} {v : V} (hs : SRep T ρ H S) (e : datA S a = some d) (r : RepA T H0 ρ H a v) : Dp T.K H v d := by
  cases a with
  | v p => exact dat_ok hs _ _ _ _ e r
  | l xs =>
    simp only [datA, Option.map_eq_some_iff] at e
    obtain ⟨ds, e1, rfl⟩ := e
    obtain ⟨a, ys, rfl, _, _, q, r⟩ := r
    exact .lst (.inl (.inl q)) (mapO_dp (dat_ok hs _) e1 r)
  | dk _ => cases e
  | dt _ => cases e
end

/-! ### a new object -/
section
variable {T : TX} {ρ : List Addr} {H : Hp} {S : Store}
theorem step_new {a : Addr} {o : HO} (n : H a = none) : Step ρ H ρ (upd H a o) := by
  refine ⟨⟨[], by simp⟩, fun b h m => absurd h m, fun b u e _ _ => ?_, fun b ps e _ => ⟨#[], ?_⟩, fun b xs e => ?_, fun b o u e => ?_⟩
  all_goals rw [upd_ne (ne_of_none e n)]
  all_goals first | exact e | simpa using e
/-- what stands at a place is no new object -/
theorem SRep.ne (h : SRep T ρ H S) {a : Addr} (n : H a = none) : a ∉ ρ := fun m => by
  obtain ⟨k, hk, e⟩ := List.getElem_of_mem m
  have e1 : ρ[k]? = some a := by simp [hk, e]
  have hn : k < S.length := by rw [← h.len]; exact hk
  have e2 : S[k]? = some S[k] := by simp [hn]
  have r := h.at_ k a _ e1 e2
  cases q : S[k] with
  | lst l => rw [q] at r; obtain ⟨_, q1, _⟩ := r; rw [n] at q1; cases q1
  | dk l => rw [q] at r; obtain ⟨_, q1, _⟩ := r; rw [n] at q1; cases q1
  | dt l => rw [q] at r; obtain ⟨_, q1, _⟩ := r; rw [n] at q1; cases q1
theorem ORep.new {a b : Addr} {o : HO} {u : SO} (n : H a = none) (r : ORep T ρ H b u) : ORep T ρ (upd H a o) b u := by
  have st : Step ρ H ρ (upd H a o) := step_new n
  cases u with
  | lst l => obtain ⟨xs, q, r⟩ := r; exact ⟨xs, by rw [upd_ne (ne_of_none q n)]; exact q, Reps.step st _ _ r⟩
  | dk l => obtain ⟨xs, q, r⟩ := r; exact ⟨xs, by rw [upd_ne (ne_of_none q n)]; exact q, r.step st⟩
  | dt l => obtain ⟨xs, q, r⟩ := r; exact ⟨xs, by rw [upd_ne (ne_of_none q n)]; exact q, r.step st⟩
theorem SRep.new (h : SRep T ρ H S) {a : Addr} {o : HO} (n : H a = none) : SRep T ρ (upd H a o) S :=
  ⟨h.len, h.nd, fun k b u e1 e2 => (h.at_ k b u e1 e2).new n, h.tab.ext fun b o e => by
    rw [upd_ne (ne_of_none e n)]
    exact e⟩
/-- an object that is no table and no code object is written -/
def Plain1 (o : HO) : Prop := (∀ ps, o ≠ .tbl ps) ∧ ∀ c q, o ≠ LamX.CodeO c q
theorem plain_lst {l : List V} : Plain1 (.lst l) := ⟨fun _ z => (by cases z), fun _ _ z => by
  unfold LamX.CodeO at z
  cases z⟩
theorem plain_dk {l : List (L2.Key × V)} : Plain1 (.dK l) := ⟨fun _ z => (by cases z), fun _ _ z => by
  unfold LamX.CodeO at z
  cases z⟩
theorem plain_dt {l : List (List L2.Key × V)} : Plain1 (.dT l) := ⟨fun _ z => (by cases z), fun _ _ z => by
  unfold LamX.CodeO at z
  cases z⟩
theorem tabs_over {L : List (Addr × Str)} {a : Addr} {o u : HO} (t : LamX.Tabs L H) (e : H a = some o) (p : Plain1 o) : LamX.Tabs L (upd H a u) := fun q hq => by
  obtain ⟨ps, h1, h2, h3⟩ := t q hq
  refine ⟨ps, ?_, h2, fun pos cv hc => ?_⟩
  · rw [upd_ne fun z => by rw [z, e] at h1; exact p.1 _ (Option.some.inj h1)]
    exact h1
  · obtain ⟨c, e1, e2⟩ := h3 pos cv hc
    refine ⟨c, e1, ?_⟩
    rw [upd_ne fun z => by rw [z, e] at e2; exact p.2 _ _ (Option.some.inj e2)]
    exact e2
theorem SRep.kind (h : SRep T ρ H S) {n : Nat} {a : Addr} (e : ρ[n]? = some a) : ∃ o, H a = some o ∧ Plain1 o := by
  have hn : n < S.length := by
    rw [← h.len]
    exact (List.getElem?_eq_some_iff.mp e).1
  have e2 : S[n]? = some S[n] := by simp [hn]
  have r := h.at_ n a _ e e2
  cases q : S[n] with
  | lst l =>
    rw [q] at r
    obtain ⟨_, q1, _⟩ := r
    exact ⟨_, q1, plain_lst⟩
  | dk l =>
    rw [q] at r
    obtain ⟨_, q1, _⟩ := r
    exact ⟨_, q1, plain_dk⟩
  | dt l =>
    rw [q] at r
    obtain ⟨_, q1, _⟩ := r
    exact ⟨_, q1, plain_dt⟩
end
end EV
/-! The E layer, part D: the operators do what the evaluator says. -/
namespace EV
open PySem PySem.Spec L2
open PyProof.Rows hiding St

def opE : BOp → Operator
  | .add => .Add | .sub => .Sub | .mul => .Mult | .fdiv => .FloorDiv | .mod => .Mod | .pow => .Pow | .shl => .LShift | .shr => .RShift
  | .band => .BitAnd | .bor => .BitOr | .bxor => .BitXor
theorem big_line : big ≤ sizeLine := by rw [sizeLine_eq]; decide
/-- two values in hand, and what is made of them -/
def rOp (T : TX) (m : Store → AV → AV → Option AV) : R2 := fun x y H Q => ∃ ρ S a b c H0, SRep T ρ H S ∧ RepA T H0 ρ H a x ∧ RepA T H0 ρ H b y ∧ m S a b = some c ∧
  ∀ ρ' H' v, Step ρ H ρ' H' → SRep T ρ' H' S → RepA T H ρ' H' c v → Q v H'
/-- tuple * int, as long as the product is small -/
def rTm (K : PySem.W.Frag) : R2 := fun x y H Q => ∃ l k zs, x = .ref l ∧ y = .int k ∧ SqT K H l zs ∧ zs ≠ [] ∧ 2 ≤ k ∧ zs.length * k.toNat ≤ 1000000 ∧ ∀ p, H p = none → Q (.ref p) (upd H p (.tup (List.replicate k.toNat zs).flatten))
theorem op_tm {X : Cx} : OpR X (binaryOp .Mult) (rTm X.K) := by
  intro pins s σ H x y v u Q I rx ry h
  obtain ⟨l, k, zs, rfl, rfl, hT, ne, h2, hz, q⟩ := h
  cases rx
  obtain ⟨tk, rfl⟩ := ry
  obtain ⟨us, r, ⟨⟨cl, di, dat0, so⟩, go, e1, n, e2⟩, _⟩ := I.tuple hT
  simp only at e1 e2
  subst e1 e2
  have len : us.length = zs.length := r.length.symm
  have ne2 : us ≠ [] := fun z => ne (List.eq_nil_of_length_eq_zero (by rw [← len, z]; rfl))
  have emp : us.toArray.isEmpty = false := by
    cases us with
    | nil => exact absurd rfl ne2
    | cons a b => rfl
  have sz : us.toArray.size = zs.length := by rw [List.size_toArray, len]
  have pos : 0 < zs.length := by
    cases zs with
    | nil => exact absurd rfl ne
    | cons a b => simp
  have kl : k.toNat ≤ 1000000 := Nat.le_trans (Nat.le_mul_of_pos_left _ pos) hz
  have kz : ((k.toNat : Nat) : Int) = k := Int.toNat_of_nonneg (by omega)
  have pr : ((us.toArray.size : Nat) : Int) * k ≤ 1000000 := by
    rw [sz, ← kz, ← Int.natCast_mul]
    exact Int.ofNat_le.mpr hz
  have fl : (List.replicate k.toNat us).flatten.length ≤ sizeLine := by
    rw [PyProof.Rows.lm_len_rep_flat, len, sizeLine_eq, Nat.mul_comm]
    omega
  have d0 : (decide (k < -(2 ^ 63)) || decide (k ≥ 2 ^ 63)) = false := by
    rw [decide_eq_false (by omega), decide_eq_false (by omega)]; rfl
  have d1 : (us.toArray.isEmpty || k == 1) = false := by
    rw [emp]
    exact beq_eq_false_iff_ne.mpr (by omega)
  have d2 : (decide (k ≤ 0) || us.toArray.isEmpty) = false := by
    rw [emp, decide_eq_false (show ¬ k ≤ 0 by omega)]; rfl
  have d3 : Builtin.Tuple.tupleTooMany (((us.toArray.size : Nat) : Int) * k) = false := by
    unfold Builtin.Tuple.tupleTooMany
    rw [sizeLine_eq, decide_eq_false (by omega)]
  have m1 := tuple_mulW l us.toArray n di so k tk d0 d1 d2 (by omega) d3 (by rw [size_rep, List.size_toArray]; exact fl)
  have m2 := int_rmul_tuple k tk l us.toArray n di so
  have c1 := F.args_tuple_mul_2 (.ref l) (.int k tk)
  refine wpAny_binaryOp_repeat_ref (T := "tuple") (U := "int") (by decide) ⟨_, go, rfl⟩ (fun z => typeIs_int z k tk) noFill_tuple_mul F.fills_int_mul F.slot_int_rmul repeat_tuple F.slot_int_index.lookup
    (call_meets F.slot_int_rmul (typeIs_int s k tk) F.entry_int_rmul (F.args_int_rmul_2 _ _) m2 ⟨go, rfl, ⟨_, go, rfl⟩, ?_⟩)
  refine call_meets F.slot_tuple_mul ⟨_, go, rfl⟩ F.entry_tuple_mul c1 m1 ⟨go, ?_⟩
  rw [size_rep]
  have la := I.laid (t' := s.toks) (o := .tup (List.replicate k.toNat zs).flatten) (fun b ob z => Heap.get?_push_of_some _ z) (Nat.le_refl _) ⟨by rw [PyProof.Rows.lm_len_rep_flat, Nat.mul_comm, sizeLine_eq]; omega, _, r.rep k.toNat, IsTup.new _ _⟩
  exact ⟨.ref s.heap.objs.size, _, la, rfl, q _ (I.hok.fresh (Nat.le_refl _))⟩
section
variable {X : Cx} {T : TX} {ρ : List Addr} {H H0 : Hp} {S : Store} {Q : VK}
/-- a new list in hand -/
theorem fin_list {xs : List PV} {ys : List V} (hs : SRep T ρ H S) (r : Reps T ρ H xs ys) (k : ∀ ρ' H' v, Step ρ H ρ' H' → SRep T ρ' H' S → RepA T H ρ' H' (.l xs) v → Q v H') {p : Addr} (n : H p = none) : Q (.ref p) (upd H p (.lst ys)) :=
  k ρ _ _ (step_new n) (hs.new n) ⟨p, ys, rfl, n, hs.ne n, upd_same, Reps.step (step_new n) _ _ r⟩
theorem fin_tup {xs : List PV} {ys : List V} (hs : SRep T ρ H S) (r : Reps T ρ H xs ys) (k : ∀ ρ' H' v, Step ρ H ρ' H' → SRep T ρ' H' S → RepA T H ρ' H' (.v (.tup xs)) v → Q v H') {p : Addr} (n : H p = none) : Q (.ref p) (upd H p (.tup ys)) := by
  refine k ρ _ _ (step_new n) (hs.new n) ?_
  show Rep _ _ _ _ _
  unfold Rep
  exact ⟨p, ys, rfl, upd_same, Reps.step (step_new n) _ _ r⟩
theorem fin_v {p : PV} {v : V} (hs : SRep T ρ H S) (r : Rep T ρ H p v) (k : ∀ ρ' H' v, Step ρ H ρ' H' → SRep T ρ' H' S → RepA T H ρ' H' (.v p) v → Q v H') : Q v H := k ρ H v Step.refl hs r
theorem rep_int {i : Int} : Rep T ρ H (.int i) (.int i) := by unfold Rep; rfl
theorem rep_bl {i : Bool} : Rep T ρ H (.bl i) (.bl i) := by unfold Rep; rfl
theorem rep_str {i : Str} : Rep T ρ H (.str i) (.str i) := by unfold Rep; rfl
theorem rep_non : Rep T ρ H .non .non := by unfold Rep; rfl
theorem of_int {i : Int} {v : V} (h : RepA T H0 ρ H (.v (.int i)) v) : v = .int i := by
  have h : Rep T ρ H (.int i) v := h
  unfold Rep at h
  exact h
theorem of_bl {i : Bool} {v : V} (h : RepA T H0 ρ H (.v (.bl i)) v) : v = .bl i := by
  have h : Rep T ρ H (.bl i) v := h
  unfold Rep at h
  exact h
theorem of_str {i : Str} {v : V} (h : RepA T H0 ρ H (.v (.str i)) v) : v = .str i := by
  have h : Rep T ρ H (.str i) v := h
  unfold Rep at h
  exact h
theorem of_non {v : V} (h : RepA T H0 ρ H (.v .non) v) : v = .non := by
  have h : Rep T ρ H .non v := h
  unfold Rep at h
  exact h
theorem of_tup {l : List PV} {v : V} (h : RepA T H0 ρ H (.v (.tup l)) v) : ∃ a xs, v = .ref a ∧ H a = some (.tup xs) ∧ Reps T ρ H l xs := by
  have h : Rep T ρ H (.tup l) v := h
  unfold Rep at h
  exact h
theorem fits_mul {i j : Int} (h : fitsM i j = true) : CMulW i j := by
  have h2 : i.natAbs.log2 + j.natAbs.log2 < 1000000 := of_decide_eq_true h
  exact h2
theorem int_ok (o : BOp) (i j : Int) (c : AV) (h : biInt o i j = some c) (hs : SRep T ρ H S) (k : ∀ ρ' H' v, Step ρ H ρ' H' → SRep T ρ' H' S → RepA T H ρ' H' c v → Q v H')
    {pins : List (Addr × Obj)} {s : Shared} {σ : St} {v u : Value} (I : Inv X pins σ H s) (rx : RelV (.int i) v) (ry : RelV (.int j) u) :
    wpAny (model X.prog X.w) X.A (binaryOp (opE o) v u) (EP X pins σ Q) X.xe s := by
  have f : ∀ {z : Int}, (.v (.int z) : AV) = c → Q (.int z) H := fun e => by
    subst e
    exact fin_v hs rep_int k
  cases o <;> simp only [biInt] at h
  · exact op_add pins s σ H _ _ v u Q I rx ry ⟨i, j, rfl, rfl, f (Option.some.inj h)⟩
  · exact op_sub pins s σ H _ _ v u Q I rx ry ⟨i, j, rfl, rfl, f (Option.some.inj h)⟩
  · split at h
    · rename_i c1
      exact op_mulW pins s σ H _ _ v u Q I rx ry ⟨i, j, rfl, rfl, fits_mul c1, f (Option.some.inj h)⟩
    · cases h
  · split at h
    · rename_i c1
      unfold fitsD at c1
      rw [Bool.and_eq_true] at c1
      exact op_fdivW pins s σ H _ _ v u Q I rx ry ⟨i, j, rfl, rfl, ⟨of_decide_eq_true c1.1, of_decide_eq_true c1.2⟩, f (Option.some.inj h)⟩
    · split at h
      · rename_i c1
        exact op_fdivN pins s σ H _ _ v u Q I rx ry ⟨i, j, rfl, rfl, ⟨c1.1, c1.2⟩, f (Option.some.inj h)⟩
      · cases h
  · split at h
    · rename_i c1
      exact op_mod pins s σ H _ _ v u Q I rx ry ⟨i, j, rfl, rfl, c1, f (Option.some.inj h)⟩
    · cases h
  · split at h
    · rename_i c1
      unfold fitsP at c1
      rw [Bool.and_eq_true, Bool.and_eq_true] at c1
      exact op_pow pins s σ H _ _ v u Q I rx ry ⟨i, j, rfl, rfl, ⟨of_decide_eq_true c1.1.1, of_decide_eq_true c1.1.2, of_decide_eq_true c1.2⟩, f (Option.some.inj h)⟩
    · cases h
  · split at h
    · rename_i c1
      unfold fitsP at c1
      rw [Bool.and_eq_true, Bool.and_eq_true] at c1
      exact op_shl pins s σ H _ _ v u Q I rx ry ⟨i, j, rfl, rfl, ⟨of_decide_eq_true c1.1.1, of_decide_eq_true c1.1.2, of_decide_eq_true c1.2⟩, f (Option.some.inj h)⟩
    · cases h
  · split at h
    · rename_i c1
      exact op_shr pins s σ H _ _ v u Q I rx ry ⟨i, j, rfl, rfl, c1, f (Option.some.inj h)⟩
    · cases h
  · exact op_and pins s σ H _ _ v u Q I rx ry ⟨i, j, rfl, rfl, f (Option.some.inj h)⟩
  · exact op_or pins s σ H _ _ v u Q I rx ry ⟨i, j, rfl, rfl, f (Option.some.inj h)⟩
  · exact op_xor pins s σ H _ _ v u Q I rx ry ⟨i, j, rfl, rfl, f (Option.some.inj h)⟩
theorem cat_two {p q : Addr} {P1 P2 : PV} {x y : List PV} {xs ys : List V} (hK : X.K = T.K) (hs : SRep T ρ H S) (h1 : SqT T.K H p xs) (h2 : SqT T.K H q ys) (r1 : Reps T ρ H x xs) (r2 : Reps T ρ H y ys) (q1 : Rep T ρ H P1 (.ref p)) (q2 : Rep T ρ H P2 (.ref q)) (c4 : x.length + y.length ≤ big)
    (k : ∀ ρ' H' v, Step ρ H ρ' H' → SRep T ρ' H' S → RepA T H ρ' H' (.v (catV P1 x P2 y)) v → Q v H') : rCatA X.K (.ref p) (.ref q) H Q := by
  have l1 := r1.length
  have l2 := r2.length
  refine ⟨p, q, xs, ys, rfl, rfl, by rw [hK]; exact h1, by rw [hK]; exact h2, ?_, fun z => ?_, fun z0 z => ?_, fun z0 z p' n => ?_⟩
  · rw [← l1, ← l2]
    exact Nat.le_trans c4 big_line
  · have e : x = [] := List.eq_nil_of_length_eq_zero (by rw [l1, z]; rfl)
    subst e
    exact k ρ H _ Step.refl hs q2
  · have e : y = [] := List.eq_nil_of_length_eq_zero (by rw [l2, z]; rfl)
    have ne : x.isEmpty = false := by
      cases x with
      | nil => exact absurd (List.eq_nil_of_length_eq_zero (by rw [← l1]; rfl)) z0
      | cons _ _ => rfl
    subst e
    refine k ρ H _ Step.refl hs ?_
    unfold catV
    rw [ne]
    exact q1
  · have n1 : x.isEmpty = false := by
      cases x with
      | nil => exact absurd (List.eq_nil_of_length_eq_zero (by rw [← l1]; rfl)) z0
      | cons _ _ => rfl
    have n2 : y.isEmpty = false := by
      cases y with
      | nil => exact absurd (List.eq_nil_of_length_eq_zero (by rw [← l2]; rfl)) z
      | cons _ _ => rfl
    refine fin_tup hs (r1.app r2) (fun ρ' H' v st hs' r => k ρ' H' v st hs' ?_) n
    unfold catV
    rw [n1, n2]
    exact r
theorem opR_bin (hK : X.K = T.K) (o : BOp) : OpR X (binaryOp (opE o)) (rOp T fun S => biOp S o) := by
  rintro pins s σ H x y v u Q I rx ry ⟨ρ, S, a, b, c, H0, hs, ra, rb, e, k⟩
  simp only [biOp] at e
  split at e
  · have e1 := of_int ra
    have e2 := of_int rb
    subst e1 e2
    exact int_ok o _ _ c e hs k I rx ry
  · rename_i x y
    have e1 := of_str ra
    have e2 := of_str rb
    subst e1 e2
    split at e
    · rename_i c1
      obtain ⟨rfl, c2⟩ := c1
      cases e
      exact op_add_str pins s σ H _ _ v u Q I rx ry ⟨_, _, rfl, rfl, Nat.le_trans c2 big_line, fin_v hs rep_str k⟩
    · cases e
  · obtain ⟨p, xs, rfl, h1, r1⟩ := of_tup ra
    obtain ⟨q, ys, rfl, h2, r2⟩ := of_tup rb
    split at e
    · rename_i c1
      obtain ⟨rfl, c2⟩ := c1
      cases e
      have l1 := r1.length
      have l2 := r2.length
      refine op_catA pins s σ H _ _ v u Q I rx ry ⟨_, _, xs, ys, rfl, rfl, by rw [hK]; exact .inl (.inl h1), by rw [hK]; exact .inl (.inl h2), ?_, fun z => ?_, fun _ z => ?_, fun _ _ p' n => fin_tup hs (r1.app r2) k n⟩
      · rw [← l1, ← l2]
        exact Nat.le_trans c2 big_line
      · subst z
        have z2 := List.eq_nil_of_length_eq_zero l1
        subst z2
        refine k ρ H _ Step.refl hs ?_
        show Rep _ _ _ _ _
        unfold Rep
        exact ⟨q, ys, rfl, h2, r2⟩
      · subst z
        have z2 := List.eq_nil_of_length_eq_zero l2
        subst z2
        refine k ρ H _ Step.refl hs ?_
        show Rep _ _ _ _ _
        unfold Rep
        exact ⟨p, xs, rfl, h1, by rw [List.append_nil]; exact r1⟩
    · cases e
  · obtain ⟨p, xs, rfl, h1, r1⟩ := rotOf_ok ra rfl
    obtain ⟨q, ys, rfl, h2, r2⟩ := rotOf_ok rb rfl
    split at e
    · rename_i c1
      obtain ⟨rfl, c4⟩ := c1
      cases e
      exact op_catA pins s σ H _ _ v u Q I rx ry (cat_two hK hs h1.t h2.t r1 r2 ra rb c4 k)
    · cases e
  · obtain ⟨p, xs, rfl, h1, r1⟩ := rotOf_ok ra rfl
    obtain ⟨q, ys, rfl, h2, r2⟩ := of_tup rb
    split at e
    · rename_i c1
      obtain ⟨rfl, c4⟩ := c1
      cases e
      exact op_catA pins s σ H _ _ v u Q I rx ry (cat_two hK hs h1.t (.inl (.inl h2)) r1 r2 ra rb c4 k)
    · cases e
  · obtain ⟨p, xs, rfl, h1, r1⟩ := of_tup ra
    obtain ⟨q, ys, rfl, h2, r2⟩ := rotOf_ok rb rfl
    split at e
    · rename_i c1
      obtain ⟨rfl, c4⟩ := c1
      cases e
      exact op_catA pins s σ H _ _ v u Q I rx ry (cat_two hK hs (.inl (.inl h1)) h2.t r1 r2 ra rb c4 k)
    · cases e
  · rename_i x j
    obtain ⟨p, xs, rfl, h1, r1⟩ := of_tup ra
    have e2 := of_int rb
    subst e2
    split at e
    · rename_i c1
      obtain ⟨rfl, c2, c3, c4⟩ := c1
      cases e
      have l1 := r1.length
      exact op_tm pins s σ H _ _ v u Q I rx ry ⟨p, j, xs, rfl, rfl, by rw [hK]; exact .inl (.inl h1), (fun z => c2 (List.eq_nil_of_length_eq_zero (by rw [l1, z]; rfl))), c3, by rw [← l1]; exact c4, fun p' n => fin_tup hs (r1.rep _) k n⟩
    · cases e
  · rename_i j _ _
    have e2 := of_int rb
    subst e2
    split at e
    · rename_i l hl
      obtain ⟨p, xs, rfl, q, r⟩ := lstOf_ok hs ra hl
      split at e
      · rename_i c1
        obtain ⟨rfl, c2, c3, c4⟩ := c1
        cases e
        have l1 := r.length
        exact op_rep pins s σ H _ _ v u Q I rx ry ⟨p, j, xs, rfl, rfl, q, c2, c3, by rw [← l1]; exact Nat.le_trans c4 big_line, fun p' n => fin_list hs (r.rep _) k n⟩
      · cases e
    · cases e
  · split at e
    · rename_i l m hl hm
      obtain ⟨p, xs, rfl, q, r⟩ := lstOf_ok hs ra hl
      obtain ⟨p2, ys, rfl, q2, r2⟩ := lstOf_ok hs rb hm
      split at e
      · rename_i c1
        obtain ⟨rfl, c2⟩ := c1
        cases e
        have l1 := r.length
        have l2 := r2.length
        exact op_cat pins s σ H _ _ v u Q I rx ry ⟨p, p2, xs, ys, rfl, rfl, q, q2, by rw [← l1, ← l2]; exact Nat.le_trans c2 big_line, fun p' n => fin_list hs (r.app r2) k n⟩
      · cases e
    · cases e
end
end EV
/-! The E layer, part E: dicts; comparisons; truth; subscripts; o[i] = v. -/
namespace EV
open PySem PySem.Spec L2
open PyProof.Rows hiding St

section
variable {κ : Type} [DecidableEq κ] {T : TX} {ρ : List Addr} {H : Hp}
theorem RepK.nil : RepK T ρ H ([] : List (κ × PV)) [] := ⟨rfl, Reps.nil⟩
theorem RepK.cons {k : κ} {p : PV} {v : V} {kvs : List (κ × PV)} {ks : List (κ × V)} (r : Rep T ρ H p v) (h : RepK T ρ H kvs ks) : RepK T ρ H ((k, p) :: kvs) ((k, v) :: ks) :=
  ⟨by simp [h.1], .cons r h.2⟩
theorem RepK.ind {P : List (κ × PV) → List (κ × V) → Prop} (h0 : P [] []) (h1 : ∀ k p v kvs ks, Rep T ρ H p v → RepK T ρ H kvs ks → P kvs ks → P ((k, p) :: kvs) ((k, v) :: ks)) :
    ∀ {kvs : List (κ × PV)} {ks : List (κ × V)}, RepK T ρ H kvs ks → P kvs ks
  | [], ks, h => by
    have e : ks = [] := by simpa using h.1.symm
    subst e
    exact h0
  | (k, p) :: kvs, ks, h => by
    cases ks with
    | nil => have := h.1; simp at this
    | cons q ks =>
      obtain ⟨k', v⟩ := q
      have e := h.1
      simp only [List.map_cons, List.cons.injEq] at e
      obtain ⟨rfl, e⟩ := e
      have r := h.2
      simp only [List.map_cons] at r
      unfold Reps at r
      obtain ⟨x, t, e2, r1, r2⟩ := r
      cases e2
      exact h1 k p v kvs ks r1 ⟨e, r2⟩ (RepK.ind h0 h1 ⟨e, r2⟩)
theorem RepK.get {kvs : List (κ × PV)} {ks : List (κ × V)} (h : RepK T ρ H kvs ks) (k : κ) : (getK k kvs = none ∧ valV ks k = none) ∨ ∃ p v, getK k kvs = some p ∧ valV ks k = some v ∧ Rep T ρ H p v := by
  refine RepK.ind (P := fun kvs ks => (getK k kvs = none ∧ valV ks k = none) ∨ ∃ p v, getK k kvs = some p ∧ valV ks k = some v ∧ Rep T ρ H p v) (.inl ⟨rfl, rfl⟩) (fun j p v kvs ks r _ ih => ?_) h
  by_cases e : j = k
  · refine .inr ⟨p, v, ?_, ?_, r⟩
    · simp [getK, List.find?_cons, e]
    · simp [valV, List.find?_cons, e]
  · unfold getK valV at ih ⊢
    simp only [List.find?_cons, decide_eq_false e]
    exact ih
theorem RepK.length {kvs : List (κ × PV)} {ks : List (κ × V)} (h : RepK T ρ H kvs ks) : kvs.length = ks.length := by
  have := congrArg List.length h.1
  simpa using this
theorem RepK.any {kvs : List (κ × PV)} {ks : List (κ × V)} (h : RepK T ρ H kvs ks) (k : κ) : (kvs.any fun q => decide (q.1 = k)) = ks.any fun q => decide (q.1 = k) := by
  refine RepK.ind (P := fun kvs ks => (kvs.any fun q => decide (q.1 = k)) = ks.any fun q => decide (q.1 = k)) rfl (fun j p v kvs ks r _ ih => ?_) h
  simp only [List.any_cons, ih]
theorem RepK.put {kvs : List (κ × PV)} {ks : List (κ × V)} (h : RepK T ρ H kvs ks) (k : κ) {p : PV} {v : V} (r : Rep T ρ H p v) : RepK T ρ H (setK k p kvs) (putK ks k v) := by
  unfold setK putK
  rw [h.any k]
  split
  · refine RepK.ind (P := fun kvs ks => RepK T ρ H (kvs.map fun q => if q.1 = k then (q.1, p) else q) (ks.map fun q => if q.1 = k then (q.1, v) else q)) RepK.nil (fun j q w kvs ks r2 _ ih => ?_) h
    simp only [List.map_cons]
    by_cases e : j = k
    · rw [if_pos e, if_pos e]; exact .cons r ih
    · rw [if_neg e, if_neg e]; exact .cons r2 ih
  · refine RepK.ind (P := fun kvs ks => RepK T ρ H (kvs ++ [(k, p)]) (ks ++ [(k, v)])) (.cons r .nil) (fun j q w kvs ks r2 _ ih => .cons r2 ih) h
end

section
variable {X : Cx} {T : TX} {ρ : List Addr} {H H0 : Hp} {S : Store}
theorem key_ok {p : PV} {k : Key} {v : V} (e : keyOf p = some k) (r : Rep T ρ H p v) : v = kV k := by
  cases p <;> simp only [keyOf] at e <;> cases e <;> (unfold Rep at r; exact r)
theorem keysL_ok : ∀ {l : List PV} {ks : List Key} {xs : List V}, mapO keyOf l = some ks → Reps T ρ H l xs → xs = ks.map kV
  | [], _, _, e, r => by
    unfold Reps at r
    subst r
    simp only [mapO] at e
    cases e
    rfl
  | p :: l, _, _, e, r => by
    unfold Reps at r
    obtain ⟨x, t, rfl, h1, h2⟩ := r
    obtain ⟨y, zs, rfl, e1, e2⟩ := mapO_cons e
    rw [List.map_cons, ← key_ok e1 h1, ← keysL_ok e2 h2]
theorem keys_ok {p : PV} {ks : List Key} {v : V} (e : keysOf p = some ks) (r : Rep T ρ H p v) : ∃ a, v = .ref a ∧ H a = some (.tup (ks.map kV)) := by
  cases p <;> simp only [keysOf] at e <;> try cases e
  unfold Rep at r
  obtain ⟨a, xs, rfl, q, r⟩ := r
  rw [keysL_ok e r] at q
  exact ⟨a, rfl, q⟩
/-- what the model's dict holds, and what the evaluator's does -/
def ROp (T : TX) (ρ : List Addr) (H : Hp) (o : Option PV) (r : Option V) : Prop := (o = none ∧ r = none) ∨ ∃ p v, o = some p ∧ r = some v ∧ Rep T ρ H p v
theorem dGet_ok {d : AV} {k : PV} {o : Option PV} {x y : V} (hs : SRep T ρ H S) (rd : RepA T H0 ρ H d x) (rk : Rep T ρ H k y) (e : dGet S d k = some o) : ∃ a r, x = .ref a ∧ DGet H a y r ∧ ROp T ρ H o r := by
  unfold dGet at e
  split at e
  · rename_i k kvs e1 e2
    cases e
    obtain ⟨a, ks, rfl, q, r⟩ := dkOf_ok hs rd e2
    rw [key_ok e1 rk]
    exact ⟨a, _, rfl, DGet.k q, r.get k⟩
  · split at e
    · rename_i k kvs e1 e2
      cases e
      obtain ⟨a, ks, rfl, q, r⟩ := dtOf_ok hs rd e2
      obtain ⟨b, rfl, qb⟩ := keys_ok e1 rk
      exact ⟨a, _, rfl, DGet.t q qb, r.get k⟩
    · cases e
theorem ROp.isSome {o : Option PV} {r : Option V} (h : ROp T ρ H o r) : r.isSome = o.isSome := by
  rcases h with ⟨rfl, rfl⟩ | ⟨p, v, rfl, rfl, _⟩ <;> rfl
theorem seqD {S : Store} {l : List PV} {ds : List PyData} {xs : List V} (hs : SRep T ρ H S) (e : mapO (dat S deep) l = some ds) (r : Reps T ρ H l xs) : DpAll T.K H xs ds := mapO_dp (dat_ok hs _) e r

/-! ### comparisons -/
def coE : COp → CmpOp
  | .eq => .Eq | .ne => .NotEq | .lt => .Lt | .le => .LtE | .gt => .Gt | .ge => .GtE | .isin => .In | .notin => .NotIn | .isN => .Is | .notN => .IsNot
variable {Q : VK}
theorem in_ok {a b : AV} {c : Bool} (hs : SRep T ρ H S) (e : inA S a b = some c) {pins : List (Addr × Obj)} {s : Shared} {σ : St} {x y : V} {v u : Value} (hK : X.K = T.K) (hu : X.A.units + 64 < cLine) (I : Inv X pins σ H s) (ra : RepA T H0 ρ H a x) (rb : RepA T H0 ρ H b y) (rx : RelV x v) (ry : RelV y u) :
    (Q (.bl c) H → wpAny (model X.prog X.w) X.A (compareOp .In v u) (EP X pins σ Q) X.xe s) ∧ (Q (.bl (!c)) H → wpAny (model X.prog X.w) X.A (compareOp .NotIn v u) (EP X pins σ Q) X.xe s) := by
  obtain ⟨K, fa, ca, fl, tabs⟩ := T
  obtain rfl : X.K = K := hK
  unfold inA at e
  split at e
  · rename_i l hl
    obtain ⟨p, xs, rfl, q, r⟩ := seqOf_ok hs rb hl
    unfold inSeq at e
    split at e
    · rename_i d ds e1 e2
      split at e
      · rename_i hc
        cases e
        simp only [Bool.and_eq_true, decide_eq_true_eq] at hc
        obtain ⟨⟨⟨c1, c2⟩, c3⟩, c4⟩ := hc
        have D := datA_ok hs e1 ra
        have DS := seqD hs e2 r
        obtain ⟨as, R1⟩ := Dp.reads I d x v D rx
        have hu2 : X.A.units + 1 + min (PyData.depthAll ds) d.depth < cLine := by omega
        rcases q with q | q
        · obtain ⟨bs, R2⟩ := Dp.reads I (.list ds) (.ref p) u (.lst q DS) ry
          exact ⟨fun h => SeqAt.in_list_data R2 R1 c2 c1 hu2 ⟨.bl _, H, I, rfl, h⟩, fun h => SeqAt.notIn_list_data R2 R1 c2 c1 hu2 ⟨.bl _, H, I, rfl, h⟩⟩
        · obtain ⟨bs, R2⟩ := Dp.reads I (.tuple ds) (.ref p) u (.tup q DS) ry
          exact ⟨fun h => SeqAt.in_tuple_data R2 R1 c2 c1 hu2 ⟨.bl _, H, I, rfl, h⟩, fun h => SeqAt.notIn_tuple_data R2 R1 c2 c1 hu2 ⟨.bl _, H, I, rfl, h⟩⟩
      · cases e
    · cases e
  · split at e
    · rename_i k
      simp only [Option.map_eq_some_iff] at e
      obtain ⟨o, e1, rfl⟩ := e
      obtain ⟨p, r, rfl, g, ro⟩ := dGet_ok hs rb (show Rep _ ρ H k x from ra) e1
      cases (show u = Value.ref p from ry)
      rw [← ro.isSome]
      exact ⟨fun h => d_in (by omega) I g rx fun s' I' => ⟨.bl _, H, I', rfl, h⟩, fun h => d_notIn (by omega) I g rx fun s' I' => ⟨.bl _, H, I', rfl, h⟩⟩
    · cases e
theorem eq_ok {a b : AV} {c : Bool} (hs : SRep T ρ H S) (e : eqA S a b = some c) {pins : List (Addr × Obj)} {s : Shared} {σ : St} {x y : V} {v u : Value} (hK : X.K = T.K) (hu : X.A.units + 64 < cLine) (I : Inv X pins σ H s) (ra : RepA T H0 ρ H a x) (rb : RepA T H0 ρ H b y) (rx : RelV x v) (ry : RelV y u) :
    (Q (.bl c) H → wpAny (model X.prog X.w) X.A (compareOp .Eq v u) (EP X pins σ Q) X.xe s) ∧ (Q (.bl (!c)) H → wpAny (model X.prog X.w) X.A (compareOp .NotEq v u) (EP X pins σ Q) X.xe s) := by
  obtain ⟨K, fa, ca, fl, tabs⟩ := T
  obtain rfl : X.K = K := hK
  unfold eqA at e
  split at e
  · rename_i d f e1 e2
    split at e
    · rename_i hc
      cases e
      rw [Bool.and_eq_true] at hc
      have D1 := datA_ok hs e1 ra
      have D2 := datA_ok hs e2 rb
      exact ⟨fun h => op_eqD hu pins s σ H x y v u Q I rx ry ⟨d, f, D1, D2, hc.1, hc.2, h⟩, fun h => op_neD hu pins s σ H x y v u Q I rx ry ⟨d, f, D1, D2, hc.1, hc.2, h⟩⟩
    · cases e
  · cases e
theorem cmpOk_of {d e : PyData} (h : cmpOk d e = true) : PySem.W.alike d e = true ∧ d ≠ .none ∧ d.depth ≤ 60 := by
  unfold cmpOk at h
  simp only [Bool.and_eq_true, decide_eq_true_eq] at h
  refine ⟨h.1.1, fun z => ?_, h.2⟩
  subst z
  cases h.1.2
theorem lt_ok {a b : AV} {c : Bool} (hs : SRep T ρ H S) (e : ltA S a b = some c) {pins : List (Addr × Obj)} {s : Shared} {σ : St} {x y : V} {v u : Value} (hK : X.K = T.K) (hu : X.A.units + 64 < cLine) (I : Inv X pins σ H s) (ra : RepA T H0 ρ H a x) (rb : RepA T H0 ρ H b y) (rx : RelV x v) (ry : RelV y u) (h : Q (.bl c) H) :
    wpAny (model X.prog X.w) X.A (compareOp .Lt v u) (EP X pins σ Q) X.xe s := by
  obtain ⟨K, fa, ca, fl, tabs⟩ := T
  obtain rfl : X.K = K := hK
  unfold ltA at e
  split at e
  · rename_i d f e1 e2
    split at e
    · rename_i hc
      cases e
      obtain ⟨c1, c2, c3⟩ := cmpOk_of hc
      obtain ⟨as, R1⟩ := Dp.reads I d x v (datA_ok hs e1 ra) rx
      obtain ⟨bs, R2⟩ := Dp.reads I f y u (datA_ok hs e2 rb) ry
      exact PySem.W.lt_data R1 R2 c1 c2 (by omega) ⟨.bl _, H, I, rfl, h⟩
    · cases e
  · cases e
theorem le_ok {a b : AV} {c : Bool} (hs : SRep T ρ H S) (e : leA S a b = some c) {pins : List (Addr × Obj)} {s : Shared} {σ : St} {x y : V} {v u : Value} (hK : X.K = T.K) (hu : X.A.units + 64 < cLine) (I : Inv X pins σ H s) (ra : RepA T H0 ρ H a x) (rb : RepA T H0 ρ H b y) (rx : RelV x v) (ry : RelV y u) (h : Q (.bl c) H) :
    wpAny (model X.prog X.w) X.A (compareOp .LtE v u) (EP X pins σ Q) X.xe s := by
  obtain ⟨K, fa, ca, fl, tabs⟩ := T
  obtain rfl : X.K = K := hK
  unfold leA at e
  split at e
  · rename_i d f e1 e2
    split at e
    · rename_i hc
      cases e
      obtain ⟨c1, c2, c3⟩ := cmpOk_of hc
      obtain ⟨as, R1⟩ := Dp.reads I d x v (datA_ok hs e1 ra) rx
      obtain ⟨bs, R2⟩ := Dp.reads I f y u (datA_ok hs e2 rb) ry
      exact PySem.W.le_data R1 R2 c1 c2 (by omega) ⟨.bl _, H, I, rfl, h⟩
    · cases e
  · cases e
theorem gt_ok {a b : AV} {c : Bool} (hs : SRep T ρ H S) (e : gtA S a b = some c) {pins : List (Addr × Obj)} {s : Shared} {σ : St} {x y : V} {v u : Value} (hK : X.K = T.K) (hu : X.A.units + 64 < cLine) (I : Inv X pins σ H s) (ra : RepA T H0 ρ H a x) (rb : RepA T H0 ρ H b y) (rx : RelV x v) (ry : RelV y u) (h : Q (.bl c) H) :
    wpAny (model X.prog X.w) X.A (compareOp .Gt v u) (EP X pins σ Q) X.xe s := by
  obtain ⟨K, fa, ca, fl, tabs⟩ := T
  obtain rfl : X.K = K := hK
  unfold gtA at e
  split at e
  · rename_i d f e1 e2
    split at e
    · rename_i hc
      cases e
      obtain ⟨c1, c2, c3⟩ := cmpOk_of hc
      obtain ⟨as, R1⟩ := Dp.reads I d x v (datA_ok hs e1 ra) rx
      obtain ⟨bs, R2⟩ := Dp.reads I f y u (datA_ok hs e2 rb) ry
      exact PySem.W.gt_data R1 R2 c1 c2 (by omega) ⟨.bl _, H, I, rfl, h⟩
    · cases e
  · cases e
theorem ge_ok {a b : AV} {c : Bool} (hs : SRep T ρ H S) (e : geA S a b = some c) {pins : List (Addr × Obj)} {s : Shared} {σ : St} {x y : V} {v u : Value} (hK : X.K = T.K) (hu : X.A.units + 64 < cLine) (I : Inv X pins σ H s) (ra : RepA T H0 ρ H a x) (rb : RepA T H0 ρ H b y) (rx : RelV x v) (ry : RelV y u) (h : Q (.bl c) H) :
    wpAny (model X.prog X.w) X.A (compareOp .GtE v u) (EP X pins σ Q) X.xe s := by
  obtain ⟨K, fa, ca, fl, tabs⟩ := T
  obtain rfl : X.K = K := hK
  unfold geA at e
  split at e
  · rename_i d f e1 e2
    split at e
    · rename_i hc
      cases e
      obtain ⟨c1, c2, c3⟩ := cmpOk_of hc
      obtain ⟨as, R1⟩ := Dp.reads I d x v (datA_ok hs e1 ra) rx
      obtain ⟨bs, R2⟩ := Dp.reads I f y u (datA_ok hs e2 rb) ry
      exact PySem.W.ge_data R1 R2 c1 c2 (by omega) ⟨.bl _, H, I, rfl, h⟩
    · cases e
  · cases e
theorem non_iff {a : AV} {x : V} (r : RepA T H0 ρ H a x) : decide (x = .non) = isNon a := by
  cases a with
  | v p =>
    have r : Rep T ρ H p x := r
    cases p with
    | non => unfold Rep at r; subst r; rfl
    | bl b => unfold Rep at r; subst r; rfl
    | int b => unfold Rep at r; subst r; rfl
    | str b => unfold Rep at r; subst r; rfl
    | tup l => unfold Rep at r; obtain ⟨_, _, rfl, _⟩ := r; rfl
    | rot l => unfold Rep at r; obtain ⟨_, _, rfl, _⟩ := r; rfl
    | rol l => unfold Rep at r; obtain ⟨_, _, rfl, _⟩ := r; rfl
    | loc n => unfold Rep at r; obtain ⟨_, _, rfl⟩ := r; rfl
    | fn n => unfold Rep at r; obtain ⟨_, _, rfl⟩ := r; rfl
  | l xs => obtain ⟨_, _, rfl, _⟩ := r; rfl
  | dk xs => obtain ⟨_, _, rfl, _⟩ := r; rfl
  | dt xs => obtain ⟨_, _, rfl, _⟩ := r; rfl
theorem coOp_ok (o : COp) {a b : AV} {c : Bool} (hs : SRep T ρ H S) (e : coOp S o a b = some c) {pins : List (Addr × Obj)} {s : Shared} {σ : St} {x y : V} {v u : Value} (hK : X.K = T.K) (hu : X.A.units + 64 < cLine) (I : Inv X pins σ H s) (ra : RepA T H0 ρ H a x) (rb : RepA T H0 ρ H b y) (rx : RelV x v) (ry : RelV y u) (h : Q (.bl c) H) :
    wpAny (model X.prog X.w) X.A (compareOp (coE o) v u) (EP X pins σ Q) X.xe s := by
  have isN : ∀ {b : AV} {c : Bool} {k : Bool}, RepA T H0 ρ H b y → (match b with | .v .non => some k | _ => none) = some c → y = .non ∧ c = k := fun {b c k} rb e => by
    split at e
    · cases e
      exact ⟨of_non rb, rfl⟩
    · cases e
  cases o <;> simp only [coOp] at e <;> simp only [coE]
  · split at e
    · have e1 := of_int ra
      have e2 := of_int rb
      subst e1 e2
      cases e
      obtain ⟨t, rfl⟩ := rx
      obtain ⟨t', rfl⟩ := ry
      exact eq_int (by rw [Bool.beq_eq_decide_eq]; exact ⟨.bl _, H, I, rfl, h⟩)
    · exact (eq_ok hs e hK hu I ra rb rx ry).1 h
  · split at e
    · have e1 := of_int ra
      have e2 := of_int rb
      subst e1 e2
      cases e
      obtain ⟨t, rfl⟩ := rx
      obtain ⟨t', rfl⟩ := ry
      exact ne_int (by rw [bne, Bool.beq_eq_decide_eq]; exact ⟨.bl _, H, I, rfl, h⟩)
    · simp only [Option.map_eq_some_iff] at e
      obtain ⟨c', e, rfl⟩ := e
      exact (eq_ok hs e hK hu I ra rb rx ry).2 h
  · split at e
    · have e1 := of_int ra
      have e2 := of_int rb
      subst e1 e2
      cases e
      exact op_lt pins s σ H _ _ v u Q I rx ry ⟨_, _, rfl, rfl, h⟩
    · exact lt_ok hs e hK hu I ra rb rx ry h
  · split at e
    · have e1 := of_int ra
      have e2 := of_int rb
      subst e1 e2
      cases e
      exact op_le pins s σ H _ _ v u Q I rx ry ⟨_, _, rfl, rfl, h⟩
    · exact le_ok hs e hK hu I ra rb rx ry h
  · split at e
    · have e1 := of_int ra
      have e2 := of_int rb
      subst e1 e2
      cases e
      exact op_gt pins s σ H _ _ v u Q I rx ry ⟨_, _, rfl, rfl, h⟩
    · exact gt_ok hs e hK hu I ra rb rx ry h
  · split at e
    · have e1 := of_int ra
      have e2 := of_int rb
      subst e1 e2
      cases e
      exact op_ge pins s σ H _ _ v u Q I rx ry ⟨_, _, rfl, rfl, h⟩
    · exact ge_ok hs e hK hu I ra rb rx ry h
  · exact (in_ok hs e hK hu I ra rb rx ry).1 h
  · simp only [Option.map_eq_some_iff] at e
    obtain ⟨c', e, rfl⟩ := e
    exact (in_ok hs e hK hu I ra rb rx ry).2 h
  · obtain ⟨rfl, rfl⟩ := isN rb e
    refine op_isN pins s σ H _ _ v u Q I rx ry ⟨rfl, ?_⟩
    rw [non_iff ra]
    exact h
  · obtain ⟨rfl, rfl⟩ := isN rb e
    refine op_notN pins s σ H _ _ v u Q I rx ry ⟨rfl, ?_⟩
    rw [non_iff ra]
    exact h
end
end EV
/-! The E layer, part F: truth; subscripts; slices; o[i] = v; what is written at a place. -/
namespace EV
open PySem PySem.Spec L2
open PyProof.Rows hiding St

section
variable {X : Cx} {T : TX} {ρ : List Addr} {H H0 : Hp} {S : Store}
theorem empty_iff {l : List PV} {xs : List V} (r : Reps T ρ H l xs) : xs.isEmpty = l.isEmpty := by
  have := r.length
  cases l <;> cases xs <;> simp_all
theorem emptyK_iff {κ : Type} {l : List (κ × PV)} {xs : List (κ × V)} [DecidableEq κ] (r : RepK T ρ H l xs) : xs.isEmpty = l.isEmpty := by
  have := r.length
  cases l <;> cases xs <;> simp_all
theorem tru_seq {a : AV} {b : Bool} {x : V} (hs : SRep T ρ H S) (hK : X.K = T.K) (e : (match seqOf S a with | some l => some (!l.isEmpty) | none => (dkOf S a).map fun l => !l.isEmpty) = some b) (ra : RepA T H0 ρ H a x) : ∃ k, TruV X.K x H k ∧ k = b := by
  obtain ⟨K, fa, ca, fl, tabs⟩ := T
  obtain rfl : X.K = K := hK
  split at e
  · rename_i l hl
    cases e
    obtain ⟨p, xs, rfl, q, r⟩ := seqOf_ok hs ra hl
    have z := empty_iff r
    rcases q with q | q
    · exact ⟨_, .inl ⟨xs, q, rfl⟩, by rw [z]⟩
    · exact ⟨_, .inr (.inl ⟨xs, q, rfl⟩), by rw [z]⟩
  · simp only [Option.map_eq_some_iff] at e
    obtain ⟨l, e1, rfl⟩ := e
    obtain ⟨p, xs, rfl, q, r⟩ := dkOf_ok hs ra e1
    exact ⟨_, .inr (.inr ⟨xs, q, rfl⟩), by rw [emptyK_iff r]⟩
theorem truth_ok {a : AV} {b : Bool} {x : V} (hs : SRep T ρ H S) (hK : X.K = T.K) (e : truth S a = some b) (ra : RepA T H0 ρ H a x) : ∃ k, TruV X.K x H k ∧ k = b := by
  unfold truth at e
  split at e
  · cases e; have := of_non ra; subst this; exact ⟨_, rfl, rfl⟩
  · cases e; have := of_bl ra; subst this; exact ⟨_, rfl, rfl⟩
  · cases e
    have := of_int ra
    subst this
    refine ⟨_, rfl, ?_⟩
    rw [Bool.eq_iff_iff]
    simp
  · split at e
    · rename_i hl
      cases e
      have := of_str ra
      subst this
      refine ⟨_, ⟨Nat.le_trans hl big_line, rfl⟩, ?_⟩
      rw [Bool.eq_iff_iff]
      simp
    · cases e
  · exact tru_seq hs hK e ra
/-- the reading of a truth -/
def rTru (T : TX) : V → Hp → (Bool → Hp → Prop) → Prop := fun x H Q => ∃ ρ S a b H0, SRep T ρ H S ∧ RepA T H0 ρ H a x ∧ truth S a = some b ∧ Q b H
theorem tru_r (hK : X.K = T.K) : TruR X (rTru T) := by
  rintro pins s σ H x v Q I rx ⟨ρ, S, a, b, H0, hs, ra, e, q⟩
  obtain ⟨k, t, rfl⟩ := truth_ok (X := X) hs hK e ra
  exact tru_ok pins s σ H x v Q I rx ⟨k, t, q⟩

/-! ### subscripts -/
theorem atI_ok {l : List PV} {xs : List V} {i : Int} {p : PV} (r : Reps T ρ H l xs) (e : atA l i = some p) : ∃ v, atI xs i = some v ∧ Rep T ρ H p v := by
  unfold atA atI at e
  unfold atI
  rw [r.length] at e
  cases q : ixN xs.length i with
  | none => rw [q] at e; cases e
  | some j =>
    rw [q] at e
    exact r.get e
/-- a subscript's reading -/
def rSub (T : TX) : R2 := fun x y H Q => ∃ ρ S a b p H0, SRep T ρ H S ∧ RepA T H0 ρ H a x ∧ RepA T H0 ρ H b y ∧ ixOp S a b = some p ∧ ∀ v, Rep T ρ H p v → Q v H
theorem sub_r (hK : X.K = T.K) (hu : X.A.units + 1 < cLine) : IxR X (rSub T) := by
  rintro value slice pins s σ H x y v u Q I rx ry ⟨ρ, S, a, b, p, H0, hs, ra, rb, e, q⟩ hsub
  obtain ⟨K, fa, ca, fl, tabs⟩ := T
  obtain rfl : X.K = K := hK
  unfold ixOp at e
  split at e
  · rename_i k
    split at e
    · rename_i l hl
      split at e
      · rename_i i
        obtain ⟨c, xs, rfl, qs, r⟩ := seqOf_ok hs ra hl
        have ei := of_int rb
        subst ei
        obtain ⟨w, e1, rw1⟩ := atI_ok r e
        rcases qs with qs | qs
        · exact ix_seq value slice pins s σ H _ _ v u Q I rx ry (.inl ⟨c, xs, i, w, rfl, rfl, qs, e1, q w rw1⟩) hsub
        · exact ix_seq value slice pins s σ H _ _ v u Q I rx ry (.inr (.inl ⟨c, xs, i, w, rfl, rfl, qs, e1, q w rw1⟩)) hsub
      · cases e
    · cases hg : dGet S a k with
      | none => rw [hg] at e; cases e
      | some o =>
        rw [hg] at e
        have e : o = some p := e
        subst e
        obtain ⟨c, r, rfl, g, ro⟩ := dGet_ok hs ra (show Rep _ ρ H k y from rb) hg
        rcases ro with ⟨z, _⟩ | ⟨p', w, z, rfl, rp⟩
        · cases z
        · cases z
          cases (show v = Value.ref c from rx)
          refine tail_any (dict_typeIs I g) PySem.F.slot_dict_getitem.lookup ?_ hsub
          exact d_getItem hu I g ry fun w' s' I' rw' => ⟨w, H, I', rw', q w rp⟩
  · cases e

/-! ### slices -/
theorem cut_ok {l : List PV} {xs : List V} (r : Reps T ρ H l xs) (lo hi : Option Int) : Reps T ρ H (cut l lo hi) (cutV xs lo hi) := by
  unfold cut cutV
  rw [r.length]
  exact (r.drop _).take _
def rCut (T : TX) : V → Option Int → Option Int → Hp → VK → Prop := fun x lo hi H Q => ∃ ρ S a c H0, SRep T ρ H S ∧ RepA T H0 ρ H a x ∧ cutA S a lo hi = some c ∧
  ∀ ρ' H' v, Step ρ H ρ' H' → SRep T ρ' H' S → RepA T H ρ' H' c v → Q v H'
theorem cut_r (hK : X.K = T.K) : SlR X (rCut T) := by
  rintro pins s σ H x v vl vu lo hi sl Q I rx h1 h2 h3 ⟨ρ, S, a, c, H0, hs, ra, e, k⟩
  obtain ⟨K, fa, ca, fl, tabs⟩ := T
  obtain rfl : X.K = K := hK
  unfold cutA at e
  split at e
  · rename_i l
    cases e
    obtain ⟨p, xs, rfl, q, r⟩ := of_tup ra
    refine sl_tupA pins s σ H _ v vl vu lo hi sl Q I rx h1 h2 h3 ⟨p, xs, rfl, .inl (.inl q), fun z => ?_, fun _ p' n => fin_tup hs (cut_ok r lo hi) k n⟩
    have e : cut l lo hi = l := by
      unfold cut
      rw [r.length, z.1, z.2, List.drop_zero, Nat.sub_zero, ← r.length, List.take_length]
    refine k ρ H _ Step.refl hs ?_
    rw [e]
    exact ra
  · rename_i l
    obtain ⟨p, xs, rfl, q, r⟩ := rotOf_ok (l := l) ra rfl
    have ln := r.length
    split at e
    · rename_i z
      cases e
      exact sl_tupA pins s σ H _ v vl vu lo hi sl Q I rx h1 h2 h3 ⟨p, xs, rfl, q.t, fun _ => k ρ H _ Step.refl hs ra, fun n => absurd (by rw [← ln]; exact z) n⟩
    · rename_i z
      cases e
      exact sl_tupA pins s σ H _ v vl vu lo hi sl Q I rx h1 h2 h3 ⟨p, xs, rfl, q.t, fun n => absurd (by rw [ln]; exact n) z, fun _ p' n => fin_tup hs (cut_ok r lo hi) k n⟩
  · simp only [Option.map_eq_some_iff] at e
    obtain ⟨l, e, rfl⟩ := e
    obtain ⟨p, xs, rfl, q, r⟩ := listOf_ok hs ra e
    exact sl_list pins s σ H _ v vl vu lo hi sl Q I rx h1 h2 h3 ⟨p, xs, rfl, q, fun p' n => fin_list hs (cut_ok r lo hi) k n⟩

/-! ### what is written at a place -/
theorem step_write {a : Addr} {o u : HO} (m : a ∈ ρ) (e : H a = some o) (nt : ∀ xs, o ≠ .tup xs) (nf : ∀ b x, o ≠ .frz b x) : Step ρ H ρ (upd H a u) := by
  refine ⟨⟨[], by simp⟩, fun b h m => absurd h m, fun b w e2 nb _ => ?_, fun b ps e2 nb => ⟨#[], ?_⟩, fun b xs e2 => ?_, fun b w x e2 => ?_⟩
  · rw [upd_ne (fun z => nb (by rw [z]; exact m))]; exact e2
  · rw [upd_ne (fun z => nb (by rw [z]; exact m))]; simpa using e2
  · rw [upd_ne (fun z => by subst z; rw [e] at e2; exact nt xs (Option.some.inj e2))]; exact e2
  · rw [upd_ne (fun z => by subst z; rw [e] at e2; exact nf w x (Option.some.inj e2))]; exact e2
theorem ORep.other {a b : Addr} {o : HO} {w : SO} (st : Step ρ H ρ (upd H a o)) (n : b ≠ a) (r : ORep T ρ H b w) : ORep T ρ (upd H a o) b w := by
  cases w with
  | lst l => obtain ⟨xs, q, r⟩ := r; exact ⟨xs, by rw [upd_ne n]; exact q, Reps.step st _ _ r⟩
  | dk l => obtain ⟨xs, q, r⟩ := r; exact ⟨xs, by rw [upd_ne n]; exact q, r.step st⟩
  | dt l => obtain ⟨xs, q, r⟩ := r; exact ⟨xs, by rw [upd_ne n]; exact q, r.step st⟩
theorem SRep.write {n : Nat} {a : Addr} {o : HO} {w : SO} (h : SRep T ρ H S) (e : ρ[n]? = some a) (st : Step ρ H ρ (upd H a o)) (r : ORep T ρ (upd H a o) a w) : SRep T ρ (upd H a o) (S.set n w) := by
  refine ⟨by rw [List.length_set]; exact h.len, h.nd, fun k b u e1 e2 => ?_, by
    obtain ⟨_, k1, k2⟩ := h.kind e
    exact tabs_over h.tab k1 k2⟩
  by_cases hk : k = n
  · subst hk
    have hl : k < (S.set k w).length := (List.getElem?_eq_some_iff.mp e2).1
    rw [List.length_set] at hl
    rw [List.getElem?_set_self hl] at e2
    cases e2
    rw [e] at e1
    cases e1
    exact r
  · rw [List.getElem?_set_ne (fun z => hk z.symm)] at e2
    refine ORep.other st (fun z => hk ?_) (h.at_ k b u e1 e2)
    subst z
    obtain ⟨h1, q1⟩ := List.getElem?_eq_some_iff.mp e1
    obtain ⟨h2, q2⟩ := List.getElem?_eq_some_iff.mp e
    exact (List.getElem_inj h.nd).mp (q1.trans q2.symm)
theorem mem_at {n : Nat} {a : Addr} (e : ρ[n]? = some a) : a ∈ ρ := List.mem_of_getElem? e
/-- a list at a place gets new items -/
theorem put_lst {n : Nat} {a : Addr} {xs ys : List V} {l : List PV} (hs : SRep T ρ H S) (e : ρ[n]? = some a) (q : H a = some (.lst xs)) (r : Reps T ρ H l ys) : Step ρ H ρ (upd H a (.lst ys)) ∧ SRep T ρ (upd H a (.lst ys)) (S.set n (.lst l)) := by
  have st : Step ρ H ρ (upd H a (.lst ys)) := step_write (mem_at e) q (fun _ z => nomatch z) (fun _ _ z => nomatch z)
  exact ⟨st, hs.write e st ⟨ys, upd_same, Reps.step st _ _ r⟩⟩
theorem put_dk {n : Nat} {a : Addr} {xs ys : List (Key × V)} {l : List (Key × PV)} (hs : SRep T ρ H S) (e : ρ[n]? = some a) (q : H a = some (.dK xs)) (r : RepK T ρ H l ys) : Step ρ H ρ (upd H a (.dK ys)) ∧ SRep T ρ (upd H a (.dK ys)) (S.set n (.dk l)) := by
  have st : Step ρ H ρ (upd H a (.dK ys)) := step_write (mem_at e) q (fun _ z => nomatch z) (fun _ _ z => nomatch z)
  exact ⟨st, hs.write e st ⟨ys, upd_same, r.step st⟩⟩
theorem put_dt {n : Nat} {a : Addr} {xs ys : List (List Key × V)} {l : List (List Key × PV)} (hs : SRep T ρ H S) (e : ρ[n]? = some a) (q : H a = some (.dT xs)) (r : RepK T ρ H l ys) : Step ρ H ρ (upd H a (.dT ys)) ∧ SRep T ρ (upd H a (.dT ys)) (S.set n (.dt l)) := by
  have st : Step ρ H ρ (upd H a (.dT ys)) := step_write (mem_at e) q (fun _ z => nomatch z) (fun _ _ z => nomatch z)
  exact ⟨st, hs.write e st ⟨ys, upd_same, r.step st⟩⟩
/-- o[i] = v -/
def sPut (T : TX) : TSet := fun o i v H Q => ∃ ρ S a b p S' H0, SRep T ρ H S ∧ RepA T H0 ρ H a o ∧ Rep T ρ H b i ∧ Rep T ρ H p v ∧ putA S a b p = some S' ∧ ∀ H', Step ρ H ρ H' → SRep T ρ H' S' → Q H'
theorem put_r (hK : X.K = T.K) (hu : X.A.units + 1 < cLine) : PSet X (sPut T) := by
  rintro pins s σ H o i v ov iv u Q I ro ri rv ⟨ρ, S, a, b, p, S', H0, hs, ra, rb, rp, e, k⟩
  have big2 : (1000000 : Nat) ≤ sizeLine := big_line
  unfold putA at e
  split at e
  · rename_i n
    split at e
    · rename_i l hl
      obtain ⟨c, e1, xs, q, r⟩ := hs.get hl
      have eo := rep_loc (show Rep T ρ H (.loc n) o from ra) e1
      subst eo
      split at e
      · rename_i j
        simp only [Option.map_eq_some_iff] at e
        obtain ⟨m, e2, rfl⟩ := e
        unfold Rep at rb
        subst rb
        obtain ⟨st, hs'⟩ := put_lst hs e1 q (r.set m rp)
        exact set_list pins s σ H _ _ _ ov iv u Q I ro ri rv ⟨c, xs, j, m, rfl, rfl, q, by rw [← r.length]; exact e2, k _ st hs'⟩
      · cases e
    · rename_i kvs hl
      obtain ⟨c, e1, ks, q, r⟩ := hs.get hl
      have eo := rep_loc (show Rep T ρ H (.loc n) o from ra) e1
      subst eo
      split at e
      · rename_i hz
        have hz2 : kvs.length < 1000000 := of_decide_eq_true hz
        split at e
        · rename_i key hk
          cases e
          have := key_ok hk rb
          subst this
          obtain ⟨st, hs'⟩ := put_dk hs e1 q (r.put key rp)
          cases (show ov = Value.ref c from ro)
          exact d_setItem hu I (DPut.k q (by have := r.length; omega)) ri rv fun s' I' => ⟨_, I', k _ st hs'⟩
        · cases e
      · cases e
    · rename_i kvs hl
      obtain ⟨c, e1, ks, q, r⟩ := hs.get hl
      have eo := rep_loc (show Rep T ρ H (.loc n) o from ra) e1
      subst eo
      split at e
      · rename_i hz
        have hz2 : kvs.length < 1000000 := of_decide_eq_true hz
        split at e
        · rename_i key hk
          cases e
          obtain ⟨d, rfl, qd⟩ := keys_ok hk rb
          obtain ⟨st, hs'⟩ := put_dt hs e1 q (r.put key rp)
          cases (show ov = Value.ref c from ro)
          exact d_setItem hu I (DPut.t q qd (by have := r.length; omega)) ri rv fun s' I' => ⟨_, I', k _ st hs'⟩
        · cases e
      · cases e
    · cases e
  · cases e
end
end EV
/-! The E layer, part G: built-ins and methods. -/
namespace EV
open PySem PySem.Spec L2
open PyProof.Rows hiding St

section
variable {X : Cx} {T : TX} {ρ : List Addr} {H H0 : Hp} {S : Store}
/-- one value in hand, and what is made of it -/
def rF1 (T : TX) (m : Store → AV → Option AV) : List V → Hp → VK → Prop := fun xs H Q => ∃ ρ S a c x H0, xs = [x] ∧ SRep T ρ H S ∧ RepA T H0 ρ H a x ∧ m S a = some c ∧
  ∀ ρ' H' v, Step ρ H ρ' H' → SRep T ρ' H' S → RepA T H ρ' H' c v → Q v H'
theorem bools_ok : ∀ {l : List PV} {bs : List Bool} {xs : List V}, bools l = some bs → Reps T ρ H l xs → xs = bs.map V.bl
  | [], _, _, e, r => by
    unfold Reps at r
    subst r
    simp only [bools] at e
    cases e
    rfl
  | p :: l, _, _, e, r => by
    cases p <;> simp only [bools] at e <;> try cases e
    simp only [Option.map_eq_some_iff] at e
    obtain ⟨cs, e, rfl⟩ := e
    unfold Reps at r
    obtain ⟨x, t, rfl, h1, h2⟩ := r
    unfold Rep at h1
    subst h1
    rw [bools_ok e h2]
    rfl
theorem ints_ok : ∀ {l : List PV} {bs : List Int} {xs : List V}, intsO l = some bs → Reps T ρ H l xs → xs = bs.map V.int
  | [], _, _, e, r => by
    unfold Reps at r
    subst r
    simp only [intsO] at e
    cases e
    rfl
  | p :: l, _, _, e, r => by
    cases p <;> simp only [intsO] at e <;> try cases e
    simp only [Option.map_eq_some_iff] at e
    obtain ⟨cs, e, rfl⟩ := e
    unfold Reps at r
    obtain ⟨x, t, rfl, h1, h2⟩ := r
    unfold Rep at h1
    subst h1
    rw [ints_ok e h2]
    rfl
theorem f1_len (hK : X.K = T.K) {gd : Bool} : CallR X (.builtin "len") (rF1 T fun S a => fn1 gd S .len a) := by
  rintro pins s σ H xs us Q I r ⟨ρ, S, a, c, x, H0, rfl, hs, ra, e, k⟩
  obtain ⟨K, fa, ca, fl, tabs⟩ := T
  obtain rfl : X.K = K := hK
  simp only [fn1, Option.map_eq_some_iff] at e
  obtain ⟨n, e, rfl⟩ := e
  unfold lenA at e
  split at e
  · split at e
    · rename_i hl
      cases e
      have := of_str ra
      subst this
      exact call_len pins s σ H _ us Q I r ⟨_, _, rfl, ⟨Nat.le_trans hl big_line, rfl⟩, fin_v hs rep_int k⟩
    · cases e
  · split at e
    · rename_i l hl
      cases e
      obtain ⟨p, xs, rfl, q, r1⟩ := seqOf_ok hs ra hl
      rcases q with q | q
      · exact call_len pins s σ H _ us Q I r ⟨_, _, rfl, .inl ⟨xs, q, r1.length⟩, fin_v hs rep_int k⟩
      · exact call_len pins s σ H _ us Q I r ⟨_, _, rfl, .inr ⟨xs, q, r1.length⟩, fin_v hs rep_int k⟩
    · split at e
      · rename_i l hl
        cases e
        obtain ⟨p, xs, rfl, q, r1⟩ := dkOf_ok hs ra hl
        rw [Vals.ref1 r]
        refine d_len I (.inl q) fun t s' I' => ⟨.int xs.length, H, I', ⟨_, rfl⟩, ?_⟩
        rw [← r1.length]
        exact fin_v hs rep_int k
      · simp only [Option.map_eq_some_iff] at e
        obtain ⟨l, e, rfl⟩ := e
        obtain ⟨p, xs, rfl, q, r1⟩ := dtOf_ok hs ra e
        refine call_len_dT pins s σ H _ us Q I r ⟨p, xs, rfl, q, ?_⟩
        rw [← r1.length]
        exact fin_v hs rep_int k
theorem f1_abs {gd : Bool} : CallR X (.builtin "abs") (rF1 T fun S a => fn1 gd S .abs a) := by
  rintro pins s σ H xs us Q I r ⟨ρ, S, a, c, x, H0, rfl, hs, ra, e, k⟩
  simp only [fn1] at e
  split at e
  · cases e
    have := of_int ra
    subst this
    exact call_abs pins s σ H _ us Q I r ⟨_, rfl, fin_v hs rep_int k⟩
  · cases e
theorem f1_int {gd : Bool} : CallR X (.type "int") (rF1 T fun S a => fn1 gd S .int a) := by
  rintro pins s σ H xs us Q I r ⟨ρ, S, a, c, x, H0, rfl, hs, ra, e, k⟩
  simp only [fn1] at e
  split at e
  · cases e
    have := of_int ra
    subst this
    exact call_int1 pins s σ H _ us Q I r (.inl ⟨_, rfl, fin_v hs rep_int k⟩)
  · cases e
    have := of_bl ra
    subst this
    exact call_int1 pins s σ H _ us Q I r (.inr ⟨_, rfl, fin_v hs rep_int k⟩)
  · cases e
theorem f1_all (hK : X.K = T.K) (hc : X.calm = true) {gd : Bool} : CallR X (.builtin "all") (rF1 T fun S a => fn1 gd S .all a) := by
  rintro pins s σ H xs us Q I r ⟨ρ, S, a, c, x, H0, rfl, hs, ra, e, k⟩
  obtain ⟨K, fa, ca, fl, tabs⟩ := T
  obtain rfl : X.K = K := hK
  simp only [fn1, Option.map_eq_some_iff, Option.bind_eq_some_iff] at e
  obtain ⟨bs, ⟨l, e1, e2⟩, rfl⟩ := e
  obtain ⟨p, xs, rfl, q, r1⟩ := listOf_ok hs ra e1
  rw [bools_ok e2 r1] at q
  exact cr_all hc pins s σ H _ us Q I r ⟨p, bs, rfl, q, fin_v hs rep_bl k⟩
theorem f1_any (hK : X.K = T.K) (hc : X.calm = true) {gd : Bool} : CallR X (.builtin "any") (rF1 T fun S a => fn1 gd S .any a) := by
  rintro pins s σ H xs us Q I r ⟨ρ, S, a, c, x, H0, rfl, hs, ra, e, k⟩
  obtain ⟨K, fa, ca, fl, tabs⟩ := T
  obtain rfl : X.K = K := hK
  simp only [fn1, Option.map_eq_some_iff, Option.bind_eq_some_iff] at e
  obtain ⟨bs, ⟨l, e1, e2⟩, rfl⟩ := e
  obtain ⟨p, xs, rfl, q, r1⟩ := listOf_ok hs ra e1
  rw [bools_ok e2 r1] at q
  exact cr_any hc pins s σ H _ us Q I r ⟨p, bs, rfl, q, fin_v hs rep_bl k⟩
theorem f1_sum (hK : X.K = T.K) (hc : X.calm = true) {gd : Bool} : CallR X (.builtin "sum") (rF1 T fun S a => fn1 gd S .sum a) := by
  rintro pins s σ H xs us Q I r ⟨ρ, S, a, c, x, H0, rfl, hs, ra, e, k⟩
  obtain ⟨K, fa, ca, fl, tabs⟩ := T
  obtain rfl : X.K = K := hK
  simp only [fn1, Option.map_eq_some_iff, Option.bind_eq_some_iff] at e
  obtain ⟨bs, ⟨l, e1, e2⟩, rfl⟩ := e
  obtain ⟨p, xs, rfl, q, r1⟩ := listOf_ok hs ra e1
  rw [ints_ok e2 r1] at q
  exact cr_sum hc pins s σ H _ us Q I r ⟨p, bs, rfl, q, fin_v hs rep_int k⟩
theorem f1_tuple (hK : X.K = T.K) {gd : Bool} : CallR X (.type "tuple") (rF1 T fun S a => fn1 gd S .tuple a) := by
  rintro pins s σ H xs us Q I r ⟨ρ, S, a, c, x, H0, rfl, hs, ra, e, k⟩
  obtain ⟨K, fa, ca, fl, tabs⟩ := T
  obtain rfl : X.K = K := hK
  simp only [fn1] at e
  split at e
  · rename_i l hl
    cases e
    obtain ⟨p, ys, rfl, q, r1⟩ := tupOf_ok ra hl
    refine call_tuple_of pins s σ H _ us Q I r ⟨p, ys, rfl, .inr ⟨q, ?_⟩⟩
    refine k ρ H _ Step.refl hs ?_
    cases a with
    | v p => exact ra
    | _ => cases hl
  · simp only [Option.map_eq_some_iff] at e
    obtain ⟨l, e1, rfl⟩ := e
    obtain ⟨p, ys, rfl, q, r1⟩ := listOf_ok hs ra e1
    exact call_tuple_of pins s σ H _ us Q I r ⟨p, ys, rfl, .inl ⟨q, fun l' n => fin_tup hs r1 k n⟩⟩
theorem f1_tupS (hK : X.K = T.K) {gd : Bool} : CallR X (.type "tuple") (rF1 T fun S a => fn1 gd S .tupS a) := by
  rintro pins s σ H xs us Q I r ⟨ρ, S, a, c, x, H0, rfl, hs, ra, e, k⟩
  obtain ⟨K, fa, ca, fl, tabs⟩ := T
  obtain rfl : X.K = K := hK
  simp only [fn1, Option.map_eq_some_iff] at e
  obtain ⟨l, e1, rfl⟩ := e
  obtain ⟨p, ys, rfl, q, r1⟩ := listOf_ok hs ra e1
  obtain ⟨u, rfl, ru⟩ := vals1 r
  obtain rfl : u = Value.ref p := ru
  obtain ⟨its, rv, pl, hz⟩ := I.list q
  refine call_tuple_list pl.isList (fun h' hk => ?_) (by rw [List.size_toArray, ← rv.length]; exact hz)
  have I1 : Inv X pins σ H { s with heap := h' } := I.kept (t' := s.toks) hk
  have n : H h'.objs.size = none := I1.hok.fresh (Nat.le_refl _)
  have la := I1.laid (t' := s.toks) (o := .frz { cls := .type "tuple", data := .seq its.toArray } (.tup ys)) (h' := h'.push { cls := .type "tuple", data := .seq its.toArray }) (fun _ _ z => Heap.get?_push_of_some _ z) (Nat.le_refl _) ⟨Heap.get?_push_size _ rfl, hz, its, rv, IsTup.new _ _⟩
  refine ⟨.ref h'.objs.size, _, la, rfl, k ρ _ _ (step_new n) (hs.new n) ?_⟩
  show Rep _ _ _ _ _
  unfold Rep
  exact ⟨_, ys, rfl, .inl ⟨_, upd_same, rfl⟩, Reps.step (step_new n) _ _ r1⟩
theorem f1_list (hK : X.K = T.K) {gd : Bool} : CallR X (.type "list") (rF1 T fun S a => fn1 gd S .list a) := by
  rintro pins s σ H xs us Q I r ⟨ρ, S, a, c, x, H0, rfl, hs, ra, e, k⟩
  obtain ⟨K, fa, ca, fl, tabs⟩ := T
  obtain rfl : X.K = K := hK
  simp only [fn1, Option.map_eq_some_iff] at e
  obtain ⟨l, e1, rfl⟩ := e
  obtain ⟨p, ys, rfl, q, r1⟩ := seqOf_ok hs ra e1
  exact call_list_of pins s σ H _ us Q I r ⟨p, ys, rfl, q, fun l' n => fin_list hs r1 k n⟩

/-! ### isinstance -/
def tyN : Ty → String
  | .int => "int" | .bool => "bool" | .tuple => "tuple" | .list => "list" | .dict => "dict" | .str => "str"
theorem kit_own {K : PySem.W.Frag} (t : String) : PySem.W.kitOne K (.type t) (.type t) = some true := by
  unfold PySem.W.kitOne
  rw [if_pos (by simp)]
def isTy : String → Ty → Bool
  | "bool", .int => true
  | "bool", .bool => true
  | "int", .int => true
  | "str", .str => true
  | "tuple", .tuple => true
  | "list", .list => true
  | "dict", .dict => true
  | _, _ => false
theorem kit_ty {K : PySem.W.Frag} (t : Ty) : ∀ n ∈ ["NoneType", "bool", "int", "str", "tuple", "list", "dict"], PySem.W.kitOne K (.type n) (.type (tyN t)) = some (isTy n t) := by
  intro n hn
  cases t <;> (simp only [List.mem_cons, List.not_mem_nil, or_false] at hn; rcases hn with rfl | rfl | rfl | rfl | rfl | rfl | rfl) <;> kernel_rfl
/-- isinstance of a value in hand -/
def rIsi (T : TX) (t : Ty) : List V → Hp → VK → Prop := fun xs H Q => ∃ ρ S a c x H0, xs = [x, .ty (tyN t)] ∧ SRep T ρ H S ∧ RepA T H0 ρ H a x ∧ tyIs S t a = some c ∧ Q (.bl c) H
theorem isi_r (hK : X.K = T.K) (t : Ty) : CallR X (.builtin "isinstance") (rIsi T t) := by
  rintro pins s σ H xs us Q I r ⟨ρ, S, a, c, x, H0, rfl, hs, ra, e, k⟩
  obtain ⟨K, fa, ca, fl, tabs⟩ := T
  obtain rfl : X.K = K := hK
  obtain ⟨u, w, rfl, ru, rw⟩ := vals2 r
  obtain rfl : w = Value.type (tyN t) := rw
  have go : ∀ {n : String} {b : Bool}, TyOf X.K H x (.type n) → n ∈ ["NoneType", "bool", "int", "str", "tuple", "list", "dict"] → isTy n t = c → wpAny (model X.prog X.w) X.A (call (.builtin "isinstance") [u, .type (tyN t)]) (EP X pins σ Q) X.xe s := fun {n b} ty hn hc =>
    isinst_ok I ru ty (kit_ty t n hn) fun tk => ⟨.bl _, H, I.tok _, rfl, by rw [hc]; exact k⟩
  cases a with
  | v p =>
    have ra : Rep _ ρ H p x := ra
    cases p with
    | non => unfold Rep at ra; subst ra; cases e; exact go (b := true) .non (by decide) (by cases t <;> rfl)
    | bl b => unfold Rep at ra; subst ra; cases e; exact go (b := true) (.bl _) (by decide) (by cases t <;> rfl)
    | int i => unfold Rep at ra; subst ra; cases e; exact go (b := true) (.int _) (by decide) (by cases t <;> rfl)
    | str i => unfold Rep at ra; subst ra; cases e; exact go (b := true) (.str _) (by decide) (by cases t <;> rfl)
    | tup l => unfold Rep at ra; obtain ⟨b, ys, rfl, q, _⟩ := ra; cases e; exact go (b := true) (.tup q) (by decide) (by cases t <;> rfl)
    | rot l =>
      unfold Rep at ra
      obtain ⟨b, ys, rfl, q, _⟩ := ra
      cases e
      cases (show u = Value.ref b from ru)
      obtain ⟨_, _, ⟨ob, g1, g2, _⟩, _⟩ := I.tuple q.t
      exact PySem.W.kia_one PySem.W.kitx_tuple I.kIn ⟨ob, g1, g2⟩ (kit_ty t "tuple" (by decide)) (fun z => nomatch z) fun tk => ⟨.bl _, H, I.tok _, rfl, by cases t <;> exact k⟩
    | loc n =>
      simp only [tyIs] at e
      split at e
      · rename_i l hl
        cases e
        obtain ⟨b, e1, ys, q, _⟩ := hs.get hl
        have ev := rep_loc ra e1
        subst ev
        exact go (b := true) (.lst q) (by decide) (by cases t <;> rfl)
      · rename_i l hl
        cases e
        obtain ⟨b, e1, ys, q, _⟩ := hs.get hl
        have ev := rep_loc ra e1
        subst ev
        exact go (b := true) (.dK q) (by decide) (by cases t <;> rfl)
      · rename_i l hl
        cases e
        obtain ⟨b, e1, ys, q, _⟩ := hs.get hl
        have ev := rep_loc ra e1
        subst ev
        exact go (b := true) (.dT q) (by decide) (by cases t <;> rfl)
      · cases e
    | _ => cases e
  | _ => cases e
/-- two ints -/
def rF2 (T : TX) (m : Store → AV → AV → Option AV) : List V → Hp → VK → Prop := fun xs H Q => ∃ ρ S a b c x y H0, xs = [x, y] ∧ SRep T ρ H S ∧ RepA T H0 ρ H a x ∧ RepA T H0 ρ H b y ∧ m S a b = some c ∧
  ∀ ρ' H' v, Step ρ H ρ' H' → SRep T ρ' H' S → RepA T H ρ' H' c v → Q v H'
theorem f2_max (hc : X.calm = true) : CallR X (.builtin "max") (rF2 T fun S a b => fn2 S .max2 a b) := by
  rintro pins s σ H xs us Q I r ⟨ρ, S, a, b, c, x, y, H0, rfl, hs, ra, rb, e, k⟩
  simp only [fn2] at e
  split at e
  · cases e
    have := of_int ra
    subst this
    have := of_int rb
    subst this
    exact call_max2 hc pins s σ H _ us Q I r ⟨_, _, rfl, fin_v hs rep_int k⟩
  · cases e
theorem f2_min (hc : X.calm = true) : CallR X (.builtin "min") (rF2 T fun S a b => fn2 S .min2 a b) := by
  rintro pins s σ H xs us Q I r ⟨ρ, S, a, b, c, x, y, H0, rfl, hs, ra, rb, e, k⟩
  simp only [fn2] at e
  split at e
  · cases e
    have := of_int ra
    subst this
    have := of_int rb
    subst this
    exact call_min2 hc pins s σ H _ us Q I r ⟨_, _, rfl, fin_v hs rep_int k⟩
  · cases e
end
end EV
/-! The E layer, part H: methods. -/
namespace EV
open PySem PySem.Spec L2
open PyProof.Rows hiding St

section
variable {X : Cx} {T : TX} {ρ : List Addr} {H H0 : Hp} {S : Store}
def RepAs (T : TX) (H0 : Hp) (ρ : List Addr) (H : Hp) : List AV → List V → Prop
  | [], xs => xs = []
  | a :: l, xs => ∃ x r, xs = x :: r ∧ RepA T H0 ρ H a x ∧ RepAs T H0 ρ H l r
theorem RepAs.step {ρ' : List Addr} {H' : Hp} (s : Step ρ H ρ' H') : ∀ {l : List AV} {xs : List V}, RepAs T H0 ρ H l xs → RepAs T H0 ρ' H' l xs
  | [], _, h => h
  | a :: l, _, h => by
    obtain ⟨x, r, e, h1, h2⟩ := h
    exact ⟨x, r, e, h1.step s, RepAs.step s h2⟩
theorem RepAs.since {ρ0 ρ1 : List Addr} {H1 : Hp} (s : Step ρ0 H0 ρ1 H1) (t : Step ρ1 H1 ρ H) : ∀ {l : List AV} {xs : List V}, RepAs T H1 ρ H l xs → RepAs T H0 ρ H l xs
  | [], _, h => h
  | a :: l, _, h => by
    obtain ⟨x, r, e, h1, h2⟩ := h
    exact ⟨x, r, e, h1.since s t, RepAs.since s t h2⟩
abbrev RAs (T : TX) : Rl (List AV) (List V) := fun H0 ρ H a v => RepAs T H0 ρ H a v
theorem good_As : Good (RAs T) := ⟨fun s t h => RepAs.since s t h⟩
theorem repA_non : RepA T H0 ρ H (.v .non) .non := show Rep T ρ H .non .non from rep_non
theorem repA_int {i : Int} : RepA T H0 ρ H (.v (.int i)) (.int i) := show Rep T ρ H (.int i) (.int i) from rep_int
/-- o.m(..) -/
def rMt (T : TX) (m : MF) : V → List V → Hp → VK → Prop := fun x xs H Q => ∃ ρ S a as c S' H0, SRep T ρ H S ∧ RepA T H0 ρ H a x ∧ RepAs T H0 ρ H as xs ∧ mth S m a as = some (c, S') ∧
  ∀ ρ' H' v, Step ρ H ρ' H' → SRep T ρ' H' S' → RepA T H ρ' H' c v → Q v H'
theorem as1 {a : AV} {xs : List V} (h : RepAs T H0 ρ H [a] xs) : ∃ x, xs = [x] ∧ RepA T H0 ρ H a x := by
  obtain ⟨x, r, rfl, h1, rfl⟩ := h
  exact ⟨x, rfl, h1⟩
theorem as2 {a b : AV} {xs : List V} (h : RepAs T H0 ρ H [a, b] xs) : ∃ x y, xs = [x, y] ∧ RepA T H0 ρ H a x ∧ RepA T H0 ρ H b y := by
  obtain ⟨x, r, rfl, h1, y, t, rfl, h2, rfl⟩ := h
  exact ⟨x, y, rfl, h1, h2⟩
/-- a list at a place -/
theorem loc_lst {o : AV} {n : Nat} {l : List PV} {v : V} (hs : SRep T ρ H S) (ra : RepA T H0 ρ H o v) (e : isLoc o = some n) (h : lstOf S o = some l) : ∃ c xs, v = .ref c ∧ ρ[n]? = some c ∧ H c = some (.lst xs) ∧ Reps T ρ H l xs := by
  cases o with
  | v p =>
    cases p with
    | loc m =>
      cases e
      simp only [lstOf] at h
      cases q : S[n]? with
      | none => rw [q] at h; cases h
      | some o =>
        rw [q] at h
        obtain ⟨b, e1, r⟩ := hs.get q
        have ev := rep_loc (T := T) (H := H) ra e1
        cases o with
        | lst xs => cases h; obtain ⟨ys, q1, r1⟩ := r; exact ⟨b, ys, ev, e1, q1, r1⟩
        | dk _ => cases h
        | dt _ => cases h
    | _ => cases e
  | _ => cases e
theorem loc_dk {o : AV} {n : Nat} {l : List (Key × PV)} {v : V} (hs : SRep T ρ H S) (ra : RepA T H0 ρ H o v) (e : isLoc o = some n) (h : dkOf S o = some l) : ∃ c xs, v = .ref c ∧ ρ[n]? = some c ∧ H c = some (.dK xs) ∧ RepK T ρ H l xs := by
  cases o with
  | v p =>
    cases p with
    | loc m =>
      cases e
      simp only [dkOf] at h
      cases q : S[n]? with
      | none => rw [q] at h; cases h
      | some o =>
        rw [q] at h
        obtain ⟨b, e1, r⟩ := hs.get q
        have ev := rep_loc (T := T) (H := H) ra e1
        cases o with
        | dk xs => cases h; obtain ⟨ys, q1, r1⟩ := r; exact ⟨b, ys, ev, e1, q1, r1⟩
        | lst _ => cases h
        | dt _ => cases h
    | _ => cases e
  | _ => cases e
theorem m_append : MtR X "list.append" (rMt T .append) := by
  rintro pins s σ H x xs v us Q I rx rxs ⟨ρ, S, a, as, c, S', H0, hs, ra, ras, e, k⟩
  have big2 : (1000000 : Nat) ≤ sizeLine := big_line
  have e : mAppend S a as = some (c, S') := e
  unfold mAppend at e
  split at e
  case h_2 => cases e
  obtain ⟨y, rfl, ry⟩ := as1 ras
  split at e
  · rename_i n l h1 h2
    split at e
    · rename_i hl
      cases e
      obtain ⟨d, ys, rfl, e1, q, r⟩ := loc_lst hs ra h1 h2
      obtain ⟨st, hs'⟩ := put_lst hs e1 q (r.app (.cons (show Rep T ρ H _ y from ry) .nil))
      have := r.length
      exact mt_append pins s σ H _ _ v us Q I rx rxs ⟨d, ys, y, rfl, rfl, q, by omega, k ρ _ _ st hs' repA_non⟩
    · cases e
  · cases e
theorem m_bits : MtR X "int.bit_length" (rMt T .bits) := by
  rintro pins s σ H x xs v us Q I rx rxs ⟨ρ, S, a, as, c, S', H0, hs, ra, ras, e, k⟩
  simp only [mth] at e
  split at e
  · rename_i i
    cases e
    obtain rfl : xs = [] := ras
    have ra : x = .int i := ra
    subst ra
    cases rxs
    obtain ⟨tk, rfl⟩ := rx
    exact PyProof.Rows.call_int_bit_length ⟨.int _, H, I.tok _, ⟨_, rfl⟩, k ρ H _ Step.refl hs (show Rep T ρ H (.int _) (.int _) from rep_int)⟩
  · cases e
theorem m_pop : MtR X "list.pop" (rMt T .pop) := by
  rintro pins s σ H x xs v us Q I rx rxs ⟨ρ, S, a, as, c, S', H0, hs, ra, ras, e, k⟩
  have e : mPop S a as = some (c, S') := e
  unfold mPop at e
  split at e
  case h_2 => cases e
  obtain rfl : xs = [] := ras
  split at e
  · rename_i n l h1 h2
    split at e
    · rename_i p hp
      cases e
      obtain ⟨d, ys, rfl, e1, q, r⟩ := loc_lst hs ra h1 h2
      obtain ⟨st, hs'⟩ := put_lst hs e1 q r.dropLast
      obtain ⟨y, ey, ry⟩ := r.get hp
      rw [r.length] at ey
      exact mt_pop pins s σ H _ _ v us Q I rx rxs ⟨d, ys, y, rfl, rfl, q, ey, k ρ _ _ st hs' (Rep.step st _ _ ry)⟩
    · cases e
  · cases e
theorem m_popAt : MtR X "list.pop" (rMt T .popAt) := by
  rintro pins s σ H x xs v us Q I rx rxs ⟨ρ, S, a, as, c, S', H0, hs, ra, ras, e, k⟩
  have e : mPopAt S a as = some (c, S') := e
  unfold mPopAt at e
  split at e
  case h_2 => cases e
  rename_i i _
  obtain ⟨y, rfl, ry⟩ := as1 ras
  have := of_int ry
  subst this
  split at e
  · rename_i n l h1 h2
    split at e
    · rename_i hi
      simp only [Bool.and_eq_true, decide_eq_true_eq] at hi
      split at e
      · rename_i p hp
        cases e
        obtain ⟨d, ys, rfl, e1, q, r⟩ := loc_lst hs ra h1 h2
        obtain ⟨st, hs'⟩ := put_lst hs e1 q (r.eraseIdx i.toNat)
        obtain ⟨y, ey, ry⟩ := r.get hp
        have hlt : i.toNat < ys.length := (List.getElem?_eq_some_iff.mp ey).1
        exact mt_popAt pins s σ H _ _ v us Q I rx rxs ⟨d, ys, i, i.toNat, y, rfl, rfl, q, by omega, by omega, seqIndex_of hi.1 (by omega), ey, k ρ _ _ st hs' (Rep.step st _ _ ry)⟩
      · cases e
    · cases e
  · cases e
theorem m_extend : MtR X "list.extend" (rMt T .extend) := by
  rintro pins s σ H x xs v us Q I rx rxs ⟨ρ, S, a, as, c, S', H0, hs, ra, ras, e, k⟩
  have big2 : (1000000 : Nat) ≤ sizeLine := big_line
  have e : mExtend S a as = some (c, S') := e
  unfold mExtend at e
  split at e
  case h_2 => cases e
  obtain ⟨y, rfl, ry⟩ := as1 ras
  split at e
  · rename_i n l m h1 h2 h3
    split at e
    · rename_i hl
      cases e
      obtain ⟨d, ys, rfl, e1, q, r⟩ := loc_lst hs ra h1 h2
      obtain ⟨b, zs, rfl, q2, r2⟩ := lstOf_ok hs ry h3
      obtain ⟨st, hs'⟩ := put_lst hs e1 q (r.app r2)
      have := r.length
      have := r2.length
      exact mt_extend pins s σ H _ _ v us Q I rx rxs ⟨d, b, ys, zs, rfl, rfl, q, q2, by omega, k ρ _ _ st hs' repA_non⟩
    · cases e
  · cases e
theorem findIdx_ok {d : PyData} : ∀ {ds : List PyData} {j : Nat}, ds.findIdx? (fun y => PyData.eqv y d) = some j → ∃ z, ds[j]? = some z ∧ PyData.eqv z d = true ∧ ∀ (m : Nat) (z' : PyData), m < j → ds[m]? = some z' → PyData.eqv z' d = false := by
  intro ds j h
  obtain ⟨hj, h1, h2⟩ := List.findIdx?_eq_some_iff_getElem.mp h
  refine ⟨ds[j], by simp [hj], h1, fun m z' hm e => ?_⟩
  have := h2 m hm
  obtain ⟨hm', rfl⟩ := List.getElem?_eq_some_iff.mp e
  simpa using this
theorem idx_ok {S : Store} {p : PV} {l : List PV} {j : Nat} (h : idxP S p l = some j) : ∃ d ds z, dat S deep p = some d ∧ mapO (dat S deep) l = some ds ∧ SeqAt.shaped d = true ∧ SeqAt.shaped (.list ds) = true ∧ ds[j]? = some z ∧ PyData.eqv z d = true ∧ ∀ (m : Nat) (z' : PyData), m < j → ds[m]? = some z' → PyData.eqv z' d = false := by
  unfold idxP at h
  split at h
  · rename_i d ds e1 e2
    split at h
    · rename_i hc
      rw [Bool.and_eq_true] at hc
      obtain ⟨z, z1, z2, z3⟩ := findIdx_ok h
      exact ⟨d, ds, z, e1, e2, hc.1, hc.2, z1, z2, z3⟩
    · cases h
  · cases h
theorem m_indexL (hK : X.K = T.K) (hu : X.A.units + 65 < cLine) : MtR X "list.index" (rMt T .indexL) := by
  rintro pins s σ H x xs v us Q I rx rxs ⟨ρ, S, a, as, c, S', H0, hs, ra, ras, e, k⟩
  obtain ⟨K, fa, ca, fl, tabs⟩ := T
  obtain rfl : X.K = K := hK
  have e : mIndex S (lstOf S a) as = some (c, S') := e
  unfold mIndex at e
  split at e
  case h_2 => cases e
  rename_i p _
  obtain ⟨y, rfl, ry⟩ := as1 ras
  simp only [Option.map_eq_some_iff, Option.bind_eq_some_iff] at e
  obtain ⟨j, ⟨l, h1, h2⟩, e⟩ := e
  cases e
  obtain ⟨d, ds, z, e1, e2, g1, g2, z1, z2, z3⟩ := idx_ok h2
  obtain ⟨b, ys, rfl, q, r⟩ := lstOf_ok hs ra h1
  exact mt_indexD hu pins s σ H _ _ v us Q I rx rxs ⟨b, y, d, ds, j, z, rfl, rfl, .lst (.inl (.inl q)) (seqD hs e2 r), dat_ok hs _ _ _ _ e1 ry, g2, g1, z1, z2, z3, k ρ _ _ Step.refl hs repA_int⟩
/-- the items of a tuple, and a value, as data in the heap -/
theorem tup_read (hu : X.A.units + 65 < cLine) {pins : List (Addr × Obj)} {s : Shared} {σ : St} {a : Addr} {y : V} {u : Value} {d : PyData} {ds : List PyData} {zs : List V} (I : Inv X pins σ H s) (ht : SqT X.K H a zs) (hz : DpAll X.K H zs ds) (hy : Dp X.K H y d) (ru : RelV y u)
    (sl : SeqAt.shaped (.list ds) = true) (sd : SeqAt.shaped d = true) : ∃ (us : List Value) (di : Option Addr) (so : Array (Option Value)) (n : Nat), s.heap.get? a = some { cls := .type "tuple", dict := di, data := .seq us.toArray n, slots := so } ∧ us.map (SeqAt.readOf s.heap) = ds ∧
      ∀ w, w ∈ us.toArray → SeqAt.EqAt X.A.in1 s w u (PyData.eqv (SeqAt.readOf s.heap w) d) := by
  obtain ⟨bs, r1⟩ := Dp.reads I d y u hy ru
  obtain ⟨us, rv, ⟨⟨cl, di, dat0, so⟩, go, f1, n, f2⟩, _⟩ := I.tuple ht
  simp only at f1 f2
  subst f1 f2
  obtain ⟨as, r2⟩ := Dp.readsAll I ds zs us hz rv
  have lay : PyData.canLayAll0 ds = true := SeqAt.canLay_of_shaped sl
  exact ⟨us, di, so, n, go, SeqAt.readsAll_map ds us as lay r2, SeqAt.items_eqAt (A := X.A) (vs := us.toArray) (show ReadsAll s.heap us.toArray.toList ds as from r2) r1 lay (SeqAt.canLay_of_shaped sd) (room_in_shaped sd hu)⟩
theorem m_indexT (hK : X.K = T.K) (hu : X.A.units + 65 < cLine) : MtR X "tuple.index" (rMt T .indexT) := by
  rintro pins s σ H x xs v us Q I rx rxs ⟨ρ, S, a, as, c, S', H0, hs, ra, ras, e, k⟩
  obtain ⟨K, fa, ca, fl, tabs⟩ := T
  obtain rfl : X.K = K := hK
  have e : mIndex S (rotOf a) as = some (c, S') := e
  unfold mIndex at e
  split at e
  case h_2 => cases e
  rename_i p _
  obtain ⟨y, rfl, ry⟩ := as1 ras
  simp only [Option.map_eq_some_iff, Option.bind_eq_some_iff] at e
  obtain ⟨j, ⟨l, h1, h2⟩, e⟩ := e
  cases e
  obtain ⟨d, ds, z, e1, e2, g1, g2, z1, z2, z3⟩ := idx_ok h2
  obtain ⟨b, ys, rfl, q, r⟩ := rotOf_ok ra h1
  cases rx
  obtain ⟨u, rfl, ru⟩ := vals1 rxs
  obtain ⟨ws, di, so, n, go, mp, eqs⟩ := tup_read hu I q.t (seqD hs e2 r) (dat_ok hs _ _ _ _ e1 ry) ru g2 g1
  have at0 : ∀ (m : Nat) (hm : m < ws.toArray.size) (z' : PyData), ds[m]? = some z' → SeqAt.readOf s.heap ws.toArray[m] = z' := fun m hm z' h => by
    have hm' : m < ws.length := by simpa using hm
    rw [← mp, List.getElem?_map, List.getElem?_eq_getElem hm'] at h
    simpa using Option.some.inj h
  have n1 : ws.length = ds.length := by rw [← mp, List.length_map]
  have lj : j < ws.toArray.size := by
    have := (List.getElem?_eq_some_iff.mp z1).1
    rw [List.size_toArray]
    omega
  have core := TI.tuple_indexAt b ws.toArray n di so u (fun w => PyData.eqv (SeqAt.readOf s.heap w) d) j lj (by show PyData.eqv _ d = true; rw [at0 j lj z z1]; exact z2) fun m hm hj => by
    have hd : m < ds.length := by rw [← n1]; simpa using hm
    show PyData.eqv _ d = false
    rw [at0 m hm _ (List.getElem?_eq_getElem hd)]
    exact z3 m _ hj (List.getElem?_eq_getElem hd)
  exact call_meets PySem.F.slot_tuple_index ⟨_, go, rfl⟩ PySem.F.entry_tuple_index (PySem.F.args_tuple_index_2 _ _) core ⟨go, eqs, .int (j : Nat), H, I.tok _, ⟨_, rfl⟩, k ρ _ _ Step.refl hs repA_int⟩
theorem m_indexU (hK : X.K = T.K) (hu : X.A.units + 65 < cLine) : MtR X "tuple.index" (rMt T .indexU) := by
  rintro pins s σ H x xs v us Q I rx rxs ⟨ρ, S, a, as, c, S', H0, hs, ra, ras, e, k⟩
  obtain ⟨K, fa, ca, fl, tabs⟩ := T
  obtain rfl : X.K = K := hK
  have e : mIndexU S (rotOf a) as = some (c, S') := e
  unfold mIndexU at e
  split at e
  case h_2 => cases e
  rename_i p i _
  obtain ⟨y, z, rfl, ry, rz⟩ := as2 ras
  have rz : z = .int i := of_int rz
  subst rz
  split at e
  case isFalse => cases e
  rename_i hi
  obtain ⟨m, rfl⟩ := Int.eq_ofNat_of_zero_le hi
  simp only [Option.map_eq_some_iff, Option.bind_eq_some_iff] at e
  obtain ⟨j, ⟨l, h1, g0⟩, e⟩ := e
  cases e
  obtain ⟨b, ys, rfl, q, r⟩ := rotOf_ok ra h1
  have g2 : idxU S p m l = some j := g0
  clear g0
  unfold idxU at g2
  split at g2
  · rename_i d ds e1 e2
    split at g2
    · rename_i hc
      rw [Bool.and_eq_true] at hc
      simp only [Option.map_eq_some_iff] at g2
      obtain ⟨o, g3, rfl⟩ := g2
      obtain ⟨zz, z1, z2, z3⟩ := findIdx_ok g3
      rw [List.getElem?_drop] at z1
      cases rx
      obtain ⟨u, w, rfl, ru, rw⟩ := vals2 rxs
      obtain ⟨tk, rfl⟩ := rw
      obtain ⟨ws, di, so, n, go, mp, eqs⟩ := tup_read hu I q.t (seqD hs e2 r) (dat_ok hs _ _ _ _ e1 ry) ru hc.2 hc.1
      have n1 : ws.length = ds.length := by rw [← mp, List.length_map]
      have lj : m + o < ws.toArray.size := by
        have := (List.getElem?_eq_some_iff.mp z1).1
        rw [List.size_toArray]
        omega
      let f : Nat → Bool := fun j => match ds[j]? with
        | some z => PyData.eqv z d
        | none => false
      have at0 : ∀ (j : Nat) (hj : j < ws.toArray.size), PyData.eqv (SeqAt.readOf s.heap ws.toArray[j]) d = f j := fun j hj => by
        have hj' : j < ws.length := by simpa using hj
        have e3 : ds[j]? = some (SeqAt.readOf s.heap ws[j]) := by rw [← mp, List.getElem?_map, List.getElem?_eq_getElem hj']; rfl
        show _ = (match ds[j]? with | some z => PyData.eqv z d | none => false)
        rw [e3]
        simp
      have sf : PySem.SeqAt.searchFrom (m : Int) ws.toArray.size = m := PySem.SeqAt.searchFrom_nat m _
      have core := SeqAt.tuple_index3_found b ws.toArray n di so u f (m : Int) tk (m + o) lj (by rw [sf]; omega) lj (by show (match ds[m + o]? with | some z => PyData.eqv z d | none => false) = true; rw [z1]; exact z2) fun j hj lo hi => by
        rw [sf] at lo
        have hj' : j < ds.length := by rw [← n1]; simpa using hj
        show (match ds[j]? with | some z => PyData.eqv z d | none => false) = false
        rw [List.getElem?_eq_getElem hj']
        refine z3 (j - m) _ (by omega) ?_
        rw [List.getElem?_drop]
        have : m + (j - m) = j := by omega
        rw [this, List.getElem?_eq_getElem hj']
      have eqs2 : ∀ (j : Nat) (hj : j < ws.toArray.size), SeqAt.EqAt X.A.in1 s ws.toArray[j] u (f j) := fun j hj => by
        rw [← at0 j hj]
        exact eqs _ (Array.getElem_mem hj)
      exact call_meets PySem.F.slot_tuple_index ⟨_, go, rfl⟩ PySem.F.entry_tuple_index (PySem.F.args_tuple_index_3 _ _ _) core ⟨go, eqs2, .int ((m + o : Nat) : Int), H, I.tok _, ⟨_, rfl⟩, k ρ _ _ Step.refl hs repA_int⟩
    · cases g2
  · cases g2
theorem m_countT (hK : X.K = T.K) (hu : X.A.units + 65 < cLine) : MtR X "tuple.count" (rMt T .countT) := by
  rintro pins s σ H x xs v us Q I rx rxs ⟨ρ, S, a, as, c, S', H0, hs, ra, ras, e, k⟩
  obtain ⟨K, fa, ca, fl, tabs⟩ := T
  obtain rfl : X.K = K := hK
  have e : mCount S (rotOf a) as = some (c, S') := e
  unfold mCount at e
  split at e
  case h_2 => cases e
  rename_i p _
  obtain ⟨y, rfl, ry⟩ := as1 ras
  simp only [Option.map_eq_some_iff, Option.bind_eq_some_iff] at e
  obtain ⟨j, ⟨l, h1, h2⟩, e⟩ := e
  cases e
  obtain ⟨b, ys, rfl, q, r⟩ := rotOf_ok ra h1
  unfold cntP at h2
  split at h2
  · rename_i d ds e1 e2
    split at h2
    · rename_i hc
      cases h2
      rw [Bool.and_eq_true] at hc
      cases rx
      obtain ⟨u, rfl, ru⟩ := vals1 rxs
      obtain ⟨ws, di, so, n, go, mp, eqs⟩ := tup_read hu I q.t (seqD hs e2 r) (dat_ok hs _ _ _ _ e1 ry) ru hc.2 hc.1
      have ec : (ws.toArray.toList.countP fun w => PyData.eqv (SeqAt.readOf s.heap w) d) = ds.countP fun z => PyData.eqv z d := by
        rw [← mp, List.countP_map]
        rfl
      refine call_meets PySem.F.slot_tuple_count ⟨_, go, rfl⟩ PySem.F.entry_tuple_count (PySem.F.args_tuple_count_2 _ _) (SeqAt.tuple_countAt b ws.toArray n di so u fun w => PyData.eqv (SeqAt.readOf s.heap w) d) ⟨go, eqs, ?_⟩
      rw [ec]
      exact ⟨.int _, H, I.tok _, ⟨_, rfl⟩, k ρ _ _ Step.refl hs repA_int⟩
    · cases h2
  · cases h2
theorem ROp.getD {o : Option PV} {r : Option V} (h : ROp T ρ H o r) {p : PV} {v : V} (rp : Rep T ρ H p v) : Rep T ρ H (o.getD p) (r.getD v) := by
  rcases h with ⟨rfl, rfl⟩ | ⟨p, v, rfl, rfl, h⟩
  · exact rp
  · exact h
theorem m_get1 (hu : X.A.units + 1 < cLine) : MtR X "dict.get" (rMt T .get1) := by
  rintro pins s σ H x xs v us Q I rx rxs ⟨ρ, S, a, as, c, S', H0, hs, ra, ras, e, k⟩
  have e : mGet1 S a as = some (c, S') := e
  unfold mGet1 at e
  split at e
  case h_2 => cases e
  obtain ⟨y, rfl, ry⟩ := as1 ras
  simp only [Option.map_eq_some_iff] at e
  obtain ⟨o, e1, e⟩ := e
  cases e
  obtain ⟨b, r, rfl, g, ro⟩ := dGet_ok hs ra (show Rep T ρ H _ y from ry) e1
  obtain ⟨u, rfl, ru⟩ := Vals.one rxs
  cases (show v = Value.ref b from rx)
  exact d_get1 hu I g ru fun w' s' I' rw' => ⟨_, H, I', rw', k ρ _ _ Step.refl hs (ro.getD rep_non)⟩
theorem m_get2 (hu : X.A.units + 1 < cLine) : MtR X "dict.get" (rMt T .get2) := by
  rintro pins s σ H x xs v us Q I rx rxs ⟨ρ, S, a, as, c, S', H0, hs, ra, ras, e, k⟩
  have e : mGet2 S a as = some (c, S') := e
  unfold mGet2 at e
  split at e
  case h_2 => cases e
  obtain ⟨y, z, rfl, ry, rz⟩ := as2 ras
  simp only [Option.map_eq_some_iff] at e
  obtain ⟨o, e1, e⟩ := e
  cases e
  obtain ⟨b, r, rfl, g, ro⟩ := dGet_ok hs ra (show Rep T ρ H _ y from ry) e1
  obtain ⟨u, w, rfl, ru, rw⟩ := Vals.two rxs
  cases (show v = Value.ref b from rx)
  exact d_get2 hu I g ru rw fun w' s' I' rw' => ⟨_, H, I', rw', k ρ _ _ Step.refl hs (ro.getD rz)⟩
theorem RepK.merge {more : List (Key × PV)} {ms : List (Key × V)} (h : RepK T ρ H more ms) : ∀ {kvs : List (Key × PV)} {ks : List (Key × V)}, RepK T ρ H kvs ks → RepK T ρ H (more.foldl (fun acc kv => setK kv.1 kv.2 acc) kvs) (mergeK ks ms) := by
  refine RepK.ind (P := fun more ms => ∀ {kvs : List (Key × PV)} {ks : List (Key × V)}, RepK T ρ H kvs ks → RepK T ρ H (more.foldl (fun acc kv => setK kv.1 kv.2 acc) kvs) (mergeK ks ms)) (fun h => h) (fun k p v more ms r _ ih kvs ks h2 => ?_) h
  rw [List.foldl_cons]
  exact ih (h2.put k r)
theorem m_update : MtR X "dict.update" (rMt T .update) := by
  rintro pins s σ H x xs v us Q I rx rxs ⟨ρ, S, a, as, c, S', H0, hs, ra, ras, e, k⟩
  have big2 : (1000000 : Nat) ≤ sizeLine := big_line
  have e : mUpdate S a as = some (c, S') := e
  unfold mUpdate at e
  split at e
  case h_2 => cases e
  rename_i more _
  obtain ⟨y, rfl, ry⟩ := as1 ras
  split at e
  · rename_i n kvs h1 h2
    split at e
    · rename_i hl
      cases e
      obtain ⟨d, ks, rfl, e1, q, r⟩ := loc_dk hs ra h1 h2
      obtain ⟨b, ms, rfl, z0, z1, q2, r2⟩ := ry
      obtain ⟨st, hs'⟩ := put_dk hs e1 q (r2.merge r)
      obtain ⟨u, rfl, ru⟩ := Vals.one rxs
      cases (show v = Value.ref d from rx)
      cases (show u = Value.ref b from ru)
      obtain ⟨hz, hd, vs, rel, dd⟩ := dk_of I.hok q
      obtain ⟨hz2, hd2, vs2, rel2, dd2⟩ := dk_of I.hok q2
      have hne : d ≠ b := fun z => z1 (z ▸ mem_at e1)
      have l1 := r.length
      have l2 := r2.length
      have l3 : ks.length = vs.length := Paired.length rel
      have l4 : ms.length = vs2.length := Paired.length rel2
      have l5 := length_mergeK ms ks
      refine call_meetsIn PySem.F.slot_dict_update dd.typeIs PySem.F.entry_dict_update (PySem.F.args_dict_update_2 _ _) (meets_dict_update (mixKind X.prog X.w) d b hne hd2)
        ⟨vs, vs2, dd, dd2, (by omega), fun h' hmm _ hsb => ?_⟩
      have he : ∃ q, h'.get? d = some q := let ⟨q, _, _, hq, _⟩ := hmm; ⟨q, hq⟩
      exact ⟨.non, upd H d (.dK (mergeK ks ms)), d_write I (by rw [q]; exact True.intro) hsb he (dk_new (by omega) hd (rel2.merge rel) hmm), rfl, k ρ _ _ st hs' repA_non⟩
    · cases e
  · cases e
end
end EV
/-! The E layer: a class whose maker is that of one base, whose first __init__ above is that of another. -/
namespace PySem.EVn
open PySem.Calls
open Sem (wp)
/-- the built-in __init__ of B -/
structure InF (B i : String) : Prop where
  star : (B != "*") = true
  kind : builtinKind i = some .slot
  row : Manifest.signature? i = some ⟨.positional, "*", B, .self, [⟨"args", .varPos, false⟩]⟩
  slot : Slot B "__init__" i
  entry : entryFor table i = some Builtin.«BaseException.__init__»
theorem InF.of {B newId i : String} {bm : List Value} (F : ExcBaseFacts B newId i bm) : InF B i := ⟨F.noStar, F.initKind, F.initRow, F.init, F.initEntry⟩
/-- the maker newId, of Bn, for a class whose bases are bmB -/
structure NwF (Bn newId iN : String) (bmN bmB : List Value) : Prop where
  F : ExcBaseFacts Bn newId iN bmN
  has : bmB.contains (.type Bn) = true
  at_ : bmB.contains (.type "AttributeError") = false
  nm : bmB.contains (.type "NameError") = false
theorem NwF.of {B newId i : String} {bm : List Value} (F : ExcBaseFacts B newId i bm) : NwF B newId i bm bm := ⟨F, F.hasB, F.noAttr, F.noName⟩
section
variable {M : Model} {A : Around} {E : Value → Shared → Prop} {h : Heap} {g : Array GenState} {d : Drawn} {t : Nat} {os : OsState}
variable {nm q : Str} {C N : Addr} {bs bm bmB bmN : List Value} {hdct : Bool} {sn : List Str} {sub : List Value} {ab : Bool} {col : Option Bool} {dd : Option Addr} {k0 k1 k2 k3 k5 : Option Value} {Bn newId iN : String} {rest : List Value}
theorem nw_check (Y : NwF Bn newId iN bmN bmB) (hT : ∀ X : String, bm.contains (.type X) = bmB.contains (.type X)) {Q : Unit → Shared → Prop}
    (hC : h.get? C = some (excClassObj nm q C N bs bm hdct sn sub ab col dd k0 k1 k2 k3 k5 newId)) (hq : Q () ⟨h, g, d, t, os⟩) :
    wpAny M A (checkBuiltinCall newId ⟨.ref C :: rest, []⟩) Q E ⟨h, g, d, t, os⟩ := by
  have hc : (Value.ref C :: bm).contains (.type Bn) = true := by
    rw [List.contains_cons, hT, Y.has, Bool.or_true]
  have hs := Y.F.noStar
  simp only [checkBuiltinCall, Y.F.newKind, Y.F.newSplit, Y.F.newRow]
  repeat (first
    | refine wpAny_loadPart_at hC ?_
    | (refine wpAny_isSubtype_exc hC ?_; rw [hc])
    | refine wpAny_staticBase_exc hC ?_
    | refine wpAny_madeBy_exc hC ?_
    | simp only [bne_self_eq_false, Bool.false_eq_true, if_false]
    | wp_step)
  exact hq
end
section
variable {prog : Program} {w : World} {A : Around} {E : Value → Shared → Prop} {R : Result → Shared → Prop} {h : Heap} {g : Array GenState} {d : Drawn} {t : Nat} {os : OsState}
variable {nm q : Str} {C N fI : Addr} {bs bm bmB bmN : List Value} {hdct : Bool} {sn : List Str} {sub : List Value} {ab : Bool} {col : Option Bool} {dd : Option Addr} {k0 k1 k2 k3 k5 : Option Value} {Bn newId iN : String} {rest : List Value}
theorem nw_make (Y : NwF Bn newId iN bmN bmB) (hT : ∀ X : String, bm.contains (.type X) = bmB.contains (.type X))
    (hC : h.get? C = some (excClassObj nm q C N bs bm hdct sn sub ab col dd k0 k1 k2 k3 k5 newId))
    (hq : R (.ok (.ret (.ref (h.objs.size + 1)))) ⟨(h.push (PySem.W.kdv_tup rest)).push (PySem.HandSPX.excO C h.objs.size), g, d, t, os⟩) (hrest : rest.length ≤ sizeLine) :
    codeAny (model prog w) A (.builtin newId ⟨.ref C :: rest, []⟩) R ⟨h, g, d, t, os⟩ := by
  have he := Y.F.ends
  have h1 : (Value.ref C :: bm).contains (.type Bn) = true := by
    rw [List.contains_cons, hT, Y.has, Bool.or_true]
  have h2 : (Value.ref C :: bm).contains (.type "AttributeError") = false := by
    rw [List.contains_cons, hT, Y.at_]
    rfl
  have h3 : (Value.ref C :: bm).contains (.type "NameError") = false := by
    rw [List.contains_cons, hT, Y.nm]
    rfl
  refine codeAny_builtinAt Y.F.entry ?_
  unfold Builtin.«BaseException.__new__»
  refine wpAt_bind ?_
  show wpAt _ _ _ (stack >>= _) _ _ _
  refine wpAt_bind (wpAt_stack fun p below => wpAt_of_wpAny ?_)
  wp_walk
  refine wpAt_of_wpAny ?_
  rw [Y.F.owner]
  repeat (first
    | with_reducible refine wpAny_madeHere_exc Y.F.canon hC ?_
    | with_reducible refine wpAny_loadPart_at hC ?_
    | (with_reducible refine wpAny_isSubtype_exc hC ?_; first | rw [h1] | rw [h2] | rw [h3])
    | wp_step)
  show R _ _
  rw [Heap.size_push]
  exact hq
theorem nw_type_call (Y : NwF Bn newId iN bmN bmB) (hT : ∀ X : String, bm.contains (.type X) = bmB.contains (.type X)) {Q : Fin → Shared → Prop}
    (hC : h.get? C = some (excClassObj nm q C N bs bm hdct sn sub ab col dd k0 k1 k2 k3 k5 newId))
    (hi : PySem.W.Looks (model prog w) h (typeLookup (.ref C) "__init__") (some (.ref fI))) (hb : ∀ v, PySem.W.Looks (model prog w) h (bindSpecial (.ref fI) v) (.ref fI, [v])) (hrest : rest.length ≤ sizeLine)
    (hq : codeAny (model prog w) A (.call (.ref fI) ⟨.ref (h.objs.size + 1) :: rest, []⟩)
      (fun r s' => match r with | .ok (.ret v) => v = .none ∧ Q (.done (.ret (.ref (h.objs.size + 1)))) s' | .ok _ => False | .error e => E e s')
      ⟨(h.push (PySem.W.kdv_tup rest)).push (PySem.HandSPX.excO C h.objs.size), g, d, t, os⟩) :
    wpAny (model prog w) A (Builtin.«type.__call__» ⟨.ref C :: rest, []⟩) Q E ⟨h, g, d, t, os⟩ := by
  repeat (first
    | with_reducible refine wpAny_loadPart_at hC ?_
    | with_reducible refine wpAny_madeBy_exc hC ?_
    | wp_step)
  refine codeAny_call_builtin_code (Code.quiet_builtin _ Y.F.quiet) (nw_check Y hT hC ?_)
  refine nw_make Y hT hC ?_ hrest
  show wpAny _ _ _ _ _ _
  have kk : ∀ b o, h.get? b = some o → ((h.push (PySem.W.kdv_tup rest)).push (PySem.HandSPX.excO C h.objs.size)).get? b = some o :=
    fun b o e => Heap.get?_push_of_some _ (Heap.get?_push_of_some _ e)
  have c1 := kk _ _ hC
  have g1 : ((h.push (PySem.W.kdv_tup rest)).push (PySem.HandSPX.excO C h.objs.size)).get? (h.objs.size + 1) = some (PySem.HandSPX.excO C h.objs.size) := by heap_get
  have cc : (Value.ref C :: bm).contains (.ref C) = true := by simp
  have i1 := hi.keeps kk
  have b1 := (hb (.ref (h.objs.size + 1))).keeps kk
  unfold isInstance
  repeat (first
    | with_reducible refine wpAny_loadPart_at g1 ?_
    | (with_reducible refine wpAny_isSubtype_exc c1 ?_; rw [cc])
    | wp_step)
  show wpAny _ _ (typeLookup (.ref C) _) _ _ _
  refine i1.at ?_
  refine wpAny_holding (wpAny_bind (b1.at ?_))
  refine wpAny_bind (wpAny_call (codeAny_mono hq fun r s' z => ?_))
  rcases r with e | (v | _ | _ | _)
  case ok.ret =>
    obtain ⟨rfl, z⟩ := z
    first
      | exact wpAny_pure (wpAny_pure z)
      | (wp_walk <;> exact z)
  all_goals first
    | exact z
    | exact z.elim
/-- C(..) -/
theorem nw_call (Y : NwF Bn newId iN bmN bmB) (hT : ∀ X : String, bm.contains (.type X) = bmB.contains (.type X))
    (hC : h.get? C = some (excClassObj nm q C N bs bm hdct sn sub ab col dd k0 k1 k2 k3 k5 newId))
    (hi : PySem.W.Looks (model prog w) h (typeLookup (.ref C) "__init__") (some (.ref fI))) (hb : ∀ v, PySem.W.Looks (model prog w) h (bindSpecial (.ref fI) v) (.ref fI, [v])) (hrest : rest.length ≤ sizeLine)
    (hq : codeAny (model prog w) (A.under (.builtin "type.__call__" ⟨.ref C :: rest, []⟩)) (.call (.ref fI) ⟨.ref (h.objs.size + 1) :: rest, []⟩) (PySem.W.InitBack (h.objs.size + 1) R)
      ⟨(h.push (PySem.W.kdv_tup rest)).push (PySem.HandSPX.excO C h.objs.size), g, d, t, os⟩) :
    codeAny (model prog w) A (.call (.ref C) ⟨rest, []⟩) R ⟨h, g, d, t, os⟩ := by
  have f1 := tc_lookup
  have f2 := tc_bind (.ref C)
  have ty : (⟨h, g, d, t, os⟩ : Shared).TypeIs (.ref C) "type" := ⟨_, hC, rfl⟩
  refine codeAny_of_tree ?_
  show wpAny _ _ (callAny (.ref C) _) _ _ _
  repeat (any_goals (first
    | assumption
    | with_reducible refine wpAny_loadPart_at hC ?_
    | wp_step))
  refine ⟨rfl, ?_⟩
  refine codeAny_call_builtin_at (Code.quiet_builtin _ (by decide +kernel)) entry_typeCall ?_
  refine wpAny_check_type_call_sub hC (nw_type_call Y hT hC hi hb hrest ?_)
  refine codeAny_mono hq fun r s' z => ?_
  rcases r with e | (v | _ | _ | _) <;> exact z
theorem in_check {M : Model} {B i : String} {newId : String} (F : InF B i) {e : Addr} {oe : Obj} {Q : Unit → Shared → Prop}
    (hC : h.get? C = some (excClassObj nm q C N bs bm hdct sn sub ab col dd k0 k1 k2 k3 k5 newId)) (he : h.get? e = some oe) (hcls : oe.cls = .ref C) (hq : Q () ⟨h, g, d, t, os⟩) :
    wpAny M A (checkBoundCall i ⟨.ref e :: rest, []⟩) Q E ⟨h, g, d, t, os⟩ := by
  have hs := F.star
  simp only [checkBoundCall, F.kind, F.row]
  repeat (first
    | (with_reducible refine wpAny_loadPart_at he ?_; rw [hcls])
    | with_reducible refine wpAny_loadPart_at hC ?_
    | wp_step)
  refine wpAny_onRaise ?_
  have z : ∀ (a b : String) (n : Nat), Bind.check ⟨.positional, "*", B, .self, [⟨"args", .varPos, false⟩]⟩ a b n (List.map (fun x => x.fst) ({ pos := Value.ref e :: rest } : Args).kw) = pure () :=
    fun a b n => check_star_args _ _ _ _ _ _
  rw [z]
  exact wpAny_pure hq
end
section
variable {prog : Program} {w : World} {A : Around} {E : Value → Shared → Prop} {s : Shared} {h₀ : Heap} {L : Addr} {m : Str → Option Value} {news : List (Addr × Obj)} {K : PySem.W.Frag} {x C u : Addr} {B i newId : String} {bmB : List Value}
/-- super().__init__(..) is called -/
theorem in_call {t : Addr} {dv : Option Addr} {c2 : Value} {rest : List Value} {nw : Obj → List (Addr × Obj)} {Q : Value → Shared → Prop} (F : PyProof.Rows.Fr h₀ L s.heap m) (X₀ : K.In h₀) (N : PyProof.Rows.News h₀ L s.heap news) (FI : InF B i)
    (q : PySem.W.excInitIn K C bmB newId = true) (hm : (u, PySem.W.kxs_mw i x) ∈ news) (U : PySem.W.UpdF x (PySem.W.excObj C t dv c2) news nw) (hz : rest.length ≤ sizeLine)
    (h : ∀ t' h', PyProof.Rows.Fr h₀ L h' m → PyProof.Rows.News h₀ L h' ((t', PySem.W.excTup rest) :: nw (PySem.W.excObj C t' dv c2)) → (∀ p ∈ news, p.1 < t') → Q .none { s with heap := h' }) :
    wpAny (model prog w) A (call (.ref u) rest) Q E s := by
  obtain ⟨nm, N', qn, bs, bm, hdct, sn, sub, ab, col, dd, k0, k1, k2, k3, k5, hC, hT⟩ := PySem.W.excInit_of (X₀.keeps F.keep) q
  have hu := (N _ hm).1
  obtain ⟨pre, post, rfl, hg, a, b⟩ := U.split
  have mx : (x, PySem.W.excObj C t dv c2) ∈ pre ++ (x, PySem.W.excObj C t dv c2) :: post := by simp
  have he := (N _ mx).1
  have lt : ∀ p ∈ pre ++ (x, PySem.W.excObj C t dv c2) :: post, p.1 < s.heap.objs.size := fun p hp => Heap.lt_size (N p hp).1
  have fin : ∀ h', (∀ b o, b ≠ x → s.heap.get? b = some o → h'.get? b = some o) → h'.get? x = some (PySem.W.excObj C s.heap.objs.size dv c2) →
      h'.get? s.heap.objs.size = some (PySem.W.excTup rest) → Q .none { s with heap := h' } := fun h' k e' t' => by
    obtain ⟨oL, es, ep, hL, r⟩ := F.ns
    have xL : L ≠ x := fun z => (N _ mx).2.1 z.symm
    have xn : h₀.get? x = none := (N _ mx).2.2
    have F' : PyProof.Rows.Fr h₀ L h' m := by
      refine ⟨⟨oL, es, ep, k _ _ xL hL, r⟩, fun b o z => ?_, F.above⟩
      refine k b o (fun y => ?_) (F.keep b o z)
      rw [y, xn] at z
      cases z
    refine h s.heap.objs.size h' F' ?_ lt
    rw [hg]
    intro p hp
    rcases List.mem_cons.mp hp with rfl | hp
    · refine ⟨t', fun z => ?_, ?_⟩
      · have y := Heap.lt_size (show s.heap.get? L = some oL from hL)
        rw [← z] at y
        exact absurd y (Nat.lt_irrefl _)
      · cases z : h₀.get? s.heap.objs.size with
        | none => rfl
        | some o => exact absurd (Heap.lt_size (F.keep _ _ z)) (Nat.lt_irrefl _)
    · rcases List.mem_append.mp hp with hp | hp
      · have y := N p (List.mem_append_left _ hp)
        exact ⟨k _ _ (a p hp) y.1, y.2⟩
      · rcases List.mem_cons.mp hp with rfl | hp
        · exact ⟨e', (N _ mx).2⟩
        · have y := N p (List.mem_append_right _ (.tail _ hp))
          exact ⟨k _ _ (b p hp) y.1, y.2⟩
  obtain ⟨hh, g, d, tk, os⟩ := s
  refine wpAny_call (codeAny_of_tree ?_)
  show wpAny _ A.in1 (callAny (.ref u) ⟨rest, []⟩) _ _ _
  simp only [callAny]
  refine wpAny_bind (wpAny_load hu ?_)
  have mw : (Value.type "method-wrapper" == Value.type "method" || Value.type "method-wrapper" == Value.type "builtin_function_or_method" || Value.type "method-wrapper" == Value.type "method-wrapper") = true := by decide
  simp only [PySem.W.kxs_mw, mw, if_true]
  refine PySem.W.KFB.if_so (by decide) ?_
  refine wpAny_bind (in_check FI hC he rfl ?_)
  refine wpAny_bind (wpAny_pure (wpAny_pure ?_))
  refine ⟨plainId_quiet FI.slot.plain _, codeAny_builtin FI.entry ?_⟩
  exact PySem.W.exc_init_tree (cls := .ref C) (t0 := t) (dv := dv) (c2 := c2) (c3 := .none) (b4 := .bool false) he hz fin
end
/-! ### KeyError: made by LookupError's maker -/
abbrev mroKey : List Value := [.type "KeyError", .type "LookupError", .type "Exception", .type "BaseException", .type "object"]
theorem nw_key : NwF "LookupError" "LookupError.__new__" "LookupError.__init__" [.type "LookupError", .type "Exception", .type "BaseException", .type "object"] mroKey := ⟨PySem.F.excBase_LookupError, by decide +kernel, by decide +kernel, by decide +kernel⟩
theorem in_key : InF "KeyError" "KeyError.__init__" where
  star := by decide +kernel
  kind := by kernel_rfl
  row := by kernel_rfl
  slot := .of (owner := "KeyError") (n := "__init__") (by rw [typeLookup_type, builtinLookup_eq_fast]; kernel_rfl) (by decide +kernel) (by decide +kernel) (by decide +kernel)
    (by first | exact .inl (by decide +kernel) | exact .inr (by decide +kernel)) (by rw [isSubtype_type]; kernel_rfl)
  entry := entryFor_alias (id' := "BaseException.__init__") (by rw [fastTable_eq_tree]; kernel_rfl) (by first | rfl | decide +kernel) (by decide +kernel) (by rw [fastTable_eq_tree]; kernel_rfl)
theorem kxs_key : PySem.W.KxsFacts "KeyError" "KeyError.__init__" := ⟨by
  show builtinType _ = _
  rw [builtinType_eq_fast]
  kernel_rfl, by first | kernel_rfl | rfl⟩
theorem st_key : StoreFacts "KeyError" mroKey "object.__setattr__" "object" where
  mro := by kernel_rfl
  slot := .of (owner := "object") (n := "__setattr__") (by rw [typeLookup_type, builtinLookup_eq_fast]; kernel_rfl) (by decide +kernel) (by decide +kernel) (by decide +kernel)
    (by first | exact .inl (by decide +kernel) | exact .inr (by decide +kernel)) (by rw [isSubtype_type]; kernel_rfl)
  entry := PySem.F.entry_object_sa
  kind := by decide +kernel
  split := by decide +kernel
  hasOwner := by decide +kernel
  args := fun a b c => by
    unfold argsOk
    kernel_rfl
  passes := fun v => by kernel_rfl
end PySem.EVn
/-! The E layer, part Y: an exception of the text whose __init__ says super().__init__('..') and keeps its one value. -/
namespace EV
open PySem PySem.Spec PySem.Calls
open PyProof.Rows hiding St
/-- what the written part says of the class -/
structure Mkc (K : PySem.W.Frag) (C : Addr) (f : Str) (B newId i : String) (bmB : List Value) : Prop where
  init : PySem.W.excInitIn K C bmB newId = true
  over : PySem.W.excOver K C bmB = true
  hd : PySem.W.hasDictIn K C = true
  tk : PySem.W.takerIn K C f = some none
  sa : PySem.W.findIn K (.ref C) "__setattr__" = some (some (.builtin "object.__setattr__"))
  sub : PySem.W.subIn K (.ref C) (.type B) = some true
  op : PySem.W.nsIn K cStatics "thirdparty.any" = some none
  sup : PySem.W.ks_superIn K C C "__init__" = some (some (.builtin i))
  self : PySem.W.mroIn K C (.ref C) = some true
/-- and of its __init__ -/
structure Mkf (prog : Program) (K : PySem.W.Frag) (C : Addr) (f x y msg : Str) (fI cda cc : Addr) (name qual : Str) (params : Arguments) (scope : Scope) (st1 st2 : Stmt) (fd : FuncData) : Prop where
  it : PySem.W.findIn K (.ref C) "__init__" = some (some (.ref fI))
  isf : PySem.W.typeIn K (.ref fI) = some (.type "function")
  at_ : ∃ oc od osl, K.lookup fI = some ⟨oc, od, .func fd, osl⟩
  fde : ∃ dV kV doc pm an ct, fd = PySem.W.ksFn name qual params [st1, st2] scope dV kV doc pm an (.ref cda) ct cc
  code : PySem.W.codeIn K (.ref cda) qual = true
  rec_ : ∃ ccl cdd vs ccs file tf, K.lookup cda = some ⟨ccl, cdd, .fields vs, ccs⟩ ∧ vs[2]? = some (.str file tf) ∧ ((prog.main.file : Str) == file) = true
  cell : ∃ cl cld csl, K.lookup cc = some ⟨cl, cld, .cell (some (.ref C)), csl⟩
  bind : ∀ (s : Shared) (u v : Value), BindsTo s fd ⟨[u, v], []⟩ [(x, u), (y, v)]
  par : ∃ ar, (params.posonlyargs ++ params.args).head? = some ar ∧ ar.arg = x
  ne : x ≠ y
  s1 : ∃ p0 p1 p2 p3 p4 p5 j, (p2.endLine == p4.line) = true ∧ st1 = .Expr (.Call (.Attribute (.Call (.Name "super" p0) [] [] p1) "__init__" p2) [.Constant (.str msg) j p3] [] p4) p5
  s2 : ∃ q1 q2 q3 q4, st2 = .Assign [.Attribute (.Name x q1) f q2] (.Name y q3) q4
  nx : (x == ("__debug__" : Str)) = false
  ny : (y == ("__debug__" : Str)) = false
  kind : scope.kind = .function
  co : scope.isCoroutine = false
  gen : scope.isGenerator = false
  cells : ∀ z ∈ scope.names, z.2 ≠ .cell
  ksup : scope.names.lookup ("super" : Str) = some .globalImplicit
  kcls : scope.names.lookup ("__class__" : Str) = some .free
  kx : scope.names.lookup x = some .local
  ky : scope.names.lookup y = some .local
  top : (prog.main.scope.names.lookup ("super" : Str)).isSome = false
/-- a class of exceptions that the text raises -/
inductive ExR (prog : Program) (K : PySem.W.Frag) (mg : Str → Option Value) (C : Addr) : Option Str → Prop
  | plain {bmB : List Value} {B newId initId : String} (F : ExcBaseFacts B newId initId bmB) (q : PySem.W.excIn K C bmB newId = true) : ExR prog K mg C none
  | kept {f x y msg : Str} {Bn B newId iN i : String} {bmN bmB : List Value} {fI cda cc : Addr} {name qual : Str} {params : Arguments} {scope : Scope} {st1 st2 : Stmt} {fd : FuncData} (KF : PySem.W.KxsFacts B i) (Y : PySem.EVn.NwF Bn newId iN bmN bmB) (FI : PySem.EVn.InF B i)
      (SF : StoreFacts B bmB "object.__setattr__" "object") (c : Mkc K C f B newId i bmB) (m : Mkf prog K C f x y msg fI cda cc name qual params scope st1 st2 fd) (hms : mg "super" = none) : ExR prog K mg C (some f)
structure ExC (prog : Program) (K : PySem.W.Frag) (mg : Str → Option Value) (x : Str) (C : Addr) (k : Option Str) : Prop where
  at_ : mg x = some (.ref C)
  kp : PySem.W.keepIn K (.ref C) = true
  ex : PySem.W.subIn K (.ref C) (.type "BaseException") = some true
  ty : PySem.W.typeIn K (.ref C) = some (.type "type")
  nd : (x == ("__debug__" : Str)) = false
  r : ExR prog K mg C k
section
variable {prog : Program} {w : World} {A : Around} {R : Result → Shared → Prop} {hp : Heap} {g : Array GenState} {d : Drawn} {t : Nat} {os : OsState} {K : PySem.W.Frag} {C fI cda cc : Addr} {f x y msg name qual : Str} {B newId i : String} {bmB : List Value}
  {params : Arguments} {scope : Scope} {st1 st2 : Stmt} {fd : FuncData} {mg mb : Str → Option Value}
theorem super_call {env : PySem.Env} {o : Expr} {n : Str} {c : Const} {p2 p3 p4 : Pos} {j : Nat} (hline : (p2.endLine == p4.line) = true) : eval (.Call (.Attribute o n p2) [.Constant c j p3] [] p4) env = (do
      let ov ← attributeBase o n env (eval o env)
      standAt p2.atName
      let (f, first) ← holding [ov] (getMethod ov n (do return (← importBound o env).getD true))
      callWith p4 f first (backTo p4 (starEach [.Constant c j p3] env)) []) := by
  have e1 : methodCallPos true o env p2 p4 = pure p4 := by
    unfold methodCallPos
    rw [hline]
    rfl
  show (do
      let ov ← attributeBase o n env (eval o env)
      standAt p2.atName
      let (f, first) ← holding [ov] (getMethod ov n (do return (← importBound o env).getD true))
      let callPos ← methodCallPos true o env p2 p4
      callWith callPos f first (backTo p4 (starEach [.Constant c j p3] env)) []) = _
  rw [e1]
  rfl
theorem exc_single {h : Heap} {dx : Addr} {hh : Int} {f : Str} {tk : Tok} {v : Value} {n : Nat} (e : h.get? dx = some (PySem.W.dictOf [⟨hh, .str f tk, v⟩] n)) : h.Ns1 dx (fun z => if z = f then some v else none) := by
  refine ⟨_, _, _, e, rfl, ?_, ?_, fun z => ?_⟩
  · intro e he
    have : e = ⟨hh, .str f tk, v⟩ := by simpa using he
    exact ⟨f, tk, by rw [this]⟩
  · show List.Pairwise _ [_]
    exact List.pairwise_singleton _ _
  · show findBy _ _ _ = _
    unfold findBy
    by_cases hz : z = f
    · subst hz
      simp [Value.isStr]
    · have : (f == z) = false := by simpa using fun q => hz q.symm
      simp [Value.isStr, hz, this]
theorem exc_make {Bn iN : String} {bmN : List Value} (KF : PySem.W.KxsFacts B i) (Y : PySem.EVn.NwF Bn newId iN bmN bmB) (FI : PySem.EVn.InF B i) (SF : StoreFacts B bmB "object.__setattr__" "object") (c : Mkc K C f B newId i bmB) (m : Mkf prog K C f x y msg fI cda cc name qual params scope st1 st2 fd)
    (X : K.In hp) (hg : hp.Ns mainGlobals mg) (hb : hp.Ns builtinsNs mb) (hbv : ∀ x : Str, x ≠ "__name__" → mb x = bootBuiltins x) (hl : hp.NoLimit) (hms : mg "super" = none) {v : Value}
    (hroom : (A.under (.builtin "type.__call__" ⟨[.ref C, v], []⟩)).depth < recursionLimit)
    (h : ∀ e dx t1 h' tk, (∀ b o, hp.get? b = some o → h'.get? b = some o) → hp.objs.size ≤ e → hp.objs.size ≤ dx → dx ≠ e → h'.get? e = some (PySem.W.excObj C t1 (some dx) .none) → h'.Ns1 dx (fun z => if z = f then some v else none) →
      R (.ok (.ret (.ref e))) ⟨h', g, d, tk, os⟩) :
    codeAny (model prog w) A (.call (.ref C) ⟨[v], []⟩) R ⟨hp, g, d, t, os⟩ := by
  obtain ⟨nm, N', qn, bs, bm, hdct, sn, sub, ab, col, dd, k0, k1, k2, k3, k5, hC, hT⟩ := PySem.W.excInit_of X c.init
  refine PySem.EVn.nw_call Y hT hC (PySem.W.looks_findIn X m.it) (fun self => PySem.W.bind_fn X self m.isf) (by show 1 ≤ sizeLine; rw [sizeLine_eq]; omega) ?_
  have kk : ∀ b o, hp.get? b = some o → ((hp.push (PySem.W.kdv_tup [v])).push (PySem.HandSPX.excO C hp.objs.size)).get? b = some o := fun b o e => Heap.get?_push_of_some _ (Heap.get?_push_of_some _ e)
  have he : ((hp.push (PySem.W.kdv_tup [v])).push (PySem.HandSPX.excO C hp.objs.size)).get? (hp.objs.size + 1) = some (PySem.HandSPX.excO C hp.objs.size) := by heap_get
  have ht : ((hp.push (PySem.W.kdv_tup [v])).push (PySem.HandSPX.excO C hp.objs.size)).get? hp.objs.size = some (PySem.W.kdv_tup [v]) := Heap.get?_push_of_some _ (Heap.get?_push_at rfl rfl)
  generalize h1e : (hp.push (PySem.W.kdv_tup [v])).push (PySem.HandSPX.excO C hp.objs.size) = h1 at kk he ht ⊢
  have st : ∀ b o, hp.get? b = some o → (PySem.W.hideAll h1 [hp.objs.size + 1, hp.objs.size]).get? b = some o := fun b o q => PySem.W.hideAll_get _ (kk b o q) fun z => by
    have lt := Heap.lt_size q
    rcases List.mem_cons.mp z with z | z
    · exact Nat.ne_of_lt (Nat.lt_succ_of_lt lt) z
    · rcases List.mem_cons.mp z with z | z
      · exact Nat.ne_of_lt lt z
      · cases z
  have X1 : K.In h1 := X.keeps kk
  have X0 : K.In (PySem.W.hideAll h1 [hp.objs.size + 1, hp.objs.size]) := X.keeps st
  obtain ⟨oc, od, osl, hfI⟩ := m.at_
  obtain ⟨dV, kV, doc, pm, an, ct, efd⟩ := m.fde
  subst efd
  refine PySem.ks_codeAny_call_defAt (s := ⟨h1, g, d, t, os⟩) (binds := [(x, .ref (hp.objs.size + 1)), (y, v)]) (body := [st1, st2]) hroom (X1 _ _ hfI) rfl (hl.keeps kk) (PySem.W.codeRec_of X1 m.code) rfl (m.bind _ _ _) m.cells (fun z hz => ?_) (fun h2 hns hk => ?_) m.co m.gen m.kind
  · rcases List.mem_cons.mp hz with rfl | hz
    · exact m.kx
    · rcases List.mem_cons.mp hz with rfl | hz
      · exact m.ky
      · cases hz
  have F0 : Fr (PySem.W.hideAll h1 [hp.objs.size + 1, hp.objs.size]) h1.objs.size h2 (fun z => [(x, Value.ref (hp.objs.size + 1)), (y, v)].reverse.lookup z) := ⟨hns, fun b o q => hk b o (PySem.W.of_hideAll _ q), Nat.le_of_eq (PySem.W.hideAll_size _ _)⟩
  have N0 : News (PySem.W.hideAll h1 [hp.objs.size + 1, hp.objs.size]) h1.objs.size h2 [(hp.objs.size + 1, PySem.W.excObj C hp.objs.size none .none), (hp.objs.size, PySem.W.excTup [v])] := fun p hp' => by
    rcases List.mem_cons.mp hp' with rfl | hp'
    · exact ⟨hk _ _ he, Nat.ne_of_lt (Heap.lt_size he), PySem.W.hideAll_none _ (by simp)⟩
    · rcases List.mem_cons.mp hp' with rfl | hp'
      · exact ⟨hk _ _ ht, Nat.ne_of_lt (Heap.lt_size ht), PySem.W.hideAll_none _ (by simp)⟩
      · cases hp'
  have mx : [(x, Value.ref (hp.objs.size + 1)), (y, v)].reverse.lookup x = some (.ref (hp.objs.size + 1)) := by
    have e : (x == y) = false := by simpa using m.ne
    simp [List.lookup, e]
  have my : [(x, Value.ref (hp.objs.size + 1)), (y, v)].reverse.lookup y = some v := by simp [List.lookup]
  show _root_.PySem.wpAt (model prog w) ((A.under (.builtin "type.__call__" ⟨[.ref C, v], []⟩)).deeper (PySem.W.ksEnv qual scope h1.objs.size fI (.ref cda) cc)) (.func [st1, st2] (PySem.W.ksEnv qual scope h1.objs.size fI (.ref cda) cc)) (execs [st1, st2] (PySem.W.ksEnv qual scope h1.objs.size fI (.ref cda) cc)) _ _ _
  obtain ⟨p0, p1, p2, p3, p4, p5, j, hline, e1⟩ := m.s1
  obtain ⟨q1, q2, q3, q4, e2⟩ := m.s2
  obtain ⟨ar, har, hax⟩ := m.par
  obtain ⟨ccl, cdd, vs, ccs, file, tf, hcda, hvs, hfile⟩ := m.rec_
  obtain ⟨cl, cld, csl, hcc⟩ := m.cell
  obtain ⟨cdC, hcC⟩ : ∃ cd, PySem.W.clsIn K C = some cd := by
    have := c.hd
    unfold PySem.W.hasDictIn at this
    cases q : PySem.W.clsIn K C with
    | none => rw [q] at this; cases this
    | some cd => exact ⟨cd, rfl⟩
  have X2 : K.In h2 := X1.keeps hk
  obtain ⟨oD, hD1, hD2⟩ : ∃ oD, h2.get? C = some oD ∧ oD.data = .cls cdC := by
    unfold PySem.W.clsIn at hcC
    split at hcC
    · rename_i c d cd' sl ho
      cases hcC
      exact ⟨_, X2 _ _ ho, rfl⟩
    · cases hcC
  subst e1 e2
  refine PySem.ks_wpAt_execs_cons (PySem.ks_wpAt_Expr_any (PySem.ks_wpAt_MethodCall ?_ (super_call hline)) (by show (scope.kind == ScopeKind.module && _) = false; rw [m.kind]; rfl))
  refine PySem.ks_wpAt_super_base (env := PySem.W.ksEnv qual scope h1.objs.size fI (.ref cda) cc) m.ksup m.kcls (by decide) rfl (X2 _ _ hfI) rfl har rfl (X2 _ _ hcda) rfl hvs hfile m.top ?_
  refine PySem.W.ks_loadName_global m.kind m.ksup (loadGlobal_builtin (env := PySem.W.ksEnv qual scope h1.objs.size fI (.ref cda) cc) ((hg.keeps kk).keeps hk) hms ((hb.keeps kk).keeps hk) ((hbv _ (by decide +kernel)).trans PyProof.Rows.Boot.«super») ⟨rfl, ?_⟩)
  refine wpAny_loadName_free m.kind m.kcls rfl ⟨_, X2 _ _ hcc, rfl⟩ ?_
  refine wpAny_loadName_local m.kind (by rw [hax]; exact m.kx) F0.ns (by rw [hax]; exact mx) ?_
  refine PySem.ks_wpAny_isType_cls hD1 hD2 ⟨rfl, ?_⟩
  refine PySem.ks_wpAny_call_super hD1 hD2 (hk _ _ he) rfl (fun c e => by cases e) (PySem.W.looks_mroIn X2 c.self) (fun h3 e3 k3 => ?_)
  obtain ⟨F3, N3, l3⟩ := PySem.W.ks_newsPush (s := ⟨h2, g, d, t + 2, os⟩) F0 N0 rfl e3 k3
  have I3 := PySem.W.InstAt.of_exc0 N3 (x := hp.objs.size + 1) (C := C) (t := hp.objs.size) (c2 := .none) (by simp)
  refine PySem.W.kxs_method (s := ⟨h3, g, d, _, os⟩) KF F3 X0 N3 (List.mem_cons_self ..) I3 c.op c.sup c.sub (by decide) (fun q h4 F4 N4 l4 => ?_)
  refine PySem.W.kxs_callWith1 N4 (List.mem_cons_self ..) (spliced_more (Calls.Constant_str (spliced_none ⟨PySem.W.kxs_at N4 (List.mem_cons_self ..), ?_⟩))) rfl rfl
  refine PySem.EVn.in_call F4 X0 N4 FI c.init (List.mem_cons_self ..) (x := hp.objs.size + 1) (t := hp.objs.size) (dv := none) (c2 := .none) (.tail (fun z => ?_) (.tail (fun z => ?_) (.head fun p hp' => ?_))) (by show 1 ≤ sizeLine; rw [sizeLine_eq]; omega) (fun t' h5 F5 N5 l5 => ?_)
  · exact absurd z (Nat.ne_of_gt (l4 (hp.objs.size + 1, PySem.W.excObj C hp.objs.size none .none) (by simp)))
  · exact absurd z (Nat.ne_of_gt (l3 (hp.objs.size + 1, PySem.W.excObj C hp.objs.size none .none) (by simp)))
  · rcases List.mem_cons.mp hp' with rfl | hp'
    · exact Nat.ne_of_lt (Nat.lt_succ_self _)
    · cases hp'
  refine PySem.ks_wpAt_execs_cons (wpAt_of_wpAny (plainObj_wpAny_Assign_Attribute ?_ rfl))
  refine wpAny_Name (wpAny_loadName_local m.kind m.ky F5.ns my ?_) m.ny
  refine wpAny_Name (wpAny_loadName_local m.kind m.kx F5.ns mx ?_) m.nx
  refine PySem.W.set_exc0 (x := hp.objs.size + 1) (t := t') (c2 := .none) SF F5 X0 N5 (by simp) c.sa c.over c.tk c.hd rfl (.tail (fun z => ?_) (.tail (fun z => ?_) (.tail (fun z => ?_) (.head fun p hp' => ?_)))) (by simp [PySem.W.putL]) (fun dx h6 F6 N6 l6 => ?_)
  · exact absurd z (Nat.ne_of_gt (l5 (hp.objs.size + 1, PySem.W.excObj C hp.objs.size none .none) (by simp)))
  · exact absurd z (Nat.ne_of_gt (l4 (hp.objs.size + 1, PySem.W.excObj C hp.objs.size none .none) (by simp)))
  · exact absurd z (Nat.ne_of_gt (l3 (hp.objs.size + 1, PySem.W.excObj C hp.objs.size none .none) (by simp)))
  · rcases List.mem_cons.mp hp' with rfl | hp'
    · exact Nat.ne_of_lt (Nat.lt_succ_self _)
    · cases hp'
  refine wpAt_of_wpAny (wpAny_execs_nil ⟨rfl, ?_⟩)
  have le : hp.objs.size + 1 < dx := l6 (hp.objs.size + 1, PySem.W.excObj C t' none .none) (by simp)
  exact h (hp.objs.size + 1) dx t' h6 _ (fun b o q => F6.keep b o (st b o q)) (Nat.le_succ _) (Nat.le_of_lt (Nat.lt_of_succ_lt le)) (Nat.ne_of_gt le) (N6 (hp.objs.size + 1, PySem.W.excObj C t' (some dx) .none) (by simp)).1 (exc_single (N6 _ (List.mem_cons_self ..)).1)
end
end EV
/-! The E layer, part I: the evaluator as a reading. -/
namespace EV
open PySem PySem.Spec L2
open PyProof.Rows hiding St

section
variable {X : Cx} {e : Expr}
theorem pe_imp {t t' : TE} (h : PE X e t) (i : ∀ σ H Q, t' σ H Q → t σ H Q) : PE X e t' := ⟨fun pins s σ H Q I q => h.run pins s σ H Q I (i _ _ _ q)⟩
theorem pt_imp {t t' : TT} (h : PT X e t) (i : ∀ σ H Q, t' σ H Q → t σ H Q) : PT X e t' := ⟨fun pins s σ H Q I q => h.run pins s σ H Q I (i _ _ _ q)⟩
theorem pw_imp {t t' : TT} (h : PW X e t) (i : ∀ σ H Q, t' σ H Q → t σ H Q) : PW X e t' := ⟨fun wh pins s σ H Q I q => h.run wh pins s σ H Q I (i _ _ _ q)⟩
theorem pa_imp {es : List Expr} {t t' : TA} (h : PA X es t) (i : ∀ σ H Q, t' σ H Q → t σ H Q) : PA X es t' := ⟨fun pos pins s σ H Q I q => h.run pos pins s σ H Q I (i _ _ _ q)⟩
theorem ps_imp {st : Stmt} {t t' : TS} (h : PS X st t) (i : ∀ D σ H, t' D σ H → t D σ H) : PS X st t' := ⟨fun pins s σ H D I q => h.run pins s σ H D I (i _ _ _ q)⟩
theorem pss_imp {st : List Stmt} {t t' : TS} (h : PSs X st t) (i : ∀ D σ H, t' D σ H → t D σ H) : PSs X st t' := ⟨fun pins s σ H D I q => h.run pins s σ H D I (i _ _ _ q)⟩
theorem pg_imp {t t' : TG} (h : PG X e t) (i : ∀ v σ H Q, t' v σ H Q → t v σ H Q) : PG X e t' := ⟨fun pins s σ H v u Q I r q => h.run pins s σ H v u Q I r (i _ _ _ _ q)⟩
theorem pgs_imp {es : List Expr} {t t' : TGs} (h : PGs X es t) (i : ∀ v σ H Q, t' v σ H Q → t v σ H Q) : PGs X es t' := ⟨fun pins s σ H v u Q I r q => h.run pins s σ H v u Q I r (i _ _ _ _ q)⟩
theorem pi_imp {tg : Expr} {t t' : TI} (h : PI X tg e t) (i : ∀ σ H R, t' σ H R → t σ H R) : PI X tg e t' := ⟨fun pins s σ H R I q => h.run pins s σ H R I (i _ _ _ q)⟩
end

/-- the reading of an evaluation -/
def tM {α β : Type} (T : TX) (W : WX) (R : Rl α β) (m : EV.Env → Store → Res α) : St → Hp → (β → Hp → Prop) → Prop := fun σ H Q => ∃ ρ S env, SRep T ρ H S ∧ EnvRep T ρ H env σ ∧ Fin T (WE W σ) R ρ H (m env S) Q
section
variable {T : TX} {W : WX} {α β γ δ : Type} {R : Rl α β} {R1 : Rl γ δ} {σ : St} {H : Hp} {Q : β → Hp → Prop}
/-- a first step is taken: what the rest is read off -/
theorem tM.bind {m : EV.Env → Store → Res γ} {f : γ → EV.Env → Store → Res α} (g : Good R) (h : tM T W R (fun env S => (m env S).bind fun a S => f a env S) σ H Q)
    : tM T W R1 m σ H fun x H1 => ∃ a ρ ρ1 S1 env, Step ρ H ρ1 H1 ∧ SRep T ρ1 H1 S1 ∧ EnvRep T ρ1 H1 env σ ∧ R1 H ρ1 H1 a x ∧ Fin T (WE W σ) R ρ1 H1 (f a env S1) Q := by
  obtain ⟨ρ, S, env, hs, he, h⟩ := h
  have h : Fin T (WE W σ) R ρ H ((m env S).bind fun a S => f a env S) Q := h
  refine ⟨ρ, S, env, hs, he, (Fin.bind (R := R) (R1 := R1) g h).imp ?_⟩
  rintro x H1 ⟨a, ρ1, S1, st, hs1, r, k⟩
  exact ⟨a, ρ, ρ1, S1, env, st, hs1, he.step st, r, k⟩
theorem tM.of {m : EV.Env → Store → Res α} {ρ : List Addr} {S : Store} {env : EV.Env} (hs : SRep T ρ H S) (he : EnvRep T ρ H env σ) (h : Fin T (WE W σ) R ρ H (m env S) Q) : tM T W R m σ H Q := ⟨ρ, S, env, hs, he, h⟩
theorem orBad_ok {W : XK} {ρ : List Addr} {S : Store} {o : Option α} (h : Fin T W R ρ H (orBad S o) Q) : ∃ a, o = some a ∧ Fin T W R ρ H (.ok a S) Q := by
  cases o with
  | none => exact False.elim h
  | some a => exact ⟨a, rfl, h⟩
end

/-- .. where a bool is tested -/
theorem Fin.bindE {T : TX} {W : XK} {α β γ δ : Type} {R : Rl α β} {R1 : Rl γ δ} {ρ : List Addr} {H : Hp} {Q : β → Hp → Prop} (g : Good R) {r1 : Res γ} {f : γ → Store → Res α} (h : Fin T W R ρ H (r1.bind f) Q) :
    Fin T W R1 ρ H r1 (fun x H1 => ∃ a ρ1 S1, Step ρ H ρ1 H1 ∧ SRep T ρ1 H1 S1 ∧ R1 H ρ1 H1 a x ∧ r1 = .ok a S1 ∧ Fin T W R ρ1 H1 (f a S1) Q) := by
  cases r1 with
  | ok a S => exact fun ρ' H' x s hs hr => ⟨a, ρ', S, s, hs, hr, rfl, Fin.since g s (show Fin T W R ρ H (f a S) Q from h)⟩
  | err e S => exact h
  | bad => exact h
/-- the text's names: of the defs, the constants -/
structure Gn where
  fn : List Str
  gl : List Str
  exs : List (Str × Option Str) := []
  bx : List Str := []
/-- the slots' names, the scope of the block in hand, the comprehension's own scope -/
structure Sg where
  N : List Str
  sc : Scope
  own : Option Scope
  fun_ : Bool
  lam : Bool := false
/-- within a lambda -/
def Sg.lamI (sg : Sg) (scope : Scope) : Sg := ⟨sg.N, scope, none, false, false⟩
def Sg.vis (sg : Sg) (x : Str) : Bool := match sg.sc.names.lookup x with
  | some .local => true
  | some .cell => true
  | some .free => true
  | _ => false
def Sg.loc (sg : Sg) (x : Str) : Bool := match sg.sc.names.lookup x with
  | some .local => true
  | some .cell => (match sg.own with | none => true | some s => s.names.lookup x == some .cell)
  | _ => false
def Sg.gl (sg : Sg) (x : Str) : Bool := match sg.sc.names.lookup x with
  | some .globalImplicit => true
  | _ => false
def dbg (x : Str) : Bool := !(x == ("__debug__" : Str)) && !(x == ("__classdict__" : Str))
/-- a def's call does what the evaluator says, in any context of the text at this place of the stack -/
def CallAt (P : Program) (w : World) (K : PySem.W.Frag) (mg : Str → Option Value) (base : Heap) (A : Around) (T : TX) (call : List PV → Store → Res PV) (a : Addr) : Prop :=
  ∀ (X : Cx) (W : WX), X.prog = P → X.w = w → X.K = K → X.mg = mg → X.base = base → X.A = A → (∀ σ, PassesAt (L2.CX X.prog X.w) X σ (WE W σ)) →
    ∀ (pins : List (Addr × Obj)) (s : Shared) (σ : St) (H : Hp) (us : List Value) (vs : List V) (Q : VK) (ρ : List Addr) (S : Store) (ps : List PV), Inv X pins σ H s → Vals vs us → SRep T ρ H S → Reps T ρ H ps vs →
      Fin T (WE W σ) (RP T) ρ H (call ps S) Q → wpAny (model X.prog X.w) X.A (PySem.call (.ref a) us) (EP X pins σ Q) X.xe s
/-- what a lambda's body may lean on, at its place of the stack -/
structure LowOk (G : Gn) (P : Program) (w : World) (K : PySem.W.Frag) (mg : Str → Option Value) (base : Heap) (A : Around) (T : TX) (low : Nat → List PV → Store → Res PV) : Prop where
  un : A.units + 80 < cLine
  dp : A.depth + 5 < recursionLimit
  call : ∀ (f : Nat) (x : Str), G.fn[f]? = some x → ∃ a, mg x = some (.ref a) ∧ T.fa f = some a ∧ PySem.W.keepIn K (.ref a) = true ∧ CallAt P w K mg base A T (low f) a
abbrev noArgs : Arguments := ⟨[], [], none, [], [], none, []⟩
/-- x(lambda: ..) does what the evaluator says -/
def LamAt (G : Gn) (P : Program) (w : World) (K : PySem.W.Frag) (mg : Str → Option Value) (base : Heap) (A : Around) (T : TX) (run : ((Nat → List PV → Store → Res PV) → Store → Res AV) → Store → Res PV) (x : Str) : Prop :=
  ∀ (X : Cx) (W : WX), X.prog = P → X.w = w → X.K = K → X.mg = mg → X.base = base → X.A = A → Gl X x → (x == ("__debug__" : Str)) = false → (∃ c t, X.env.code = .ref c ∧ LamX.TabB X.base X.mg c t ∧ (t, X.env.qual ++ "<lambda>") ∈ T.tabs ∧ ∀ p ∈ T.tabs, p.1 = t → p.2 = X.env.qual ++ "<lambda>") →
    ∀ (body : Expr) (scope : Scope) (th : (Nat → List PV → Store → Res PV) → EV.Env → Store → Res AV), LamX.LamS X.env.scope scope →
      (∀ (low : Nat → List PV → Store → Res PV) (A2 : Around) (outer : List PySem.Env) (s : Shared) (H : Hp) (E1 : XK) (f c' : Addr), A2.guards = A.guards → LowOk G P w K mg base (A2.deeper (LamX.lamEnv X scope s.heap.objs.size f c')) T low →
        PE (LamX.lamCx X A2 outer s H E1 scope f c') body (tM T (fun cls d _ H => E1 cls d H) (RA T) (th low))) →
      ∀ (p lpos pos : Pos), PE X (.Call (.Name x p) [.Lambda noArgs body scope lpos] [] pos) (tM T W (RA T) fun env S => (run (fun c S => th c env S) S).calm.bind fun q S => .ok (.v q) S)
/-- the context in hand -/
structure On (G : Gn) (sg : Sg) (X : Cx) (T : TX) (E : Ev) (W : WX) : Prop where
  K : X.K = T.K
  N : X.N = sg.N
  sc : X.env.scope = sg.sc
  nd : X.N.Nodup
  calm : X.calm = true
  un : X.A.units + 80 < cLine
  dp : X.A.depth + 5 < recursionLimit
  fn : ∀ x, sg.loc x = true → X.fn x = true ∨ X.env.scope.names.lookup x = some .local
  blt : ∀ x ∈ (["len", "abs", "max", "min", "int", "all", "any", "sum", "sorted", "tuple", "list", "repr", "isinstance", "range", "enumerate", "zip", "bool", "str", "dict"] : List Str), X.mg x = none
  gd : E.gd = true → X.A.guards = some []
  glo : ∀ (k : Nat) (x : Str) (p : PV), G.gl[k]? = some x → E.gl[k]? = some p → ∃ u v, X.mg x = some u ∧ RelV v u ∧ ∀ ρ H, Rep T ρ H p v
  call : ∀ (f : Nat) (x : Str), G.fn[f]? = some x → ∃ a, X.mg x = some (.ref a) ∧ T.fa f = some a ∧ PySem.W.keepIn X.K (.ref a) = true ∧ CallAt X.prog X.w X.K X.mg X.base X.A T (E.call f) a
  fnx : ∀ (f : Nat) (a : Addr), T.fa f = some a → ∃ x, G.fn[f]? = some x
  blx : ∀ x ∈ G.bx, X.mg x = none
  exc : ∀ (c : Nat) (x : Str) (k : Option Str), G.exs[c]? = some (x, k) → ∃ C, T.ca c = some C ∧ T.fl c = k ∧ ExC X.prog X.K X.mg x C k
  pass : ∀ σ, PassesAt (L2.CX X.prog X.w) X σ (WE W σ)
  hp : sg.fun_ = true → PassesOwn (model X.prog X.w) X.A X.env X.xe
  st : sg.fun_ = true → X.stack = X.env :: X.outer ∧ X.env.frame = some X.env.locals
  tk : sg.fun_ = true → Takes X W
  lam : ∀ (g : Nat) (x : Str), G.fn[g]? = some x → LamAt G X.prog X.w X.K X.mg X.base X.A T (E.callT g) x
  tabc : sg.lam = true → ∃ c t, X.env.code = .ref c ∧ LamX.TabB X.base X.mg c t ∧ (t, X.env.qual ++ "<lambda>") ∈ T.tabs ∧ ∀ p ∈ T.tabs, p.1 = t → p.2 = X.env.qual ++ "<lambda>"

section
variable {G : Gn} {sg : Sg} {X : Cx} {T : TX} {E : Ev} {W : WX}
theorem On.vis (o : On G sg X T E W) {x : Str} (h : sg.vis x = true) : Vis X.env.scope x := by
  unfold Sg.vis at h
  rw [← o.sc] at h
  unfold Vis
  split at h <;> simp_all
theorem On.loc (o : On G sg X T E W) {x : Str} (h : sg.loc x = true) : L2.Loc X.env.scope x := by
  unfold Sg.loc at h
  rw [← o.sc] at h
  unfold L2.Loc
  split at h <;> simp_all
theorem On.gl (o : On G sg X T E W) {x : Str} (h : sg.gl x = true) : Gl X x := by
  unfold Sg.gl at h
  rw [← o.sc] at h
  unfold Gl Env.kindOf
  split at h <;> simp_all
end
/-! ### side conditions -/
def noStar : Expr → Bool
  | .Starred .. => false
  | _ => true
theorem star_of {e : Expr} (h : noStar e = true) (es : List Expr) (env : PySem.Env) : starEach (e :: es) env = (false, eval e env) :: starEach es env := by
  cases e <;> first | rfl | cases h
def notSlice : Expr → Bool
  | .Slice .. => false
  | _ => true
theorem plainIx_of {e : Expr} (h : notSlice e = true) : PlainIx e := by
  intro o i
  cases e <;> first | rfl | cases h
theorem plains_of : ∀ {es : List Expr} (h : es.all noStar = true) (pos : Pos) (env : PySem.Env), (backTo pos (starEach es env)).any (·.1) = false
  | [], _, _, _ => rfl
  | e :: es, h, pos, env => by
    simp only [List.all_cons, Bool.and_eq_true] at h
    rw [star_of h.1]
    show (false || (backTo pos (starEach es env)).any (·.1)) = false
    rw [plains_of h.2]
    rfl
theorem plainsA_of : ∀ {es : List Expr} (h : es.all noStar = true) (pos : Pos) (env : PySem.Env), (backTo pos (starEach es env)).all (fun x => !x.1) = true
  | [], _, _, _ => rfl
  | e :: es, h, pos, env => by
    simp only [List.all_cons, Bool.and_eq_true] at h
    rw [star_of h.1]
    show (true && (backTo pos (starEach es env)).all (fun x => !x.1)) = true
    rw [plainsA_of h.2]
    rfl
def noSuper : Expr → Bool
  | .Call (.Name _ _) [] [] _ => false
  | _ => true
theorem base_of {o : Expr} (h : noSuper o = true) (m : Str) (env : PySem.Env) (wh : Sem Value) : attributeBase o m env wh = wh := by
  unfold attributeBase
  split
  · cases h
  · rfl
/-- an expression whose truth is its value's -/
def plainT : Expr → Bool
  | .UnaryOp .Not _ _ => false
  | .BoolOp .. => false
  | .IfExp .. => false
  | .Compare .. => false
  | _ => true
theorem plainT_of {e : Expr} (h : plainT e = true) (env : PySem.Env) (wh : Sem Value) : isTrue e env wh = (do let v ← wh; standAt e.pos; holding [v] (truthy v)) := by
  cases e <;> first | rfl | (cases h; done) | skip
  rename_i op a pos
  cases op <;> first | rfl | cases h
def isComp : Expr → Bool
  | .ListComp .. => true
  | .SetComp .. => true
  | .DictComp .. => true
  | _ => false
theorem swap_no {e : Expr} (h : isComp e = false) (t : Option Expr) (l : Nat) (env : PySem.Env) : swapsWith e t l env = pure false := by
  cases e <;> first | rfl | cases h
end EV
/-! The E layer, part J: each form of expression does what the evaluator says. -/
namespace EV
open PySem PySem.Spec L2
open PyProof.Rows hiding St

abbrev tE (T : TX) (W : WX) (m : EV.Env → Store → Res AV) : TE := tM T W (RA T) m
abbrev tB' (T : TX) (W : WX) (m : EV.Env → Store → Res Bool) : TT := tM T W RB m
abbrev tP (T : TX) (W : WX) (m : EV.Env → Store → Res (List PV)) : TA := tM T W (RPs T) m
abbrev tV (T : TX) (W : WX) (m : EV.Env → Store → Res (List AV)) : TA := tM T W (RAs T) m
theorem tM.imp {T : TX} {W : WX} {α β : Type} {R : Rl α β} {m : EV.Env → Store → Res α} {σ : St} {H : Hp} {Q Q' : β → Hp → Prop} (h : tM T W R m σ H Q) (i : ∀ x H, Q x H → Q' x H) : tM T W R m σ H Q' :=
  let ⟨ρ, S, env, hs, he, k⟩ := h
  ⟨ρ, S, env, hs, he, k.imp i⟩
section
variable {G : Gn} {sg : Sg} {X : Cx} {T : TX} {E : Ev} {W : WX} {pos : Pos} {a b c : Expr} {ma mb mc : EV.Env → Store → Res AV}

theorem onInt_ok {W : XK} {α β : Type} {R : Rl α β} {ρ : List Addr} {H : Hp} {S : Store} {Q : β → Hp → Prop} {x : AV} {f : Int → Store → Res α} (h : Fin T W R ρ H (onInt x f S) Q) : ∃ i, x = .v (.int i) ∧ Fin T W R ρ H (f i S) Q := by
  unfold onInt at h
  split at h
  · exact ⟨_, rfl, h⟩
  · exact False.elim h
theorem onBl_ok {W : XK} {α β : Type} {R : Rl α β} {ρ : List Addr} {H : Hp} {S : Store} {Q : β → Hp → Prop} {x : AV} {f : Bool → Store → Res α} (h : Fin T W R ρ H (onBl x f S) Q) : ∃ i, x = bl i ∧ Fin T W R ρ H (f i S) Q := by
  unfold onBl at h
  split at h
  · exact ⟨_, rfl, h⟩
  · exact False.elim h
theorem e_var (o : On G sg X T E W) {i : Nat} {x : Str} (hN : sg.N[i]? = some x) (hv : sg.vis x = true) (hd : dbg x = true) : PE X (.Name x pos) (tE T W (ev E (.var i))) := by
  unfold dbg at hd
  simp only [Bool.and_eq_true, Bool.not_eq_true'] at hd
  refine pe_imp (pe_var (by rw [o.N]; exact hN) (o.vis hv) hd.1 hd.2) ?_
  rintro σ H Q ⟨ρ, S, env, hs, he, k⟩
  unfold ev at k
  split at k
  · rename_i p hp
    obtain ⟨v, e, r⟩ := he.at_ i p hp
    exact ⟨v, e, k ρ H v Step.refl hs r⟩
  · exact False.elim k
theorem e_cst (hc : ∃ v, PE X a (tC v) ∧ ∀ ρ H, Rep T ρ H p v) : PE X a (tE T W (ev E (.cst p))) := by
  obtain ⟨v, h, r⟩ := hc
  refine pe_imp h ?_
  rintro σ H Q ⟨ρ, S, env, hs, he, k⟩
  unfold ev at k
  exact k ρ H v Step.refl hs (r ρ H)
theorem e_glo (o : On G sg X T E W) {i : Nat} {x : Str} (hN : G.gl[i]? = some x) (hv : sg.gl x = true) (hd : dbg x = true) : PE X (.Name x pos) (tE T W (ev E (.glo i))) := by
  unfold dbg at hd
  simp only [Bool.and_eq_true, Bool.not_eq_true'] at hd
  refine ⟨fun pins s σ H Q I h => ?_⟩
  obtain ⟨ρ, S, env, hs, he, k⟩ := h
  unfold ev at k
  cases q : E.gl[i]? with
  | none => rw [q] at k; exact False.elim k
  | some p =>
    rw [q] at k
    obtain ⟨u, v, h1, h2, h3⟩ := o.glo i x p hN q
    exact (pe_glob (o.gl hv) h1 h2 hd.1).run pins s σ H Q I (k ρ H v Step.refl hs (h3 ρ H))
theorem e_tup {es : List Expr} {k} {m : EV.Env → Store → Res (List PV)} (h : PA X es (tP T W m)) :
    PE X (.Tuple es k pos) (tE T W fun env S => (m env S).bind fun l S => if l.length ≤ 1000000 then .ok (.v (.tup l)) S else .bad) := by
  refine pe_imp (pe_tup h) ?_
  intro σ H Q h
  refine tM.imp (tM.bind (R1 := RPs T) good_A h) ?_
  rintro xs H1 ⟨l, ρ, ρ1, S1, env, st, hs1, he1, r, k⟩
  split at k
  · rename_i hl
    refine ⟨by rw [← r.length]; exact Nat.le_trans hl big_line, fun p n => ?_⟩
    refine k ρ1 _ _ (step_new n) (hs1.new n) ?_
    show Rep _ _ _ _ _
    unfold Rep
    exact ⟨p, xs, rfl, upd_same, Reps.step (step_new n) _ _ r⟩
  · exact False.elim k
/-- a tuple is displayed; its object is known -/
def tTuq (t : TA) : TE := fun σ H Q => t σ H fun xs H1 => xs.length ≤ sizeLine ∧ ∀ (p : Addr) (o : Obj), H1 p = none → o.dict = none → Q (.ref p) (upd H1 p (.frz o (.tup xs)))
theorem pe_tuq {X : Cx} {es : List Expr} {t : TA} {pos : Pos} {k} (h : PA X es t) : PE X (.Tuple es k pos) (tTuq t) := by
  refine ⟨fun pins s σ H Q I hq => wpAny_Tuple_spliced (thn (h.run pos pins s σ H _ I hq) fun us s1 ⟨xs, H1, I1, r, z, q⟩ => ⟨by rw [← r.length]; exact z, ?_⟩)⟩
  have fr : H1 s1.heap.objs.size = none := I1.hok.fresh (Nat.le_refl _)
  have la := I1.laid (t' := s1.toks) (o := .frz { cls := .type "tuple", data := .seq us.toArray } (.tup xs)) (h' := s1.heap.push { cls := .type "tuple", data := .seq us.toArray }) (fun _ _ e => Heap.get?_push_of_some _ e) (Nat.le_refl _)
    ⟨Heap.get?_push_size _ rfl, z, us, r, IsTup.new _ _⟩
  exact ⟨.ref s1.heap.objs.size, _, la, rfl, q _ _ fr rfl⟩
theorem e_tuq {es : List Expr} {k} {m : EV.Env → Store → Res (List PV)} (h : PA X es (tP T W m)) :
    PE X (.Tuple es k pos) (tE T W fun env S => (m env S).bind fun l S => if l.length ≤ 1000000 then .ok (.v (.rot l)) S else .bad) := by
  refine pe_imp (pe_tuq h) ?_
  intro σ H Q h
  refine tM.imp (tM.bind (R1 := RPs T) good_A h) ?_
  rintro xs H1 ⟨l, ρ, ρ1, S1, env, st, hs1, he1, r, k⟩
  split at k
  · rename_i hl
    refine ⟨by rw [← r.length]; exact Nat.le_trans hl big_line, fun p o n d => ?_⟩
    refine k ρ1 _ _ (step_new n) (hs1.new n) ?_
    show Rep _ _ _ _ _
    unfold Rep
    exact ⟨p, xs, rfl, .inl ⟨o, upd_same, d⟩, Reps.step (step_new n) _ _ r⟩
  · exact False.elim k
theorem e_lst {es : List Expr} {m : EV.Env → Store → Res (List PV)} (h : PA X es (tP T W m)) :
    PE X (.List es pos) (tE T W fun env S => (m env S).bind fun l S => if l.length ≤ 1000000 then .ok (.l l) S else .bad) := by
  refine pe_imp (pe_lst h) ?_
  intro σ H Q h
  refine tM.imp (tM.bind (R1 := RPs T) good_A h) ?_
  rintro xs H1 ⟨l, ρ, ρ1, S1, env, st, hs1, he1, r, k⟩
  split at k
  · rename_i hl
    refine ⟨by rw [← r.length]; exact Nat.le_trans hl big_line, fun p n => ?_⟩
    exact k ρ1 _ _ (step_new n) (hs1.new n) ⟨p, xs, rfl, n, hs1.ne n, upd_same, Reps.step (step_new n) _ _ r⟩
  · exact False.elim k
theorem e_bin (hK : X.K = T.K) (o : BOp) (ha : PE X a (tE T W ma)) (hb : PE X b (tE T W mb)) :
    PE X (.BinOp a (opE o) b pos) (tE T W fun env S => (ma env S).bind fun x S => (mb env S).bind fun y S => orBad S (biOp S o x y)) := by
  refine pe_imp (pe_op (opR_bin hK o) ha hb) ?_
  intro σ H Q h
  refine tM.imp (tM.bind (R1 := RA T) good_A h) ?_
  rintro x H1 ⟨a, ρ, ρ1, S1, env, st, hs1, he1, rx, k⟩
  refine tM.of hs1 he1 ((Fin.bind (R1 := RA T) good_A k).imp ?_)
  rintro y H2 ⟨b, ρ2, S2, st2, hs2, ry, k2⟩
  obtain ⟨c, e, k3⟩ := orBad_ok k2
  exact ⟨ρ2, S2, a, b, c, H, hs2, rx.step st2, ry.since st st2, e, k3⟩
theorem e_neg (ha : PE X a (tE T W ma)) : PE X (.UnaryOp .USub a pos) (tE T W fun env S => (ma env S).bind fun x S => onInt x (fun i S => .ok (.v (.int (-i))) S) S) := by
  refine pe_imp (pe_un un_neg ha) ?_
  intro σ H Q h
  refine tM.imp (tM.bind (R1 := RA T) good_A h) ?_
  rintro x H1 ⟨a, ρ, ρ1, S1, env, st, hs1, he1, rx, k⟩
  obtain ⟨i, rfl, k⟩ := onInt_ok k
  have := of_int rx
  subst this
  exact ⟨_, rfl, k ρ1 H1 _ Step.refl hs1 repA_int⟩
theorem e_inv (ha : PE X a (tE T W ma)) : PE X (.UnaryOp .Invert a pos) (tE T W fun env S => (ma env S).bind fun x S => onInt x (fun i S => .ok (.v (.int (Builtin.bitNot i))) S) S) := by
  refine pe_imp (pe_un un_inv ha) ?_
  intro σ H Q h
  refine tM.imp (tM.bind (R1 := RA T) good_A h) ?_
  rintro x H1 ⟨a, ρ, ρ1, S1, env, st, hs1, he1, rx, k⟩
  obtain ⟨i, rfl, k⟩ := onInt_ok k
  have := of_int rx
  subst this
  exact ⟨_, rfl, k ρ1 H1 _ Step.refl hs1 repA_int⟩
theorem repA_bl {ρ : List Addr} {H0 H : Hp} {c : Bool} : RepA T H0 ρ H (bl c) (.bl c) := show Rep T ρ H (.bl c) (.bl c) from rep_bl
/-- a comparison, by values -/
def rCo (T : TX) (o : COp) : R2 := fun x y H Q => ∃ ρ S a b c H0, SRep T ρ H S ∧ RepA T H0 ρ H a x ∧ RepA T H0 ρ H b y ∧ coOp S o a b = some c ∧ Q (.bl c) H
theorem co_r (o : On G sg X T E W) (p : COp) : OpR X (compareOp (coE p)) (rCo T p) := by
  rintro pins s σ H x y v u Q I rx ry ⟨ρ, S, a, b, c, H0, hs, ra, rb, e, k⟩
  exact coOp_ok p hs e o.K (by have := o.un; omega) I ra rb rx ry k
theorem cmp_rd (p : COp) (σ : St) (H : Hp) (Q : VK) (h : tE T W (fun env S => (ma env S).bind fun x S => (mb env S).bind fun y S => (orBad S (coOp S p x y)).bind fun c S => .ok (bl c) S) σ H Q) : tOp (rCo T p) (tE T W ma) (tE T W mb) σ H Q := by
  refine tM.imp (tM.bind (R1 := RA T) good_A h) ?_
  rintro x H1 ⟨a, ρ, ρ1, S1, env, st, hs1, he1, rx, k⟩
  refine tM.of hs1 he1 ((Fin.bind (R1 := RA T) good_A k).imp ?_)
  rintro y H2 ⟨b, ρ2, S2, st2, hs2, ry, k2⟩
  cases q : coOp S2 p a b with
  | none => rw [q] at k2; exact False.elim k2
  | some c =>
    rw [q] at k2
    exact ⟨ρ2, S2, a, b, c, H, hs2, rx.step st2, ry.since st st2, q, k2 ρ2 H2 _ Step.refl hs2 repA_bl⟩
theorem t_of_bl {m : EV.Env → Store → Res AV} {t : TE} (hm : ∀ env S a S', m env S = .ok a S' → ∃ c, a = bl c) (hi : ∀ σ H Q, tE T W m σ H Q → t σ H Q) (σ : St) (H : Hp) (Q : Bool → Hp → Prop)
    (h : tB' T W (fun env S => (m env S).bind fun x S => orBad S (truth S x)) σ H Q) : tTest t σ H Q := by
  obtain ⟨ρ, S, env, hs, he, h⟩ := h
  refine hi _ _ _ (tM.of hs he ((Fin.bindE (R1 := RA T) good_B h).imp ?_))
  rintro x H1 ⟨a, ρ1, S1, st, hs1, rx, e, k⟩
  obtain ⟨c, rfl⟩ := hm _ _ _ _ e
  have := of_bl rx
  subst this
  exact ⟨c, rfl, k ρ1 H1 c Step.refl hs1 rfl⟩
theorem bind_ok {α β : Type} {r : Res α} {f : α → Store → Res β} {b : β} {S : Store} (h : r.bind f = .ok b S) : ∃ a S1, r = .ok a S1 ∧ f a S1 = .ok b S := by
  cases r with
  | ok a S1 => exact ⟨a, S1, rfl, h⟩
  | err e S1 => cases h
  | bad => cases h
theorem cmp_bl (p : COp) (env : EV.Env) (S : Store) (a : AV) (S' : Store) (h : ((ma env S).bind fun x S => (mb env S).bind fun y S => (orBad S (coOp S p x y)).bind fun c S => .ok (bl c) S) = .ok a S') : ∃ c, a = bl c := by
  obtain ⟨_, _, _, h⟩ := bind_ok h
  obtain ⟨_, _, _, h⟩ := bind_ok h
  obtain ⟨c, _, _, h⟩ := bind_ok h
  cases h
  exact ⟨c, rfl⟩
theorem e_cmp (o : On G sg X T E W) (p : COp) (ha : PE X a (tE T W ma)) (hb : PE X b (tE T W mb)) (hm : behindInMarks (coE p) b = false) :
    PE X (.Compare a [coE p] [b] pos) (tE T W fun env S => (ma env S).bind fun x S => (mb env S).bind fun y S => (orBad S (coOp S p x y)).bind fun c S => .ok (bl c) S) :=
  pe_imp (pe_cmpR (co_r o p) ha hb hm) (cmp_rd p)
theorem t_cmp (o : On G sg X T E W) (p : COp) (ha : PE X a (tE T W ma)) (hb : PE X b (tE T W mb)) (hm : behindInMarks (coE p) b = false) :
    PT X (.Compare a [coE p] [b] pos) (tB' T W fun env S => ((ma env S).bind fun x S => (mb env S).bind fun y S => (orBad S (coOp S p x y)).bind fun c S => .ok (bl c) S).bind fun x S => orBad S (truth S x)) :=
  pt_imp (pt_cmpR (co_r o p) ha hb hm) (t_of_bl (cmp_bl p) (cmp_rd p))
/-- a chain of two -/
abbrev mChn (p q : COp) (ma mb mc : EV.Env → Store → Res AV) : EV.Env → Store → Res AV := fun env S => (ma env S).bind fun x S => (mb env S).bind fun y S => (orBad S (coOp S p x y)).bind fun k S =>
      if k = true then (mc env S).bind fun z S => (orBad S (coOp S q y z)).bind fun k S => .ok (bl k) S else .ok (bl false) S
theorem chn_rd (p q : COp) (σ : St) (H : Hp) (Q : VK) (h : tE T W (mChn p q ma mb mc) σ H Q) : tChain (rCo T p) (rCo T q) (tE T W ma) (tE T W mb) (tE T W mc) σ H Q := by
  refine tM.imp (tM.bind (R1 := RA T) good_A h) ?_
  rintro x H1 ⟨a, ρ, ρ1, S1, env, st, hs1, he1, rx, k⟩
  refine tM.of hs1 he1 ((Fin.bind (R1 := RA T) good_A k).imp ?_)
  rintro y H2 ⟨b, ρ2, S2, st2, hs2, ry, k2⟩
  cases e : coOp S2 p a b with
  | none => rw [e] at k2; exact False.elim k2
  | some c =>
    rw [e] at k2
    refine ⟨ρ2, S2, a, b, c, H, hs2, rx.step st2, ry.since st st2, e, c, rfl, ?_⟩
    cases c with
    | false => exact k2 ρ2 H2 _ Step.refl hs2 repA_bl
    | true =>
      refine tM.of hs2 (he1.step st2) ((Fin.bind (R1 := RA T) good_A k2).imp ?_)
      rintro z H3 ⟨d, ρ3, S3, st3, hs3, rz, k3⟩
      cases e2 : coOp S3 q b d with
      | none => rw [e2] at k3; exact False.elim k3
      | some f =>
        rw [e2] at k3
        exact ⟨ρ3, S3, b, d, f, H1, hs3, ry.step st3, rz.since st2 st3, e2, k3 ρ3 H3 _ Step.refl hs3 repA_bl⟩
theorem chn_bl (p q : COp) (env : EV.Env) (S : Store) (a : AV) (S' : Store) (h : mChn p q ma mb mc env S = .ok a S') : ∃ c, a = bl c := by
  obtain ⟨_, _, _, h⟩ := bind_ok h
  obtain ⟨_, _, _, h⟩ := bind_ok h
  obtain ⟨k, _, _, h⟩ := bind_ok h
  split at h
  · obtain ⟨_, _, _, h⟩ := bind_ok h
    obtain ⟨c, _, _, h⟩ := bind_ok h
    cases h
    exact ⟨c, rfl⟩
  · cases h
    exact ⟨false, rfl⟩
theorem e_chn (o : On G sg X T E W) (p q : COp) (ha : PE X a (tE T W ma)) (hb : PE X b (tE T W mb)) (hc : PE X c (tE T W mc)) (hm : lastMarks [coE p, coE q] [b, c] = false) :
    PE X (.Compare a [coE p, coE q] [b, c] pos) (tE T W (mChn p q ma mb mc)) := pe_imp (pe_chain (co_r o p) (co_r o q) ha hb hc hm) (chn_rd p q)
theorem t_chn (o : On G sg X T E W) (p q : COp) (ha : PE X a (tE T W ma)) (hb : PE X b (tE T W mb)) (hc : PE X c (tE T W mc)) (hm : lastMarks [coE p, coE q] [b, c] = false) :
    PT X (.Compare a [coE p, coE q] [b, c] pos) (tB' T W fun env S => (mChn p q ma mb mc env S).bind fun x S => orBad S (truth S x)) :=
  pt_imp (pt_chain (co_r o p) (co_r o q) ha hb hc hm) (t_of_bl (chn_bl p q) (chn_rd p q))

/-! ### truth, and, or, not, if -/
abbrev mTru (m : EV.Env → Store → Res AV) : EV.Env → Store → Res Bool := fun env S => (m env S).bind fun x S => orBad S (truth S x)
theorem tru_rd (σ : St) (H : Hp) (Q : Bool → Hp → Prop) (h : tB' T W (mTru ma) σ H Q) : tE T W ma σ H fun x H1 => rTru T x H1 Q := by
  refine tM.imp (tM.bind (R1 := RA T) good_B h) ?_
  rintro x H1 ⟨a, ρ, ρ1, S1, env, st, hs1, he1, rx, k⟩
  obtain ⟨c, e, k2⟩ := orBad_ok k
  exact ⟨ρ1, S1, a, c, H, hs1, rx, e, k2 ρ1 H1 c Step.refl hs1 rfl⟩
theorem t_plain (hK : X.K = T.K) (ha : PE X a (tE T W ma)) (hp : plainT a = true) : PT X a (tB' T W (mTru ma)) := by
  refine ⟨fun pins s σ H Q I h => ?_⟩
  exact isTrue_plain (thn (ha.run pins s σ H _ I (tru_rd σ H Q h)) fun v s1 ⟨x, H1, I1, r1, q1⟩ => tru_r hK pins s1 σ H1 x v Q I1 r1 q1) (plainT_of hp _ _)
abbrev mNo (m : EV.Env → Store → Res AV) : EV.Env → Store → Res AV := fun env S => (m env S).bind fun x S => (orBad S (truth S x)).bind fun b S => .ok (bl (!b)) S
theorem t_no (ha : PT X a (tB' T W (mTru ma))) : PT X (.UnaryOp .Not a pos) (tB' T W (mTru (mNo ma))) := by
  refine pt_imp (pt_not ha) ?_
  rintro σ H Q ⟨ρ, S, env, hs, he, k⟩
  refine tM.of hs he ?_
  unfold mTru mNo at *
  cases q : ma env S with
  | bad => rw [q] at k; exact False.elim k
  | err e S1 => rw [q] at k; exact k
  | ok x S1 =>
    rw [q] at k
    show Fin _ _ _ _ _ (orBad S1 (truth S1 x)) _
    have k : Fin T (WE W σ) RB ρ H (((orBad S1 (truth S1 x)).bind fun b S => .ok (bl (!b)) S).bind fun x S => orBad S (truth S x)) Q := k
    cases q2 : truth S1 x with
    | none => rw [q2] at k; exact False.elim k
    | some b =>
      rw [q2] at k
      intro ρ' H' y st hs' ry
      cases ry
      exact k ρ' H' _ st hs' rfl
theorem e_no (ha : PE X a (tE T W fun env S => (mTru ma env S).bind fun b S => .ok (bl b) S)) : PE X (.UnaryOp .Not a pos) (tE T W (mNo ma)) := by
  refine pe_imp (pe_not ha) ?_
  rintro σ H Q ⟨ρ, S, env, hs, he, k⟩
  refine tM.of hs he ?_
  unfold mTru mNo at *
  cases q : ma env S with
  | bad => rw [q] at k; exact False.elim k
  | err e S1 => rw [q] at k; exact k
  | ok x S1 =>
    rw [q] at k
    have k : Fin T (WE W σ) (RA T) ρ H ((orBad S1 (truth S1 x)).bind fun b S => .ok (bl (!b)) S) Q := k
    show Fin _ _ _ _ _ ((orBad S1 (truth S1 x)).bind fun b S => .ok (bl b) S) _
    cases q2 : truth S1 x with
    | none => rw [q2] at k; exact False.elim k
    | some b =>
      rw [q2] at k
      intro ρ' H' y st hs' ry
      have := of_bl ry
      subst this
      exact ⟨b, rfl, k ρ' H' _ st hs' repA_bl⟩
end
end EV
/-! The E layer, part K: more forms of expression. -/
namespace EV
open PySem PySem.Spec L2
open PyProof.Rows hiding St

section
variable {G : Gn} {sg : Sg} {X : Cx} {T : TX} {E : Ev} {W : WX} {pos : Pos} {a b c : Expr} {ma mb mc : EV.Env → Store → Res AV}
/-! ### and, or -/
abbrev mAnd (ma mb : EV.Env → Store → Res AV) : EV.Env → Store → Res AV := fun env S => (ma env S).bind fun x S => onBl x (fun c S => if c = true then (mb env S).bind fun y S => onBl y (fun c S => .ok (bl c) S) S else .ok (bl false) S) S
abbrev mOr (ma mb : EV.Env → Store → Res AV) : EV.Env → Store → Res AV := fun env S => (ma env S).bind fun x S => onBl x (fun c S => if c = true then .ok (bl true) S else (mb env S).bind fun y S => onBl y (fun c S => .ok (bl c) S) S) S
theorem fin_bl' {W : XK} {ρ : List Addr} {H : Hp} {Q : VK} {r : Res AV} (h : Fin T W (RA T) ρ H (r.bind fun y S => onBl y (fun c S => .ok (bl c) S) S) Q) : Fin T W (RA T) ρ H r Q := by
  cases r with
  | bad => exact h
  | err e S => exact h
  | ok y S =>
    obtain ⟨c, rfl, k⟩ := onBl_ok (show Fin T W (RA T) ρ H (onBl y (fun c S => .ok (bl c) S) S) Q from h)
    exact k
theorem tru_bl {W : XK} {ρ : List Addr} {H : Hp} {Q : Bool → Hp → Prop} {r : Res AV} (h : Fin T W RB ρ H ((r.bind fun y S => onBl y (fun c S => .ok (bl c) S) S).bind fun x S => orBad S (truth S x)) Q) : Fin T W RB ρ H (r.bind fun x S => orBad S (truth S x)) Q := by
  cases r with
  | bad => exact h
  | err e S => exact h
  | ok y S =>
    have h : Fin T W RB ρ H ((onBl y (fun c S => .ok (bl c) S) S).bind fun x S => orBad S (truth S x)) Q := h
    cases y with
    | v p =>
      cases p with
      | bl c => exact h
      | _ => exact False.elim h
    | _ => exact False.elim h
theorem e_and {rest : List Expr} (ha : PE X a (tE T W ma)) (hb : PE X (.BoolOp .And (b :: rest) pos) (tE T W mb)) : PE X (.BoolOp .And (a :: b :: rest) pos) (tE T W (mAnd ma mb)) := by
  refine pe_imp (pe_and ha hb) ?_
  intro σ H Q h
  refine tM.imp (tM.bind (R1 := RA T) good_A h) ?_
  rintro x H1 ⟨a, ρ, ρ1, S1, env, st, hs1, he1, rx, k⟩
  obtain ⟨c, rfl, k⟩ := onBl_ok k
  have := of_bl rx
  subst this
  refine ⟨c, rfl, ?_⟩
  cases c with
  | true => exact tM.of hs1 he1 (fin_bl' k)
  | false => exact k ρ1 H1 _ Step.refl hs1 repA_bl
theorem e_or {rest : List Expr} (ha : PE X a (tE T W ma)) (hb : PE X (.BoolOp .Or (b :: rest) pos) (tE T W mb)) : PE X (.BoolOp .Or (a :: b :: rest) pos) (tE T W (mOr ma mb)) := by
  refine pe_imp (pe_or ha hb) ?_
  intro σ H Q h
  refine tM.imp (tM.bind (R1 := RA T) good_A h) ?_
  rintro x H1 ⟨a, ρ, ρ1, S1, env, st, hs1, he1, rx, k⟩
  obtain ⟨c, rfl, k⟩ := onBl_ok k
  have := of_bl rx
  subst this
  refine ⟨c, rfl, ?_⟩
  cases c with
  | false => exact tM.of hs1 he1 (fin_bl' k)
  | true => exact k ρ1 H1 _ Step.refl hs1 repA_bl
theorem and_rd (σ : St) (H : Hp) (Q : Bool → Hp → Prop) (h : tB' T W (mTru (mAnd ma mb)) σ H Q) : tAnd (tB' T W (mTru ma)) (tB' T W (mTru mb)) σ H Q := by
  obtain ⟨ρ, S, env, hs, he, k⟩ := h
  refine tM.of hs he ?_
  unfold mTru mAnd at *
  cases q : ma env S with
  | bad => rw [q] at k; exact False.elim k
  | err e S1 => rw [q] at k; exact k
  | ok x S1 =>
    rw [q] at k
    have k : Fin T (WE W σ) RB ρ H ((onBl x (fun c S => if c = true then (mb env S).bind fun y S => onBl y (fun c S => .ok (bl c) S) S else .ok (bl false) S) S1).bind fun x S => orBad S (truth S x)) Q := k
    show Fin _ _ _ _ _ (orBad S1 (truth S1 x)) _
    cases x with
    | v p =>
      cases p with
      | bl c =>
        intro ρ' H' y st hs' ry
        cases ry
        cases c with
        | true => exact tM.of hs' (he.step st) (tru_bl (Fin.since good_B st k))
        | false => exact k ρ' H' _ st hs' rfl
      | _ => exact False.elim k
    | _ => exact False.elim k
theorem or_rd (σ : St) (H : Hp) (Q : Bool → Hp → Prop) (h : tB' T W (mTru (mOr ma mb)) σ H Q) : tOr (tB' T W (mTru ma)) (tB' T W (mTru mb)) σ H Q := by
  obtain ⟨ρ, S, env, hs, he, k⟩ := h
  refine tM.of hs he ?_
  unfold mTru mOr at *
  cases q : ma env S with
  | bad => rw [q] at k; exact False.elim k
  | err e S1 => rw [q] at k; exact k
  | ok x S1 =>
    rw [q] at k
    have k : Fin T (WE W σ) RB ρ H ((onBl x (fun c S => if c = true then .ok (bl true) S else (mb env S).bind fun y S => onBl y (fun c S => .ok (bl c) S) S) S1).bind fun x S => orBad S (truth S x)) Q := k
    show Fin _ _ _ _ _ (orBad S1 (truth S1 x)) _
    cases x with
    | v p =>
      cases p with
      | bl c =>
        intro ρ' H' y st hs' ry
        cases ry
        cases c with
        | false => exact tM.of hs' (he.step st) (tru_bl (Fin.since good_B st k))
        | true => exact k ρ' H' _ st hs' rfl
      | _ => exact False.elim k
    | _ => exact False.elim k
theorem w_and {rest : List Expr} (ha : PT X a (tB' T W (mTru ma))) (hb : PW X (.BoolOp .And (b :: rest) pos) (tB' T W (mTru mb))) : PW X (.BoolOp .And (a :: b :: rest) pos) (tB' T W (mTru (mAnd ma mb))) := pw_imp (pw_and ha hb) and_rd
theorem w_or {rest : List Expr} (ha : PT X a (tB' T W (mTru ma))) (hb : PW X (.BoolOp .Or (b :: rest) pos) (tB' T W (mTru mb))) : PW X (.BoolOp .Or (a :: b :: rest) pos) (tB' T W (mTru (mOr ma mb))) := pw_imp (pw_or ha hb) or_rd
/-! ### a if c else b -/
abbrev mIfx (mc ma mb : EV.Env → Store → Res AV) : EV.Env → Store → Res AV := fun env S => (mc env S).bind fun x S => (orBad S (truth S x)).bind fun k S => if k = true then ma env S else mb env S
theorem bind_assoc {α β γ : Type} (r : Res α) (f : α → Store → Res β) (g : β → Store → Res γ) : (r.bind f).bind g = r.bind fun a S => (f a S).bind g := by cases r <;> rfl
theorem e_ifx (hc : PT X c (tB' T W (mTru mc))) (ha : PE X a (tE T W ma)) (hb : PE X b (tE T W mb)) : PE X (.IfExp c a b pos) (tE T W (mIfx mc ma mb)) := by
  refine pe_imp (pe_ifExp hc ha hb) ?_
  rintro σ H Q ⟨ρ, S, env, hs, he, k⟩
  have k : Fin T (WE W σ) (RA T) ρ H ((mTru mc env S).bind fun k S => if k = true then ma env S else mb env S) Q := by
    show Fin _ _ _ _ _ (((mc env S).bind fun x S => orBad S (truth S x)).bind _) _
    rw [bind_assoc]
    exact k
  refine tM.of hs he ((Fin.bind (R1 := RB) good_A k).imp ?_)
  rintro x H1 ⟨b, ρ1, S1, st, hs1, rx, k2⟩
  cases rx
  cases x with
  | true => exact tM.of hs1 (he.step st) k2
  | false => exact tM.of hs1 (he.step st) k2

/-! ### subscripts, slices -/
theorem e_ix (o : On G sg X T E W) (ha : PE X a (tE T W ma)) (hb : PE X b (tE T W mb)) (hs : notSlice b = true) :
    PE X (.Subscript a b pos) (tE T W fun env S => (ma env S).bind fun x S => (mb env S).bind fun y S => (orBad S (ixOp S x y)).bind fun p S => .ok (.v p) S) := by
  refine pe_imp (pe_ix (sub_r o.K (by have := o.un; omega)) ha hb (plainIx_of hs)) ?_
  intro σ H Q h
  refine tM.imp (tM.bind (R1 := RA T) good_A h) ?_
  rintro x H1 ⟨a, ρ, ρ1, S1, env, st, hs1, he1, rx, k⟩
  refine tM.of hs1 he1 ((Fin.bind (R1 := RA T) good_A k).imp ?_)
  rintro y H2 ⟨b, ρ2, S2, st2, hs2, ry, k2⟩
  cases q : ixOp S2 a b with
  | none => rw [q] at k2; exact False.elim k2
  | some p =>
    rw [q] at k2
    exact ⟨ρ2, S2, a, b, p, H, hs2, rx.step st2, ry.since st st2, q, fun v r => k2 ρ2 H2 v Step.refl hs2 r⟩
/-- a part of a slice -/
abbrev RO : Rl (Option Int) (Option Int) := fun _ _ _ a x => x = a
theorem good_O : Good RO := ⟨fun _ _ h => h⟩
abbrev tO' (T : TX) (W : WX) (m : EV.Env → Store → Res (Option Int)) : TO := tM T W RO m
theorem o_none : PO X none (tO' T W fun _ S => .ok none S) := by
  refine ⟨fun pins s σ H Q I h => po_none.run pins s σ H Q I ?_⟩
  obtain ⟨ρ, S, env, hs, he, k⟩ := h
  exact k ρ H none Step.refl hs rfl
theorem o_some (ha : PE X a (tE T W ma)) : PO X (some a) (tO' T W fun env S => (ma env S).bind fun x S => onInt x (fun i S => .ok (some i) S) S) := by
  refine ⟨fun pins s σ H Q I h => (po_some ha).run pins s σ H Q I ?_⟩
  refine tM.imp (tM.bind (R1 := RA T) good_O h) ?_
  rintro x H1 ⟨a, ρ, ρ1, S1, env, st, hs1, he1, rx, k⟩
  obtain ⟨i, rfl, k⟩ := onInt_ok k
  have := of_int rx
  subst this
  exact ⟨_, rfl, k ρ1 H1 _ Step.refl hs1 rfl⟩
abbrev mSl (ma : EV.Env → Store → Res AV) (ml mh : EV.Env → Store → Res (Option Int)) : EV.Env → Store → Res AV := fun env S => (ma env S).bind fun x S => (ml env S).bind fun l S => (mh env S).bind fun h S => orBad S (cutA S x l h)
theorem e_sl (o : On G sg X T E W) {lo hi : Option Expr} {ml mh : EV.Env → Store → Res (Option Int)} {p2 : Pos} (ha : PE X a (tE T W ma)) (hl : PO X lo (tO' T W ml)) (hh : PO X hi (tO' T W mh)) :
    PE X (.Subscript a (.Slice lo hi none p2) pos) (tE T W (mSl ma ml mh)) := by
  refine pe_imp (pe_slice (cut_r o.K) ha hl hh) ?_
  intro σ H Q h
  refine tM.imp (tM.bind (R1 := RA T) good_A h) ?_
  rintro x H1 ⟨a, ρ, ρ1, S1, env, st, hs1, he1, rx, k⟩
  refine tM.of hs1 he1 ((Fin.bind (R1 := RO) good_A k).imp ?_)
  rintro l H2 ⟨l', ρ2, S2, st2, hs2, rl, k2⟩
  cases rl
  refine tM.of hs2 (he1.step st2) ((Fin.bind (R1 := RO) good_A k2).imp ?_)
  rintro h H3 ⟨h', ρ3, S3, st3, hs3, rh, k3⟩
  cases rh
  obtain ⟨c, e4, k4⟩ := orBad_ok k3
  exact ⟨ρ3, S3, a, c, H, hs3, (rx.step st2).step st3, e4, k4⟩

/-! ### argument lists -/
theorem a_nil : PA X [] (tP T W fun _ S => .ok [] S) := by
  refine pa_imp pa_nil ?_
  rintro σ H Q ⟨ρ, S, env, hs, he, k⟩
  exact k ρ H [] Step.refl hs Reps.nil
theorem tM.keep {m : EV.Env → Store → Res AV} {σ : St} {H : Hp} {Q : V → Hp → Prop} (h : tM T W (RP T) (fun env S => (m env S).bind EV.keep) σ H Q) : tE T W m σ H Q :=
  let ⟨ρ, S, env, hs, he, k⟩ := h
  ⟨ρ, S, env, hs, he, Fin.keep k⟩
theorem a_one {es : List Expr} {mr : EV.Env → Store → Res (List PV)} (ha : PE X a (tE T W ma)) (hr : PA X es (tP T W mr)) (hn : noStar a = true) :
    PA X (a :: es) (tP T W fun env S => ((ma env S).bind EV.keep).bind fun p S => (mr env S).bind fun l S => .ok (p :: l) S) := by
  refine pa_imp (pa_cons ha hr (star_of hn es _)) ?_
  intro σ H Q h
  refine tM.keep (tM.imp (tM.bind (R1 := RP T) good_Ps h) ?_)
  rintro x H1 ⟨p, ρ, ρ1, S1, env, st, hs1, he1, rx, k⟩
  refine tM.of hs1 he1 ((Fin.bind (R1 := RPs T) good_Ps k).imp ?_)
  rintro xs H2 ⟨l, ρ2, S2, st2, hs2, rl, k2⟩
  exact k2 ρ2 H2 _ Step.refl hs2 (.cons (Rep.step st2 _ _ rx) rl)
theorem a_star (hK : X.K = T.K) {es : List Expr} {mr : EV.Env → Store → Res (List PV)} {p : Pos} (ha : PE X a (tE T W ma)) (hr : PA X es (tP T W mr)) :
    PA X (.Starred a p :: es) (tP T W fun env S => (ma env S).bind fun x S => match seqOf S x with
      | some l => (mr env S).bind fun m S => .ok (l ++ m) S
      | none => .bad) := by
  refine pa_imp (StX.pa_star ha hr) ?_
  obtain ⟨K, fa, ca, fl, tabs⟩ := T
  obtain rfl : X.K = K := hK
  intro σ H Q h
  refine tM.imp (tM.bind (R1 := RA _) good_Ps h) ?_
  rintro x H1 ⟨a, ρ, ρ1, S1, env, st, hs1, he1, rx, k⟩
  split at k
  · rename_i l hl
    obtain ⟨p, xs, rfl, q, r⟩ := seqOf_ok hs1 rx hl
    refine ⟨p, xs, rfl, q.symm, ?_⟩
    refine tM.of hs1 he1 ((Fin.bind (R1 := RPs _) good_Ps k).imp ?_)
    rintro ys H2 ⟨m, ρ2, S2, st2, hs2, rl, k2⟩
    exact k2 ρ2 H2 _ Step.refl hs2 ((Reps.step st2 _ _ r).app rl)
  · exact False.elim k
theorem v_nil : PA X [] (tV T W fun _ S => .ok [] S) := by
  refine pa_imp pa_nil ?_
  rintro σ H Q ⟨ρ, S, env, hs, he, k⟩
  exact k ρ H [] Step.refl hs rfl
theorem v_one {es : List Expr} {mr : EV.Env → Store → Res (List AV)} (ha : PE X a (tE T W ma)) (hr : PA X es (tV T W mr)) (hn : noStar a = true) :
    PA X (a :: es) (tV T W fun env S => (ma env S).bind fun p S => (mr env S).bind fun l S => .ok (p :: l) S) := by
  refine pa_imp (pa_cons ha hr (star_of hn es _)) ?_
  rintro σ H Q ⟨ρ, S, env, hs, he, h⟩
  refine tM.of hs he ?_
  have h : Fin T (WE W σ) (RAs T) ρ H ((ma env S).bind fun p S => (mr env S).bind fun l S => .ok (p :: l) S) Q := h
  cases q : ma env S with
  | bad => rw [q] at h; exact False.elim h
  | err e S1 => rw [q] at h; exact h
  | ok p S1 =>
    rw [q] at h
    have h : Fin T (WE W σ) (RAs T) ρ H ((mr env S1).bind fun l S => .ok (p :: l) S) Q := h
    intro ρ1 H1 x st hs1 rx
    refine tM.of hs1 (he.step st) ?_
    cases q2 : mr env S1 with
    | bad => rw [q2] at h; exact False.elim h
    | err e S2 =>
      rw [q2] at h
      exact fun ρ2 H2 c d st2 hs2 re => h ρ2 H2 c d (st.trans st2) hs2 re
    | ok l S2 =>
      rw [q2] at h
      exact fun ρ2 H2 xs st2 hs2 rl => h ρ2 H2 (x :: xs) (st.trans st2) hs2 ⟨x, xs, rfl, rx.step st2, RepAs.since st st2 rl⟩
end
end EV
/-! The E layer: sorted of a tuple. -/
namespace PySem.EVn
open PySem PySem.Calls PyProof.Rows PySem.W
section
variable {prog : Program} {w : World} {A : Around} {E : Value → Shared → Prop} {s : Shared}
theorem coll_tup {l : Addr} {vs : List Value} {Q : List Value → Shared → Prop} (hl : s.heap.IsTuple l vs.toArray) (hz : vs.length ≤ sizeLine)
    (h : Q vs { s with heap := (s.heap.push (seqObj "list" #[] 0)).update s.heap.objs.size (Obj.mapSeq (· ++ vs.toArray)) }) : wpAny (model prog w) A (collect (.ref l)) Q E s := by
  obtain ⟨o, at_, cl, n, dt⟩ := id hl
  have at2 : (s.heap.push (seqObj "list" #[] 0)).get? l = some o := Heap.get?_push_of_some _ at_
  have new : (s.heap.push (seqObj "list" #[] 0)).get? s.heap.objs.size = some (seqObj "list" #[] 0) := Heap.get?_push_size _ rfl
  unfold collect
  refine wpAny_bind (wpAny_runValue (codeAny_builtin entry_proto_collect' ?_))
  show wpAny _ _ (do again (.builtin "list.__iadd__" ⟨[← newList [], .ref l], []⟩)) _ _ s
  refine wpAny_bind (wpAny_newList (wpAny_pure ⟨Code.quiet_builtin _ (by decide +kernel), codeAny_builtin entry_list_iadd' ?_⟩))
  show wpAny _ _ (Builtin.List.listExtendWith (.ref s.heap.objs.size) (.ref l) (.ref s.heap.objs.size)) _ _ { s with heap := s.heap.push (seqObj "list" #[] 0) }
  unfold Builtin.List.listExtendWith
  refine wpAny_bind (wpAny_typeOf (T := "tuple") ⟨o, at2, cl⟩ ?_)
  have tt : (Value.type "tuple" == Value.type "tuple") = true := by rfl
  rw [if_pos (by rw [tt, Bool.or_true])]
  refine wpAny_bind (listItems_at at2 dt ?_)
  refine wpAny_bind (listItems_at (xs := #[]) (n := 0) new rfl ?_)
  rw [if_neg (by simp)]
  have big : (#[] ++ vs.toArray).size ≤ sizeLine + 1 := by
    simp only [Array.size_append, List.size_toArray, List.length_nil]
    omega
  refine wpAny_bind (listUpdate_at (xs := #[]) (n := 0) new rfl ?_ (Nat.zero_le _) big)
  refine wpAny_pure ?_
  show wpAny (model prog w) A (do
      let o ← load s.heap.objs.size
      match o.data with
      | .seq xs _ => pure xs.toList
      | _ => unsupported "internal:collect") Q E { s with heap := (s.heap.push (seqObj "list" #[] 0)).update s.heap.objs.size (Obj.mapSeq (· ++ vs.toArray)) }
  refine wpAny_bind (wpAny_load (get?_update_seq new _) ?_)
  show wpAny _ _ (pure ((#[] : Array Value) ++ vs.toArray).toList) Q E _
  have e : ((#[] : Array Value) ++ vs.toArray).toList = vs := by simp
  rw [e]
  exact wpAny_pure h
theorem sortedT_of {l : Addr} {vs : List Value} {Q : Value → Shared → Prop} (hl : s.heap.IsTuple l vs.toArray) (hL : vs.length ≤ sizeLine)
    (body : ∀ E' : Value → Shared → Prop, wpAny (model prog w) A.in1.in1 (Builtin.«list.sort» ⟨[.ref (s.heap.objs.size + 1)], []⟩) (fun f s' => f = .done (.ret .none) ∧ Q (.ref (s.heap.objs.size + 1)) s') E' { s with heap := copyHeap s.heap vs }) :
    wpAny (model prog w) A (call (.builtin "sorted") [.ref l]) Q E s := by
  refine call_function_entry_kw kind_sorted plain_sorted entry_sorted (args_sorted1 _) ?_
  unfold Builtin.«sorted»
  refine wpAny_bind (m := checkCount "sorted" 1 1 _) (wpAny_pure ?_)
  refine wpAny_bind (coll_tup hl hL ?_)
  refine wpAny_bind (wpAny_newList ?_ hL)
  have sz : ((s.heap.push (seqObj "list" #[] 0)).update s.heap.objs.size (Obj.mapSeq (· ++ vs.toArray))).objs.size = s.heap.objs.size + 1 := by
    rw [Heap.size_update, size_push']
  show wpAny _ _ _ _ _ { s with heap := copyHeap s.heap vs }
  rw [sz]
  refine wpAny_bind (wpAny_holding (wpAny_call_entry_kw slot_list_sort ⟨_, copyHeap_at s.heap vs, rfl⟩ entry_list_sort ?b (args_list_sort _)))
  case b =>
    show wpAny (model prog w) A.in1.in1 (Builtin.«list.sort» ⟨[.ref (s.heap.objs.size + 1)], []⟩) _ _ _
    refine wpAny_mono (body _) (fun f s' hf => ?_) fun _ _ e => e
    obtain ⟨e, hq⟩ := hf
    subst e
    exact ⟨_, rfl, wpAny_pure ⟨_, rfl, hq⟩⟩
end
section
open PySem.SeqAt
variable {prog : Program} {w : World} {A : Around} {E : Value → Shared → Prop} {s : Shared}
theorem call_tuple_lt {Q : Value → Shared → Prop} {l b : Addr} {items items2 : Array Value} {e r : Nat → Bool} (hl : s.heap.IsTuple l items) (hb : s.heap.IsTuple b items2)
    (he : ∀ j (h1 : j < items.size) (h2 : j < items2.size), EqAt A.in1 s items[j] items2[j] (e j)) (hr : ∀ j (h1 : j < items.size) (h2 : j < items2.size), e j = false → RcLt A.in1 s items[j] items2[j] (r j))
    (h : Q (.bool (firstLt e r (decide (items.size < items2.size)) (List.range (min items.size items2.size)))) s) : wpAny (model prog w) A (call (.builtin "tuple.__lt__") [.ref l, .ref b]) Q E s := by
  obtain ⟨⟨cls, dd, data, sl⟩, ho, hc, n, hd⟩ := id hl
  obtain ⟨⟨cls2, dd2, data2, sl2⟩, ho2, hc2, n2, hd2⟩ := id hb
  simp only at hc hd hc2 hd2
  subst hc hd hc2 hd2
  exact call_meets F.slot_tuple_lt ⟨_, ho, rfl⟩ F.entry_tuple_lt (F.args_tuple_lt_2 _ _) (tuple_ltAt l b items items2 n n2 dd dd2 sl sl2 e r) ⟨ho, ho2, he, hr, h⟩
theorem oneLt_tup {xs ys : List PyData} {a b : Value} {as bs : List Addr} {Q : Bool → Shared → Prop} (ra : Reads s.heap a (.tuple xs) as) (rb : Reads s.heap b (.tuple ys) bs) (h : alike (.tuple xs) (.tuple ys) = true)
    (hu : A.units + min (PyData.tuple xs).depth (PyData.tuple ys).depth < cLine) (hq : Q (dataLt (.tuple xs) (.tuple ys)) s) : wpAny (model prog w) A (oneLt' true a b) Q E s := by
  have hal : alikeAll xs ys = true := by simpa [alike] using h
  cases ra with
  | @tuple l o vs n _ as₁ h1 h2 h3 h4 =>
    cases rb with
    | @tuple l' o' vs' n' _ bs₁ k1 k2 k3 k4 =>
      have n1 : vs.size = xs.length := by simpa using ReadsAll.length _ _ _ h4
      have n2 : vs'.size = ys.length := by simpa using ReadsAll.length _ _ _ k4
      rw [dataLt_tuple, ← firstLt_toks xs ys hal, ← n1, ← n2] at hq
      rw [oneLt'_eq]
      simp only [if_true]
      refine wpAny_bind (wpAny_cRoomFor (room_here hu) ?_)
      refine wpAny_bind (wpAny_callSpecialIfBound?_slot (T := "tuple") ⟨_, h1, h2⟩ F.slot_tuple_lt (call_tuple_lt (e := pairEq xs ys) (r := fun j => dataLt (xs.getD j .none) (ys.getD j .none)) ⟨_, h1, h2, _, h3⟩ ⟨_, k1, k2, _, k3⟩ (fun j j1 j2 => ?_) (fun j j1 j2 hj => ?_) ?_))
      · have := eqAt_alikeAll xs ys A.in1 s vs.toList vs'.toList _ _ h4 k4 hal (room_in hu) j (by simpa using j1) (by simpa using j2)
        simpa using this
      · have := rcLt_alikeAll xs ys A.in1 s vs.toList vs'.toList _ _ h4 k4 hal (room_in hu) j (by simpa using j1) (by simpa using j2) hj
        simpa using this
      · exact wpAny_truthy_bool hq
def fullT : PyData → Bool
  | .tuple (_ :: _) => true
  | _ => false
theorem firsts_any {M : Model} : ∀ {vs : List Value} {ds : List PyData}, EachIs (fun v d => ∃ as, Reads s.heap v d as) vs ds → (∀ d, d ∈ ds → ∃ xs, d = .tuple xs) → ∀ {Q : List (Option Value) → Shared → Prop},
    (∀ os, os.map (·.isSome) = ds.map fullT → Q os s) → wpAny M A (vs.mapM firstOfTuple') Q E s
  | _, _, .nil, _, Q, h => by rw [List.mapM_nil]; exact wpAny_pure (h [] rfl)
  | _, _, .cons (a := v) (b := d) (as := vs) ⟨as, r⟩ t, ht, Q, h => by
    obtain ⟨xs, rfl⟩ := ht d (List.mem_cons_self ..)
    cases r with
    | @tuple a o vs' n _ _ ho hc hd hr =>
      rw [List.mapM_cons]
      refine wpAny_bind ?_
      rw [kas_first_eq]
      refine wpAny_bind (Looks.here (show Looks M s.heap (typeOf (.ref a)) o.cls from (Looks.ld ho).andThen .now) ?_)
      rw [hc, if_neg (by first | decide | simp)]
      refine wpAny_bind (listItems_at ho hd (wpAny_pure ?_))
      refine wpAny_bind (firsts_any t (fun d hd => ht d (List.mem_cons_of_mem _ hd)) fun os ho => wpAny_pure (h _ ?_))
      rw [List.map_cons, List.map_cons, ho]
      congr 1
      have n1 : vs'.size = xs.length := by simpa using SeqAt.ReadsAll.length _ _ _ hr
      cases xs with
      | nil => rw [Array.getElem?_eq_none (by rw [n1]; exact Nat.le_refl _)]; rfl
      | cons x r => rw [Array.getElem?_eq_getElem (by rw [n1]; exact Nat.succ_pos _)]; rfl
/-- all are tuples, one at least is empty -/
theorem sortsAt_tup {vs : List Value} {ds : List PyData} (e : EachIs (fun v d => ∃ as, Reads s.heap v d as) vs ds) (hal : AllAlike ds) (ht : ∀ d, d ∈ ds → ∃ xs, d = .tuple xs) (he : PyData.tuple [] ∈ ds) (hu : ∀ d, d ∈ ds → A.units + d.depth < cLine) : SortsAt prog w A s (dataKind s.heap ds) vs := by
  have room : ∀ {d d' : PyData}, d ∈ ds → A.units + min d.depth d'.depth < cLine := fun {d d'} hd => Nat.lt_of_le_of_lt (Nat.add_le_add_left (Nat.min_le_left _ _) _) (hu d hd)
  refine ⟨fun v hv => ?_, ?_⟩
  · obtain ⟨d, hd, as, r⟩ := e.left v hv
    exact ⟨_, dataKind_some hal hd r⟩
  · cases ds with
    | nil => cases he
    | cons d₀ ds₀ =>
      refine ⟨if fullT d₀ = true then general' else oneType', ?_, fun h2 E Q hq => ?_⟩
      · intro E x y a b Q ha hb hq
        obtain ⟨d, as, hd, ra, rfl⟩ := dataKind_inv ha
        obtain ⟨d', as', hd', rb, rfl⟩ := dataKind_inv hb
        split
        · show wpAny _ _ (oneLt' false x y) Q E s
          obtain ⟨t, rfl⟩ := ht d hd
          exact oneLt_alike (fun z => by cases z) ra rb (hal _ hd _ hd') (fun z => nomatch z) (room hd) hq
        · rw [keyLt'_oneType]
          obtain ⟨t, rfl⟩ := ht d hd
          obtain ⟨t', rfl⟩ := ht d' hd'
          exact oneLt_tup ra rb (hal _ hd _ hd') (room hd) hq
      · rw [kat_kind_eq, List.mapM_toArray, map_eq_pure_bind]
        refine wpAny_bind (wpAny_bind (firsts_any e ht fun os ho => wpAny_pure ?_))
        have ex : false ∈ os.map (·.isSome) := by
          rw [ho]
          exact List.mem_map.mpr ⟨_, he, rfl⟩
        obtain ⟨o1, m1, z1⟩ := List.mem_map.mp ex
        rw [if_neg (by
          rw [List.all_toArray, List.all_eq_true]
          intro hh
          exact absurd (hh o1 m1) (by rw [z1]; decide))]
        cases os with
        | nil => cases m1
        | cons o0 os =>
          have z0 : o0.isSome = fullT d₀ := by
            rw [List.map_cons, List.map_cons] at ho
            exact (List.cons.inj ho).1
          have g0 : (((o0 :: os).toArray[0]?).bind id).isSome = fullT d₀ := by
            rw [← z0]
            simp
          rw [g0]
          split
          · rename_i hf
            rw [if_pos hf] at hq
            exact wpAny_pure hq
          · rename_i hf
            rw [if_neg hf] at hq
            have lk : ∀ v ∈ vs, Looks (model prog w) s.heap (typeOf v) (.type "tuple") := by
              intro v hv
              obtain ⟨d, hd, as, r⟩ := e.left v hv
              obtain ⟨t, rfl⟩ := ht d hd
              exact looks_reads r
            rw [oneTypeOnly'_eq, List.mapM_toArray, map_eq_pure_bind]
            refine wpAny_bind (wpAny_bind (wpAny_bind (kas_mapM (r := .type "tuple") _ (fun v hv Q' hq => (lk v hv).here hq) (wpAny_pure ?_))))
            have hall : ((List.map (fun _ => Value.type "tuple") vs).toArray.all fun x => x == Value.type "tuple") = true := by
              simp only [List.all_toArray, List.all_map, List.all_eq_true]
              intro _ _
              exact beq_self_eq_true _
            obtain ⟨v1, vr, rfl⟩ : ∃ v1 vr, vs = v1 :: vr := by
              match vs, h2 with
              | [], h2 => simp at h2
              | v1 :: vr, _ => exact ⟨_, _, rfl⟩
            have h0 : (List.map (fun _ => Value.type "tuple") (v1 :: vr)).toArray[0]? = some (Value.type "tuple") := by simp
            rw [h0]
            simp only [hall, if_true]
            exact wpAny_pure (wpAny_pure hq)
/-- what can be sorted: also tuples of which some are empty -/
def SortableX (ds : List PyData) : Prop := Sortable ds ∨ ∀ d, d ∈ ds → ∃ xs, d = .tuple xs
theorem sortsAt_x {vs : List Value} {ds : List PyData} (e : EachIs (fun v d => ∃ as, Reads s.heap v d as) vs ds) (hal : AllAlike ds) (hk : SortableX ds) (hu : ∀ d, d ∈ ds → A.units + d.depth < cLine) : SortsAt prog w A s (dataKind s.heap ds) vs := by
  rcases hk with hk | ht
  · exact SortsAt.data e hal hk hu
  · by_cases he : PyData.tuple [] ∈ ds
    · exact sortsAt_tup e hal ht he hu
    · refine SortsAt.data e hal (.inl fun d hd => ?_) hu
      obtain ⟨xs, rfl⟩ := ht d hd
      cases xs with
      | nil => exact absurd hd he
      | cons x r => exact ⟨x, r, rfl⟩
end
section
variable {prog : Program} {w : World} {A : Around} {E : Value → Shared → Prop} {s : Shared} {β : Type} {vs : List Value} {bs : List β} {enc : β → PyData} {R : Value → β → Prop}
theorem sortedT_data {l : Addr} {Q : Value → Shared → Prop} (hl : s.heap.IsTuple l vs.toArray) (e : EachIs R vs bs) (er : EachIs (fun v b => ∃ as, Reads s.heap v (enc b) as) vs bs) (hal : AllAlike (bs.map enc)) (hk : SortableX (bs.map enc)) (hL : bs.length ≤ sizeLine)
    (hu : ∀ b, b ∈ bs → A.units + 2 + (enc b).depth < cLine) (h : ∀ out, out.length = bs.length → EachIs R out (bs.mergeSort (dataLe false enc)) → Q (.ref (s.heap.objs.size + 1)) { s with heap := sortedAll s.heap vs (List.toArray out) }) :
    wpAny (model prog w) A (call (.builtin "sorted") [.ref l]) Q E s := by
  have er' : EachIs (fun v b => ∃ as, Reads (sortingHeap (copyHeap s.heap vs) (s.heap.objs.size + 1) vs) v (enc b) as) vs bs :=
    er.mono fun _ _ ⟨as, r⟩ => ⟨as, PyProof.Rows.Reads.keeps (fun _ _ => sorting_copy_old) r⟩
  have hz : vs.length ≤ sizeLine := by
    rw [e.length]
    exact hL
  have ea := each_map (R := fun v d => ∃ as, Reads (sortingHeap (copyHeap s.heap vs) (s.heap.objs.size + 1) vs) v d as) enc er'
  have S := sortsAt_x (prog := prog) (w := w) (A := A.in1.in1) (s := { s with heap := sortingHeap (copyHeap s.heap vs) (s.heap.objs.size + 1) vs }) ea hal hk (bound_map hu)
  refine sortedT_of hl hz fun _ => list_sort_vals (s := { s with heap := copyHeap s.heap vs }) (copyHeap_at s.heap vs) S hz ⟨rfl, ?_⟩
  refine h _ ?_ (sortVals_data false e er' hal)
  rw [sortVals_length false rfl]
  exact e.length
theorem sortedE_data {l : Addr} {Q : Value → Shared → Prop} (hl : s.heap.IsList l vs.toArray ∨ s.heap.IsTuple l vs.toArray) (e : EachIs R vs bs) (er : EachIs (fun v b => ∃ as, Reads s.heap v (enc b) as) vs bs) (hal : AllAlike (bs.map enc)) (hk : SortableX (bs.map enc))
    (hL : bs.length ≤ sizeLine) (hu : ∀ b, b ∈ bs → A.units + 2 + (enc b).depth < cLine)
    (h : ∀ out, out.length = bs.length → EachIs R out (bs.mergeSort (dataLe false enc)) → Q (.ref (s.heap.objs.size + 1)) { s with heap := sortedAll s.heap vs (List.toArray out) }) : wpAny (model prog w) A (call (.builtin "sorted") [.ref l]) Q E s := by
  rcases hl with z | z
  · have er' : EachIs (fun v b => ∃ as, Reads (sortingHeap (copyHeap s.heap vs) (s.heap.objs.size + 1) vs) v (enc b) as) vs bs := er.mono fun _ _ ⟨as, r⟩ => ⟨as, PyProof.Rows.Reads.keeps (fun _ _ => sorting_copy_old) r⟩
    exact sorted_vals z (sortsAt_x (s := { s with heap := sortingHeap (copyHeap s.heap vs) (s.heap.objs.size + 1) vs }) (each_map (R := fun v d => ∃ as, Reads (sortingHeap (copyHeap s.heap vs) (s.heap.objs.size + 1) vs) v d as) enc er') hal hk (bound_map hu)) (by rw [e.length]; exact hL)
      (h _ (by rw [sortVals_length false rfl]; exact e.length) (sortVals_data false e er' hal))
  · exact sortedT_data z e er hal hk hL hu h
end
end PySem.EVn
/-! The E layer: sorted of a dict with tuples as keys. -/
namespace PySem.EVn
open PySem PySem.Calls PyProof.Rows PySem.W
section
variable {prog : Program} {w : World} {A : Around} {E : Value → Shared → Prop} {s : Shared} {d : Addr} {es : Array DictEntry} {ep : Nat}
theorem keys_at {acc : Array Value} (h : ItemsOf (fun i v => ∃ hi : i < es.size, v = es[i].key) acc es.size) : acc.toList = es.toList.map (·.key) := by
  apply List.ext_getElem?
  intro i
  rw [List.getElem?_map, Array.getElem?_toList, Array.getElem?_toList]
  by_cases hi : i < es.size
  · have ha : i < acc.size := by rw [h.1]; exact hi
    obtain ⟨hi2, e⟩ := h.2 i acc[i] (Array.getElem?_eq_getElem ha)
    rw [Array.getElem?_eq_getElem ha, Array.getElem?_eq_getElem hi, e]
    rfl
  · rw [Array.getElem?_eq_none (by rw [h.1]; omega), Array.getElem?_eq_none (by omega)]
    rfl
theorem sortedD_of {Q : Value → Shared → Prop} (lo : (d == sysModules) = false) (hh : A.handled = none) (hr : s.heap.DictRaw d es ep) (hL : es.size ≤ sizeLine)
    (body : ∀ (h' : Heap) (tk : Nat), (∀ b o, s.heap.get? b = some o → h'.get? b = some o) → ∀ E' : Value → Shared → Prop, wpAny (model prog w) A.in1.in1 (Builtin.«list.sort» ⟨[.ref h'.objs.size], []⟩) (fun f s' => f = .done (.ret .none) ∧ Q (.ref h'.objs.size) s') E' { s with heap := h'.push (seqObj "list" (es.toList.map (·.key)).toArray 0), toks := tk }) :
    wpAny (model prog w) A (call (.builtin "sorted") [.ref d]) Q E s := by
  refine call_function_entry_kw kind_sorted plain_sorted entry_sorted (args_sorted1 _) ?_
  unfold Builtin.«sorted»
  refine wpAny_bind (m := checkCount "sorted" 1 1 _) (wpAny_pure ?_)
  refine wpAny_bind (kdu_collect (A := A.in1) (KdlSrc.rawDict (es := es) (ep := ep) lo) hh hr hL fun h' tk acc hk hacc => ?_)
  have e := keys_at hacc
  rw [e]
  have hn : (es.toList.map (·.key)).length ≤ sizeLine := by simpa using hL
  refine wpAny_bind (wpAny_newList ?_ hn)
  show wpAny _ _ _ _ _ { s with heap := h'.push (seqObj "list" (es.toList.map (·.key)).toArray 0), toks := tk }
  refine wpAny_bind (wpAny_holding (wpAny_call_entry_kw slot_list_sort ⟨seqObj "list" (es.toList.map (·.key)).toArray 0, Heap.get?_push_size _ rfl, rfl⟩ entry_list_sort ?b (args_list_sort _)))
  case b =>
    show wpAny (model prog w) A.in1.in1 (Builtin.«list.sort» ⟨[.ref h'.objs.size], []⟩) _ _ _
    refine wpAny_mono (body h' tk hk _) (fun f s' hf => ?_) fun _ _ e => e
    obtain ⟨e, hq⟩ := hf
    subst e
    exact ⟨_, rfl, wpAny_pure ⟨_, rfl, hq⟩⟩
theorem sortedD_data {β : Type} {bs : List β} {enc : β → PyData} {R : Value → β → Prop} {Q : Value → Shared → Prop} (lo : (d == sysModules) = false) (hh : A.handled = none) (hr : s.heap.DictRaw d es ep) (e : EachIs R (es.toList.map (·.key)) bs)
    (er : EachIs (fun v b => ∃ as, Reads s.heap v (enc b) as) (es.toList.map (·.key)) bs) (hal : AllAlike (bs.map enc)) (hk : SortableX (bs.map enc)) (hL : bs.length ≤ sizeLine) (hu : ∀ b, b ∈ bs → A.units + 2 + (enc b).depth < cLine)
    (h : ∀ (h' : Heap) (tk : Nat) (out : List Value), (∀ b o, s.heap.get? b = some o → h'.get? b = some o) → out.length = bs.length → EachIs R out (bs.mergeSort (dataLe false enc)) →
      Q (.ref h'.objs.size) { s with heap := sortedHeap (h'.push (seqObj "list" (es.toList.map (·.key)).toArray 0)) h'.objs.size (es.toList.map (·.key)) (List.toArray out), toks := tk }) : wpAny (model prog w) A (call (.builtin "sorted") [.ref d]) Q E s := by
  have hz : (es.toList.map (·.key)).length ≤ sizeLine := by
    rw [e.length]
    exact hL
  refine sortedD_of lo hh hr (by simpa using hz) fun h' tk keep _ => ?_
  have old : ∀ b o, s.heap.get? b = some o → (sortingHeap (h'.push (seqObj "list" (es.toList.map (·.key)).toArray 0)) h'.objs.size (es.toList.map (·.key))).get? b = some o := fun b o q => by
    have q2 := keep b o q
    exact sortingHeap_old (Nat.ne_of_lt (Heap.lt_size q2)) (Heap.get?_push_of_some _ q2)
  have er' : EachIs (fun v b => ∃ as, Reads (sortingHeap (h'.push (seqObj "list" (es.toList.map (·.key)).toArray 0)) h'.objs.size (es.toList.map (·.key))) v (enc b) as) (es.toList.map (·.key)) bs :=
    er.mono fun _ _ ⟨as, r⟩ => ⟨as, PyProof.Rows.Reads.keeps (fun b o q => old b o q) r⟩
  have ea := each_map (R := fun v d => ∃ as, Reads (sortingHeap (h'.push (seqObj "list" (es.toList.map (·.key)).toArray 0)) h'.objs.size (es.toList.map (·.key))) v d as) enc er'
  have S := sortsAt_x (prog := prog) (w := w) (A := A.in1.in1) (s := { s with heap := sortingHeap (h'.push (seqObj "list" (es.toList.map (·.key)).toArray 0)) h'.objs.size (es.toList.map (·.key)), toks := tk }) ea hal hk (bound_map hu)
  refine list_sort_vals (s := { s with heap := h'.push (seqObj "list" (es.toList.map (·.key)).toArray 0), toks := tk }) (n := 0) (Heap.get?_push_size _ rfl) S hz ⟨rfl, ?_⟩
  refine h h' tk _ keep ?_ (sortVals_data false e er' hal)
  rw [sortVals_length false rfl]
  exact e.length
end
end PySem.EVn
namespace EV
open PySem PySem.Spec L2
open PyProof.Rows hiding St
section
variable {T : TX} {ρ : List Addr} {H : Hp}
theorem keyP_rep : ∀ k : Key, Rep T ρ H (keyP k) (kV k)
  | .inl i => by unfold keyP; unfold Rep; rfl
  | .inr x => by unfold keyP; unfold Rep; rfl
theorem keysP_reps : ∀ k : List Key, Reps T ρ H (k.map keyP) (k.map kV)
  | [] => by unfold Reps; rfl
  | a :: r => by
    show Reps T ρ H (keyP a :: r.map keyP) (kV a :: r.map kV)
    unfold Reps
    exact ⟨_, _, rfl, keyP_rep a, keysP_reps r⟩
theorem kt_reps : ∀ {ks : List (List Key × V)} {xs : List (List Key × Addr × Value)}, KT H ks xs → Reps T ρ H (ks.map fun k => keysP k.1) (xs.map fun x => V.ref x.2.1)
  | _, _, .nil => by
    show Reps T ρ H [] []
    unfold Reps; rfl
  | _, _, .cons (a := a) (b := b) h t => by
    obtain ⟨h1, h2, _⟩ := h
    show Reps T ρ H (keysP a.1 :: _) (V.ref b.2.1 :: _)
    unfold Reps
    refine ⟨_, _, rfl, ?_, kt_reps t⟩
    show Rep T ρ H (.tup (a.1.map keyP)) (V.ref b.2.1)
    unfold Rep
    exact ⟨b.2.1, _, rfl, h2, keysP_reps a.1⟩
theorem refs_vals : ∀ xs : List (List Key × Addr × Value), Vals (xs.map fun x => V.ref x.2.1) (xs.map fun x => Value.ref x.2.1)
  | [] => .nil
  | x :: r => .cons (show RelV (V.ref x.2.1) (Value.ref x.2.1) from rfl) (refs_vals r)
end
end EV
/-! The E layer: sorted, min, max of sequences; list(range(..)), tuple(range(..)). -/
namespace EV
open PySem PySem.Spec L2
open PyProof.Rows hiding St
section
variable {G : Gn} {sg : Sg} {X : Cx} {T : TX} {E : Ev} {W : WX} {pos p p2 pos2 : Pos} {a b : Expr} {ma mb : EV.Env → Store → Res AV}
/-- what is known of each item that is put in order -/
structure Itm (T : TX) (ρ : List Addr) (H : Hp) (S : Store) (X : Cx) (h : Heap) where
  p : PV
  v : V
  u : Value
  d : PyData
  as : List Addr
  e : dat S deep p = some d
  r : Rep T ρ H p v
  rv : RelV v u
  rd : Reads h u d as
theorem items_of {ρ : List Addr} {H : Hp} {S : Store} {h : Heap} (f : ∀ (p : PV) (v : V) (u : Value) (d : PyData), dat S deep p = some d → Rep T ρ H p v → RelV v u → ∃ as, Reads h u d as) :
    ∀ {l : List PV} {xs : List V} {us : List Value} {ds : List PyData}, Reps T ρ H l xs → Vals xs us → mapO (dat S deep) l = some ds → ∃ bs : List (Itm T ρ H S X h), bs.map (·.p) = l ∧ bs.map (·.v) = xs ∧ bs.map (·.u) = us ∧ bs.map (·.d) = ds
  | [], xs, us, ds, r, rv, e => by
    unfold Reps at r
    subst r
    cases rv
    simp only [mapO] at e
    cases e
    exact ⟨[], rfl, rfl, rfl, rfl⟩
  | p :: l, xs, us, ds, r, rv, e => by
    unfold Reps at r
    obtain ⟨x, t, rfl, h1, h2⟩ := r
    cases rv with
    | @cons _ u _ us' rx rt =>
      obtain ⟨d, ds', rfl, e1, e2⟩ := mapO_cons e
      obtain ⟨as, rd⟩ := f p x u d e1 h1 rx
      obtain ⟨bs, q1, q2, q3, q4⟩ := items_of f h2 rt e2
      exact ⟨⟨p, x, u, d, as, e1, h1, rx, rd⟩ :: bs, by simp [q1], by simp [q2], by simp [q3], by simp [q4]⟩
theorem each_of {α β : Type} {R : α → β → Prop} {f : β → α} (h : ∀ b, R (f b) b) : ∀ l : List β, PySem.W.EachIs R (l.map f) l
  | [] => .nil
  | b :: l => .cons (h b) (each_of h l)
theorem reps_all {ρ : List Addr} {H : Hp} {S : Store} {h : Heap} : ∀ l : List (Itm T ρ H S X h), Reps T ρ H (l.map (·.p)) (l.map (·.v))
  | [] => .nil
  | b :: l => .cons b.r (reps_all l)
theorem vals_each {ρ : List Addr} {H : Hp} {S : Store} {h : Heap} : ∀ {out : List Value} {l : List (Itm T ρ H S X h)}, PySem.W.EachIs (fun u b => RelV b.v u) out l → Vals (l.map (·.v)) out
  | _, _, .nil => .nil
  | _, _, .cons h t => .cons h (vals_each t)
theorem insL_mid {α : Type} {le : α → α → Bool} {a : α} : ∀ {l1 l2 : List α}, (∀ b ∈ l1, (!le a b) = true) → (∀ b ∈ l2.head?, le a b = true) → insL le a (l1 ++ l2) = l1 ++ a :: l2
  | [], [], _, _ => rfl
  | [], c :: r, _, h => by
    have hc : le a c = true := h c rfl
    show (if le a c = true then a :: c :: r else c :: insL le a r) = _
    rw [if_pos hc]
    rfl
  | b :: l1, l2, h1, h2 => by
    have hb := h1 b (List.mem_cons_self ..)
    show (if le a b = true then a :: b :: (l1 ++ l2) else b :: insL le a (l1 ++ l2)) = _
    rw [if_neg (by simpa using hb), insL_mid (fun c hc => h1 c (List.mem_cons_of_mem _ hc)) h2]
    rfl
theorem sortL_eq {α : Type} {le : α → α → Bool} (trans : ∀ a b c : α, le a b = true → le b c = true → le a c = true) (total : ∀ a b : α, (le a b || le b a) = true) : ∀ l : List α, l.mergeSort le = sortL le l
  | [] => by simp [sortL]
  | a :: l => by
    obtain ⟨l1, l2, h1, h2, h3⟩ := List.mergeSort_cons trans total a l
    have ih := sortL_eq trans total l
    have pw := List.pairwise_mergeSort trans total (a :: l)
    rw [h1] at pw
    show (a :: l).mergeSort le = insL le a (sortL le l)
    rw [← ih, h2, h1]
    refine (insL_mid h3 fun b hb => ?_).symm
    have p2 := (List.pairwise_append.mp pw).2.1
    cases l2 with
    | nil => cases hb
    | cons c r =>
      have e : c = b := by simpa using hb
      subst e
      exact (List.pairwise_cons.mp p2).1 c (List.mem_cons_self ..)
theorem sortL_is {S : Store} {l : List PV} : l.mergeSort (leQ S) = sortL (leQ S) l := by
  have t : PySem.W.TotalLe (leQ S) := PySem.W.sortLe_total _ false _
  exact sortL_eq (fun a b c h1 h2 => t.trans a b c h1 h2) (fun a b => by
    rw [Bool.or_eq_true]
    exact t.total a b) l
theorem f1_sorted (o : On G sg X T E W) : CallR X (.builtin "sorted") (rF1 T fun S a => fn1 E.gd S .sorted a) := by
  have bg : (1000000 : Nat) ≤ sizeLine := big_line
  have hun := o.un
  rintro pins s σ H xs us Q I r ⟨ρ, S, a, c, x, H0, rfl, hs, ra, e, k⟩
  have hK := o.K
  have hcalm := o.calm
  have hhd := o.calm
  clear o
  obtain ⟨K, fa, ca, fl, tabs⟩ := T
  obtain rfl : X.K = K := hK
  simp only [fn1, Option.map_eq_some_iff, Option.bind_eq_some_iff] at e
  obtain ⟨l', ⟨l, e1, e2⟩, rfl⟩ := e
  unfold itemsA at e1
  split at e1
  · rename_i g1
    cases e1
    obtain ⟨p, ys, rfl, q, r1⟩ := seqOf_ok hs ra g1
    unfold sortP at e2
    split at e2
    · rename_i ds e3
      split at e2
      · rename_i hc
        cases e2
        obtain ⟨c1, c2, c3⟩ := hc
        obtain ⟨its, rv, pl, hz⟩ : ∃ its : List Value, Vals ys its ∧ (s.heap.IsList p its.toArray ∨ s.heap.IsTuple p its.toArray) ∧ ys.length ≤ sizeLine := by
          rcases q with q | q
          · obtain ⟨its, rv, pl, hz⟩ := I.list q
            exact ⟨its, rv, .inl pl.isList, hz⟩
          · obtain ⟨its, rv, pl, hz⟩ := I.tuple q
            exact ⟨its, rv, .inr pl, hz⟩
        rw [Vals.ref1 r]
        obtain ⟨bs, b1, b2, b3, b4⟩ := items_of (X := X) (h := s.heap) (fun p v u d e r rv => Dp.reads I d v u (dat_ok hs _ _ _ _ e r) rv) r1 rv e3
        have m4 : bs.map (fun b => b.d) = ds := b4
        unfold ordOk at c1
        rw [Bool.and_eq_true, List.all_eq_true, List.all_eq_true] at c1
        have lb : bs.length = l.length := by rw [← b1, List.length_map]
        refine PySem.EVn.sortedE_data (β := Itm _ ρ H S X s.heap) (enc := fun b => b.d) (R := fun u b => RelV b.v u) (bs := bs) (vs := its) pl (b3 ▸ each_of (fun b => b.rv) bs) (b3 ▸ each_of (fun b => ⟨b.as, b.rd⟩) bs) ?_ ?_ (by omega) (fun b hb => ?_) fun out hl he => ?_
        · intro d hd d' hd'
          rw [m4] at hd hd'
          exact List.all_eq_true.mp (c1.1 d hd) d' hd'
        · rw [m4]
          unfold sortableD at c2
          rw [Bool.or_eq_true, List.all_eq_true, List.all_eq_true] at c2
          refine c2.elim (fun h => .inr fun d hd => ?_) (fun h => .inl (.inr fun d hd => ?_))
          · have := h d hd
            split at this
            · exact ⟨_, rfl⟩
            · cases this
          · have := h d hd
            exact ⟨(fun z => by subst z; cases this), (fun xs z => by subst z; cases this)⟩
        · have := of_decide_eq_true (c1.2 b.d (by rw [← m4]; exact List.mem_map.mpr ⟨b, hb, rfl⟩))
          omega
        · obtain ⟨ep, he'⟩ := PyProof.Rows.sortedAll_at s.heap its (List.toArray out)
          have vo := vals_each he
          have lo := vo.length
          have sz : ((bs.mergeSort (PySem.W.dataLe false fun b => b.d)).map (·.v)).length ≤ sizeLine := by
            rw [List.length_map, List.length_mergeSort, lb]
            omega
          have fr : H (s.heap.objs.size + 1) = none := I.hok.fresh (Nat.le_succ _)
          refine ⟨.ref (s.heap.objs.size + 1), upd H (s.heap.objs.size + 1) (.lst ((bs.mergeSort (PySem.W.dataLe false fun b => b.d)).map (·.v))), I.laid (t' := s.toks) (fun _ _ => PyProof.Rows.sortedAll_old) (Nat.le_succ _) ⟨sz, out, ep, vo, he'⟩, rfl, ?_⟩
          have em : sortL (leQ S) l = (bs.mergeSort (PySem.W.dataLe false fun b => b.d)).map (·.p) := by
            rw [← sortL_is, List.map_mergeSort (s := leQ S), b1]
            intro x _ y _
            unfold leQ PySem.W.dataLe PySem.W.sortLe
            dsimp only
            rw [x.e, y.e]
            rfl
          rw [em] at k
          exact fin_list hs (reps_all _) k fr
      · cases e2
    · cases e2
  · rename_i g0
    simp only [Option.map_eq_some_iff] at e1
    obtain ⟨kvs, g1, rfl⟩ := e1
    obtain ⟨p, ks, rfl, q, rk⟩ := dtOf_ok hs ra g1
    obtain ⟨z, nm, xs, rel, ob, es, ep, d1, d2, d3, d4, d5, d6⟩ := dt_of I.hok q
    have rv := refs_vals xs
    have r1 : Reps { K := X.K, fa := fa, ca := ca, fl := fl, tabs := tabs } ρ H (kvs.map fun q => keysP q.1) (xs.map fun x => V.ref x.2.1) := by
      have e9 : (kvs.map fun q => keysP q.1) = ks.map fun q => keysP q.1 := by
        have := congrArg (List.map keysP) rk.1
        rw [List.map_map, List.map_map] at this
        exact this
      rw [e9]
      exact kt_reps rel
    have ek : es.toList.map (·.key) = xs.map fun x => Value.ref x.2.1 := by
      rw [d4, List.map_map]
      rfl
    unfold sortP at e2
    split at e2
    · rename_i ds e3
      split at e2
      · rename_i hc
        cases e2
        obtain ⟨c1, c2, c3⟩ := hc
        rw [Vals.ref1 r]
        obtain ⟨bs, b1, b2, b3, b4⟩ := items_of (X := X) (h := s.heap) (fun p v u d e r rv => Dp.reads I d v u (dat_ok hs _ _ _ _ e r) rv) r1 rv e3
        have m4 : bs.map (fun b => b.d) = ds := b4
        unfold ordOk at c1
        rw [Bool.and_eq_true, List.all_eq_true, List.all_eq_true] at c1
        have lb : bs.length = (kvs.map fun q => keysP q.1).length := by rw [← b1, List.length_map]
        refine PySem.EVn.sortedD_data (es := es) (ep := ep) (β := Itm _ ρ H S X s.heap) (enc := fun b => b.d) (R := fun u b => RelV b.v u) (bs := bs) nm (I.ok.hd hcalm) ⟨ob, d1, d2, d3⟩ (by rw [ek]; exact b3 ▸ each_of (fun b => b.rv) bs) (by rw [ek]; exact b3 ▸ each_of (fun b => ⟨b.as, b.rd⟩) bs) ?_ ?_ (by omega) (fun b hb => ?_) fun h' tk out keep hl he => ?_
        · intro d hd d' hd'
          rw [m4] at hd hd'
          exact List.all_eq_true.mp (c1.1 d hd) d' hd'
        · rw [m4]
          unfold sortableD at c2
          rw [Bool.or_eq_true, List.all_eq_true, List.all_eq_true] at c2
          refine c2.elim (fun h => .inr fun d hd => ?_) (fun h => .inl (.inr fun d hd => ?_))
          · have := h d hd
            split at this
            · exact ⟨_, rfl⟩
            · cases this
          · have := h d hd
            exact ⟨(fun z => by subst z; cases this), (fun xs z => by subst z; cases this)⟩
        · have := of_decide_eq_true (c1.2 b.d (by rw [← m4]; exact List.mem_map.mpr ⟨b, hb, rfl⟩))
          omega
        · obtain ⟨eq, he'⟩ := PyProof.Rows.sortedHeap_at (h := h'.push (PyProof.Rows.seqObj "list" (es.toList.map (·.key)).toArray 0)) (a := h'.objs.size) (vs := es.toList.map (·.key)) (n := 0) (out := List.toArray out) (Heap.get?_push_size _ rfl)
          have vo := vals_each he
          have sz : ((bs.mergeSort (PySem.W.dataLe false fun b => b.d)).map (·.v)).length ≤ sizeLine := by
            rw [List.length_map, List.length_mergeSort, lb]
            omega
          have I1 : Inv X pins σ H { s with heap := h', toks := tk } := I.kept (t' := tk) keep
          have fr : H h'.objs.size = none := I1.hok.fresh (Nat.le_refl _)
          have old : ∀ b o, h'.get? b = some o → (PyProof.Rows.sortedHeap (h'.push (PyProof.Rows.seqObj "list" (es.toList.map (·.key)).toArray 0)) h'.objs.size (es.toList.map (·.key)) (List.toArray out)).get? b = some o := fun b o g => by
            have lt := Heap.lt_size g
            rw [PyProof.Rows.sortedHeap_old (Nat.ne_of_lt lt) (by rw [PyProof.Rows.size_push']; exact Nat.lt_succ_of_lt lt)]
            exact Heap.get?_push_of_some _ g
          refine ⟨.ref h'.objs.size, upd H h'.objs.size (.lst ((bs.mergeSort (PySem.W.dataLe false fun b => b.d)).map (·.v))), I1.laid (t' := tk) old (Nat.le_refl _) ⟨sz, out, eq, vo, he'⟩, rfl, ?_⟩
          have em : sortL (leQ S) (kvs.map fun q => keysP q.1) = (bs.mergeSort (PySem.W.dataLe false fun b => b.d)).map (·.p) := by
            rw [← sortL_is, List.map_mergeSort (s := leQ S), b1]
            intro x _ y _
            unfold leQ PySem.W.dataLe PySem.W.sortLe
            dsimp only
            rw [x.e, y.e]
            rfl
          rw [em] at k
          exact fin_list hs (reps_all _) k fr
      · cases e2
    · cases e2
/-! ### told by its data -/
mutual
theorem dat_inj {S : Store} : ∀ (k : Nat) (p q : PV) (d : PyData), plainP p = true → plainP q = true → dat S k p = some d → dat S k q = some d → p = q
  | k, .non, q, d, _, hq, e1, e2 => by
    cases k <;> simp only [dat] at e1 <;> cases e1 <;> cases q <;> simp only [dat, plainP] at e2 hq <;> first | rfl | (cases e2; done) | (cases hq; done) | (simp at e2; done)
  | k, .bl b, q, d, _, hq, e1, e2 => by
    cases k <;> simp only [dat] at e1 <;> cases e1 <;> cases q <;> simp only [dat, plainP] at e2 hq <;> first | (cases e2; rfl) | (cases e2; done) | (cases hq; done) | (simp at e2; done)
  | k, .int b, q, d, _, hq, e1, e2 => by
    cases k <;> simp only [dat] at e1 <;> cases e1 <;> cases q <;> simp only [dat, plainP] at e2 hq <;> first | (cases e2; rfl) | (cases e2; done) | (cases hq; done) | (simp at e2; done)
  | k, .str b, q, d, _, hq, e1, e2 => by
    cases k <;> simp only [dat] at e1 <;> cases e1 <;> cases q <;> simp only [dat, plainP] at e2 hq <;> first | (cases e2; rfl) | (cases e2; done) | (cases hq; done) | (simp at e2; done)
  | 0, .tup l, q, d, _, hq, e1, e2 => by simp only [dat] at e1; cases e1
  | k + 1, .tup l, q, d, hp, hq, e1, e2 => by
    simp only [dat, Option.map_eq_some_iff] at e1
    obtain ⟨ds, e1, rfl⟩ := e1
    cases q <;> simp only [dat, plainP] at e2 hq <;> first | (cases e2; done) | (cases hq; done) | skip
    rename_i m
    simp only [Option.map_eq_some_iff] at e2
    obtain ⟨ds', e2, h⟩ := e2
    cases h
    rw [dats_inj k l m ds (by simpa [plainP] using hp) hq e1 e2]
  | _, .rot _, _, _, hp, _, _, _ => by simp [plainP] at hp
  | _, .rol _, _, _, hp, _, _, _ => by simp [plainP] at hp
  | _, .loc _, _, _, hp, _, _, _ => by simp [plainP] at hp
  | _, .fn _, _, _, hp, _, _, _ => by simp [plainP] at hp
theorem dats_inj {S : Store} : ∀ (k : Nat) (l m : List PV) (ds : List PyData), plainL l = true → plainL m = true → mapO (dat S k) l = some ds → mapO (dat S k) m = some ds → l = m
  | k, [], m, ds, _, _, e1, e2 => by
    simp only [mapO] at e1
    cases e1
    cases m with
    | nil => rfl
    | cons q m => obtain ⟨_, _, z, _, _⟩ := mapO_cons e2; cases z
  | k, p :: l, m, ds, hp, hq, e1, e2 => by
    obtain ⟨d, r, rfl, e3, e4⟩ := mapO_cons e1
    cases m with
    | nil => simp only [mapO] at e2; cases e2
    | cons q m =>
      obtain ⟨d', r', z, e5, e6⟩ := mapO_cons e2
      cases z
      simp only [plainL, Bool.and_eq_true] at hp hq
      rw [dat_inj k p q d hp.1 hq.1 e3 e5, dats_inj k l m r hp.2 hq.2 e4 e6]
end
end
end EV
/-! The E layer: min and max of sequences. -/
namespace EV
open PySem PySem.Spec L2
open PyProof.Rows hiding St
open PySem.W
section
variable {G : Gn} {sg : Sg} {X : Cx} {T : TX} {E : Ev} {W : WX}
theorem reads_alls {ρ : List Addr} {H : Hp} {S : Store} {h : Heap} : ∀ l : List (Itm T ρ H S X h), ∃ as, ReadsAll h (l.map (·.u)) (l.map (·.d)) as
  | [] => ⟨_, .nil⟩
  | b :: l => by
    obtain ⟨as, r⟩ := reads_alls l
    exact ⟨_, .cons b.rd r⟩
theorem getD_datD {S : Store} {l : List PV} {ds : List PyData} (e : mapO (dat S deep) l = some ds) (i : Nat) : ds.getD i .none = datD S (l.getD i .non) := by
  induction l generalizing ds i with
  | nil => simp only [mapO] at e; cases e; rfl
  | cons p l ih =>
    obtain ⟨d, r, rfl, e1, e2⟩ := mapO_cons e
    cases i with
    | zero => simp [datD, e1]
    | succ i => simpa using ih e2 i
/-- where the walk over the items ends -/
theorem best_at {S : Store} {mx : Bool} {p : PV} {r : List PV} {ds : List PyData} (e : mapO (dat S deep) (p :: r) = some ds) (bt : Nat → Nat → Bool) (hb : ∀ i j, bt i j = (if mx = true then PySem.W.dataLt (ds.getD j .none) (ds.getD i .none) else PySem.W.dataLt (ds.getD i .none) (ds.getD j .none))) :
    (p :: r)[argBest bt r.length]? = some (r.foldl (fun a y => if betQ S mx a y = true then y else a) p) := by
  obtain ⟨h1, h2⟩ := PySem.W.argBest_fold (fun y a => betQ S mx a y) PV.non p r r.length (Nat.le_refl _)
  have hbt : bt = fun i j => (fun y a => betQ S mx a y) ((p :: r).getD i .non) ((p :: r).getD j .non) := by
    funext i j
    rw [hb, getD_datD e, getD_datD e]
    rfl
  rw [hbt]
  rw [List.take_length] at h2
  rw [← h2]
  rw [List.getElem?_eq_getElem (by simp only [List.length_cons]; omega), List.getD_eq_getElem?_getD, List.getElem?_eq_getElem (by simp only [List.length_cons]; omega)]
  rfl
theorem f1_best (o : On G sg X T E W) (mx : Bool) : CallR X (.builtin (if mx = true then "max" else "min")) (rF1 T fun S a => ((seqOf S a).bind (bestL S mx)).map .v) := by
  have hun := o.un
  have hcalm := o.calm
  rintro pins s σ H xs us Q I r ⟨ρ, S, a, c, x, H0, rfl, hs, ra, e, k⟩
  have hK := o.K
  clear o
  obtain ⟨K, fa, ca, fl, tabs⟩ := T
  obtain rfl : X.K = K := hK
  simp only [Option.map_eq_some_iff, Option.bind_eq_some_iff] at e
  obtain ⟨q0, ⟨l, e1, e2⟩, rfl⟩ := e
  obtain ⟨p, ys, rfl, q, r1⟩ := seqOf_ok hs ra e1
  unfold bestL at e2
  split at e2
  · cases e2
  rename_i p0 l0
  split at e2
  · rename_i ds e3
    split at e2
    · rename_i hc
      rw [Bool.and_eq_true] at hc
      obtain ⟨c1, c2⟩ := hc
      have e2 := Option.some.inj e2
      obtain ⟨its, rv, pl, hz⟩ : ∃ its : List Value, Vals ys its ∧ (s.heap.IsList p its.toArray ∨ s.heap.IsTuple p its.toArray) ∧ ys.length ≤ sizeLine := by
        rcases q with q | q
        · obtain ⟨its, rv, pl, hz⟩ := I.list q
          exact ⟨its, rv, .inl pl.isList, hz⟩
        · obtain ⟨its, rv, pl, hz⟩ := I.tuple q
          exact ⟨its, rv, .inr pl, hz⟩
      rw [Vals.ref1 r]
      obtain ⟨bs, b1, b2, b3, b4⟩ := items_of (X := X) (h := s.heap) (fun p v u d e r rv => Dp.reads I d v u (dat_ok hs _ _ _ _ e r) rv) r1 rv e3
      obtain ⟨as, rd⟩ := reads_alls bs
      have m3 : bs.map (fun b => b.u) = its := b3
      have m4 : bs.map (fun b => b.d) = ds := b4
      rw [m3, m4] at rd
      have lb : bs.length = l0.length + 1 := by rw [← List.length_map (f := fun b => b.p), b1]; rfl
      have li : its.length = l0.length + 1 := by rw [← m3, List.length_map, lb]
      unfold ordOk at c1
      rw [Bool.and_eq_true, List.all_eq_true, List.all_eq_true] at c1
      rw [List.all_eq_true] at c2
      have al : AlikeAll ds := ⟨fun d hd d' hd' => List.all_eq_true.mp (c1.1 d hd) d' hd', fun d hd z => by
        subst z
        exact absurd (c2 _ hd) (by decide)⟩
      have dep : ∀ zs : List PyData, (∀ d ∈ zs, d.depth ≤ 60) → PyData.depthAll zs ≤ 60 := by
        intro zs
        induction zs with
        | nil => intro _; exact Nat.zero_le _
        | cons z zs ih =>
          intro h
          show max z.depth (PyData.depthAll zs) ≤ 60
          exact Nat.max_le.mpr ⟨h z (List.mem_cons_self ..), ih fun d hd => h d (List.mem_cons_of_mem _ hd)⟩
      have dz : PyData.depthAll ds ≤ 60 := dep ds fun d hd => of_decide_eq_true (c1.2 d hd)
      have fin : ∀ (bt : Nat → Nat → Bool), (∀ i j, bt i j = (if mx = true then PySem.W.dataLt (ds.getD j .none) (ds.getD i .none) else PySem.W.dataLt (ds.getD i .none) (ds.getD j .none))) → ∀ (v : Value) (s' : Shared), its.toArray[argBest bt (its.toArray.size - 1)]? = some v → (∃ h' tk, s' = { s with heap := h', toks := tk } ∧ ∀ b o, s.heap.get? b = some o → h'.get? b = some o) → EP X pins σ Q v s' := by
        rintro bt hbt v s' hv ⟨h', tk, rfl, hk⟩
        rw [List.size_toArray, li, Nat.add_sub_cancel, List.getElem?_toArray] at hv
        have hp := best_at e3 bt hbt
        rw [e2] at hp
        rw [← b1, List.getElem?_map, Option.map_eq_some_iff] at hp
        obtain ⟨b, hb, rfl⟩ := hp
        rw [← m3, List.getElem?_map, hb] at hv
        cases hv
        exact ⟨b.v, H, I.kept hk, b.rv, fin_v hs b.r k⟩
      have rdA : ReadsAll s.heap its.toArray.toList ds as := by simpa using rd
      cases mx with
      | false =>
        refine call_min_walkH ?_
        rcases pl with pl | pl
        · refine iter_listW (A := X.A.in1) (I.ok.hd hcalm) pl fun s₂ e W st hfp hw hk => ?_
          refine ⟨_, _, _, _, _, _, _, s.heap, _, rfl, W, st, hfp, by rw [List.size_toArray]; omega, hw, hk, cmpIn_lt (A := X.A.in1) rdA al (by show X.A.units + 1 + _ < _; omega), fun v s' hP m => ?_⟩
          exact fin _ (fun i j => rfl) v s' hP (moved_old e rfl m)
        · refine iter_tupleW (A := X.A.in1) (I.ok.hd hcalm) pl fun s₂ e W st hfp hw hk => ?_
          refine ⟨_, _, _, _, _, _, _, s.heap, _, rfl, W, st, hfp, by rw [List.size_toArray]; omega, hw, hk, cmpIn_lt (A := X.A.in1) rdA al (by show X.A.units + 1 + _ < _; omega), fun v s' hP m => ?_⟩
          exact fin _ (fun i j => rfl) v s' hP (moved_old e rfl m)
      | true =>
        refine call_max_walkH ?_
        rcases pl with pl | pl
        · refine iter_listW (A := X.A.in1) (I.ok.hd hcalm) pl fun s₂ e W st hfp hw hk => ?_
          refine ⟨_, _, _, _, _, _, _, s.heap, _, rfl, W, st, hfp, by rw [List.size_toArray]; omega, hw, hk, cmpIn_gt (A := X.A.in1) rdA al (by show X.A.units + 1 + _ < _; omega), fun v s' hP m => ?_⟩
          exact fin _ (fun i j => rfl) v s' hP (moved_old e rfl m)
        · refine iter_tupleW (A := X.A.in1) (I.ok.hd hcalm) pl fun s₂ e W st hfp hw hk => ?_
          refine ⟨_, _, _, _, _, _, _, s.heap, _, rfl, W, st, hfp, by rw [List.size_toArray]; omega, hw, hk, cmpIn_gt (A := X.A.in1) rdA al (by show X.A.units + 1 + _ < _; omega), fun v s' hP m => ?_⟩
          exact fin _ (fun i j => rfl) v s' hP (moved_old e rfl m)
    · cases e2
  · cases e2
theorem f1_minL (o : On G sg X T E W) : CallR X (.builtin "min") (rF1 T fun S a => fn1 E.gd S .minL a) := f1_best o false
theorem f1_maxL (o : On G sg X T E W) : CallR X (.builtin "max") (rF1 T fun S a => fn1 E.gd S .maxL a) := f1_best o true
end
end EV
/-! The E layer: a dict as data. -/
namespace EV
open PySem PySem.Spec L2
open PyProof.Rows hiding St
section
variable {T : TX} {ρ : List Addr} {H : Hp} {h : Heap} {P : Program} {w : World}
theorem sc_reads {p : PV} {d : PyData} {v : V} {u : Value} (e : dat [] 0 p = some d) (r : Rep T ρ H p v) (ru : RelV v u) : Reads h u d [] := by
  cases p with
  | non => cases e; unfold Rep at r; subst r; cases ru; exact .none
  | bl b => cases e; unfold Rep at r; subst r; cases ru; exact .bool _
  | int i => cases e; unfold Rep at r; subst r; obtain ⟨t, rfl⟩ := ru; exact .int _ _
  | str x => cases e; unfold Rep at r; subst r; obtain ⟨t, rfl⟩ := ru; exact .str _ _
  | _ => cases e
theorem key_reads {k : Key} {u : Value} (e : keyIs k u = true) : Reads h u (keyD k) [] := by
  rcases keyIs_shape e with ⟨i, t, rfl, rfl⟩ | ⟨x, t, rfl, rfl⟩
  · exact .int _ _
  · exact .str _ _
theorem items_reads {ks : List Key} {us : List Value} (e : ItemsAre (mixKind P w) ks us) : ReadsAll h us (ks.map keyD) [] := by
  induction e with
  | nil => exact .nil
  | cons a _ ih => exact .cons (key_reads a) ih
theorem kvs_reads {kvs : List (Key × PV)} {ks : List (Key × V)} (r : RepK T ρ H kvs ks) : ∀ {vs : List (Key × Value)} {es : List DictEntry} {ds : List (PyData × PyData)}, KV ks vs → Pairs (mixKind P w) es vs → kvsD keyD kvs = some ds →
    ReadsAll h (es.map (·.key)) (ds.map (·.1)) [] ∧ ReadsAll h (es.map (·.val)) (ds.map (·.2)) [] := by
  refine RepK.ind (P := fun kvs ks => ∀ {vs : List (Key × Value)} {es : List DictEntry} {ds : List (PyData × PyData)}, KV ks vs → Pairs (mixKind P w) es vs → kvsD keyD kvs = some ds →
    ReadsAll h (es.map (·.key)) (ds.map (·.1)) [] ∧ ReadsAll h (es.map (·.val)) (ds.map (·.2)) []) ?_ ?_ r
  · intro vs es ds a b e
    cases a
    cases b
    cases e
    exact ⟨.nil, .nil⟩
  · intro k p v kvs ks rp _ ih vs es ds a b e
    cases a with
    | cons a1 a2 =>
      cases b with
      | cons b1 b2 b3 =>
        simp only [kvsD] at e
        split at e
        · rename_i d dr e1 e2
          cases e
          obtain ⟨i1, i2⟩ := ih a2 b3 e2
          refine ⟨.cons (key_reads ?_) i1, .cons (sc_reads e1 rp ?_) i2⟩
          · rw [← a1.1] at b1
            exact b1
          · dsimp only
            rw [b2]
            exact a1.2
        · cases e
theorem kvt_reads {kvs : List (List Key × PV)} {ks : List (List Key × V)} (ok : HOk P w H h) (r : RepK T ρ H kvs ks) : ∀ {xs : List (List Key × Addr × Value)} {ds : List (PyData × PyData)}, KT H ks xs → kvsD (fun k => .tuple (k.map keyD)) kvs = some ds →
    ReadsAll h (xs.map fun x => .ref x.2.1) (ds.map (·.1)) [] ∧ ReadsAll h (xs.map fun x => x.2.2) (ds.map (·.2)) [] := by
  refine RepK.ind (P := fun kvs ks => ∀ {xs : List (List Key × Addr × Value)} {ds : List (PyData × PyData)}, KT H ks xs → kvsD (fun k => .tuple (k.map keyD)) kvs = some ds →
    ReadsAll h (xs.map fun x => .ref x.2.1) (ds.map (·.1)) [] ∧ ReadsAll h (xs.map fun x => x.2.2) (ds.map (·.2)) []) ?_ ?_ r
  · intro xs ds a e
    cases a
    cases e
    exact ⟨.nil, .nil⟩
  · intro k p v kvs ks rp _ ih xs ds a e
    cases a with
    | cons a1 a2 =>
      simp only [kvsD] at e
      split at e
      · rename_i d dr e1 e2
        cases e
        obtain ⟨i1, i2⟩ := ih a2 e2
        obtain ⟨o, its, n, h1, h2, h3, h4⟩ := key_of (P := P) (w := w) ok a1.2.1
        exact ⟨.cons (.tuple h1 h2 h3 (items_reads h4)) i1, .cons (sc_reads e1 rp a1.2.2) i2⟩
      · cases e
/-- a dict in hand, read -/
theorem dct_reads {X : Cx} {pins : List (Addr × Obj)} {σ : St} {s : Shared} {S : Store} {a : AV} {v : V} {u : Value} {d : PyData} {H0 : Hp} (I : L2.Inv X pins σ H s) (hs : SRep T ρ H S) (ra : RepA T H0 ρ H a v) (ru : RelV v u) (e : dctD S a = some d) :
    ∃ p as, u = .ref p ∧ Reads s.heap u d as ∧ sysModules ∉ as := by
  unfold dctD at e
  split at e
  · rename_i l hl
    obtain ⟨ds, e1, rfl⟩ := Option.map_eq_some_iff.mp e
    obtain ⟨p, ks, rfl, q, r⟩ := dkOf_ok hs ra hl
    obtain rfl : u = .ref p := ru
    obtain ⟨_, hd, vs, rel, o, es, ep, ho, hx, hdt, _, pr, _⟩ := dk_of I.hok q
    obtain ⟨r1, r2⟩ := kvs_reads (h := s.heap) r rel pr e1
    exact ⟨p, _, rfl, .dict ho hx.1 hdt r1 r2, by simpa using fun z => (beq_eq_false_iff_ne.mp hd) z.symm⟩
  · split at e
    · rename_i l hl
      obtain ⟨ds, e1, rfl⟩ := Option.map_eq_some_iff.mp e
      obtain ⟨p, ks, rfl, q, r⟩ := dtOf_ok hs ra hl
      obtain rfl : u = .ref p := ru
      obtain ⟨_, hd, xs, rel, o, es, ep, ho, hx, hdt, he, _, _⟩ := dt_of I.hok q
      obtain ⟨r1, r2⟩ := kvt_reads I.hok r rel e1
      refine ⟨p, _, rfl, .dict ho hx.1 hdt (by rw [he, List.map_map]; exact r1) (by rw [he, List.map_map]; exact r2), by simpa using fun z => (beq_eq_false_iff_ne.mp hd) z.symm⟩
    · cases e
end
end EV
/-! The E layer, part L: calls of built-ins, of methods, of defs. -/
namespace EV
open PySem PySem.Spec L2
open PyProof.Rows hiding St

section
variable {G : Gn} {sg : Sg} {X : Cx} {T : TX} {E : Ev} {W : WX} {pos p : Pos} {a b c : Expr} {ma mb mc : EV.Env → Store → Res AV}
theorem repA_str {ρ : List Addr} {H0 H : Hp} {c : Str} : RepA T H0 ρ H (.v (.str c)) (.str c) := show Rep T ρ H (.str c) (.str c) from rep_str
theorem f1_repr' {gd : Bool} (hK : X.K = T.K) (hg : gd = true → X.A.guards = some []) (hun : X.A.units + 80 < cLine) : CallR X (.builtin "repr") (rF1 T fun S a => fn1 gd S .repr a) := by
  have big2 : (1000000 : Nat) ≤ sizeLine := big_line
  rintro pins s σ H xs us Q I r ⟨ρ, S, a, c, x, H0, rfl, hs, ra, e, k⟩
  obtain ⟨K, fa, ca, fl, tabs⟩ := T
  obtain rfl : X.K = K := hK
  simp only [fn1, Option.map_eq_some_iff] at e
  obtain ⟨z, e, rfl⟩ := e
  unfold reprA at e
  split at e
  · rename_i d hd
    split at e
    · rename_i hc
      cases e
      simp only [Bool.and_eq_true, Bool.or_eq_true, Bool.not_eq_true', decide_eq_true_eq] at hc
      obtain ⟨⟨⟨h1, h2⟩, h3, h4⟩, h5⟩ := hc
      obtain ⟨u, rfl, ru⟩ := Vals.one r
      have D := datA_ok hs hd ra
      obtain ⟨as, R⟩ := Dp.reads I d x u D ru
      have fin : ∀ (t : Tok) (s' : Shared), L2.Inv X pins σ H s' → EP X pins σ Q (.str d.shown t) s' := fun t s' I' => ⟨.str d.shown, H, I', ⟨_, rfl⟩, fin_v hs rep_str k⟩
      have seq : ∀ b, u = Value.ref b → isSeqD d = true → wpAny (model X.prog X.w) X.A (call (.builtin "repr") [u]) (EP X pins σ Q) X.xe s := fun b e hq => by
        subst e
        have hgd : X.A.guards = some [] := hg (by rcases h5 with h5 | h5; exact h5; rw [hq] at h5; cases h5)
        exact repr_of_reads' R h1 (PyData.noDict_hsm h2) hgd (by omega) (fun _ _ q => q) (fun h' u tk hk => fin _ _ (I.kept hk)) (by omega)
      cases d with
      | none => cases R; exact P.repr_of_none (fin _ _ (I.tok _))
      | bool b => cases R; exact P.repr_of_bool (fin _ _ (I.tok _))
      | int i => cases R; exact P.repr_of_int (by simpa [PyData.showable] using h1) (fin _ _ (I.tok _))
      | str z => cases R; exact P.repr_of_str (fin _ _ (I.tok _)) (Nat.le_trans h3 big2)
      | list l => cases R; exact seq _ rfl rfl
      | tuple l => cases R; exact seq _ rfl rfl
      | dict l => cases D
    · cases e
  · split at e
    · rename_i d hd
      split at e
      · rename_i hc
        cases e
        simp only [Bool.and_eq_true, decide_eq_true_eq] at hc
        obtain ⟨hgd, h1, h3, h4⟩ := hc
        obtain ⟨u, rfl, ru⟩ := Vals.one r
        obtain ⟨b, as, rfl, R, hno⟩ := dct_reads I hs ra ru hd
        exact repr_of_reads' R h1 (fun _ => hno) (hg hgd) (by omega) (fun _ _ q => q) (fun h' u tk hk => ⟨.str d.shown, H, I.kept hk, ⟨_, rfl⟩, fin_v hs rep_str k⟩) (by omega)
      · cases e
    · cases e

theorem f1_repr (o : On G sg X T E W) : CallR X (.builtin "repr") (rF1 T fun S a => fn1 E.gd S .repr a) := f1_repr' o.K o.gd o.un
/-- the name and the value of a built-in function -/
def bfN : BF → Str
  | .len => "len" | .abs => "abs" | .max2 => "max" | .min2 => "min" | .int => "int" | .all => "all" | .any => "any" | .sum => "sum" | .sorted => "sorted"
  | .tuple => "tuple" | .tupS => "tuple" | .list => "list" | .maxL => "max" | .minL => "min" | .repr => "repr" | .isi _ => "isinstance"
/-- the ones that take one value and are in hand -/
def bf1 : BF → Bool
  | .len => true | .abs => true | .int => true | .all => true | .any => true | .sum => true | .sorted => true | .tuple => true | .tupS => true | .list => true | .repr => true | .maxL => true | .minL => true
  | _ => false
theorem f1_call (o : On G sg X T E W) (f : BF) (hf : bf1 f = true) : (∃ id, bootBuiltins (bfN f) = some (.builtin id) ∧ CallR X (.builtin id) (rF1 T fun S a => fn1 E.gd S f a)) ∨ ∃ id, bootBuiltins (bfN f) = some (.type id) ∧ CallR X (.type id) (rF1 T fun S a => fn1 E.gd S f a) := by
  cases f <;> try cases hf
  · exact .inl ⟨"len", by kernel_rfl, f1_len o.K⟩
  · exact .inl ⟨"abs", by kernel_rfl, f1_abs⟩
  · exact .inr ⟨"int", by kernel_rfl, f1_int⟩
  · exact .inl ⟨"all", by kernel_rfl, f1_all o.K o.calm⟩
  · exact .inl ⟨"any", by kernel_rfl, f1_any o.K o.calm⟩
  · exact .inl ⟨"sum", by kernel_rfl, f1_sum o.K o.calm⟩
  · exact .inl ⟨"sorted", by kernel_rfl, f1_sorted o⟩
  · exact .inr ⟨"tuple", by kernel_rfl, f1_tuple o.K⟩
  · exact .inr ⟨"tuple", by kernel_rfl, f1_tupS o.K⟩
  · exact .inr ⟨"list", by kernel_rfl, f1_list o.K⟩
  · exact .inl ⟨"max", by kernel_rfl, f1_maxL o⟩
  · exact .inl ⟨"min", by kernel_rfl, f1_minL o⟩
  · exact .inl ⟨"repr", by kernel_rfl, f1_repr o⟩
abbrev mF1 (gd : Bool) (f : BF) (ma : EV.Env → Store → Res AV) : EV.Env → Store → Res AV := fun env S => (ma env S).bind fun x S => orBad S (fn1 gd S f x)
theorem bfN_ok (f : BF) : bfN f ≠ "__name__" ∧ (bfN f == ("__debug__" : Str)) = false := by cases f <;> first | exact ⟨by decide, by decide⟩ | (rename_i t; cases t <;> exact ⟨by decide, by decide⟩)
theorem bfN_mem (f : BF) : bfN f ∈ (["len", "abs", "max", "min", "int", "all", "any", "sum", "sorted", "tuple", "list", "repr", "isinstance", "range", "enumerate", "zip", "bool", "str", "dict"] : List Str) := by cases f <;> first | decide | (rename_i t; cases t <;> decide)
theorem e_bf1 (o : On G sg X T E W) (f : BF) (hf : bf1 f = true) (hv : sg.gl (bfN f) = true) (ha : PE X a (tE T W ma)) (hn : noStar a = true) : PE X (.Call (.Name (bfN f) p) [a] [] pos) (tE T W (mF1 E.gd f ma)) := by
  have hA : PA X [a] (tCons (tE T W ma) tNil) := pa_cons ha pa_nil (star_of hn [] _)
  have rd : ∀ σ H Q, tE T W (mF1 E.gd f ma) σ H Q → tCB (rF1 T fun S a => fn1 E.gd S f a) (tCons (tE T W ma) tNil) σ H Q := by
    intro σ H Q h
    refine tM.imp (tM.bind (R1 := RA T) good_A h) ?_
    rintro x H1 ⟨a, ρ, ρ1, S1, env, st, hs1, he1, rx, k⟩
    obtain ⟨c, e, k2⟩ := orBad_ok k
    exact ⟨ρ1, S1, a, c, x, H, rfl, hs1, rx, e, k2⟩
  rcases f1_call o f hf with ⟨id, hb, hc⟩ | ⟨id, hb, hc⟩
  · exact pe_imp (pe_callB hc (o.gl hv) (o.blt _ (bfN_mem f)) hb hA (bfN_ok f).1 (bfN_ok f).2 (star_of hn [] _) rfl) rd
  · exact pe_imp (pe_callTy hc (o.gl hv) (o.blt _ (bfN_mem f)) hb hA (bfN_ok f).1 (bfN_ok f).2 (star_of hn [] _) rfl) rd
def bf2 : BF → Bool
  | .max2 => true | .min2 => true
  | _ => false
abbrev mF2 (f : BF) (ma mb : EV.Env → Store → Res AV) : EV.Env → Store → Res AV := fun env S => (ma env S).bind fun x S => (mb env S).bind fun y S => orBad S (fn2 S f x y)
theorem e_bf2 (o : On G sg X T E W) (f : BF) (hf : bf2 f = true) (hv : sg.gl (bfN f) = true) (ha : PE X a (tE T W ma)) (hb : PE X b (tE T W mb)) (hn : noStar a = true) (hn2 : noStar b = true) :
    PE X (.Call (.Name (bfN f) p) [a, b] [] pos) (tE T W (mF2 f ma mb)) := by
  have hA : PA X [a, b] (tCons (tE T W ma) (tCons (tE T W mb) tNil)) := pa_cons ha (pa_cons hb pa_nil (star_of hn2 [] _)) (star_of hn _ _)
  have rd : ∀ σ H Q, tE T W (mF2 f ma mb) σ H Q → tCB (rF2 T fun S a b => fn2 S f a b) (tCons (tE T W ma) (tCons (tE T W mb) tNil)) σ H Q := by
    intro σ H Q h
    refine tM.imp (tM.bind (R1 := RA T) good_A h) ?_
    rintro x H1 ⟨a, ρ, ρ1, S1, env, st, hs1, he1, rx, k⟩
    refine tM.of hs1 he1 ((Fin.bind (R1 := RA T) good_A k).imp ?_)
    rintro y H2 ⟨b, ρ2, S2, st2, hs2, ry, k2⟩
    obtain ⟨c, e, k3⟩ := orBad_ok k2
    exact ⟨ρ2, S2, a, b, c, x, y, H, rfl, hs2, rx.step st2, ry.since st st2, e, k3⟩
  have hpl : (backTo pos (starEach [b] X.env)).any (·.1) = false := by rw [star_of hn2]; rfl
  cases f <;> try cases hf
  · exact pe_imp (pe_callB (f2_max o.calm) (o.gl hv) (o.blt _ (bfN_mem .max2)) (by kernel_rfl) hA (bfN_ok .max2).1 (bfN_ok .max2).2 (star_of hn _ _) hpl) rd
  · exact pe_imp (pe_callB (f2_min o.calm) (o.gl hv) (o.blt _ (bfN_mem .min2)) (by kernel_rfl) hA (bfN_ok .min2).1 (bfN_ok .min2).2 (star_of hn _ _) hpl) rd
/-! ### isinstance -/
theorem tyB (t : Ty) : bootBuiltins (Str.ofString (tyN t)) = some (.type (tyN t)) := by cases t <;> kernel_rfl
theorem tyB_ok (t : Ty) : Str.ofString (tyN t) ≠ "__name__" ∧ (Str.ofString (tyN t) == ("__debug__" : Str)) = false := by cases t <;> exact ⟨by decide, by decide⟩
theorem tyB_mem (t : Ty) : Str.ofString (tyN t) ∈ (["len", "abs", "max", "min", "int", "all", "any", "sum", "sorted", "tuple", "list", "repr", "isinstance", "range", "enumerate", "zip", "bool", "str", "dict"] : List Str) := by cases t <;> decide
theorem e_isi (o : On G sg X T E W) (t : Ty) {p2 : Pos} (hv : sg.gl "isinstance" = true) (hv2 : sg.gl (Str.ofString (tyN t)) = true) (ha : PE X a (tE T W ma)) (hn : noStar a = true) :
    PE X (.Call (.Name "isinstance" p) [a, .Name (Str.ofString (tyN t)) p2] [] pos) (tE T W (mF1 E.gd (.isi t) ma)) := by
  have hb : PE X (.Name (Str.ofString (tyN t)) p2) (tC (.ty (tyN t))) := pe_bltn (o.gl hv2) (o.blt _ (tyB_mem t)) (tyB t) rfl (tyB_ok t).1 (tyB_ok t).2
  have hA : PA X [a, .Name (Str.ofString (tyN t)) p2] (tCons (tE T W ma) (tCons (tC (.ty (tyN t))) tNil)) := pa_cons ha (pa_cons hb pa_nil) (star_of hn _ _)
  refine pe_imp (pe_callB (isi_r o.K t) (o.gl hv) (o.blt _ (bfN_mem (.isi t))) (by kernel_rfl) hA (by decide) (by decide) (star_of hn _ _) rfl) ?_
  intro σ H Q h
  refine tM.imp (tM.bind (R1 := RA T) good_A h) ?_
  rintro x H1 ⟨a, ρ, ρ1, S1, env, st, hs1, he1, rx, k⟩
  obtain ⟨c, e, k2⟩ := orBad_ok k
  simp only [fn1, Option.map_eq_some_iff] at e
  obtain ⟨d, e, rfl⟩ := e
  exact ⟨ρ1, S1, a, d, x, H, rfl, hs1, rx, e, k2 ρ1 H1 _ Step.refl hs1 repA_bl⟩
/-! ### methods -/
def mfN : MF → Str
  | .append => "append" | .pop => "pop" | .popAt => "pop" | .extend => "extend" | .update => "update" | .index => "index" | .indexL => "index" | .indexT => "index" | .indexU => "index" | .countT => "count" | .get1 => "get" | .get2 => "get" | .bits => "bit_length"
def mfT : MF → String
  | .update => "dict" | .get1 => "dict" | .get2 => "dict" | .bits => "int" | _ => "list"
def mfOk : MF → Bool
  | .index => false
  | .indexT => false
  | .indexU => false
  | .countT => false
  | _ => true
abbrev mMt (m : MF) (mo : EV.Env → Store → Res AV) (mas : EV.Env → Store → Res (List AV)) : EV.Env → Store → Res AV := fun env S => (mo env S).bind fun x S => if recv S m x = true then ((mas env S).bind fun l S => match mth S m x l with
    | some (a, S) => .ok a S
    | none => .bad) else .bad
theorem recv_ok {S : Store} {m : MF} {a : AV} {ρ : List Addr} {H0 H : Hp} {x : V} (hK : X.K = T.K) (hs : SRep T ρ H S) (ra : RepA T H0 ρ H a x) (hm : mfOk m = true) (h : recv S m a = true) : tyV X.K (mfT m) x H := by
  obtain ⟨K, fa, ca, fl, tabs⟩ := T
  obtain rfl : X.K = K := hK
  have lst : (lstOf S a).isSome = true → tyV X.K "list" x H := fun h => by
    obtain ⟨l, e⟩ := Option.isSome_iff_exists.mp h
    obtain ⟨b, xs, rfl, q, _⟩ := lstOf_ok hs ra e
    exact .inl ⟨rfl, xs, .inl (.inl q)⟩
  have dk : (dkOf S a).isSome = true → tyV X.K "dict" x H := fun h => by
    obtain ⟨l, e⟩ := Option.isSome_iff_exists.mp h
    obtain ⟨b, xs, rfl, q, _⟩ := dkOf_ok hs ra e
    exact .inr (.inr (.inl ⟨rfl, .inl ⟨xs, q⟩⟩))
  have dt : (dtOf S a).isSome = true → tyV X.K "dict" x H := fun h => by
    obtain ⟨l, e⟩ := Option.isSome_iff_exists.mp h
    obtain ⟨b, xs, rfl, q, _⟩ := dtOf_ok hs ra e
    exact .inr (.inr (.inl ⟨rfl, .inr ⟨xs, q⟩⟩))
  cases m <;> try cases hm
  all_goals simp only [recv, Bool.or_eq_true] at h
  · exact lst h
  · exact lst h
  · exact lst h
  · exact lst h
  · exact dk h
  · exact lst h
  · exact h.elim dk dt
  · exact h.elim dk dt
  · split at h
    · rename_i i
      have ra : x = .int i := ra
      subst ra
      exact rfl
    · cases h
theorem meth_call (o : On G sg X T E W) (m : MF) (hm : mfOk m = true) : ∃ id, PlainAttrs (mfT m) ∧ Slot (mfT m) (mfN m) id ∧ typeOf (.builtin id) = pure (.type "method_descriptor") ∧ MtR X id (rMt T m) := by
  have hu := o.un
  cases m <;> try cases hm
  · exact ⟨_, PySem.F.plainAttrs_list, PySem.F.slot_list_append, PySem.F.type_list_append, m_append⟩
  · exact ⟨_, PySem.F.plainAttrs_list, PySem.F.slot_list_pop, PySem.F.type_list_pop, m_pop⟩
  · exact ⟨_, PySem.F.plainAttrs_list, PySem.F.slot_list_pop, PySem.F.type_list_pop, m_popAt⟩
  · exact ⟨_, PySem.F.plainAttrs_list, PySem.F.slot_list_extend, PySem.F.type_list_extend, m_extend⟩
  · exact ⟨_, PySem.F.plainAttrs_dict, PySem.F.slot_dict_update, PySem.F.type_dict_update, m_update⟩
  · exact ⟨_, PySem.F.plainAttrs_list, PySem.F.slot_list_index, PySem.F.type_list_index, m_indexL o.K (by omega)⟩
  · exact ⟨_, PySem.F.plainAttrs_dict, PySem.F.slot_dict_get, PySem.F.type_dict_get, m_get1 (by omega)⟩
  · exact ⟨_, PySem.F.plainAttrs_dict, PySem.F.slot_dict_get, PySem.F.type_dict_get, m_get2 (by omega)⟩
  · exact ⟨_, PySem.F.plainAttrs_int, PySem.F.slot_int_bit_length, PySem.F.type_int_bit_length, m_bits⟩
theorem mt_rd (hK : X.K = T.K) (m : MF) (hm : mfOk m = true) {mas : EV.Env → Store → Res (List AV)} (σ : St) (H : Hp) (Q : VK) (h : tE T W (mMt m ma mas) σ H Q) : tBM X.K (mfT m) (rMt T m) (tE T W ma) (tV T W mas) σ H Q := by
  refine tM.imp (tM.bind (R1 := RA T) good_A h) ?_
  rintro x H1 ⟨a, ρ, ρ1, S1, env, st, hs1, he1, rx, k⟩
  split at k
  · rename_i hr
    refine ⟨recv_ok hK hs1 rx hm hr, ?_⟩
    refine tM.of hs1 he1 ((Fin.bind (R1 := RAs T) good_A k).imp ?_)
    rintro xs H2 ⟨l, ρ2, S2, st2, hs2, rl, k2⟩
    split at k2
    · rename_i c S3 e
      exact ⟨ρ2, S2, a, l, c, S3, H, hs2, rx.step st2, RepAs.since st st2 rl, e, k2⟩
    · exact False.elim k2
  · exact False.elim k
theorem e_mt0 (o : On G sg X T E W) (m : MF) (hm : mfOk m = true) {apos : Pos} (hb : noSuper a = true) (hl : (apos.endLine == pos.line) = true) (ha : PE X a (tE T W ma)) :
    PE X (.Call (.Attribute a (mfN m) apos) [] [] pos) (tE T W (mMt m ma fun _ S => .ok [] S)) := by
  obtain ⟨id, h1, h2, h3, h4⟩ := meth_call o m hm
  refine pe_imp (pe_bm0 h1 h2 h3 h4 ha (base_of hb _ _ _) hl) ?_
  intro σ H Q h
  have h := mt_rd o.K m hm σ H Q h
  refine tM.imp h ?_
  rintro x H1 ⟨q1, ρ, S, env, hs, he, k⟩
  exact ⟨q1, k ρ H1 [] Step.refl hs rfl⟩
theorem e_mt (o : On G sg X T E W) (m : MF) (hm : mfOk m = true) {apos : Pos} {es : List Expr} {mas : EV.Env → Store → Res (List AV)} (hb : noSuper a = true) (hl : (apos.endLine == pos.line) = true) (hs : (b :: es).all noStar = true) (h30 : (b :: es).length < 30)
    (ha : PE X a (tE T W ma)) (has : PA X (b :: es) (tV T W mas)) : PE X (.Call (.Attribute a (mfN m) apos) (b :: es) [] pos) (tE T W (mMt m ma mas)) := by
  obtain ⟨id, h1, h2, h3, h4⟩ := meth_call o m hm
  have hs2 := hs
  simp only [List.all_cons, Bool.and_eq_true] at hs2
  refine pe_imp (pe_bm h1 h2 h3 h4 ha has (base_of hb _ _ _) ?_ hl (star_of hs2.1 es _) (plains_of hs2.2 _ _)) (mt_rd o.K m hm)
  rw [plainsA_of hs]
  show (true && true && decide ((b :: es).length + 0 + (if ([] : List Keyword).isEmpty then 0 else 1) < 30)) = true
  simp only [Bool.true_and, List.isEmpty_nil, if_true, decide_eq_true_eq]
  omega
/-- a method of a tuple whose object is known -/
def tTm (K : PySem.W.Frag) (r : V → List V → Hp → VK → Prop) (to : TE) (t : TA) : TE := fun σ H Q => to σ H fun x H1 => (∃ p zs, x = .ref p ∧ SqR K H1 p zs) ∧ t σ H1 fun ys H2 => r x ys H2 Q
theorem pe_tm {oe e : Expr} {es : List Expr} {to : TE} {t : TA} {name : Str} {apos cpos : Pos} {id : String} {r : V → List V → Hp → VK → Prop} (slot : Slot "tuple" name id) (ty : typeOf (.builtin id) = pure (.type "method_descriptor")) (hm : MtR X id r) (ho : PE X oe to) (ha : PA X (e :: es) t)
    (hb : attributeBase oe name X.env (eval oe X.env) = eval oe X.env) (hf : ((backTo cpos (starEach (e :: es) X.env)).all (fun x => !x.1) && (backToKw cpos (keywordEach [] X.env)).all (fun x => x.1.isSome)
      && decide ((e :: es).length + ([] : List Keyword).length + (if ([] : List Keyword).isEmpty then 0 else 1) < 30)) = true) (hl : (apos.endLine == cpos.line) = true) (hs : starEach (e :: es) X.env = (false, eval e X.env) :: starEach es X.env) (hp : (backTo cpos (starEach es X.env)).any (·.1) = false) :
    PE X (.Call (.Attribute oe name apos) (e :: es) [] cpos) (tTm X.K r to t) := by
  refine ⟨fun pins s σ H Q I h => ?_⟩
  refine wpAny_Call_method_late hb hf hl rfl (thn (ho.run pins s σ H _ I h) fun v s1 ⟨x, H1, I1, r1, z, q1⟩ => ?_)
  obtain ⟨p, zs, rfl, sq⟩ := z
  cases r1
  obtain ⟨us, _, ⟨ob, go, f1, _⟩, _⟩ := I1.tuple sq.t
  have nd : ob.dict = none := by
    rcases sq with ⟨o, q, d⟩ | ⟨o, _, _, q, _, d, _⟩
    · have g : s1.heap.get? p = some o := (I1.hok p _ q).1
      rw [go] at g
      cases g
      exact d
    · have g := I1.kIn p o q
      rw [go] at g
      cases g
      exact d
  refine ⟨"tuple", id, PySem.F.plainAttrs_tuple, slot, ty, ⟨ob, go, f1⟩, fun a e2 => by cases e2; exact ⟨ob, go, nd⟩, ?_⟩
  have hA := ha.run cpos pins s1 σ H1 _ I1 q1
  rw [hs] at hA ⊢
  refine Calls.callWith_builtin (by show (false || (backTo cpos (starEach es X.env)).any (·.1)) = false; rw [hp]; rfl) (Calls.evalArgs_plain ?_)
  exact thn hA fun us s2 ⟨vs, H2, I2, r2, q2⟩ => hm pins s2 σ H2 (.ref p) vs (Value.ref p) us Q I2 rfl r2 q2
def mfTup : MF → Bool
  | .indexT => true
  | .indexU => true
  | .countT => true
  | _ => false
theorem e_tm (o : On G sg X T E W) (m : MF) (hm : mfTup m = true) {apos : Pos} {es : List Expr} {mas : EV.Env → Store → Res (List AV)} (hb : noSuper a = true) (hl : (apos.endLine == pos.line) = true) (hs : (b :: es).all noStar = true) (h30 : (b :: es).length < 30)
    (ha : PE X a (tE T W ma)) (has : PA X (b :: es) (tV T W mas)) : PE X (.Call (.Attribute a (mfN m) apos) (b :: es) [] pos) (tE T W (mMt m ma mas)) := by
  have hs2 := hs
  have hu := o.un
  simp only [List.all_cons, Bool.and_eq_true] at hs2
  have rc : ∀ S x, recv S m x = (rotOf x).isSome := fun S x => by cases m <;> first | rfl | cases hm
  obtain ⟨id, sl, ty, mt⟩ : ∃ id, Slot "tuple" (mfN m) id ∧ typeOf (.builtin id) = pure (.type "method_descriptor") ∧ MtR X id (rMt T m) := by
    cases m <;> try cases hm
    · exact ⟨_, PySem.F.slot_tuple_index, PySem.F.type_tuple_index, m_indexT o.K (by omega)⟩
    · exact ⟨_, PySem.F.slot_tuple_index, PySem.F.type_tuple_index, m_indexU o.K (by omega)⟩
    · exact ⟨_, PySem.F.slot_tuple_count, PySem.F.type_tuple_count, m_countT o.K (by omega)⟩
  refine pe_imp (pe_tm sl ty mt ha has (base_of hb _ _ _) ?_ hl (star_of hs2.1 es _) (plains_of hs2.2 _ _)) ?_
  · rw [plainsA_of hs]
    show (true && true && decide ((b :: es).length + 0 + (if ([] : List Keyword).isEmpty then 0 else 1) < 30)) = true
    simp only [Bool.true_and, List.isEmpty_nil, if_true, decide_eq_true_eq]
    omega
  · intro σ H Q h
    refine tM.imp (tM.bind (R1 := RA T) good_A h) ?_
    rintro x H1 ⟨a, ρ, ρ1, S1, env, st, hs1, he1, rx, k⟩
    split at k
    · rename_i hr
      rw [rc] at hr
      obtain ⟨l, e⟩ := Option.isSome_iff_exists.mp hr
      obtain ⟨p, zs, rfl, q, _⟩ := rotOf_ok rx e
      refine ⟨⟨p, zs, rfl, by rw [o.K]; exact q⟩, ?_⟩
      refine tM.of hs1 he1 ((Fin.bind (R1 := RAs T) good_A k).imp ?_)
      rintro ys H2 ⟨l2, ρ2, S2, st2, hs2, rl, k2⟩
      split at k2
      · rename_i c S3 e3
        exact ⟨ρ2, S2, a, l2, c, S3, H, hs2, rx.step st2, RepAs.since st st2 rl, e3, k2⟩
      · exact False.elim k2
    · exact False.elim k
/-- .index of a list or of a tuple, as it comes -/
theorem mt_idx {mas : EV.Env → Store → Res (List AV)} (env : EV.Env) (S : Store) : mMt .index ma mas env S = mMt .indexL ma mas env S ∨ mMt .index ma mas env S = mMt .indexT ma mas env S := by
  show (ma env S).bind _ = (ma env S).bind _ ∨ (ma env S).bind _ = (ma env S).bind _
  cases ma env S with
  | bad => exact .inl rfl
  | err e S => exact .inl rfl
  | ok x S1 =>
    cases h : rotOf x with
    | none =>
      refine .inl ?_
      have e1 : recv S1 .index x = recv S1 .indexL x := by
        show ((rotOf x).isSome || (lstOf S1 x).isSome) = (lstOf S1 x).isSome
        rw [h]; rfl
      have e2 : ∀ S2 l, mth S2 .index x l = mth S2 .indexL x l := fun S2 l => by
        show mIndex S2 (match rotOf x with | some l => some l | none => lstOf S2 x) l = mIndex S2 (lstOf S2 x) l
        rw [h]
      show (if recv S1 .index x = true then _ else _) = (if recv S1 .indexL x = true then _ else _)
      rw [e1]
      simp only [e2]
    | some z =>
      refine .inr ?_
      have e1 : recv S1 .index x = recv S1 .indexT x := by
        show ((rotOf x).isSome || (lstOf S1 x).isSome) = (rotOf x).isSome
        rw [h]; rfl
      have e2 : ∀ S2 l, mth S2 .index x l = mth S2 .indexT x l := fun S2 l => by
        show mIndex S2 (match rotOf x with | some l => some l | none => lstOf S2 x) l = mIndex S2 (rotOf x) l
        rw [h]
      show (if recv S1 .index x = true then _ else _) = (if recv S1 .indexT x = true then _ else _)
      rw [e1]
      simp only [e2]
theorem e_mtA (o : On G sg X T E W) (m : MF) {apos : Pos} {es : List Expr} {mas : EV.Env → Store → Res (List AV)} (hb : noSuper a = true) (hl : (apos.endLine == pos.line) = true) (hs : (b :: es).all noStar = true) (h30 : (b :: es).length < 30)
    (ha : PE X a (tE T W ma)) (has : PA X (b :: es) (tV T W mas)) : PE X (.Call (.Attribute a (mfN m) apos) (b :: es) [] pos) (tE T W (mMt m ma mas)) := by
  by_cases h1 : m = .index
  · subst h1
    refine ⟨fun pins s σ H Q I h => ?_⟩
    obtain ⟨ρ, S, env, hs0, he0, k⟩ := h
    rcases mt_idx (ma := ma) (mas := mas) env S with q | q
    · rw [q] at k
      exact (e_mt o .indexL rfl hb hl hs h30 ha has).run pins s σ H Q I ⟨ρ, S, env, hs0, he0, k⟩
    · rw [q] at k
      exact (e_tm o .indexT rfl hb hl hs h30 ha has).run pins s σ H Q I ⟨ρ, S, env, hs0, he0, k⟩
  · by_cases h2 : mfTup m = true
    · exact e_tm o m h2 hb hl hs h30 ha has
    · exact e_mt o m (by cases m <;> first | rfl | exact absurd rfl h1 | exact absurd rfl h2) hb hl hs h30 ha has
theorem reps_as {ρ : List Addr} {H0 H : Hp} : ∀ {l : List PV} {xs : List V}, Reps T ρ H l xs → RepAs T H0 ρ H (l.map AV.v) xs
  | [], xs, h => by unfold Reps at h; exact h
  | p :: l, xs, h => by
    unfold Reps at h
    obtain ⟨x, r, rfl, h1, h2⟩ := h
    exact ⟨x, r, rfl, h1, reps_as h2⟩
theorem laid_rd {m : EV.Env → Store → Res (List PV)} (σ : St) (H : Hp) (Q : List V → Hp → Prop) (h : tV T W (fun env S => (m env S).bind fun l S => .ok (l.map AV.v) S) σ H Q) : tP T W m σ H Q := by
  obtain ⟨ρ, S, env, hs, he, k⟩ := h
  refine ⟨ρ, S, env, hs, he, ?_⟩
  have k : Fin T (WE W σ) (RAs T) ρ H ((m env S).bind fun l S => .ok (l.map AV.v) S) Q := k
  cases e : m env S with
  | bad => rw [e] at k; exact k
  | err x S1 => rw [e] at k; exact k
  | ok l S1 =>
    rw [e] at k
    exact fun ρ1 H1 xs st hs1 r => k ρ1 H1 xs st hs1 (reps_as r)
theorem revL_rd (hK : X.K = T.K) (σ : St) (H : Hp) (Q : VK) (h : tE T W (fun env S => (ma env S).bind fun x S => orBad S ((lstOf S x).map fun l => AV.l l.reverse)) σ H Q) : tRevL X.K (tE T W ma) σ H Q := by
  refine tM.imp (tM.bind (R1 := RA T) good_A h) ?_
  rintro x H1 ⟨a, ρ, ρ1, S1, env, st, hs1, he1, rx, k⟩
  obtain ⟨K, fa, ca, fl, tabs⟩ := T
  obtain rfl : X.K = K := hK
  obtain ⟨c, e, k2⟩ := orBad_ok k
  simp only [Option.map_eq_some_iff] at e
  obtain ⟨l, e, rfl⟩ := e
  obtain ⟨b, ys, rfl, q, r⟩ := lstOf_ok hs1 rx e
  exact ⟨b, ys, rfl, .inl (.inl q), fun p n => fin_list hs1 r.rev k2 n⟩
/-! ### a def's call -/
abbrev mCall (E : Ev) (f : Nat) (mas : EV.Env → Store → Res (List PV)) : EV.Env → Store → Res AV := fun env S => (mas env S).bind fun l S => (E.call f l S).bind fun p S => .ok (.v p) S
theorem fin_call {W : XK} {ρ : List Addr} {H : Hp} {Q : VK} {r : Res PV} (h : Fin T W (RA T) ρ H (r.bind fun p S => .ok (.v p) S) Q) : Fin T W (RP T) ρ H r Q := by
  cases r with
  | bad => exact h
  | err e S => exact h
  | ok p S => exact h
end
end EV
/-! The E layer: t[::-1]. -/
namespace HT
open PySem PySem.Spec PyProof.Rows
section
variable {prog : Program} {w : World} {A : Around} {E : Value → Shared → Prop} {s : Shared}
theorem back_places (n : Nat) : Builtin.Slice.slicePlaces ((n : Int) - 1) (-1) (-1) = n := by
  unfold Builtin.Slice.slicePlaces
  have h1 : ¬ ((-1 : Int) > 0) := by omega
  simp only [h1, if_false]
  cases n with
  | zero => simp
  | succ n =>
    have : (-1 : Int) < ((n + 1 : Nat) : Int) - 1 := by omega
    simp
    omega
theorem fm_all {α β : Type} [Inhabited β] (f : α → Option β) : ∀ l : List α, (∀ m ∈ l, (f m).isSome = true) → l.filterMap f = l.map fun m => (f m).getD default
  | [], _ => rfl
  | a :: l, h => by
    obtain ⟨v, hv⟩ := Option.isSome_iff_exists.mp (h a List.mem_cons_self)
    rw [List.filterMap_cons_some hv, List.map_cons, fm_all f l fun m hm => h m (List.mem_cons_of_mem _ hm), hv]
    rfl
theorem back_pick (xs : Array Value) : ((List.range xs.size).filterMap fun (m : Nat) => xs[(((xs.size : Int) - 1) + (m : Int) * (-1)).toNat]?).toArray = xs.toList.reverse.toArray := by
  congr 1
  apply List.ext_getElem?
  intro i
  have e : (fun (m : Nat) => xs[(((xs.size : Int) - 1) + (m : Int) * (-1)).toNat]?) = fun m => xs[xs.size - 1 - m]? := by
    funext m
    have : (((xs.size : Int) - 1) + (m : Int) * (-1)).toNat = xs.size - 1 - m := by omega
    rw [this]
  rw [e]
  have all : ∀ m ∈ List.range xs.size, (xs[xs.size - 1 - m]?).isSome = true := fun m hm => by
    have := List.mem_range.mp hm
    rw [Array.getElem?_eq_getElem (by omega)]
    rfl
  have e2 : (List.range xs.size).filterMap (fun m => xs[xs.size - 1 - m]?) = (List.range xs.size).map fun m => (xs[xs.size - 1 - m]?).getD default := by
    exact fm_all _ _ all
  rw [e2, List.getElem?_map]
  by_cases hi : i < xs.size
  · rw [List.getElem?_range hi, List.getElem?_reverse (by simpa using hi)]
    have : xs.size - 1 - i < xs.size := by omega
    simp [this]
  · rw [List.getElem?_eq_none (by simpa using Nat.le_of_not_lt hi), List.getElem?_eq_none (by simpa using Nat.le_of_not_lt hi)]
    rfl
theorem back_applied {sl : Addr} {vs : Value} {n : Nat} {Q : Int × Int × Nat → Shared → Prop} (hs : s.heap.IsSliceOf sl .none .none vs) (ps : IsPart vs (some (-1))) (h : Q (((n : Int) - 1), -1, n) s) : wpAny (model prog w) A (Builtin.Slice.sliceApplied (.ref sl) (pure (n : Int))) Q E s := by
  obtain ⟨os, hos, hcs, hds⟩ := id hs
  unfold Builtin.Slice.sliceApplied Builtin.Slice.sliceFields
  refine wpAny_bind (wpAny_bind (wpAny_field hos hds (x := .none) rfl (wpAny_bind (wpAny_field hos hds (x := .none) rfl (wpAny_bind (wpAny_field hos hds (x := vs) rfl (wpAny_pure ?_)))))))
  refine wpAny_bind (slicePart_ ps ?_)
  show wpAny _ _ (if ((-1 : Int) == 0) = true then _ else _) _ _ s
  rw [if_neg (by decide)]
  refine wpAny_bind (slicePart_none (wpAny_bind (slicePart_none (wpAny_bind (wpAny_pure ?_)))))
  show wpAny _ _ (pure (((n : Int) - 1), (-1 : Int), Builtin.Slice.slicePlaces ((n : Int) - 1) (-1) (-1))) _ _ s
  rw [back_places]
  exact wpAny_pure h
theorem getItem_back {t sl : Addr} {items : Array Value} {vs : Value} {Q : Value → Shared → Prop} (ht : IsTup s.heap t items) (hs : s.heap.IsSliceOf sl .none .none vs) (ps : IsPart vs (some (-1)))
    (h : Q (.ref s.heap.objs.size) { s with heap := s.heap.push { cls := .type "tuple", data := .seq items.toList.reverse.toArray } }) (hsz : items.size ≤ sizeLine) : wpAny (model prog w) A (getItem (.ref t) (.ref sl)) Q E s := by
  have small : sizeOk (.seq items.toList.reverse.toArray) := by
    show items.toList.reverse.toArray.size ≤ sizeLine
    simpa using hsz
  obtain ⟨os, hos, hcs, hds⟩ := id hs
  have hTs : s.TypeIs (.ref sl) "slice" := ⟨os, hos, hcs⟩
  unfold getItem
  try with_reducible refine wpAny_holding ?_
  first | refine wpAny_bind (wpAny_pure ?_) | skip
  refine wpAny_bind (wpAny_sequenceKey ht.typeIs (by decide) (wpAny_bind (wpAny_callSpecial?_slot (name := Str.ofString "__getitem__") ht.typeIs PyProof.Rows.slot_tuple_getitem (wpAny_call_entry PyProof.Rows.slot_tuple_getitem ht.typeIs entry_tuple_getitem ?_ (args_tuple_getitem _ _)))))
  show wpAny _ _ (Builtin.Tuple.tupleItemsOf (.ref t) >>= _) _ _ s
  refine wpAny_bind (tupleItemsOf_ ht (wpAny_bind (wpAny_typeOf hTs ?_)))
  rw [if_pos (by decide)]
  refine wpAny_bind (back_applied hs ps ?_)
  show wpAny _ _ (if ((((items.size : Int) - 1) == 0 && (-1 : Int) == 1) && items.size == items.size) = true then _ else _) _ _ s
  rw [if_neg (by simp), back_pick]
  first
    | exact wpAny_bind (m := Builtin.Tuple.tupleExact _) (wpAny_newObj_type (wpAny_pure ⟨_, rfl, wpAny_pure h⟩) small)
    | exact wpAny_bind (m := Builtin.Tuple.tupleExact _) (wpAny_newObj_type (wpAny_bind (wpAny_pure (wpAny_pure ⟨_, rfl, wpAny_pure h⟩))) small)
    | exact wpAny_bind (wpAny_bind (m := Builtin.Tuple.tupleExact _) (wpAny_newObj_type (wpAny_pure (wpAny_pure ⟨_, rfl, wpAny_pure h⟩)) small))
    | exact wpAny_bind (wpAny_bind (m := Builtin.Tuple.tupleExact _) (wpAny_newObj_type (wpAny_pure ⟨_, rfl, wpAny_pure h⟩) small))
end
end HT
namespace EV
open PySem PySem.Spec L2
open PyProof.Rows hiding St
section
variable {X : Cx}
def tRevT (K : PySem.W.Frag) (te : TE) : TE := fun σ H Q => te σ H fun x H1 => ∃ a zs, x = .ref a ∧ SqT K H1 a zs ∧ ∀ p, H1 p = none → Q (.ref p) (upd H1 p (.tup zs.reverse))
theorem pe_revT {e : Expr} {te : TE} {k : Nat} {p1 p2 p3 pos : Pos} (he : PE X e te) : PE X (.Subscript e (.Slice none none (some (.UnaryOp .USub (.Constant (.int 1) k p1) p2)) p3) pos) (tRevT X.K te) := by
  refine ⟨fun pins s σ H Q I h => Subscript_ (thn (he.run pins s σ H _ I h) fun v s1 ⟨x, H1, I1, r1, a, zs, ex, sq, q⟩ => ?_)⟩
  subst ex
  cases r1
  have one : PO X (some (.UnaryOp .USub (.Constant (.int 1) k p1) p2)) (tPart (tUn (rU fun i => .int (-i)) (tC (.int 1)))) := po_some (pe_un un_neg pe_int)
  refine wpAny_Slice (thn (po_none.run pins s1 σ H1 (fun o H2 => o = none ∧ H2 = H1) I1 ⟨rfl, rfl⟩) fun vl s2 ⟨l, H2, I2, pl, el, e2⟩ => ?_)
  subst el e2
  refine thn (po_none.run pins s2 σ H2 (fun o H3 => o = none ∧ H3 = H2) I2 ⟨rfl, rfl⟩) fun vu s3 ⟨u, H3, I3, pu, eu, e3⟩ => ?_
  subst eu e3
  refine thn (one.run pins s3 σ H3 (fun o H4 => o = some (-1) ∧ H4 = H3) I3 ⟨1, rfl, -1, rfl, rfl, rfl⟩) fun vs s4 ⟨o, H4, I4, ps, eo, e4⟩ => ?_
  subst eo e4
  cases pl
  cases pu
  have I5 : Inv X pins σ H4 { s4 with heap := s4.heap.push { cls := .type "slice", data := .fields #[.none, .none, vs] } } := I4.kept (t' := s4.toks) fun b ob q => Heap.get?_push_of_some _ q
  obtain ⟨its, r, ht, hz⟩ := I5.tuple sq
  have len := r.length
  show wpAny (model X.prog X.w) X.A (subscriptTail e (.Slice none none (some (.UnaryOp .USub (.Constant (.int 1) k p1) p2)) p3) (.ref a) (.ref s4.heap.objs.size)) (EP X pins σ Q) X.xe { s4 with heap := s4.heap.push { cls := .type "slice", data := .fields #[.none, .none, vs] } }
  refine tail_any (ops := [.ref a, .ref s4.heap.objs.size]) ht.typeIs (PyProof.Rows.slot_tuple_getitem.lookup) ?_ (by with_unfolding_all rfl)
  refine HT.getItem_back ht (Heap.IsSliceOf.new _ .none .none vs) ps ?_ (by rw [List.size_toArray]; omega)
  have la := I5.laid (t' := s4.toks) (o := .tup zs.reverse) (h' := (s4.heap.push { cls := .type "slice", data := .fields #[.none, .none, vs] }).push { cls := .type "tuple", data := .seq its.toArray.toList.reverse.toArray }) (fun _ _ z => Heap.get?_push_of_some _ z) (Nat.le_refl _)
    ⟨by rw [List.length_reverse]; exact hz, its.reverse, r.reverse, IsTup.new _ _⟩
  exact ⟨.ref _, _, la, rfl, q _ (I5.hok.fresh (Nat.le_refl _))⟩
end
section
variable {G : Gn} {sg : Sg} {X : Cx} {T : TX} {E : Ev} {W : WX} {ma : EV.Env → Store → Res AV} {a : Expr} {pos : Pos}
/-- x[::-1] of a list or of a tuple, as it comes -/
abbrev mRev (ma : EV.Env → Store → Res AV) : EV.Env → Store → Res AV := fun env S => (ma env S).bind fun x S => orBad S (revA S x)
theorem revT_rd (hK : X.K = T.K) (σ : St) (H : Hp) (Q : VK) (h : tE T W (fun env S => (ma env S).bind fun x S => orBad S ((tupOf x).map fun l => AV.v (.tup l.reverse))) σ H Q) : tRevT X.K (tE T W ma) σ H Q := by
  refine tM.imp (tM.bind (R1 := RA T) good_A h) ?_
  rintro x H1 ⟨a, ρ, ρ1, S1, env, st, hs1, he1, rx, k⟩
  obtain ⟨c, e, k2⟩ := orBad_ok k
  simp only [Option.map_eq_some_iff] at e
  obtain ⟨l, e, rfl⟩ := e
  obtain ⟨p, zs, rfl, q, r⟩ := tupOf_ok rx e
  exact ⟨p, zs, rfl, by rw [hK]; exact q, fun p' n => fin_tup hs1 (r.rev) k2 n⟩
theorem e_rev (hK : X.K = T.K) {k : Nat} {p1 p2 p3 : Pos} (ha : PE X a (tE T W ma)) : PE X (.Subscript a (.Slice none none (some (.UnaryOp .USub (.Constant (.int 1) k p1) p2)) p3) pos) (tE T W (mRev ma)) := by
  refine ⟨fun pins s σ H Q I h => ?_⟩
  obtain ⟨ρ, S, env, hs0, he0, kk⟩ := h
  have two : mRev ma env S = ((ma env S).bind fun x S => orBad S ((lstOf S x).map fun l => AV.l l.reverse)) ∨ mRev ma env S = ((ma env S).bind fun x S => orBad S ((tupOf x).map fun l => AV.v (.tup l.reverse))) := by
    show (ma env S).bind _ = (ma env S).bind _ ∨ (ma env S).bind _ = (ma env S).bind _
    cases ma env S with
    | bad => exact .inl rfl
    | err e S => exact .inl rfl
    | ok x S1 =>
      cases q : tupOf x with
      | none =>
        refine .inl ?_
        show orBad S1 (revA S1 x) = orBad S1 _
        unfold revA
        rw [q]
      | some l =>
        refine .inr ?_
        show orBad S1 (revA S1 x) = orBad S1 ((tupOf x).map _)
        unfold revA
        rw [q]
        rfl
  rcases two with q | q
  · rw [q] at kk
    exact (pe_imp (pe_revL ha) (revL_rd hK)).run pins s σ H Q I ⟨ρ, S, env, hs0, he0, kk⟩
  · rw [q] at kk
    exact (pe_imp (pe_revT ha) (revT_rd hK)).run pins s σ H Q I ⟨ρ, S, env, hs0, he0, kk⟩
end
end EV
/-! The E layer, enumerate over a tuple. -/
namespace EVT
open PySem PySem.Spec
theorem new_enum {v : Value} {o : Obj} {P : Heap → Prop} (B : Begins v o P) :
    Meets (Builtin.«enumerate.__new__» ⟨[.type "enumerate", v], []⟩) (fun _ R s => P s.heap ∧
      R (.ok (.ret (.ref (s.heap.push o).objs.size))) { s with heap := (s.heap.push o).push { cls := .type "enumerate", data := .fields #[.none, .bool false, .ref s.heap.objs.size, rawInt 0, .none, .none] } }) :=
  .of_wp fun prog w A R s h => by
    obtain ⟨hp, g, d, tk, os⟩ := s
    obtain ⟨h1, h⟩ := h
    have sb := sub_enumerate
    have walk : ∀ {A' : Around} {E : Value → Shared → Prop} {Q : Value → Shared → Prop}, Q (.ref hp.objs.size) ⟨hp.push o, g, d, tk, os⟩ → wpAny (model prog w) A' (pyIter v) Q E ⟨hp, g, d, tk, os⟩ :=
      fun q => B.iter prog w _ _ ⟨hp, g, d, tk, os⟩ _ h1 q
    wp_walk using walk
    refine wpAny_stack_any fun st => wpAny_pure ?_
    split
    · rename_i c _ _ _ _ _
      cases (c == Value.type "enumerate") <;> (wp_walk using walk; exact ⟨_, rfl, h⟩)
    · wp_walk using walk
      exact ⟨_, rfl, h⟩
theorem call_enum {prog : Program} {w : World} {A : Around} {E : Value → Shared → Prop} {s : Shared} {v : Value} {o : Obj} {P : Heap → Prop} {Q : Value → Shared → Prop} (B : Begins v o P) (h1 : P s.heap)
    (h : ∀ h', IsEnum h' (s.heap.objs.size + 1) s.heap.objs.size 0 .none → h'.get? s.heap.objs.size = some o → (∀ b u, s.heap.get? b = some u → h'.get? b = some u) → Q (.ref (s.heap.objs.size + 1)) { s with heap := h' }) :
    wpAny (model prog w) A (call (.type "enumerate") [v]) Q E s := by
  refine callType_new F.called_enumerate (by decide) (F.typeCall_enumerate_1 _) (F.newCall_enumerate_1 _) (fun obj => F.args_object_init_2 obj _) F.entry_enumerate_new (new_enum B) ⟨h1, ?_⟩
  have sz : (s.heap.push o).objs.size = s.heap.objs.size + 1 := Heap.size_push ..
  have at1 := Heap.get?_push_size (s.heap.push o) (o := { cls := .type "enumerate", data := .fields #[.none, .bool false, .ref s.heap.objs.size, rawInt 0, .none, .none] }) rfl
  show _ ∧ _
  rw [sz] at at1 ⊢
  exact ⟨⟨_, at1, rfl⟩, h _ at1 (Heap.get?_push_of_some _ (Heap.get?_push_size _ B.free)) fun b u x => Heap.get?_push_of_some _ (Heap.get?_push_of_some _ x)⟩
end EVT
namespace EV
open PySem PySem.Spec L2
open PyProof.Rows hiding St
/-- the items of the tuple at a, each in a new pair -/
def IteT (K : PySem.W.Frag) (a : Addr) : L2.It :=
  ⟨fun i H => ∃ (xs : List V) (x : V), SqT K H a xs ∧ xs[i]? = some x,
    fun i H v H' => ∃ T x, v = .ref T ∧ H T = none ∧ H' = upd H T (.tup [.int (i : Nat), x]) ∧ ∀ xs, SqT K H a xs → xs[i]? = some x,
    fun i H => ∃ xs : List V, SqT K H a xs ∧ xs.length ≤ i⟩
theorem tup_ne {h : Heap} {a it : Addr} {its : Array Value} {i : Nat} (h1 : h.IsTuple a its) (h2 : h.IsTupleIter it a i) : a ≠ it := fun z => by
  subst z
  obtain ⟨o, e, c, n, d⟩ := h1
  obtain ⟨o2, e2, c2, d2⟩ := h2
  rw [e] at e2
  cases e2
  rw [c] at c2
  exact absurd c2 (by decide)
theorem turn_enumT {P : Program} {w : World} {K : PySem.W.Frag} {elts : List Expr} {kk : Nat} {tpos : Pos} (a e it : Addr) :
    Turn P w K (.Tuple elts kk tpos) (IteT K a) [e, it] e (fun i h => (∃ old, IsEnum h e it ((i : Nat) : Int) old) ∧ h.IsTupleIter it a i ∧ e ≠ it ∧ e ≠ a) where
  mem := List.mem_cons_self
  obj := fun i h st b hb => by
    obtain ⟨⟨old, he⟩, ⟨o, ho, hc, hd⟩, _⟩ := st
    rcases List.mem_cons.mp hb with rfl | hb
    · exact ⟨_, he, nofun⟩
    · obtain rfl := List.mem_singleton.mp hb
      exact ⟨o, ho, fun v q => by rw [hd] at q; cases q⟩
  keep := fun i h h' st k => by
    obtain ⟨⟨old, he⟩, hi, hne⟩ := st
    exact ⟨⟨old, k e List.mem_cons_self _ he⟩, hi.at fun o q => k it (by simp) o q, hne⟩
  item := by
    intro X hP hw hK hc i pins s σ H E I hf st hg
    subst hP hw hK
    obtain ⟨⟨old, he⟩, hit, hne, hea⟩ := st
    obtain ⟨xs, x, hq, hx⟩ := hg
    obtain ⟨its, rv, p, hz⟩ := I.tuple hq
    obtain ⟨u, hu, ru⟩ := rv.get hx
    have pT : s.heap.IsTuple a its.toArray := p
    have nai := tup_ne pT hit
    have il : i < its.toArray.size := by
      have := (List.getElem?_eq_some_iff.mp hu).1
      simpa using this
    have el : e < s.heap.objs.size := Heap.lt_size he
    have tl : it < s.heap.objs.size := by
      obtain ⟨_, q, _⟩ := hit
      exact Heap.lt_size q
    refine wpAny_pyNext_enum_itemD (Draws.tuple (show X.A.in1.handled = none from I.ok.hd hc) it a nai its.toArray) he ⟨hit, pT⟩ il hne (by simp [hne, hea]) fun y h' tk hy ho hst hT hsz hk => ?_
    have ey : y = u := by
      have hu' : its.toArray[i]? = some u := by simpa using hu
      rw [hy] at hu'
      exact Option.some.inj hu'
    subst ey
    refine ⟨_, rfl, wpAny_letOwnedTupleGo_enum (s := { s with heap := h', toks := tk + 1 }) ho fun h2 he2 sb => ?_⟩
    have at2 : h2.get? s.heap.objs.size = some { cls := .type "tuple", data := .seq #[.int i tk, y] } := (sb.2 _ (Nat.ne_of_gt el)).trans hT
    have new : ObjOk X.prog X.w (upd H s.heap.objs.size (.tup [.int (i : Nat), x])) h2 s.heap.objs.size (.tup [.int (i : Nat), x]) :=
      ⟨by show 2 ≤ sizeLine; decide, [.int i tk, y], .cons ⟨_, rfl⟩ (.cons ru .nil), ⟨_, at2, rfl, _, rfl⟩⟩
    have J := I.turnedNew (t' := tk + 1) (ch := [e, it]) (h' := h2) (fun b ob hb q => (sb.2 b (fun z => hb (by simp [z]))).trans (hk b ob (fun z => hb (by simp [z])) (fun z => hb (by simp [z])) q)) hf (Nat.le_refl _) new
    refine ⟨.ref s.heap.objs.size, _, J, rfl, ⟨_, x, rfl, I.hok.fresh (Nat.le_refl _), rfl, fun ys hy => by rw [I.tuple_inj hy hq]; exact hx⟩, ⟨⟨y, ?_⟩, hst.1.at fun o q => (sb.2 it (Ne.symm hne)).trans q, hne, hea⟩, fun b hb => ?_⟩
    · have e1 : ((i + 1 : Nat) : Int) = (i : Int) + 1 := by omega
      rw [e1]
      exact he2
    · have lt : b < s.heap.objs.size := by
        rcases List.mem_cons.mp hb with rfl | hb
        · exact el
        · obtain rfl := List.mem_singleton.mp hb
          exact tl
      rw [upd_ne (Nat.ne_of_lt lt)]
      exact (hf b hb).1
  done := by
    intro X hP hw hK hc i pins s σ H E I hf st hg
    subst hP hw hK
    obtain ⟨⟨old, he⟩, hit, hne, hea⟩ := st
    obtain ⟨xs, hq, hx⟩ := hg
    obtain ⟨its, rv, p, hz⟩ := I.tuple hq
    obtain ⟨f0, f1, f2, f3, f4, f5⟩ := hf it (by simp)
    have pT : s.heap.IsTuple a its.toArray := p
    have nai := tup_ne pT hit
    have hT : s.TypeIs (.ref e) "enumerate" := ⟨_, he, rfl⟩
    have hh : X.A.handled = none := I.ok.hd hc
    have hx : its.toArray[i]? = none := by
      have := rv.length
      simp
      omega
    unfold pyNext
    refine wpAny_bind (wpAny_attempt (wpAny_callSpecial?_slot (name := Str.ofString "__next__") hT F.slot_enumerate_next (wpAny_call_entry F.slot_enumerate_next hT F.entry_enumerate_next ?_ (F.args_enumerate_next_1 _))))
    show wpAny _ _ (field (.ref e) 2 >>= _) _ _ _
    refine wpAny_bind (wpAny_field he rfl (x := .ref it) rfl (wpAny_bind (wpAny_nextOf_tuple_end hh hit pT hx fun h' x he' hx' => ?_)))
    obtain ⟨o, ho, hc⟩ := hx'
    refine wpAny_bind (wpAny_isInstance (T := "StopIteration") (b := true) ⟨o, ho, hc⟩ isSubtype_stop (wpAny_pure ?_))
    exact ⟨rfl, I.turned (t' := s.toks) (fun b o hb q => he' b o hb q) f0 f1 f3 f4 f5⟩
  self := fun A i s Q E st h => by
    obtain ⟨⟨_, he⟩, _⟩ := st
    exact wpAny_pyIter_enum he h
section
variable {X : Cx} {e : Expr} {ta : TA} {p pos tpos : Pos} {elts : List Expr} {kk : Nat}
def iEnumA (K : PySem.W.Frag) (ta : TA) : TI := fun σ H R => ta σ H fun vs H1 => ∃ a, vs = [.ref a] ∧ (((∃ xs, SqL K H1 a xs) ∧ R (Ite K a) H1) ∨ ((∃ xs, SqT K H1 a xs) ∧ R (IteT K a) H1))
theorem pi_enumA (hg : Gl X "enumerate") (hm : X.mg "enumerate" = none) (ha : PA X [e] ta) (hs : starEach [e] X.env = [(false, eval e X.env)]) :
    PI X (.Tuple elts kk tpos) (.Call (.Name "enumerate" p) [e] [] pos) (iEnumA X.K ta) := by
  refine ⟨fun pins s σ H R I h => Call_ (ld_blt I hg hm boot_enumerate (callWith_type1 (thn (ha.run pos pins s σ H _ I h) fun us s1 ⟨vs, H1, I1, r1, a, ev, q1⟩ => ?_) hs rfl))⟩
  subst ev
  obtain ⟨u, rfl, ru⟩ := Vals.one r1
  obtain rfl : u = Value.ref a := ru
  have two : ∀ b ∈ [s1.heap.objs.size + 1, s1.heap.objs.size], FpOk X pins H1 b := fun b hb => by
    have le : s1.heap.objs.size ≤ b := by
      rcases List.mem_cons.mp hb with rfl | hb
      · exact Nat.le_add_right _ _
      · obtain rfl := List.mem_singleton.mp hb
        exact Nat.le_refl _
    exact I1.fpOk le (I1.hok.fresh le)
  rcases q1 with ⟨⟨xs, hq⟩, q⟩ | ⟨⟨xs, hq⟩, q⟩
  · obtain ⟨its, rv, p', hz⟩ := I1.list hq
    refine EVT.call_enum (begins_list a its.toArray) p'.isList fun h' he hit hk => wpAny_pyIter_enum he ?_
    have I2 : Inv X pins σ H1 { s1 with heap := h' } := I1.kept hk
    exact ⟨s1.heap.objs.size + 1, _, _, _, H1, rfl, I2, turn_enum a (s1.heap.objs.size + 1) s1.heap.objs.size, ⟨⟨.none, he⟩, ⟨_, hit, rfl, rfl⟩, Nat.succ_ne_self _⟩, two, q⟩
  · obtain ⟨its, rv, p', hz⟩ := I1.tuple hq
    have pT : s1.heap.IsTuple a its.toArray := p'
    refine EVT.call_enum (begins_tuple a its.toArray) pT fun h' he hit hk => wpAny_pyIter_enum he ?_
    have I2 : Inv X pins σ H1 { s1 with heap := h' } := I1.kept hk
    have al : a < s1.heap.objs.size := by
      obtain ⟨o, e, _⟩ := pT
      exact Heap.lt_size e
    have ne : s1.heap.objs.size + 1 ≠ a := Nat.ne_of_gt (Nat.lt_succ_of_lt al)
    exact ⟨s1.heap.objs.size + 1, _, _, _, H1, rfl, I2, turn_enumT a (s1.heap.objs.size + 1) s1.heap.objs.size, ⟨⟨.none, he⟩, ⟨_, hit, rfl, rfl⟩, Nat.succ_ne_self _, ne⟩, two, q⟩
end
end EV
/-! The E layer, part M: what is walked; targets. -/
namespace EV
open PySem PySem.Spec L2
open PyProof.Rows hiding St

/-- where a source's items lie: a tuple's (true), a list's -/
def SrcRel (T : TX) (ρ : List Addr) (H : Hp) (b : Bool) (a : Addr) : Src → Prop
  | .tup l => b = true ∧ ∃ xs, SqT T.K H a xs ∧ Reps T ρ H l xs
  | .fr l => b = false ∧ ∃ xs, (SqF T.K H a xs ∨ (a ∉ ρ ∧ H a = some (.lst xs))) ∧ Reps T ρ H l xs
  | .live n => b = false ∧ ρ[n]? = some a
def ItRel (T : TX) (ρ : List Addr) (H : Hp) (J : L2.It) : EV.It → Prop
  | .src s => ∃ a, (SrcRel T ρ H true a s ∧ J = Itt T.K a) ∨ (SrcRel T ρ H false a s ∧ J = Itl T.K a)
  | .rng lo n => J = Itr lo n
  | .enum s => ∃ a, (SrcRel T ρ H true a s ∧ J = IteT T.K a) ∨ (SrcRel T ρ H false a s ∧ J = Ite T.K a)
  | .zip s t => ∃ a b, (SrcRel T ρ H true a s ∧ SrcRel T ρ H true b t ∧ J = RZ.ItzT T.K a b) ∨ (SrcRel T ρ H false a s ∧ SrcRel T ρ H false b t ∧ J = Itz T.K a b)
section
variable {T : TX} {ρ ρ' : List Addr} {H H' : Hp} {S : Store} {J : L2.It}
theorem SrcRel.step {b : Bool} {a : Addr} {s : Src} (h : SrcRel T ρ H b a s) (st : Step ρ H ρ' H') : SrcRel T ρ' H' b a s := by
  cases s with
  | tup l => obtain ⟨e, xs, q, r⟩ := h; exact ⟨e, xs, st.sqt q, Reps.step st _ _ r⟩
  | fr l =>
    obtain ⟨e, xs, q, r⟩ := h
    refine ⟨e, xs, ?_, Reps.step st _ _ r⟩
    rcases q with q | ⟨n, q⟩
    · exact .inl (st.sqf q)
    · exact .inr ⟨st.out q n, st.fr a _ q n fun ps z => nomatch z⟩
  | live n => exact ⟨h.1, st.get h.2⟩
theorem ItRel.step {it : EV.It} (h : ItRel T ρ H J it) (st : Step ρ H ρ' H') : ItRel T ρ' H' J it := by
  cases it with
  | src s =>
    obtain ⟨a, h | h⟩ := h
    · exact ⟨a, .inl ⟨h.1.step st, h.2⟩⟩
    · exact ⟨a, .inr ⟨h.1.step st, h.2⟩⟩
  | rng lo n => exact h
  | enum s =>
    obtain ⟨a, h | h⟩ := h
    · exact ⟨a, .inl ⟨h.1.step st, h.2⟩⟩
    · exact ⟨a, .inr ⟨h.1.step st, h.2⟩⟩
  | zip s t =>
    obtain ⟨a, b, ⟨h1, h2, e⟩ | ⟨h1, h2, e⟩⟩ := h
    · exact ⟨a, b, .inl ⟨h1.step st, h2.step st, e⟩⟩
    · exact ⟨a, b, .inr ⟨h1.step st, h2.step st, e⟩⟩
theorem src_t {a : Addr} {s : Src} {i : Nat} {o : Option PV} (h : SrcRel T ρ H true a s) (e : srcAt S s i = some o) : ∃ xs l, SqT T.K H a xs ∧ Reps T ρ H l xs ∧ o = l[i]? := by
  cases s with
  | tup l => obtain ⟨_, xs, q, r⟩ := h; cases e; exact ⟨xs, l, q, r, rfl⟩
  | fr l => cases h.1
  | live n => cases h.1
theorem src_f {a : Addr} {s : Src} {i : Nat} {o : Option PV} (hs : SRep T ρ H S) (h : SrcRel T ρ H false a s) (e : srcAt S s i = some o) : ∃ xs l, SqL T.K H a xs ∧ Reps T ρ H l xs ∧ o = l[i]? := by
  cases s with
  | tup l => cases h.1
  | fr l =>
    obtain ⟨_, xs, q, r⟩ := h
    cases e
    refine ⟨xs, l, ?_, r, rfl⟩
    rcases q with q | q
    · exact q.l
    · exact .inl (.inl q.2)
  | live n =>
    simp only [srcAt, Option.map_eq_some_iff] at e
    obtain ⟨l, e, rfl⟩ := e
    have ra : RepA T H ρ H (.v (.loc n)) (.ref a) := by
      show Rep _ _ _ _ _
      unfold Rep
      exact ⟨a, h.2, rfl⟩
    obtain ⟨b, xs, z, q, r⟩ := listOf_ok hs ra e
    cases z
    exact ⟨xs, l, q, r, rfl⟩
theorem it_stop {it : EV.It} {i : Nat} (hs : SRep T ρ H S) (h : ItRel T ρ H J it) (e : itAt S it i = some none) : J.stop i H := by
  have none_le : ∀ {l : List PV} {xs : List V}, Reps T ρ H l xs → none = l[i]? → xs.length ≤ i := fun {l xs} r e => by
    rw [← r.length]
    exact List.getElem?_eq_none_iff.mp e.symm
  cases it with
  | src s =>
    obtain ⟨a, ⟨h, rfl⟩ | ⟨h, rfl⟩⟩ := h
    · obtain ⟨xs, l, q, r, z⟩ := src_t h e
      exact ⟨xs, q, none_le r z⟩
    · obtain ⟨xs, l, q, r, z⟩ := src_f hs h e
      exact ⟨xs, q, none_le r z⟩
  | rng lo n =>
    cases h
    simp only [itAt] at e
    split at e
    · cases e
    · show n ≤ i
      omega
  | enum s =>
    have e : (srcAt S s i).map (·.map fun p => PV.tup [.int i, p]) = some none := e
    have w : srcAt S s i = some none := by
      cases w : srcAt S s i with
      | none => rw [w] at e; cases e
      | some o =>
        rw [w] at e
        cases o with
        | some p => cases e
        | none => rfl
    obtain ⟨a, ⟨h, rfl⟩ | ⟨h, rfl⟩⟩ := h
    · obtain ⟨xs, l, q, r, z⟩ := src_t h w
      exact ⟨xs, q, none_le r z⟩
    · obtain ⟨xs, l, q, r, z⟩ := src_f hs h w
      exact ⟨xs, q, none_le r z⟩
  | zip s t =>
    have two : ∃ o p, srcAt S s i = some o ∧ srcAt S t i = some p ∧ (o = none ∨ p = none) := by
      simp only [itAt] at e
      split at e
      · cases e
      · rename_i o e1 e2; exact ⟨_, _, e1, e2, .inl rfl⟩
      · rename_i o e1 e2; exact ⟨_, _, e1, e2, .inr rfl⟩
      · cases e
    obtain ⟨o, p, e1, e2, z⟩ := two
    obtain ⟨a, b, ⟨h1, h2, rfl⟩ | ⟨h1, h2, rfl⟩⟩ := h
    · obtain ⟨xs, l, q, r, y⟩ := src_t h1 e1
      obtain ⟨xs2, l2, q2, r2, y2⟩ := src_t h2 e2
      refine ⟨xs, xs2, q, q2, ?_⟩
      rcases z with z | z
      · exact .inl (none_le r (z ▸ y))
      · exact .inr (none_le r2 (z ▸ y2))
    · obtain ⟨xs, l, q, r, y⟩ := src_f hs h1 e1
      obtain ⟨xs2, l2, q2, r2, y2⟩ := src_f hs h2 e2
      refine ⟨xs, xs2, q, q2, ?_⟩
      rcases z with z | z
      · exact .inl (none_le r (z ▸ y))
      · exact .inr (none_le r2 (z ▸ y2))
theorem pair_new {a : Addr} {p q : PV} {x y : V} (hs : SRep T ρ H S) (n : H a = none) (rp : Rep T ρ H p x) (rq : Rep T ρ H q y) :
    Step ρ H ρ (upd H a (.tup [x, y])) ∧ SRep T ρ (upd H a (.tup [x, y])) S ∧ Rep T ρ (upd H a (.tup [x, y])) (.tup [p, q]) (.ref a) := by
  have st : Step ρ H ρ (upd H a (.tup [x, y])) := step_new n
  refine ⟨st, hs.new n, ?_⟩
  unfold Rep
  exact ⟨a, [x, y], rfl, upd_same, .cons (Rep.step st _ _ rp) (.cons (Rep.step st _ _ rq) .nil)⟩
theorem it_go {it : EV.It} {i : Nat} {p : PV} (hs : SRep T ρ H S) (h : ItRel T ρ H J it) (e : itAt S it i = some (some p)) : J.go i H ∧ ∀ x H', J.yld i H x H' → Step ρ H ρ H' ∧ SRep T ρ H' S ∧ Rep T ρ H' p x := by
  cases it with
  | src s =>
    obtain ⟨a, ⟨h, rfl⟩ | ⟨h, rfl⟩⟩ := h
    · obtain ⟨xs, l, q, r, z⟩ := src_t h e
      obtain ⟨x, ex, rx⟩ := r.get z.symm
      refine ⟨⟨xs, x, q, ex⟩, fun y H' hy => ?_⟩
      obtain ⟨rfl, hy⟩ := hy
      have := hy xs q
      rw [ex] at this
      cases this
      exact ⟨Step.refl, hs, rx⟩
    · obtain ⟨xs, l, q, r, z⟩ := src_f hs h e
      obtain ⟨x, ex, rx⟩ := r.get z.symm
      refine ⟨⟨xs, x, q, ex⟩, fun y H' hy => ?_⟩
      obtain ⟨rfl, hy⟩ := hy
      have := hy xs q
      rw [ex] at this
      cases this
      exact ⟨Step.refl, hs, rx⟩
  | rng lo n =>
    cases h
    simp only [itAt] at e
    split at e
    · rename_i hi
      cases e
      refine ⟨hi, fun y H' hy => ?_⟩
      obtain ⟨rfl, rfl⟩ := hy
      exact ⟨Step.refl, hs, rep_int⟩
    · cases e
  | enum s =>
    have e : (srcAt S s i).map (·.map fun p => PV.tup [.int i, p]) = some (some p) := e
    have w : ∃ q, srcAt S s i = some (some q) ∧ p = PV.tup [.int i, q] := by
      cases w : srcAt S s i with
      | none => rw [w] at e; cases e
      | some o =>
        rw [w] at e
        cases o with
        | none => cases e
        | some q => cases e; exact ⟨q, rfl, rfl⟩
    obtain ⟨q, w, rfl⟩ := w
    obtain ⟨a, ⟨h, rfl⟩ | ⟨h, rfl⟩⟩ := h
    · obtain ⟨xs, l, hq, r, z⟩ := src_t h w
      obtain ⟨x, ex, rx⟩ := r.get z.symm
      refine ⟨⟨xs, x, hq, ex⟩, fun y H' hy => ?_⟩
      obtain ⟨t, x', rfl, n, rfl, hy⟩ := hy
      have := hy xs hq
      rw [ex] at this
      cases this
      exact pair_new hs n rep_int rx
    · obtain ⟨xs, l, hq, r, z⟩ := src_f hs h w
      obtain ⟨x, ex, rx⟩ := r.get z.symm
      refine ⟨⟨xs, x, hq, ex⟩, fun y H' hy => ?_⟩
      obtain ⟨t, x', rfl, n, rfl, hy⟩ := hy
      have := hy xs hq
      rw [ex] at this
      cases this
      exact pair_new hs n rep_int rx
  | zip s t =>
    have two : ∃ q r, srcAt S s i = some (some q) ∧ srcAt S t i = some (some r) ∧ p = .tup [q, r] := by
      simp only [itAt] at e
      split at e
      · rename_i e1 e2; cases e; exact ⟨_, _, e1, e2, rfl⟩
      · cases e
      · cases e
      · cases e
    obtain ⟨q, r, e1, e2, rfl⟩ := two
    obtain ⟨a, b, ⟨h1, h2, rfl⟩ | ⟨h1, h2, rfl⟩⟩ := h
    · obtain ⟨xs, l, hq, r1, z⟩ := src_t h1 e1
      obtain ⟨x, ex, rx⟩ := r1.get z.symm
      obtain ⟨ys, l2, hq2, r2, z2⟩ := src_t h2 e2
      obtain ⟨y, ey, ry⟩ := r2.get z2.symm
      refine ⟨⟨xs, ys, x, y, hq, hq2, ex, ey⟩, fun w H' hy => ?_⟩
      obtain ⟨t, x', y', rfl, n, rfl, hy, hy2⟩ := hy
      have := hy xs hq
      rw [ex] at this
      cases this
      have := hy2 ys hq2
      rw [ey] at this
      cases this
      exact pair_new hs n rx ry
    · obtain ⟨xs, l, hq, r1, z⟩ := src_f hs h1 e1
      obtain ⟨x, ex, rx⟩ := r1.get z.symm
      obtain ⟨ys, l2, hq2, r2, z2⟩ := src_f hs h2 e2
      obtain ⟨y, ey, ry⟩ := r2.get z2.symm
      refine ⟨⟨xs, ys, x, y, hq, hq2, ex, ey⟩, fun w H' hy => ?_⟩
      obtain ⟨t, x', y', rfl, n, rfl, hy, hy2⟩ := hy
      have := hy xs hq
      rw [ex] at this
      cases this
      have := hy2 ys hq2
      rw [ey] at this
      cases this
      exact pair_new hs n rx ry
abbrev RI (T : TX) : Rl EV.It L2.It := fun _ ρ H it J => ItRel T ρ H J it
theorem good_I : Good (RI T) := ⟨fun _ _ h => h⟩
/-- what a source gives, as a value -/
theorem srcOf_ok {a : AV} {s : Src} {x : V} {H0 : Hp} (hs : SRep T ρ H S) (ra : RepA T H0 ρ H a x) (e : srcOf S a = some s) : ∃ c b, x = .ref c ∧ SrcRel T ρ H b c s ∧ (b = true → ∃ xs, SqT T.K H c xs) ∧ (b = false → ∃ xs, SqL T.K H c xs) := by
  cases a with
  | v p =>
    cases p with
    | tup l => cases e; obtain ⟨c, xs, rfl, q, r⟩ := tupOf_ok ra (l := l) rfl; exact ⟨c, true, rfl, ⟨rfl, xs, q, r⟩, fun _ => ⟨xs, q⟩, (fun z => nomatch z)⟩
    | rot l => cases e; obtain ⟨c, xs, rfl, q, r⟩ := tupOf_ok ra (l := l) rfl; exact ⟨c, true, rfl, ⟨rfl, xs, q, r⟩, fun _ => ⟨xs, q⟩, (fun z => nomatch z)⟩
    | rol l =>
      cases e
      have ra : Rep T ρ H (.rol l) x := ra
      unfold Rep at ra
      obtain ⟨c, xs, rfl, q, r⟩ := ra
      exact ⟨c, false, rfl, ⟨rfl, xs, .inl q, r⟩, (fun z => nomatch z), fun _ => ⟨xs, q.l⟩⟩
    | loc n =>
      simp only [srcOf, Option.map_eq_some_iff] at e
      obtain ⟨l, e, rfl⟩ := e
      obtain ⟨c, xs, rfl, q, r⟩ := listOf_ok hs ra e
      have ra : Rep T ρ H (.loc n) (.ref c) := ra
      unfold Rep at ra
      obtain ⟨d, e1, e2⟩ := ra
      cases e2
      exact ⟨c, false, rfl, ⟨rfl, e1⟩, (fun z => nomatch z), fun _ => ⟨xs, q⟩⟩
    | _ => cases e
  | l xs => cases e; obtain ⟨c, ys, rfl, z, n, q, r⟩ := ra; exact ⟨c, false, rfl, ⟨rfl, ys, .inr ⟨n, q⟩, r⟩, (fun z => nomatch z), fun _ => ⟨ys, .inl (.inl q)⟩⟩
  | _ => cases e
end
section
variable {G : Gn} {sg : Sg} {X : Cx} {T : TX} {E : Ev} {W : WX} {pos p : Pos} {a b tg : Expr} {ma mb : EV.Env → Store → Res AV}
abbrev tI (T : TX) (W : WX) (m : EV.Env → Store → Res EV.It) : TI := tM T W (RI T) m
/-- a list or a tuple is walked -/
def iSeq (K : PySem.W.Frag) (tl : TE) : TI := fun σ H R => tl σ H fun x H1 => ∃ a, x = .ref a ∧ (((∃ xs, SqL K H1 a xs) ∧ R (Itl K a) H1) ∨ ((∃ xs, SqT K H1 a xs) ∧ R (Itt K a) H1))
theorem pi_seq {l : Expr} {tl : TE} (hl : PE X l tl) : PI X tg l (iSeq X.K tl) := by
  refine ⟨fun pins s σ H R I h => ?_⟩
  refine thn (hl.run pins s σ H _ I h) fun v s1 ⟨x, H1, I1, r1, q1⟩ => ?_
  obtain ⟨a, rfl, ⟨⟨xs, hq⟩, q⟩ | ⟨⟨xs, hq⟩, q⟩⟩ := q1
  · cases r1
    obtain ⟨its, rv, p, hz⟩ := I1.list hq
    exact wpAny_pyIter_list p.isList ⟨s1.heap.objs.size, [s1.heap.objs.size], _, _, H1, rfl, I1.kept (t' := s1.toks) fun b o e => Heap.get?_push_of_some _ e, turn_list a _, ⟨_, Heap.get?_push_size _ rfl, rfl, rfl⟩,
      fun b hb => by obtain rfl : b = s1.heap.objs.size := by simpa using hb
                     exact I1.fpOk (Nat.le_refl _) (I1.hok.fresh (Nat.le_refl _)), q⟩
  · cases r1
    obtain ⟨its, rv, p, hz⟩ := I1.tuple hq
    exact wpAny_pyIter_tuple (show s1.heap.IsTuple a its.toArray from p) ⟨s1.heap.objs.size, [s1.heap.objs.size], _, _, H1, rfl, I1.kept (t' := s1.toks) fun b o e => Heap.get?_push_of_some _ e, turn_tuple a _, ⟨_, Heap.get?_push_size _ rfl, rfl, rfl⟩,
      fun b hb => by obtain rfl : b = s1.heap.objs.size := by simpa using hb
                     exact I1.fpOk (Nat.le_refl _) (I1.hok.fresh (Nat.le_refl _)), q⟩
theorem i_seq (o : On G sg X T E W) (ha : PE X a (tE T W ma)) : PI X tg a (tI T W fun env S => (ma env S).bind fun x S => (orBad S (srcOf S x)).bind fun s S => .ok (.src s) S) := by
  refine pi_imp (pi_seq ha) ?_
  have hK := o.K
  clear o
  obtain ⟨K, fa, ca, fl, tabs⟩ := T
  obtain rfl : X.K = K := hK
  intro σ H Q h
  refine tM.imp (tM.bind (R1 := RA _) good_I h) ?_
  rintro x H1 ⟨a, ρ, ρ1, S1, env, st, hs1, he1, rx, k⟩
  cases e : srcOf S1 a with
  | none => rw [e] at k; exact False.elim k
  | some s =>
    rw [e] at k
    obtain ⟨c, b, rfl, r, q1, q2⟩ := srcOf_ok hs1 rx e
    refine ⟨c, rfl, ?_⟩
    cases b with
    | true => exact .inr ⟨q1 rfl, k ρ1 H1 _ Step.refl hs1 ⟨c, .inl ⟨r, rfl⟩⟩⟩
    | false => exact .inl ⟨q2 rfl, k ρ1 H1 _ Step.refl hs1 ⟨c, .inr ⟨r, rfl⟩⟩⟩
theorem i_rng1 (o : On G sg X T E W) (hv : sg.gl "range" = true) (hn : noStar a = true) (ha : PE X a (tE T W ma)) :
    PI X tg (.Call (.Name "range" p) [a] [] pos) (tI T W fun env S => (Res.ok (none : Option Int) S).bind fun x S => (ma env S).bind fun y S => onInt y (fun j S => orBad S (rngOf x j)) S) := by
  have hA : PA X [a] (tCons (tE T W ma) tNil) := pa_cons ha pa_nil (star_of hn [] _)
  refine pi_imp (pi_range1 (o.gl hv) (o.blt _ (by decide)) hA (star_of hn [] _)) ?_
  intro σ H Q h
  have h : tM T W (RI T) (fun env S => (ma env S).bind fun y S => onInt y (fun j S => orBad S (rngOf none j)) S) σ H Q := h
  refine tM.imp (tM.bind (R1 := RA _) good_I h) ?_
  rintro x H1 ⟨a, ρ, ρ1, S1, env, st, hs1, he1, rx, k⟩
  obtain ⟨j, rfl, k⟩ := onInt_ok k
  obtain ⟨it, e, k⟩ := orBad_ok k
  have := of_int rx
  subst this
  simp only [rngOf] at e
  split at e
  · rename_i hc
    cases e
    simp only [Bool.and_eq_true, decide_eq_true_eq] at hc
    exact ⟨j, rfl, by omega, by omega, k ρ1 H1 _ Step.refl hs1 rfl⟩
  · cases e
theorem i_rng2 (o : On G sg X T E W) (hv : sg.gl "range" = true) (hn : noStar a = true) (hn2 : noStar b = true) (ha : PE X a (tE T W ma)) (hb : PE X b (tE T W mb)) :
    PI X tg (.Call (.Name "range" p) [a, b] [] pos) (tI T W fun env S => ((ma env S).bind fun x S => onInt x (fun i S => .ok (some i) S) S).bind fun x S => (mb env S).bind fun y S => onInt y (fun j S => orBad S (rngOf x j)) S) := by
  have hA : PA X [a, b] (tCons (tE T W ma) (tCons (tE T W mb) tNil)) := pa_cons ha (pa_cons hb pa_nil (star_of hn2 [] _)) (star_of hn _ _)
  refine pi_imp (pi_range2 (o.gl hv) (o.blt _ (by decide)) hA (by rw [star_of hn, star_of hn2]; rfl) (star_of hn2 [] _)) ?_
  intro σ H Q h
  have h : tM T W (RI T) (fun env S => (ma env S).bind fun x S => onInt x (fun i S => (mb env S).bind fun y S => onInt y (fun j S => orBad S (rngOf (some i) j)) S) S) σ H Q := by
    obtain ⟨ρ, S, env, hs, he, k⟩ := h
    refine tM.of hs he ?_
    cases q : ma env S with
    | bad =>
      have k : Fin T (WE W σ) (RI T) ρ H (((ma env S).bind fun x S => onInt x (fun i S => .ok (some i) S) S).bind fun x S => (mb env S).bind fun y S => onInt y (fun j S => orBad S (rngOf x j)) S) Q := k
      rw [q] at k
      exact k
    | err e S1 =>
      have k : Fin T (WE W σ) (RI T) ρ H (((ma env S).bind fun x S => onInt x (fun i S => .ok (some i) S) S).bind fun x S => (mb env S).bind fun y S => onInt y (fun j S => orBad S (rngOf x j)) S) Q := k
      rw [q] at k
      exact k
    | ok x S1 =>
      have k : Fin T (WE W σ) (RI T) ρ H (((ma env S).bind fun x S => onInt x (fun i S => .ok (some i) S) S).bind fun x S => (mb env S).bind fun y S => onInt y (fun j S => orBad S (rngOf x j)) S) Q := k
      rw [q] at k
      cases x with
      | v p =>
        cases p with
        | int i => exact k
        | _ => exact False.elim k
      | _ => exact False.elim k
  refine tM.imp (tM.bind (R1 := RA _) good_I h) ?_
  rintro x H1 ⟨a, ρ, ρ1, S1, env, st, hs1, he1, rx, k⟩
  obtain ⟨i, rfl, k⟩ := onInt_ok k
  have := of_int rx
  subst this
  refine tM.of hs1 he1 ((Fin.bind (R1 := RA T) good_I k).imp ?_)
  rintro y H2 ⟨b, ρ2, S2, st2, hs2, ry, k2⟩
  obtain ⟨j, rfl, k⟩ := onInt_ok k2
  obtain ⟨it, e, k⟩ := orBad_ok k
  have := of_int ry
  subst this
  simp only [rngOf] at e
  split at e
  · rename_i hc
    cases e
    simp only [Bool.and_eq_true, decide_eq_true_eq] at hc
    exact ⟨i, j, rfl, by omega, k ρ2 H2 _ Step.refl hs2 rfl⟩
  · cases e
theorem i_enum (o : On G sg X T E W) (hv : sg.gl "enumerate" = true) (hn : noStar a = true) {elts : List Expr} {kk : Nat} {tpos : Pos} (ha : PE X a (tE T W ma)) :
    PI X (.Tuple elts kk tpos) (.Call (.Name "enumerate" p) [a] [] pos) (tI T W fun env S => (ma env S).bind fun x S => (orBad S (srcOf S x)).bind fun s S => .ok (.enum s) S) := by
  have hA : PA X [a] (tCons (tE T W ma) tNil) := pa_cons ha pa_nil (star_of hn [] _)
  refine pi_imp (pi_enumA (o.gl hv) (o.blt _ (by decide)) hA (star_of hn [] _)) ?_
  have hK := o.K
  clear o
  obtain ⟨K, fa, ca, fl, tabs⟩ := T
  obtain rfl : X.K = K := hK
  intro σ H Q h
  refine tM.imp (tM.bind (R1 := RA _) good_I h) ?_
  rintro x H1 ⟨a, ρ, ρ1, S1, env, st, hs1, he1, rx, k⟩
  cases e : srcOf S1 a with
  | none => rw [e] at k; exact False.elim k
  | some s =>
    rw [e] at k
    obtain ⟨c, b, rfl, r, q1, q2⟩ := srcOf_ok hs1 rx e
    refine ⟨c, rfl, ?_⟩
    cases b with
    | true => exact .inr ⟨q1 rfl, k ρ1 H1 _ Step.refl hs1 ⟨c, .inl ⟨r, rfl⟩⟩⟩
    | false => exact .inl ⟨q2 rfl, k ρ1 H1 _ Step.refl hs1 ⟨c, .inr ⟨r, rfl⟩⟩⟩
theorem i_zip (o : On G sg X T E W) (hv : sg.gl "zip" = true) (hn : noStar a = true) (hn2 : noStar b = true) {elts : List Expr} {kk : Nat} {tpos : Pos} (ha : PE X a (tE T W ma)) (hb : PE X b (tE T W mb)) :
    PI X (.Tuple elts kk tpos) (.Call (.Name "zip" p) [a, b] [] pos) (tI T W fun env S => (ma env S).bind fun x S => (mb env S).bind fun y S => (orBad S (zipOf S x y)).bind fun z S => .ok z S) := by
  have hA : PA X [a, b] (tCons (tE T W ma) (tCons (tE T W mb) tNil)) := pa_cons ha (pa_cons hb pa_nil (star_of hn2 [] _)) (star_of hn _ _)
  have hpl : (backTo pos (starEach [b] X.env)).any (·.1) = false := by rw [star_of hn2]; rfl
  refine pi_imp (RZ.pi_zipA (o.gl hv) (o.blt _ (by decide)) hA (star_of hn _ _) hpl) ?_
  have hK := o.K
  clear o
  obtain ⟨K, fa, ca, fl, tabs⟩ := T
  obtain rfl : X.K = K := hK
  intro σ H Q h
  refine tM.imp (tM.bind (R1 := RA _) good_I h) ?_
  rintro x H1 ⟨a, ρ, ρ1, S1, env, st, hs1, he1, rx, k⟩
  refine tM.of hs1 he1 ((Fin.bind (R1 := RA _) good_I k).imp ?_)
  rintro y H2 ⟨b, ρ2, S2, st2, hs2, ry, k2⟩
  cases e : zipOf S2 a b with
  | none => rw [e] at k2; exact False.elim k2
  | some z =>
    rw [e] at k2
    unfold zipOf at e
    split at e
    · rename_i s t e1 e2
      split at e
      · rename_i hb
        cases e
        obtain ⟨c, u, rfl, r, q1, q2⟩ := srcOf_ok hs2 (rx.step st2) e1
        obtain ⟨d, w, rfl, r', q1', q2'⟩ := srcOf_ok hs2 ry e2
        have eu : u = isT s := by
          cases s <;> first | exact r.1
        have ew : w = isT t := by
          cases t <;> first | exact r'.1
        subst eu ew
        have hb : isT s = isT t := by simpa using hb
        cases q : isT s with
        | true =>
          rw [← hb] at r' q1' q2'
          rw [q] at r q1 q2 r' q1' q2'
          obtain ⟨xs, g1⟩ := q1 rfl
          obtain ⟨ys, g2⟩ := q1' rfl
          exact ⟨c, d, xs, ys, rfl, .inr ⟨g1, g2, k2 ρ2 H2 _ Step.refl hs2 ⟨c, d, .inl ⟨r, r', rfl⟩⟩⟩⟩
        | false =>
          rw [← hb] at r' q1' q2'
          rw [q] at r q1 q2 r' q1' q2'
          obtain ⟨xs, g1⟩ := q2 rfl
          obtain ⟨ys, g2⟩ := q2' rfl
          exact ⟨c, d, xs, ys, rfl, .inl ⟨g1, g2, k2 ρ2 H2 _ Step.refl hs2 ⟨c, d, .inr ⟨r, r', rfl⟩⟩⟩⟩
      · cases e
    · cases e
end
end EV
/-! The E layer, part N: targets; comprehensions. -/
namespace EV
open PySem PySem.Spec L2
open PyProof.Rows hiding St

/-! ### targets -/
/-- the slots outside the target's stay -/
def Agree (vs : List Nat) (σ σ' : St) : Prop := σ'.length = σ.length ∧ ∀ j, j ∉ vs → σ'[j]? = σ[j]?
theorem Agree.refl {vs : List Nat} {σ : St} : Agree vs σ σ := ⟨rfl, fun _ _ => rfl⟩
theorem Agree.trans {vs ws : List Nat} {σ σ1 σ2 : St} (h : Agree vs σ σ1) (h2 : Agree ws σ1 σ2) : Agree (vs ++ ws) σ σ2 :=
  ⟨h2.1.trans h.1, fun j hj => by
    rw [List.mem_append, not_or] at hj
    exact (h2.2 j hj.2).trans (h.2 j hj.1)⟩
theorem wipe_at {σ : St} : ∀ {vs : List Nat} {j : Nat}, (L2.wipe σ vs)[j]? = if j ∈ vs ∧ j < σ.length then some none else σ[j]?
  | [], j => by simp [L2.wipe]
  | v :: vs, j => by
    show ((L2.wipe σ vs).set v none)[j]? = _
    rw [List.getElem?_set, wipe_length, wipe_at]
    by_cases h : v = j
    · subst h
      by_cases hl : v < σ.length
      · simp [hl]
      · simp [hl, List.getElem?_eq_none (Nat.le_of_not_lt hl)]
    · have h' : ¬ j = v := fun z => h z.symm
      simp [h, h']
theorem Agree.wipe {vs ws : List Nat} {σ σ' : St} (h : Agree vs (L2.wipe σ ws) σ') (hw : ∀ v ∈ vs, v ∈ ws) : L2.wipe σ' ws = L2.wipe σ ws := by
  refine List.ext_getElem? fun j => ?_
  rw [wipe_at, wipe_at]
  have hl : σ'.length = σ.length := by rw [h.1, wipe_length]
  rw [hl]
  split
  · rfl
  · rename_i hj
    by_cases jw : j ∈ ws
    · have hge : ¬ j < σ.length := fun z => hj ⟨jw, z⟩
      rw [List.getElem?_eq_none (by omega), List.getElem?_eq_none (by omega)]
    · rw [h.2 j (fun z => jw (hw j z)), wipe_at, if_neg hj]
abbrev W0 : WX := fun _ _ _ _ => False
abbrev REn (T : TX) (σ : St) (vs : List Nat) : Rl EV.Env St := fun _ ρ H env σ' => EnvRep T ρ H env σ' ∧ Agree vs σ σ'
theorem good_En {T : TX} {σ : St} {vs : List Nat} : Good (REn T σ vs) := ⟨fun _ _ h => h⟩
/-- a target's reading -/
abbrev tG (T : TX) (vs : List Nat) (m : PV → EV.Env → Store → Res EV.Env) : TG := fun v σ H Q => ∃ ρ S env p, SRep T ρ H S ∧ EnvRep T ρ H env σ ∧ Rep T ρ H p v ∧ Fin T (fun _ _ _ => False) (REn T σ vs) ρ H (m p env S) Q
abbrev tGs (T : TX) (vs : List Nat) (m : List PV → EV.Env → Store → Res EV.Env) : TGs := fun v σ H Q => ∃ ρ S env p, SRep T ρ H S ∧ EnvRep T ρ H env σ ∧ Reps T ρ H p v ∧ Fin T (fun _ _ _ => False) (REn T σ vs) ρ H (m p env S) Q
section
variable {G : Gn} {sg : Sg} {X : Cx} {T : TX} {E : Ev} {W : WX} {pos p : Pos} {a b tg : Expr} {ma mb : EV.Env → Store → Res AV}
theorem pass0 {X : Cx} (σ : St) : PassesAt (L2.CX X.prog X.w) X σ (WE W0 σ) := fun _ _ _ _ _ _ c => by
  obtain ⟨_, _, _, _, _, _, _, _, _, _, _, _, z⟩ := c
  exact z.elim
theorem On.weak (o : On G sg X T E W) : On G sg X T E W0 where
  K := o.K
  N := o.N
  sc := o.sc
  nd := o.nd
  calm := o.calm
  un := o.un
  dp := o.dp
  fn := o.fn
  blt := o.blt
  gd := o.gd
  glo := o.glo
  call := o.call
  fnx := o.fnx
  blx := o.blx
  exc := o.exc
  pass := pass0
  hp := o.hp
  st := o.st
  tk := fun h => (o.tk h).imp fun _ _ _ _ z => z.elim
  lam := o.lam
  tabc := o.tabc
theorem g_nm (o : On G sg X T E W) {i : Nat} {x : Str} (hN : sg.N[i]? = some x) (hl : sg.loc x = true) : PG X (.Name x pos) (tG T [i] fun p env S => .ok (env.set i (some p)) S) := by
  refine pg_imp (pg_name o.nd (by rw [o.N]; exact hN) (o.loc hl) (o.fn x hl)) ?_
  rintro v σ H Q ⟨ρ, S, env, p, hs, he, rp, k⟩
  refine k ρ H _ Step.refl hs ⟨he.set i rp, by simp, fun j hj => ?_⟩
  rw [List.getElem?_set_ne]
  exact fun z => hj (by simp [z])
theorem gs_nil : PGs X [] (tGs T [] fun l env S => match l with | [] => .ok env S | _ => .bad) := by
  refine pgs_imp pgs_nil ?_
  rintro v σ H Q ⟨ρ, S, env, p, hs, he, rp, k⟩
  cases p with
  | nil =>
    unfold Reps at rp
    exact ⟨rp, k ρ H σ Step.refl hs ⟨he, Agree.refl⟩⟩
  | cons _ _ => exact False.elim k
theorem gs_cons {es : List Expr} {vs ws : List Nat} {m : PV → EV.Env → Store → Res EV.Env} {ms : List PV → EV.Env → Store → Res EV.Env} (hn : noStar a = true) (h1 : PG X a (tG T vs m)) (h2 : PGs X es (tGs T ws ms)) :
    PGs X (a :: es) (tGs T (vs ++ ws) fun l env S => match l with | p :: l => (m p env S).bind fun env S => ms l env S | [] => .bad) := by
  have hs : (assignEach (a :: es) X.env).map (·.2) = assign a X.env :: (assignEach es X.env).map (·.2) := by
    cases a <;> first | rfl | cases hn
  refine pgs_imp (pgs_cons h1 h2 hs) ?_
  rintro v σ H Q ⟨ρ, S, env, p, hst, he, rp, k⟩
  cases p with
  | nil => exact False.elim k
  | cons p l =>
    unfold Reps at rp
    obtain ⟨x, r, rfl, rx, rr⟩ := rp
    refine ⟨x, r, rfl, ρ, S, env, p, hst, he, rx, ?_⟩
    have k : Fin T (fun _ _ _ => False) (REn T σ (vs ++ ws)) ρ H ((m p env S).bind fun env S => ms l env S) Q := k
    refine (Fin.bind (R1 := REn T σ vs) good_En k).imp ?_
    rintro σ1 H1 ⟨env1, ρ1, S1, st, hs1, ⟨he1, ag⟩, k1⟩
    refine ⟨ρ1, S1, env1, l, hs1, he1, Reps.step st _ _ rr, ?_⟩
    cases q : ms l env1 S1 with
    | bad => rw [q] at k1; exact k1
    | err e S2 => rw [q] at k1; exact k1
    | ok env2 S2 =>
      rw [q] at k1
      exact fun ρ2 H2 σ2 st2 hs2 re => k1 ρ2 H2 σ2 st2 hs2 ⟨re.1, ag.trans re.2⟩
theorem each_len : ∀ (es : List Expr) (env : PySem.Env), (assignEach es env).length = es.length
  | [], _ => rfl
  | e :: es, env => by
    have ih := each_len es env
    cases e <;> (show (_ :: assignEach es env).length = _; simp [ih])
theorem each_no : ∀ {es : List Expr} (h : es.all noStar = true) (env : PySem.Env), (assignEach es env).findIdx? (·.1) = none
  | [], _, _ => rfl
  | e :: es, h, env => by
    simp only [List.all_cons, Bool.and_eq_true] at h
    have ih := each_no h.2 env
    have e1 : assignEach (e :: es) env = (false, assign e env) :: assignEach es env := by
      cases e <;> first | rfl | (have := h.1; cases this)
    rw [e1, List.findIdx?_cons]
    simp [ih]
theorem g_tp (o : On G sg X T E W) {es : List Expr} {kk : Nat} {vs : List Nat} {ms : List PV → EV.Env → Store → Res EV.Env} (hn : es.all noStar = true) (h : PGs X es (tGs T vs ms)) :
    PG X (.Tuple es kk pos) (tG T vs fun p env S => (asTup es.length p S).bind fun l S => ms l env S) := by
  refine pg_imp (pg_tup (n := es.length) o.calm h (each_len _ _) (each_no hn _)) ?_
  have hK := o.K
  clear o
  obtain ⟨K, fa, ca, fl, tabs⟩ := T
  obtain rfl : X.K = K := hK
  rintro v σ H Q ⟨ρ, S, env, p, hs, he, rp, k⟩
  have k : Fin _ (fun _ _ _ => False) (REn _ σ vs) ρ H ((asTup es.length p S).bind fun l S => ms l env S) Q := k
  unfold asTup at k
  cases q : tupOf (.v p) with
  | none => rw [q] at k; exact False.elim k
  | some l =>
    rw [q] at k
    have k : Fin _ (fun _ _ _ => False) (REn _ σ vs) ρ H ((if l.length = es.length then .ok l S else .bad : Res (List PV)).bind fun l S => ms l env S) Q := k
    split at k
    · rename_i hl
      obtain ⟨c, xs, rfl, g, r⟩ := tupOf_ok (T := ⟨X.K, fa, ca, fl, tabs⟩) (ρ := ρ) (H := H) (H0 := H) (a := .v p) (v := v) rp q
      exact ⟨c, xs, rfl, g, r.length.symm.trans hl, ρ, S, env, l, hs, he, r, k⟩
    · exact False.elim k
theorem set_sub {b : Expr} (h : notSlice b = true) (a : Expr) (pos : Pos) (env : PySem.Env) (v : Value) : assign (.Subscript a b pos) env v = (do
      let ov ← holding [v] (eval a env)
      let iv ← holding [v, ov] (eval b env)
      standAt pos
      holding [v, ov, iv] (setItem ov iv v)
      release [v, ov, iv] []) := by
  cases b <;> first | rfl | cases h
theorem g_sub (o : On G sg X T E W) (hn : notSlice b = true) (ha : PE X a (tE T W0 ma)) (hb : PE X b (tE T W0 mb)) :
    PG X (.Subscript a b pos) (tG T [] fun p env S => (ma env S).bind fun x S => ((mb env S).bind EV.keep).bind fun y S => match putA S x y p with
      | some S => .ok env S
      | none => .bad) := by
  refine pg_imp (pg_sub ha hb (put_r o.K (by have := o.un; omega)) (set_sub hn _ _ _)) ?_
  rintro v σ H Q ⟨ρ, S, env, p, hs, he, rp, k⟩
  refine tM.of hs he ?_
  refine (Fin.bind (R1 := RA T) good_En k).imp ?_
  rintro x H1 ⟨c, ρ1, S1, st, hs1, rx, k1⟩
  refine tM.keep (tM.of hs1 (he.step st) ((Fin.bind (R1 := RP T) good_En k1).imp ?_))
  rintro y H2 ⟨d, ρ2, S2, st2, hs2, ry, k2⟩
  cases q : putA S2 c d p with
  | none => rw [q] at k2; exact False.elim k2
  | some S3 =>
    rw [q] at k2
    exact ⟨ρ2, S2, c, d, p, S3, H, hs2, rx.step st2, ry, Rep.step st2 _ _ (Rep.step st _ _ rp), q, fun H3 st3 hs3 => k2 ρ2 H3 σ st3 hs3 ⟨(he.step st).step (st2.trans st3), Agree.refl⟩⟩
end

/-! ### another heap, where what is read stays -/
section
variable {T : TX} {ρ ρ1 : List Addr} {H H' H1 : Hp}
/-- what is read off tuples and frozen things -/
structure Still (H H' : Hp) : Prop where
  tu : ∀ b xs, H b = some (.tup xs) → H' b = some (.tup xs)
  fz : ∀ b o u, H b = some (.frz o u) → H' b = some (.frz o u)
theorem Still.sqt (s : Still H H') {K : PySem.W.Frag} {a : Addr} {xs : List V} (h : SqT K H a xs) : SqT K H' a xs := by
  rcases h with (h | ⟨o, h⟩) | h
  · exact .inl (.inl (s.tu _ _ h))
  · exact .inl (.inr ⟨o, s.fz _ _ _ h⟩)
  · exact .inr h
theorem Still.sqf (s : Still H H') {K : PySem.W.Frag} {a : Addr} {xs : List V} (h : SqF K H a xs) : SqF K H' a xs := by
  rcases h with ⟨o, h⟩ | h
  · exact .inl ⟨o, s.fz _ _ _ h⟩
  · exact .inr h
theorem Still.sqr (s : Still H H') {K : PySem.W.Frag} {a : Addr} {xs : List V} (h : SqR K H a xs) : SqR K H' a xs := h.imp (fun ⟨o, q, d⟩ => ⟨o, s.fz _ _ _ q, d⟩) fun q => q
mutual
theorem Rep.still (s : Still H H') : ∀ (p : PV) (v : V), Rep T ρ H p v → Rep T ρ H' p v
  | .non, _, h => h
  | .bl _, _, h => h
  | .int _, _, h => h
  | .str _, _, h => h
  | .tup l, _, h => by
    unfold Rep at h ⊢
    exact let ⟨a, xs, e, q, r⟩ := h; ⟨a, xs, e, s.tu _ _ q, Reps.still s l xs r⟩
  | .rot l, _, h => by
    unfold Rep at h ⊢
    exact let ⟨a, xs, e, q, r⟩ := h; ⟨a, xs, e, s.sqr q, Reps.still s l xs r⟩
  | .rol l, _, h => by
    unfold Rep at h ⊢
    exact let ⟨a, xs, e, q, r⟩ := h; ⟨a, xs, e, s.sqf q, Reps.still s l xs r⟩
  | .loc n, _, h => by
    unfold Rep at h ⊢
    exact h
  | .fn n, _, h => by
    unfold Rep at h ⊢
    exact h
theorem Reps.still (s : Still H H') : ∀ (l : List PV) (xs : List V), Reps T ρ H l xs → Reps T ρ H' l xs
  | [], _, h => by
    unfold Reps at h ⊢
    exact h
  | p :: l, _, h => by
    unfold Reps at h ⊢
    exact let ⟨x, r, e, h1, h2⟩ := h; ⟨x, r, e, Rep.still s p x h1, Reps.still s l r h2⟩
end
/-- the object at D, that no place holds, is written -/
theorem still_write {D : Addr} {o u : HO} (e : H D = some o) (nt : ∀ xs, o ≠ .tup xs) (nf : ∀ b x, o ≠ .frz b x) : Still H (upd H D u) :=
  ⟨fun b xs h => by rw [upd_ne fun z => by subst z; rw [e] at h; exact nt xs (Option.some.inj h)]; exact h, fun b w x h => by rw [upd_ne fun z => by subst z; rw [e] at h; exact nf w x (Option.some.inj h)]; exact h⟩
theorem ORep.still {D b : Addr} {u : HO} {w : SO} (s : Still H (upd H D u)) (n : b ≠ D) (r : ORep T ρ H b w) : ORep T ρ (upd H D u) b w := by
  cases w with
  | lst l => obtain ⟨xs, q, r⟩ := r; exact ⟨xs, by rw [upd_ne n]; exact q, Reps.still s _ _ r⟩
  | dk l => obtain ⟨xs, q, r⟩ := r; exact ⟨xs, by rw [upd_ne n]; exact q, r.1, Reps.still s _ _ r.2⟩
  | dt l => obtain ⟨xs, q, r⟩ := r; exact ⟨xs, by rw [upd_ne n]; exact q, r.1, Reps.still s _ _ r.2⟩
theorem SRep.away {S : Store} {D : Addr} {u o : HO} (h : SRep T ρ H S) (e : H D = some o) (np : Plain1 o) (n : D ∉ ρ) (s : Still H (upd H D u)) : SRep T ρ (upd H D u) S :=
  ⟨h.len, h.nd, fun k b w e1 e2 => (h.at_ k b w e1 e2).still s fun z => n (z ▸ mem_at e1), tabs_over h.tab e np⟩
/-- what began ahead of D knows nothing of it -/
theorem Step.off {D : Addr} {u : HO} (st : Step ρ1 H1 ρ H) (n : H1 D = none) : Step ρ1 H1 ρ (upd H D u) := by
  have ne : ∀ {b : Addr} {o : HO}, H1 b = some o → b ≠ D := fun e z => by subst z; rw [n] at e; cases e
  refine ⟨st.pre, st.new, fun b o e nb nt => ?_, fun b ps e nb => ?_, fun b xs e => ?_, fun b o x e => ?_⟩
  · rw [upd_ne (ne e)]; exact st.fr b o e nb nt
  · rw [upd_ne (ne e)]; exact st.tb b ps e nb
  · rw [upd_ne (ne e)]; exact st.tu b xs e
  · rw [upd_ne (ne e)]; exact st.fz b o x e
end

/-! ### a list comprehension -/
theorem lc_len {body : PV → Store → Res (Option PV)} {it : EV.It} : ∀ {m i : Nat} {S S' : Store} {r : List PV}, lcL body it m i S = .ok r S' → r.length ≤ m
  | 0, _, _, _, _, h => by cases h
  | m + 1, i, S, S', r, h => by
    unfold lcL at h
    split at h
    · cases h
    · cases h; exact Nat.zero_le _
    · obtain ⟨o, S1, h1, h⟩ := bind_ok h
      obtain ⟨r1, S2, h2, h⟩ := bind_ok h
      have ih := lc_len h2
      split at h <;> cases h
      · simp only [List.length_cons]; omega
      · omega
theorem calm_ok {α : Type} {r : Res α} {a : α} {S : Store} (h : r.calm = .ok a S) : r = .ok a S := by
  cases r with
  | ok b S1 => exact h
  | err e S1 => cases h
  | bad => cases h
theorem calm_bind {T : TX} {W : XK} {α β γ : Type} {R : Rl α β} {ρ : List Addr} {H : Hp} {Q : β → Hp → Prop} {r : Res γ} {f : γ → Store → Res α} (h : Fin T W R ρ H (r.calm.bind f) Q) : ∃ a S, r = .ok a S ∧ Fin T W R ρ H (f a S) Q := by
  cases r with
  | ok b S1 => exact ⟨b, S1, rfl, h⟩
  | err e S1 => exact False.elim h
  | bad => exact False.elim h
section
variable {T : TX} {W : WX} {mi : EV.Env → Store → Res EV.It} {mt : EV.Env → Store → Res Bool} {me mk mv : EV.Env → Store → Res AV} {mg : PV → EV.Env → Store → Res EV.Env} {vs ws : List Nat}
abbrev mLc (mi : EV.Env → Store → Res EV.It) (mg : PV → EV.Env → Store → Res EV.Env) (mt : EV.Env → Store → Res Bool) (me : EV.Env → Store → Res AV) (vs : List Nat) : EV.Env → Store → Res AV := fun env S => (mi env S).bind fun i S =>
  (lcL (fun p S => (mg p (EV.wipe env vs) S).calm.bind fun env S => (mt env S).bind fun k S => if k = true then ((me env S).bind EV.keep).bind fun q S => .ok (some q) S else .ok none S) i fuel 0 S).calm.bind fun l S => .ok (.l l) S
theorem lc_rd (hw : ∀ v ∈ ws, v ∈ vs) (σ : St) (H : Hp) (Q : VK) (h : tE T W (mLc mi mg mt me vs) σ H Q) : tLc (tI T W mi) (tG T ws mg) (tB' T W0 mt) (tE T W0 me) vs σ H Q := by
  have bg : fuel ≤ sizeLine := big_line
  refine tM.imp (tM.bind (R1 := RI T) good_A h) ?_
  rintro J H1 ⟨it, ρ0, ρ1, S1, env, st1, hs1, he1, rJ, k⟩
  obtain ⟨l, S', hl, k⟩ := calm_bind k
  intro D hD
  refine ⟨fun i m H => ∃ ρ S r accP accV, Step ρ1 H1 ρ H ∧ SRep T ρ H S ∧ D ∉ ρ ∧ H D = some (.lst accV) ∧ Reps T ρ H accP accV ∧
    lcL (fun p S => (mg p (EV.wipe env vs) S).calm.bind fun env S => (mt env S).bind fun k S => if k = true then ((me env S).bind EV.keep).bind fun q S => .ok (some q) S else .ok none S) it m i S = .ok r S' ∧ l = accP ++ r ∧ accP.length + m ≤ fuel,
    ⟨fuel, ρ1, S1, l, [], [], step_new hD, hs1.new hD, hs1.ne hD, upd_same, Reps.nil, hl, rfl, by simp⟩, ?_⟩
  rintro i m H2 ⟨ρ, S, r, accP, accV, st, hs, nD, eD, ra, hr, el, hm⟩
  have rJ2 : ItRel T ρ H2 J it := rJ.step st
  cases m with
  | zero => cases hr
  | succ m =>
    unfold lcL at hr
    split at hr
    · cases hr
    · rename_i e
      cases hr
      refine .inl ⟨it_stop hs rJ2 e, ?_⟩
      rw [List.append_nil] at el
      subst el
      exact k ρ H2 (.ref D) st hs ⟨D, accV, rfl, hD, nD, eD, ra⟩
    · rename_i p e
      obtain ⟨o, Sb, hb, hr⟩ := bind_ok hr
      obtain ⟨r1, Sc, hrec, hr⟩ := bind_ok hr
      obtain ⟨env2, Sa, ha, hb⟩ := bind_ok hb
      have ha := calm_ok ha
      obtain ⟨c, Sd, hc, hb⟩ := bind_ok hb
      obtain ⟨go, yl⟩ := it_go hs rJ2 e
      refine .inr ⟨go, fun H' => ∃ ρ S r accP accV, Step ρ1 H1 ρ H' ∧ SRep T ρ H' S ∧ D ∉ ρ ∧ H' D = some (.lst accV) ∧ Reps T ρ H' accP accV ∧
        lcL (fun p S => (mg p (EV.wipe env vs) S).calm.bind fun env S => (mt env S).bind fun k S => if k = true then ((me env S).bind EV.keep).bind fun q S => .ok (some q) S else .ok none S) it m (i + 1) S = .ok r S' ∧ l = accP ++ r ∧ accP.length + m ≤ fuel,
        fun H' h => ⟨m, Nat.lt_succ_self m, h⟩, fun x H3 hy => ?_⟩
      obtain ⟨st3, hs3, rx⟩ := yl x H3 hy
      have stA := st.trans st3
      refine ⟨ρ, S, EV.wipe env vs, p, hs3, (he1.step stA).wipe vs, rx, ?_⟩
      rw [ha]
      rintro ρ4 H4 σ4 st4 hs4 ⟨he4, ag⟩
      refine ⟨ag.wipe hw, ρ4, Sa, env2, hs4, he4, ?_⟩
      rw [hc]
      rintro ρ5 H5 c' st5 hs5 rfl
      have st25 := st3.trans (st4.trans st5)
      have nD5 := st25.out eD nD
      have eD5 := st25.fr D _ eD nD (fun ps z => nomatch z)
      have ra5 := Reps.step st25 _ _ ra
      cases c' with
      | false =>
        simp only [Bool.false_eq_true, if_false] at hb ⊢
        cases hb
        cases hr
        exact ⟨ρ5, Sb, r, accP, accV, st.trans st25, hs5, nD5, eD5, ra5, hrec, el, by omega⟩
      | true =>
        simp only [if_true] at hb ⊢
        obtain ⟨q, Se, hq, hb⟩ := bind_ok hb
        cases hb
        cases hr
        refine tM.keep (tM.of hs5 (he4.step st5) ?_)
        show Fin T _ (RP T) ρ5 H5 ((me env2 Sd).bind EV.keep) _
        rw [hq]
        intro ρ6 H6 y st6 hs6 ry
        have nD6 := st6.out eD5 nD5
        have eD6 := st6.fr D _ eD5 nD5 (fun ps z => nomatch z)
        have ra6 := Reps.step st6 _ _ ra5
        have sl : Still H6 (upd H6 D (.lst (accV ++ [y]))) := still_write eD6 (fun _ z => nomatch z) (fun _ _ z => nomatch z)
        have la := ra6.length
        refine ⟨accV, eD6, by omega, ρ6, Sb, r1, accP ++ [q], accV ++ [y], ((st.trans st25).trans st6).off hD, hs6.away eD6 plain_lst nD6 sl, nD6, upd_same, Reps.still sl _ _ (ra6.app (.cons ry .nil)), hrec, by rw [el]; simp, by simp; omega⟩
theorem EnvRep.still {ρ : List Addr} {H H' : Hp} {env : EV.Env} {σ : St} (h : EnvRep T ρ H env σ) (s : Still H H') : EnvRep T ρ H' env σ :=
  ⟨h.len, fun i p e => let ⟨v, e1, r⟩ := h.at_ i p e; ⟨v, e1, Rep.still s _ _ r⟩⟩
theorem ItRel.still {ρ : List Addr} {H H' : Hp} {J : L2.It} {it : EV.It} (h : ItRel T ρ H J it) (f : noFr it = true) (s : Still H H') : ItRel T ρ H' J it := by
  have src : ∀ {b : Bool} {a : Addr} {q : Src}, SrcRel T ρ H b a q → noFrS q = true → SrcRel T ρ H' b a q := by
    intro b a q h f
    cases q with
    | tup l => obtain ⟨e, xs, q, r⟩ := h; exact ⟨e, xs, s.sqt q, Reps.still s _ _ r⟩
    | fr l => cases f
    | live n => exact h
  cases it with
  | src q =>
    obtain ⟨a, h | h⟩ := h
    · exact ⟨a, .inl ⟨src h.1 f, h.2⟩⟩
    · exact ⟨a, .inr ⟨src h.1 f, h.2⟩⟩
  | rng lo n => exact h
  | enum q =>
    obtain ⟨a, h | h⟩ := h
    · exact ⟨a, .inl ⟨src h.1 f, h.2⟩⟩
    · exact ⟨a, .inr ⟨src h.1 f, h.2⟩⟩
  | zip q t =>
    have f : (noFrS q && noFrS t) = true := f
    rw [Bool.and_eq_true] at f
    obtain ⟨a, b, ⟨h1, h2, e⟩ | ⟨h1, h2, e⟩⟩ := h
    · exact ⟨a, b, .inl ⟨src h1 f.1, src h2 f.2, e⟩⟩
    · exact ⟨a, b, .inr ⟨src h1 f.1, src h2 f.2, e⟩⟩
abbrev mLc2 (mi : EV.Env → Store → Res EV.It) (mg : PV → EV.Env → Store → Res EV.Env) (mt : EV.Env → Store → Res Bool) (mi1 : EV.Env → Store → Res EV.It) (mg1 : PV → EV.Env → Store → Res EV.Env) (mt1 : EV.Env → Store → Res Bool) (me : EV.Env → Store → Res AV) (vs vs1 : List Nat) : EV.Env → Store → Res AV := fun env S => (mi env S).bind fun i S =>
  (lcN (fun p S => (mg p (EV.wipe env vs) S).calm.bind fun env S => (mt env S).bind fun k S => if k = true then (mi1 env S).bind fun i1 S => if noFr i1 = true then lcL (fun p S => (mg1 p (EV.wipe env vs1) S).calm.bind fun env S => (mt1 env S).bind fun k S => if k = true then ((me env S).bind EV.keep).bind fun q S => .ok (some q) S else .ok none S) i1 fuel 0 S else .bad else .ok [] S) i fuel 0 S).calm.bind shortL
theorem lc2_rd {mi1 : EV.Env → Store → Res EV.It} {mt1 : EV.Env → Store → Res Bool} {mg1 : PV → EV.Env → Store → Res EV.Env} {ws1 : List Nat} (hw : ∀ v ∈ ws, v ∈ vs) (σ : St) (H : Hp) (Q : VK) (h : tE T W (mLc2 mi mg mt mi1 mg1 mt1 me vs ws1) σ H Q) : tLc2 (tI T W mi) (tG T ws mg) (tB' T W0 mt) (tI T W0 mi1) (tG T ws1 mg1) (tB' T W0 mt1) (tE T W0 me) vs ws1 σ H Q := by
  have bg : fuel ≤ sizeLine := big_line
  refine tM.imp (tM.bind (R1 := RI T) good_A h) ?_
  rintro J H1 ⟨it, ρ0, ρ1, S1, env, st1, hs1, he1, rJ, k⟩
  obtain ⟨l, S', hl, k⟩ := calm_bind k
  unfold shortL at k
  split at k
  case isFalse => exact False.elim k
  rename_i hsz
  intro D hD
  refine ⟨fun i m H => ∃ ρ S r accP accV, Step ρ1 H1 ρ H ∧ SRep T ρ H S ∧ D ∉ ρ ∧ H D = some (.lst accV) ∧ Reps T ρ H accP accV ∧
    lcN (fun p S => (mg p (EV.wipe env vs) S).calm.bind fun env S => (mt env S).bind fun k S => if k = true then (mi1 env S).bind fun i1 S => if noFr i1 = true then lcL (fun p S => (mg1 p (EV.wipe env ws1) S).calm.bind fun env S => (mt1 env S).bind fun k S => if k = true then ((me env S).bind EV.keep).bind fun q S => .ok (some q) S else .ok none S) i1 fuel 0 S else .bad else .ok [] S) it m i S = .ok r S' ∧ l = accP ++ r,
    ⟨fuel, ρ1, S1, l, [], [], step_new hD, hs1.new hD, hs1.ne hD, upd_same, Reps.nil, hl, rfl⟩, ?_⟩
  rintro i m H2 ⟨ρ, S, r, accP, accV, st, hs, nD, eD, ra, hr, el⟩
  have rJ2 : ItRel T ρ H2 J it := rJ.step st
  cases m with
  | zero => cases hr
  | succ m =>
    unfold lcN at hr
    split at hr
    · cases hr
    · rename_i e
      cases hr
      refine .inl ⟨it_stop hs rJ2 e, ?_⟩
      rw [List.append_nil] at el
      subst el
      exact k ρ H2 (.ref D) st hs ⟨D, accV, rfl, hD, nD, eD, ra⟩
    · rename_i p e
      obtain ⟨o, Sb, hb, hr⟩ := bind_ok hr
      obtain ⟨r1, Sc, hrec, hr⟩ := bind_ok hr
      cases hr
      obtain ⟨env2, Sa, ha, hb⟩ := bind_ok hb
      have ha := calm_ok ha
      obtain ⟨c, Sd, hc, hb⟩ := bind_ok hb
      obtain ⟨go, yl⟩ := it_go hs rJ2 e
      refine .inr ⟨go, fun H' => ∃ ρ S r accP accV, Step ρ1 H1 ρ H' ∧ SRep T ρ H' S ∧ D ∉ ρ ∧ H' D = some (.lst accV) ∧ Reps T ρ H' accP accV ∧
        lcN (fun p S => (mg p (EV.wipe env vs) S).calm.bind fun env S => (mt env S).bind fun k S => if k = true then (mi1 env S).bind fun i1 S => if noFr i1 = true then lcL (fun p S => (mg1 p (EV.wipe env ws1) S).calm.bind fun env S => (mt1 env S).bind fun k S => if k = true then ((me env S).bind EV.keep).bind fun q S => .ok (some q) S else .ok none S) i1 fuel 0 S else .bad else .ok [] S) it m (i + 1) S = .ok r S' ∧ l = accP ++ r,
        fun H' h => ⟨m, Nat.lt_succ_self m, h⟩, fun x H3 hy => ?_⟩
      obtain ⟨st3, hs3, rx⟩ := yl x H3 hy
      have stA := st.trans st3
      refine ⟨ρ, S, EV.wipe env vs, p, hs3, (he1.step stA).wipe vs, rx, ?_⟩
      rw [ha]
      rintro ρ4 H4 σ4 st4 hs4 ⟨he4, ag⟩
      refine ⟨ag.wipe hw, ρ4, Sa, env2, hs4, he4, ?_⟩
      rw [hc]
      rintro ρ5 H5 c' st5 hs5 rfl
      have st25 := st3.trans (st4.trans st5)
      have nD5 := st25.out eD nD
      have eD5 := st25.fr D _ eD nD (fun ps z => nomatch z)
      have ra5 := Reps.step st25 _ _ ra
      cases c' with
      | false =>
        simp only [Bool.false_eq_true, if_false] at hb ⊢
        cases hb
        exact ⟨ρ5, Sb, r1, accP, accV, st.trans st25, hs5, nD5, eD5, ra5, hrec, by rw [el]; rfl⟩
      | true =>
        simp only [if_true] at hb ⊢
        obtain ⟨it1, Se, hi1, hb⟩ := bind_ok hb
        split at hb
        case isFalse => cases hb
        rename_i hfr
        refine ⟨ρ5, Sd, env2, hs5, he4.step st5, ?_⟩
        show Fin T _ (RI T) ρ5 H5 (mi1 env2 Sd) _
        rw [hi1]
        intro ρ6 H6 J1 st6 hs6 rJ1
        have he6 := (he4.step st5).step st6
        have nD6 := st6.out eD5 nD5
        have eD6 := st6.fr D _ eD5 nD5 (fun ps z => nomatch z)
        have ra6 := Reps.step st6 _ _ ra5
        have st16 := (st.trans st25).trans st6
        refine ⟨fun j n H => ∃ ρ S q accP accV, ItRel T ρ H J1 it1 ∧ EnvRep T ρ H env2 σ4 ∧ Step ρ1 H1 ρ H ∧ SRep T ρ H S ∧ D ∉ ρ ∧ H D = some (.lst accV) ∧ Reps T ρ H accP accV ∧
          lcL (fun p S => (mg1 p (EV.wipe env2 ws1) S).calm.bind fun env S => (mt1 env S).bind fun k S => if k = true then ((me env S).bind EV.keep).bind fun q S => .ok (some q) S else .ok none S) it1 n j S = .ok q Sb ∧ l = accP ++ (q ++ r1),
          ⟨fuel, ρ6, Se, o, accP, accV, rJ1, he6, st16, hs6, nD6, eD6, ra6, hb, el⟩, ?_⟩
        clear hb el eD eD5 eD6 ra ra5 ra6 nD nD5 nD6 hs6
        rintro j n H7 ⟨ρ7, S7, q, accP, accV, rJ7, he7, stO, hs7, nD7, eD7, ra7, hq, el⟩
        cases n with
        | zero => cases hq
        | succ n =>
          unfold lcL at hq
          split at hq
          · cases hq
          · rename_i e1
            cases hq
            exact .inl ⟨it_stop hs7 rJ7 e1, ρ7, _, r1, accP, accV, stO, hs7, nD7, eD7, ra7, hrec, el⟩
          · rename_i p1 e1
            obtain ⟨o1, Sf, hb1, hq⟩ := bind_ok hq
            obtain ⟨r2, Sg, hrec1, hq⟩ := bind_ok hq
            obtain ⟨env3, Sh, ha1, hb1⟩ := bind_ok hb1
            have ha1 := calm_ok ha1
            obtain ⟨c1, Si, hc1, hb1⟩ := bind_ok hb1
            obtain ⟨go1, yl1⟩ := it_go hs7 rJ7 e1
            refine .inr ⟨go1, fun H' => ∃ ρ S q accP accV, ItRel T ρ H' J1 it1 ∧ EnvRep T ρ H' env2 σ4 ∧ Step ρ1 H1 ρ H' ∧ SRep T ρ H' S ∧ D ∉ ρ ∧ H' D = some (.lst accV) ∧ Reps T ρ H' accP accV ∧
              lcL (fun p S => (mg1 p (EV.wipe env2 ws1) S).calm.bind fun env S => (mt1 env S).bind fun k S => if k = true then ((me env S).bind EV.keep).bind fun q S => .ok (some q) S else .ok none S) it1 n (j + 1) S = .ok q Sb ∧ l = accP ++ (q ++ r1),
              fun H' h => ⟨n, Nat.lt_succ_self n, h⟩, fun x1 H8 hy1 => ?_⟩
            obtain ⟨st8, hs8, rx1⟩ := yl1 x1 H8 hy1
            refine ⟨ρ7, S7, EV.wipe env2 ws1, p1, hs8, (he7.step st8).wipe ws1, rx1, ?_⟩
            rw [ha1]
            rintro ρ9 H9 σ9 st9 hs9 ⟨he9, ag1⟩
            refine ⟨ag1.wipe (fun v hv => hv), ρ9, Sh, env3, hs9, he9, ?_⟩
            rw [hc1]
            rintro ρ10 H10 c'' st10 hs10 rfl
            have st810 := st8.trans (st9.trans st10)
            have nD10 := st810.out eD7 nD7
            have eD10 := st810.fr D _ eD7 nD7 (fun ps z => nomatch z)
            have ra10 := Reps.step st810 _ _ ra7
            cases c'' with
            | false =>
              simp only [Bool.false_eq_true, if_false] at hb1 ⊢
              cases hb1
              cases hq
              exact ⟨ρ10, Sf, q, accP, accV, rJ7.step st810, he7.step st810, stO.trans st810, hs10, nD10, eD10, ra10, hrec1, el⟩
            | true =>
              simp only [if_true] at hb1 ⊢
              obtain ⟨q1, Sj, hq1, hb1⟩ := bind_ok hb1
              cases hb1
              cases hq
              refine tM.keep (tM.of hs10 (he9.step st10) ?_)
              show Fin T _ (RP T) ρ10 H10 ((me env3 Si).bind EV.keep) _
              rw [hq1]
              intro ρ11 H11 y st11 hs11 ry
              have nD11 := st11.out eD10 nD10
              have eD11 := st11.fr D _ eD10 nD10 (fun ps z => nomatch z)
              have ra11 := Reps.step st11 _ _ ra10
              have sl : Still H11 (upd H11 D (.lst (accV ++ [y]))) := still_write eD11 (fun _ z => nomatch z) (fun _ _ z => nomatch z)
              have la := ra11.length
              have lz : accP.length < 1000000 := by
                rw [el] at hsz
                simp only [List.length_append, List.length_cons] at hsz
                omega
              have st711 := st810.trans st11
              have bg2 : (1000000 : Nat) ≤ sizeLine := big_line
              have st111 := (stO.trans st810).trans st11
              refine ⟨accV, eD11, by omega, ρ11, Sf, r2, accP ++ [q1], accV ++ [y], (rJ7.step st711).still hfr sl, (he7.step st711).still sl, st111.off hD, hs11.away eD11 plain_lst nD11 sl, nD11, upd_same, Reps.still sl _ _ (ra11.app (.cons ry .nil)), hrec1, by rw [el]; simp⟩
theorem set_len {κ : Type} [DecidableEq κ] (k : κ) (p : PV) (l : List (κ × PV)) : (setK k p l).length ≤ l.length + 1 := by
  unfold setK
  split
  · rw [List.length_map]; omega
  · simp
abbrev mDc (mi : EV.Env → Store → Res EV.It) (mg : PV → EV.Env → Store → Res EV.Env) (mt : EV.Env → Store → Res Bool) (mk mv : EV.Env → Store → Res AV) (vs : List Nat) : EV.Env → Store → Res AV := fun env S => (mi env S).bind fun i S =>
  (dcL (fun p S => (mg p (EV.wipe env vs) S).calm.bind fun env S => (mt env S).bind fun b S =>
    if b = true then ((mk env S).bind EV.keep).bind fun q S => ((mv env S).bind EV.keep).bind fun r S => .ok (some (q, r)) S else .ok none S) i fuel 0 [] S).calm.bind fun l S => .ok (.dk l) S
theorem dc_rd (hw : ∀ v ∈ ws, v ∈ vs) (σ : St) (H : Hp) (Q : VK) (h : tE T W (mDc mi mg mt mk mv vs) σ H Q) : tDc (tI T W mi) (tG T ws mg) (tB' T W0 mt) (tE T W0 mk) (tE T W0 mv) vs σ H Q := by
  have bg : fuel ≤ sizeLine := big_line
  refine tM.imp (tM.bind (R1 := RI T) good_A h) ?_
  rintro J H1 ⟨it, ρ0, ρ1, S1, env, st1, hs1, he1, rJ, k⟩
  obtain ⟨l, S', hl, k⟩ := calm_bind k
  intro D hD
  refine ⟨fun i m H => ∃ ρ S accP accV, Step ρ1 H1 ρ H ∧ SRep T ρ H S ∧ D ∉ ρ ∧ H D = some (.dK accV) ∧ RepK T ρ H accP accV ∧
    dcL (fun p S => (mg p (EV.wipe env vs) S).calm.bind fun env S => (mt env S).bind fun b S =>
    if b = true then ((mk env S).bind EV.keep).bind fun q S => ((mv env S).bind EV.keep).bind fun r S => .ok (some (q, r)) S else .ok none S) it m i accP S = .ok l S' ∧ accP.length + m ≤ fuel,
    ⟨fuel, ρ1, S1, [], [], step_new hD, hs1.new hD, hs1.ne hD, upd_same, RepK.nil, hl, by simp⟩, ?_⟩
  rintro i m H2 ⟨ρ, S, accP, accV, st, hs, nD, eD, ra, hr, hm⟩
  have rJ2 : ItRel T ρ H2 J it := rJ.step st
  cases m with
  | zero => cases hr
  | succ m =>
    unfold dcL at hr
    split at hr
    · cases hr
    · rename_i e
      cases hr
      exact .inl ⟨it_stop hs rJ2 e, k ρ H2 (.ref D) st hs ⟨D, accV, rfl, hD, nD, eD, ra⟩⟩
    · rename_i p e
      obtain ⟨o, Sb, hb, hr⟩ := bind_ok hr
      obtain ⟨env2, Sa, ha, hb⟩ := bind_ok hb
      have ha := calm_ok ha
      obtain ⟨c, Sd, hc, hb⟩ := bind_ok hb
      obtain ⟨go, yl⟩ := it_go hs rJ2 e
      refine .inr ⟨go, fun H' => ∃ ρ S accP accV, Step ρ1 H1 ρ H' ∧ SRep T ρ H' S ∧ D ∉ ρ ∧ H' D = some (.dK accV) ∧ RepK T ρ H' accP accV ∧
        dcL (fun p S => (mg p (EV.wipe env vs) S).calm.bind fun env S => (mt env S).bind fun b S =>
    if b = true then ((mk env S).bind EV.keep).bind fun q S => ((mv env S).bind EV.keep).bind fun r S => .ok (some (q, r)) S else .ok none S) it m (i + 1) accP S = .ok l S' ∧ accP.length + m ≤ fuel,
        fun H' h => ⟨m, Nat.lt_succ_self m, h⟩, fun x H3 hy => ?_⟩
      obtain ⟨st3, hs3, rx⟩ := yl x H3 hy
      have stA := st.trans st3
      refine ⟨ρ, S, EV.wipe env vs, p, hs3, (he1.step stA).wipe vs, rx, ?_⟩
      rw [ha]
      rintro ρ4 H4 σ4 st4 hs4 ⟨he4, ag⟩
      refine ⟨ag.wipe hw, ρ4, Sa, env2, hs4, he4, ?_⟩
      rw [hc]
      rintro ρ5 H5 c' st5 hs5 rfl
      have st25 := st3.trans (st4.trans st5)
      have nD5 := st25.out eD nD
      have eD5 := st25.fr D _ eD nD (fun ps z => nomatch z)
      have ra5 := ra.step st25
      cases c' with
      | false =>
        simp only [Bool.false_eq_true, if_false] at hb ⊢
        cases hb
        exact ⟨ρ5, Sb, accP, accV, st.trans st25, hs5, nD5, eD5, ra5, hr, by omega⟩
      | true =>
        simp only [if_true] at hb ⊢
        obtain ⟨q, Se, hq, hb⟩ := bind_ok hb
        obtain ⟨v, Sf, hv, hb⟩ := bind_ok hb
        cases hb
        refine tM.keep (tM.of hs5 (he4.step st5) ?_)
        show Fin T _ (RP T) ρ5 H5 ((mk env2 Sd).bind EV.keep) _
        rw [hq]
        intro ρ6 H6 y st6 hs6 ry
        refine tM.keep (tM.of hs6 ((he4.step st5).step st6) ?_)
        show Fin T _ (RP T) ρ6 H6 ((mv env2 Se).bind EV.keep) _
        rw [hv]
        intro ρ7 H7 z st7 hs7 rz
        have st57 := st6.trans st7
        have nD7 := st57.out eD5 nD5
        have eD7 := st57.fr D _ eD5 nD5 (fun ps z => nomatch z)
        have ra7 := ra5.step st57
        have ry7 := Rep.step st7 _ _ ry
        have la := ra7.length
        have hr : (match keyOf q with | some k => dcL (fun p S => (mg p (EV.wipe env vs) S).calm.bind fun env S => (mt env S).bind fun b S =>
          if b = true then ((mk env S).bind EV.keep).bind fun q S => ((mv env S).bind EV.keep).bind fun r S => .ok (some (q, r)) S else .ok none S) it m (i + 1) (setK k v accP) Sb | none => .bad) = .ok l S' := hr
        cases hk : keyOf q with
        | none => rw [hk] at hr; cases hr
        | some ky =>
          rw [hk] at hr
          have sl : Still H7 (upd H7 D (.dK (putK accV ky z))) := still_write eD7 (fun _ z => nomatch z) (fun _ _ z => nomatch z)
          have ls := set_len ky v accP
          have rp := ra7.put ky rz
          exact ⟨accV, ky, key_ok hk ry7, eD7, by omega, ρ7, Sb, setK ky v accP, putK accV ky z, ((st.trans st25).trans st57).off hD, hs7.away eD7 plain_dk nD7 sl, nD7, upd_same, ⟨rp.1, Reps.still sl _ _ rp.2⟩, hr, by omega⟩
end
end EV
/-! The E layer: list(range(..)), tuple(range(..)). -/
namespace EV
open PySem PySem.Spec L2
open PyProof.Rows hiding St
section
variable {G : Gn} {sg : Sg} {X : Cx} {T : TX} {E : Ev} {W : WX} {pos p p2 pos2 : Pos} {a b : Expr} {ma mb : EV.Env → Store → Res AV}
theorem rg_fin {ρ : List Addr} {H : Hp} {S : Store} {tu : Bool} {x : Option Int} {j : Int} {av : AV} {Q : V → Hp → Prop} (hs : SRep T ρ H S) (e : rgOf tu x j = some av) (k : ∀ ρ' H' v, Step ρ H ρ' H' → SRep T ρ' H' S → RepA T H ρ' H' av v → Q v H') :
    RgOk (x.getD 0) j ∧ ∀ q, H q = none → Q (.ref q) (upd H q (if tu = true then .tup (rgV (x.getD 0) j) else .lst (rgV (x.getD 0) j))) := by
  have main : ∀ (lo : Int) (n : Nat), rngOf x j = some (.rng lo n) → lo = x.getD 0 ∧ n = (j - x.getD 0).toNat ∧ RgOk (x.getD 0) j := by
    intro lo n h
    cases x with
    | none =>
      simp only [rngOf] at h
      split at h
      · rename_i hc
        cases h
        simp only [Bool.and_eq_true, decide_eq_true_eq] at hc
        refine ⟨rfl, ?_, ?_⟩
        · show j.toNat = (j - 0).toNat
          rw [Int.sub_zero]
        · show RgOk 0 j
          exact ⟨by omega, by omega, by omega, by omega, by omega⟩
      · cases h
    | some i =>
      simp only [rngOf] at h
      split at h
      · rename_i hc
        cases h
        simp only [Bool.and_eq_true, decide_eq_true_eq] at hc
        refine ⟨rfl, rfl, ?_⟩
        show RgOk lo j
        exact ⟨by omega, by omega, by omega, by omega, by omega⟩
      · cases h
  unfold rgOf at e
  split at e
  · rename_i lo n hr
    obtain ⟨rfl, rfl, ok⟩ := main lo n hr
    refine ⟨ok, fun q n => ?_⟩
    have rr : Reps T ρ H ((List.range (j - x.getD 0).toNat).map fun i : Nat => PV.int (x.getD 0 + (i : Int))) (rgV (x.getD 0) j) := Reps.of_map (fun i => rep_int) _
    cases tu with
    | true =>
      have e : some (AV.v (PV.tup _)) = some av := e
      cases e
      exact fin_tup hs rr k n
    | false =>
      have e : some (AV.l _) = some av := e
      cases e
      exact fin_list hs rr k n
  · cases e
theorem rg_opt {α β : Type} {R : Rl α β} {f : EV.Env → Option Int → Store → Res α} {σ : St} {H : Hp} {Q : β → Hp → Prop} (h : tM T W R (fun env S => ((ma env S).bind fun x S => onInt x (fun i S => .ok (some i) S) S).bind (f env)) σ H Q) :
    tM T W R (fun env S => (ma env S).bind fun x S => onInt x (fun i S => f env (some i) S) S) σ H Q := by
  obtain ⟨ρ, S, env, hs, he, k⟩ := h
  refine tM.of hs he ?_
  cases q : ma env S with
  | bad =>
    have k : Fin T (WE W σ) R ρ H (((ma env S).bind fun x S => onInt x (fun i S => .ok (some i) S) S).bind (f env)) Q := k
    rw [q] at k
    exact k
  | err e S1 =>
    have k : Fin T (WE W σ) R ρ H (((ma env S).bind fun x S => onInt x (fun i S => .ok (some i) S) S).bind (f env)) Q := k
    rw [q] at k
    exact k
  | ok x S1 =>
    have k : Fin T (WE W σ) R ρ H (((ma env S).bind fun x S => onInt x (fun i S => .ok (some i) S) S).bind (f env)) Q := k
    rw [q] at k
    cases x with
    | v p =>
      cases p with
      | int i => exact k
      | _ => exact False.elim k
    | _ => exact False.elim k
abbrev rgN (tu : Bool) : Str := if tu = true then "tuple" else "list"
theorem rg_pe (o : On G sg X T E W) (tu : Bool) (hv : sg.gl (rgN tu) = true) {e : Expr} {te : St → Hp → (Int → Int → Hp → Prop) → Prop} (hn : noStar e = true) (he : PRg X e te) :
    PE X (.Call (.Name (rgN tu) p) [e] [] pos) (fun σ H Q => te σ H fun a b H1 => RgOk a b ∧ ∀ q, H1 q = none → Q (.ref q) (upd H1 q (if tu = true then .tup (rgV a b) else .lst (rgV a b)))) := by
  cases tu with
  | true => exact pe_tupRg o.calm (o.gl hv) (o.blt _ (by decide)) he (star_of hn [] _)
  | false => exact pe_listRg o.calm (o.gl hv) (o.blt _ (by decide)) he (star_of hn [] _)
theorem e_rgl1 (o : On G sg X T E W) (tu : Bool) (hv : sg.gl (rgN tu) = true) (hv2 : sg.gl "range" = true) (hn : noStar a = true) (ha : PE X a (tE T W ma)) :
    PE X (.Call (.Name (rgN tu) p) [.Call (.Name "range" p2) [a] [] pos2] [] pos) (tE T W fun env S => (Res.ok (none : Option Int) S).bind fun x S => (ma env S).bind fun y S => onInt y (fun j S => orBad S (rgOf tu x j)) S) := by
  refine pe_imp (rg_pe o tu hv rfl (prg_1 (o.gl hv2) (o.blt _ (by decide)) ha (star_of hn [] _))) ?_
  intro σ H Q h
  have h : tE T W (fun env S => (ma env S).bind fun y S => onInt y (fun j S => orBad S (rgOf tu none j)) S) σ H Q := h
  refine tM.imp (tM.bind (R1 := RA _) good_A h) ?_
  rintro x H1 ⟨a, ρ, ρ1, S1, env, st, hs1, he1, rx, k⟩
  obtain ⟨j, rfl, k⟩ := onInt_ok k
  obtain ⟨it, e, k⟩ := orBad_ok k
  have := of_int rx
  subst this
  exact ⟨j, rfl, rg_fin hs1 e fun ρ' H' v s h r => k ρ' H' v s h r⟩
theorem e_rgl2 (o : On G sg X T E W) (tu : Bool) (hv : sg.gl (rgN tu) = true) (hv2 : sg.gl "range" = true) (hn : noStar a = true) (hn2 : noStar b = true) (ha : PE X a (tE T W ma)) (hb : PE X b (tE T W mb)) :
    PE X (.Call (.Name (rgN tu) p) [.Call (.Name "range" p2) [a, b] [] pos2] [] pos) (tE T W fun env S => ((ma env S).bind fun x S => onInt x (fun i S => .ok (some i) S) S).bind fun x S => (mb env S).bind fun y S => onInt y (fun j S => orBad S (rgOf tu x j)) S) := by
  refine pe_imp (rg_pe o tu hv rfl (prg_2 (o.gl hv2) (o.blt _ (by decide)) ha hb (star_of hn _ _) (star_of hn2 [] _) (by rw [star_of hn2]; rfl))) ?_
  intro σ H Q h
  have h : tM T W (RA T) (fun env S => (ma env S).bind fun x S => onInt x (fun i S => (mb env S).bind fun y S => onInt y (fun j S => orBad S (rgOf tu (some i) j)) S) S) σ H Q := rg_opt (f := fun env x S => (mb env S).bind fun y S => onInt y (fun j S => orBad S (rgOf tu x j)) S) h
  refine tM.imp (tM.bind (R1 := RA _) good_A h) ?_
  rintro x H1 ⟨a, ρ, ρ1, S1, env, st, hs1, he1, rx, k⟩
  obtain ⟨i, rfl, k⟩ := onInt_ok k
  have := of_int rx
  subst this
  refine tM.of hs1 he1 ((Fin.bind (R1 := RA T) good_A k).imp ?_)
  rintro y H2 ⟨b, ρ2, S2, st2, hs2, ry, k2⟩
  obtain ⟨j, rfl, k⟩ := onInt_ok k2
  obtain ⟨it, e, k⟩ := orBad_ok k
  have := of_int ry
  subst this
  exact ⟨i, j, rfl, rfl, rg_fin hs2 e fun ρ' H' v s h r => k ρ' H' v s h r⟩
end
end EV
/-! The E layer: dict displays (keys: ints, texts). -/
namespace EV
open PySem PySem.Spec L2
open PyProof.Rows hiding St
section
variable {T : TX} {ρ ρ0 : List Addr} {H H' H0 : Hp} {S : Store}
/-- values look at tuples and frozen objects only -/
structure Keep2 (H H' : Hp) : Prop where
  tu : ∀ b xs, H b = some (.tup xs) → H' b = some (.tup xs)
  fz : ∀ b o u, H b = some (.frz o u) → H' b = some (.frz o u)
theorem Keep2.sqf (s : Keep2 H H') {K : PySem.W.Frag} {a : Addr} {xs : List V} (h : SqF K H a xs) : SqF K H' a xs := h.imp (fun ⟨o, q⟩ => ⟨o, s.fz _ _ _ q⟩) fun q => q
theorem Keep2.sqt (s : Keep2 H H') {K : PySem.W.Frag} {a : Addr} {xs : List V} (h : SqT K H a xs) : SqT K H' a xs := h.imp (fun q => q.imp (fun z => s.tu _ _ z) fun ⟨o, z⟩ => ⟨o, s.fz _ _ _ z⟩) fun q => q
theorem Keep2.sqr (s : Keep2 H H') {K : PySem.W.Frag} {a : Addr} {xs : List V} (h : SqR K H a xs) : SqR K H' a xs := h.imp (fun ⟨o, q, d⟩ => ⟨o, s.fz _ _ _ q, d⟩) fun q => q
mutual
theorem Rep.two (s : Keep2 H H') : ∀ (p : PV) (v : V), Rep T ρ H p v → Rep T ρ H' p v
  | .non, _, h => h
  | .bl _, _, h => h
  | .int _, _, h => h
  | .str _, _, h => h
  | .tup l, _, h => by unfold Rep at h ⊢; exact let ⟨a, xs, e, q, r⟩ := h; ⟨a, xs, e, s.tu _ _ q, Reps.two s l xs r⟩
  | .rot l, _, h => by unfold Rep at h ⊢; exact let ⟨a, xs, e, q, r⟩ := h; ⟨a, xs, e, s.sqr q, Reps.two s l xs r⟩
  | .rol l, _, h => by unfold Rep at h ⊢; exact let ⟨a, xs, e, q, r⟩ := h; ⟨a, xs, e, s.sqf q, Reps.two s l xs r⟩
  | .loc n, _, h => by unfold Rep at h ⊢; exact h
  | .fn n, _, h => by unfold Rep at h ⊢; exact h
theorem Reps.two (s : Keep2 H H') : ∀ (l : List PV) (xs : List V), Reps T ρ H l xs → Reps T ρ H' l xs
  | [], _, h => by unfold Reps at h ⊢; exact h
  | p :: l, _, h => by unfold Reps at h ⊢; exact let ⟨x, r, e, h1, h2⟩ := h; ⟨x, r, e, Rep.two s p x h1, Reps.two s l r h2⟩
end
section
variable {a : Addr} {o w : HO} (e : H a = some o) (nt : ∀ xs, o ≠ .tup xs) (nf : ∀ b u, o ≠ .frz b u)
include e nt nf
theorem keep2_over : Keep2 H (upd H a w) := ⟨fun b xs q => by
  rw [upd_ne fun z => by subst z; rw [e] at q; exact nt _ (Option.some.inj q)]
  exact q, fun b c u q => by
  rw [upd_ne fun z => by subst z; rw [e] at q; exact nf _ _ (Option.some.inj q)]
  exact q⟩
end
theorem SRep.over {a : Addr} {o w : HO} (e : H a = some o) (nt : ∀ xs, o ≠ .tup xs) (nf : ∀ b u, o ≠ .frz b u) (np : Plain1 o) (h : SRep T ρ H S) (n : a ∉ ρ) : SRep T ρ (upd H a w) S := ⟨h.len, h.nd, fun k b u e1 e2 => by
  have r := h.at_ k b u e1 e2
  have nb : b ≠ a := fun z => n (z ▸ List.mem_of_getElem? e1)
  have s := keep2_over (w := w) e nt nf
  cases u with
  | lst l => exact let ⟨xs, q, r⟩ := r; ⟨xs, by rw [upd_ne nb]; exact q, Reps.two s _ _ r⟩
  | dk l => exact let ⟨xs, q, r⟩ := r; ⟨xs, by rw [upd_ne nb]; exact q, r.1, Reps.two s _ _ r.2⟩
  | dt l => exact let ⟨xs, q, r⟩ := r; ⟨xs, by rw [upd_ne nb]; exact q, r.1, Reps.two s _ _ r.2⟩, tabs_over h.tab e np⟩
theorem Step.over {a : Addr} {w : HO} (s : Step ρ0 H0 ρ H) (z : H0 a = none) : Step ρ0 H0 ρ (upd H a w) :=
  ⟨s.pre, s.new, fun b o q n t => by rw [upd_ne (ne_of_none q z)]; exact s.fr b o q n t, fun b ps q n => by rw [upd_ne (ne_of_none q z)]; exact s.tb b ps q n,
    fun b xs q => by rw [upd_ne (ne_of_none q z)]; exact s.tu b xs q, fun b o u q => by rw [upd_ne (ne_of_none q z)]; exact s.fz b o u q⟩
end
/-- keys and values, two by two -/
def pairUp : List V → List (V × V)
  | x :: y :: r => (x, y) :: pairUp r
  | _ => []
def dctOf (l : List PV) : Option AV := (pairsOf l).bind fun kvs => if kvs.length ≤ 15 then some (.dk (kvs.foldl (fun acc kv => setK kv.1 kv.2 acc) [])) else none
section
variable {X : Cx} {T : TX} {E : Ev} {W : WX} {pos : Pos}
inductive PRs (X : Cx) (T : TX) (E : Ev) (W : WX) : Exs → List (Option Expr) → List Expr → List (TE × TE) → Prop
  | nil : PRs X T E W .nil [] [] []
  | cons {ke ve : Ex} {re : Exs} {k v : Expr} {ks : List (Option Expr)} {vs : List Expr} {trs : List (TE × TE)} (hk : PE X k (tE T W (ev E ke))) (hv : PE X v (tE T W (ev E ve))) (r : PRs X T E W re ks vs trs) :
      PRs X T E W (.one ke (.one ve re)) (some k :: ks) (v :: vs) ((tE T W (ev E ke), tE T W (ev E ve)) :: trs)
theorem PRs.pps {es : Exs} {ks : List (Option Expr)} {vs : List Expr} {trs : List (TE × TE)} (h : PRs X T E W es ks vs trs) : PPs X pos ks vs trs ∧ ks.all (·.isSome) = true ∧ ks.length = vs.length := by
  induction h with
  | nil => exact ⟨pps_nil, rfl, rfl⟩
  | cons hk hv r ih => exact ⟨pps_cons hk hv ih.1, by simpa using ih.2.1, by simpa using ih.2.2⟩
theorem PRs.rd {es : Exs} {ks : List (Option Expr)} {vs : List Expr} {trs : List (TE × TE)} (h : PRs X T E W es ks vs trs) : ∀ (σ : St) (H : Hp) (Q : List (V × V) → Hp → Prop), tM T W (RPs T) (evs E es) σ H (fun xs H2 => Q (pairUp xs) H2) → tPairs trs σ H Q := by
  induction h with
  | nil =>
    rintro σ H Q ⟨ρ, S, env, hs, he, k⟩
    unfold evs at k
    exact k ρ H [] Step.refl hs .nil
  | @cons ke ve re kx vx ks vs trs hk hv r ih =>
    intro σ H Q h
    have h : tM T W (RPs T) (fun env S => ((ev E ke env S).bind EV.keep).bind fun p S => ((ev E ve env S).bind EV.keep).bind fun q S => (evs E re env S).bind fun l S => .ok (p :: q :: l) S) σ H (fun xs H2 => Q (pairUp xs) H2) := by
      obtain ⟨ρ, S, env, hs, he, k⟩ := h
      refine tM.of hs he ?_
      simp only [evs, bind_assoc] at k ⊢
      exact k
    refine tM.keep (tM.imp (tM.bind (R1 := RP T) good_Ps h) ?_)
    rintro x H1 ⟨p, ρ, ρ1, S1, env, st, hs1, he1, rx, k⟩
    refine tM.keep (tM.of hs1 he1 ((Fin.bind (R1 := RP T) good_Ps k).imp ?_))
    rintro y H2 ⟨q, ρ2, S2, st2, hs2, ry, k2⟩
    refine ih σ H2 _ (tM.of hs2 (he1.step st2) ((Fin.bind (R1 := RPs T) good_Ps k2).imp ?_))
    rintro xs H3 ⟨l, ρ3, S3, st3, hs3, rl, k3⟩
    exact k3 ρ3 H3 (x :: y :: xs) Step.refl hs3 (.cons (Rep.step (st2.trans st3) _ _ rx) (.cons (Rep.step st3 _ _ ry) rl))
theorem pairs_ok {ρ : List Addr} {H : Hp} : ∀ {l : List PV} {xs : List V} {kvs : List (Key × PV)}, Reps T ρ H l xs → pairsOf l = some kvs → ∃ ks : List (Key × V), pairUp xs = ks.map (fun kv => (kV kv.1, kv.2)) ∧ RepK T ρ H kvs ks
  | [], xs, kvs, r, e => by
    unfold Reps at r
    subst r
    cases e
    exact ⟨[], rfl, RepK.nil⟩
  | [_], _, _, _, e => by cases e
  | k :: v :: l, xs, kvs, r, e => by
    unfold Reps at r
    obtain ⟨x, r1, rfl, rk, r⟩ := r
    unfold Reps at r
    obtain ⟨y, r2, rfl, rv, r⟩ := r
    simp only [pairsOf] at e
    split at e
    · rename_i k' l' hk hl
      cases e
      obtain ⟨ks, h1, h2⟩ := pairs_ok r hl
      have ek : x = kV k' := by
        cases k <;> simp only [keyOf] at hk <;> first | (cases hk; done) | (cases hk; unfold Rep at rk; exact rk)
      refine ⟨(k', y) :: ks, ?_, RepK.cons rv h2⟩
      show (x, y) :: pairUp r2 = _
      rw [h1, ek]
      rfl
    · cases e
theorem merge_ok {ρ : List Addr} {H : Hp} {kvs : List (Key × PV)} {ks : List (Key × V)} (h : RepK T ρ H kvs ks) : ∀ {acc : List (Key × PV)} {acs : List (Key × V)}, RepK T ρ H acc acs → RepK T ρ H (kvs.foldl (fun acc kv => setK kv.1 kv.2 acc) acc) (mergeK acs ks) := by
  refine RepK.ind (P := fun kvs ks => ∀ {acc : List (Key × PV)} {acs : List (Key × V)}, RepK T ρ H acc acs → RepK T ρ H (kvs.foldl (fun acc kv => setK kv.1 kv.2 acc) acc) (mergeK acs ks)) (fun r => r) (fun k p v kvs ks rp _ ih acc acs r => ?_) h
  exact ih (r.put k rp)
theorem e_dct {es : Exs} {ks : List (Option Expr)} {vs : List Expr} {trs : List (TE × TE)} (h : PRs X T E W es ks vs trs) (h0 : ks ≠ []) (h15 : ks.length ≤ 15) : PE X (.Dict ks vs pos) (tE T W fun env S => (evs E es env S).bind fun l S => orBad S (dctOf l)) := by
  obtain ⟨pp, ha, hl⟩ := h.pps (pos := pos)
  refine pe_imp (pe_disp pp ha hl h0 h15) ?_
  rintro σ H Q ⟨ρ, S, env, hs, he, k⟩ p hp
  have st0 : Step ρ H ρ (upd H p (.dK [])) := step_new hp
  refine h.rd σ _ _ (tM.of (hs.new hp) (he.step st0) ?_)
  have k : Fin T (WE W σ) (RA T) ρ H ((evs E es env S).bind fun l S => orBad S (dctOf l)) Q := k
  cases q : evs E es env S with
  | bad => rw [q] at k; exact False.elim k
  | err e S' =>
    rw [q] at k
    exact fun ρ' H' cls d s => k ρ' H' cls d (st0.trans s)
  | ok l S' =>
    rw [q] at k
    intro ρ' H' xs s hs' r
    obtain ⟨av, e, k2⟩ := orBad_ok (show Fin T (WE W σ) (RA T) ρ H (orBad S' (dctOf l)) Q from k)
    unfold dctOf at e
    obtain ⟨kvs, e1, e2⟩ := Option.bind_eq_some_iff.mp e
    split at e2
    · rename_i h15'
      cases e2
      obtain ⟨ks', h1, h2⟩ := pairs_ok r e1
      have np : p ∉ ρ := hs.ne hp
      have hp' : H' p = some (.dK []) := s.fr p _ upd_same np (fun ps z => by cases z)
      have np' : p ∉ ρ' := s.out upd_same np
      refine ⟨hp', ks', h1, ?_, ?_⟩
      · have := congrArg List.length h2.1
        rw [List.length_map, List.length_map] at this
        omega
      · have kp : Keep2 H' (upd H' p (.dK (mergeK [] ks'))) := keep2_over hp' (fun xs z => by cases z) (fun b u z => by cases z)
        refine k2 ρ' _ (.ref p) ((st0.trans s).over hp) (SRep.over hp' (fun xs z => by cases z) (fun b u z => by cases z) plain_dk hs' np') ⟨p, mergeK [] ks', rfl, hp, np', upd_same, ?_⟩
        have m := merge_ok h2 (RepK.nil (T := T) (ρ := ρ') (H := H'))
        exact ⟨m.1, Reps.two kp _ _ m.2⟩
    · cases e2

/-! ### tuples as keys -/
def mergeT (kvs : List (List Key × V)) (more : List (List Key × Addr × V)) : List (List Key × V) := more.foldl (fun acc kv => putK acc kv.1 kv.2.2) kvs
theorem len_mergeT : ∀ (more : List (List Key × Addr × V)) (kvs : List (List Key × V)), (mergeT kvs more).length ≤ kvs.length + more.length
  | [], kvs => by
    show kvs.length ≤ kvs.length + 0
    omega
  | p :: r, kvs => by
    have h1 := len_mergeT r (putK kvs p.1 p.2.2)
    have h2 := length_putK kvs p.1 p.2.2
    show (mergeT (putK kvs p.1 p.2.2) r).length ≤ _
    rw [List.length_cons]
    omega
def tDispT (trs : List (TE × TE)) : TE := fun σ H Q => ∀ p, H p = none → tPairs trs σ (upd H p (.dT [])) fun ps H2 => H2 p = some (.dT []) ∧
  ∃ kvs : List (List Key × Addr × V), ps = kvs.map (fun kv => (.ref kv.2.1, kv.2.2)) ∧ (∀ kv ∈ kvs, H2 kv.2.1 = some (.tup (kv.1.map kV))) ∧ kvs.length ≤ 15 ∧ Q (.ref p) (upd H2 p (.dT (mergeT [] kvs)))
theorem carT {P : Program} {w : World} {H : Hp} {h : Heap} (ok : HOk P w H h) : ∀ {kvs : List (List Key × Addr × V)} {ws : List (Value × Value)}, VV (kvs.map fun kv => (.ref kv.2.1, kv.2.2)) ws → (∀ kv ∈ kvs, H kv.2.1 = some (.tup (kv.1.map kV))) →
    ∃ rs : List (List Key × Addr × Value), PySem.CarriesH (tupleKind (mixKind P w)) h ws rs ∧ ∀ {acc : List (List Key × V)} {xs : List (List Key × Addr × Value)}, KT H acc xs → KT H (mergeT acc kvs) (PySem.storedAllH xs rs)
  | [], _, r, _ => by
    rw [List.map_nil] at r
    cases r
    exact ⟨[], True.intro, fun q => q⟩
  | p :: kvs, _, r, m => by
    rw [List.map_cons] at r
    cases r with
    | @cons a b as bs h t =>
      obtain ⟨rs, c, q⟩ := carT ok t fun kv hk => m kv (List.mem_cons_of_mem _ hk)
      obtain ⟨b1, b2⟩ := b
      have e : b1 = Value.ref p.2.1 := h.1
      subst e
      have hp := m p (List.mem_cons_self ..)
      exact ⟨(p.1, p.2.1, b2) :: rs, ⟨rfl, rfl, key_of ok hp, c⟩, fun z => q (z.put p.1 hp h.2)⟩
theorem pe_dispT {pos : Pos} {keys : List (Option Expr)} {values : List Expr} {trs : List (TE × TE)} (hu : X.A.units + 1 < cLine) (h : PPs X pos keys values trs) (hall : keys.all (·.isSome) = true) (hl : keys.length = values.length) (h0 : keys ≠ [])
    (h15 : keys.length ≤ 15) : PE X (.Dict keys values pos) (tDispT trs) := by
  refine ⟨fun pins s σ H Q I q => ?_⟩
  have hn := I.hok.fresh (Nat.le_refl s.heap.objs.size)
  have I1 := I.laid (a := s.heap.objs.size) (o := .dT []) (h' := s.heap.push { cls := .type "dict", data := .dict #[] }) (t' := s.toks) (fun _ _ q => Heap.get?_push_of_some _ q) (Nat.le_refl _) (dt_empty s.heap I.big)
  have ln := pairTrees_length keys values X.env pos hall hl
  have hne : pairTrees keys values X.env pos ≠ [] := fun he => by
    rw [he] at ln
    exact h0 (List.length_eq_zero_iff.mp ln.symm)
  rw [arm_eval_Dict, zip_pairTrees keys values X.env pos hall hl, dictDisplay_pairs (pairTrees keys values X.env pos) hne (by omega)]
  refine wpAny_bind (wpAny_standAt (wpAny_bind (PySem.wpAny_subDictH (knd := tupleKind (mixKind X.prog X.w)) (show X.A.units < cLine by omega) (by omega) (thn (h.run pins _ σ _ _ I1 (q _ hn)) fun ws s2 ⟨ps, H2, I2, rel, e, kvs, ep, mk, lk, q2⟩ => ?_))))
  subst ep
  obtain ⟨rs, c, rk⟩ := carT (P := X.prog) (w := X.w) I2.hok rel mk
  obtain ⟨z, hd, xs0, r0, dd⟩ := dt_of I2.hok e
  cases r0
  refine ⟨rs, c, dd, fun h' tk dd' hs => wpAny_pure ⟨.ref s.heap.objs.size, _, ?_, rfl, q2⟩⟩
  have hz : (mergeT [] kvs).length ≤ sizeLine := by
    have h1 := len_mergeT kvs []
    rw [List.length_nil] at h1
    rw [sizeLine_eq]
    omega
  obtain ⟨q, es, ep, hq, h2, h3, h4, _, h5⟩ := dd'
  refine d_write I2 (by rw [e]; exact True.intro) hs ⟨q, hq⟩ ⟨hz, hd, _, (rk .nil).keeps fun c ys ec => ?_, q, es, ep, hq, h2, h3, h4, h5⟩
  rw [upd_ne fun z => by rw [z, e] at ec; cases ec]
  exact ec
theorem pairsT_ok {ρ : List Addr} {H : Hp} : ∀ {l : List PV} {xs : List V} {kvs : List (List Key × PV)}, Reps T ρ H l xs → pairsT l = some kvs →
    ∃ ks : List (List Key × Addr × V), pairUp xs = ks.map (fun kv => (.ref kv.2.1, kv.2.2)) ∧ (∀ kv ∈ ks, H kv.2.1 = some (.tup (kv.1.map kV))) ∧ RepK T ρ H kvs (ks.map fun kv => (kv.1, kv.2.2))
  | [], xs, kvs, r, e => by
    unfold Reps at r
    subst r
    cases e
    exact ⟨[], rfl, (fun _ z => nomatch z), RepK.nil⟩
  | [_], _, _, _, e => by cases e
  | k :: v :: l, xs, kvs, r, e => by
    unfold Reps at r
    obtain ⟨x, r1, rfl, rk, r⟩ := r
    unfold Reps at r
    obtain ⟨y, r2, rfl, rv, r⟩ := r
    simp only [pairsT] at e
    split at e
    · rename_i k' l' hk hl
      cases e
      obtain ⟨ks, h1, h2, h3⟩ := pairsT_ok r hl
      obtain ⟨b, rfl, qb⟩ := keys_ok hk rk
      refine ⟨(k', b, y) :: ks, ?_, fun kv hkv => ?_, RepK.cons rv h3⟩
      · show (V.ref b, y) :: pairUp r2 = _
        rw [h1]
        rfl
      · rcases List.mem_cons.mp hkv with rfl | hkv
        · exact qb
        · exact h2 kv hkv
    · cases e
theorem mergeT_ok {ρ : List Addr} {H : Hp} : ∀ {kvs : List (List Key × PV)} {ks : List (List Key × Addr × V)}, RepK T ρ H kvs (ks.map fun kv => (kv.1, kv.2.2)) → ∀ {acc : List (List Key × PV)} {acs : List (List Key × V)}, RepK T ρ H acc acs →
    RepK T ρ H (kvs.foldl (fun acc kv => setK kv.1 kv.2 acc) acc) (mergeT acs ks) := by
  intro kvs ks h
  have h2 : ∀ {acc : List (List Key × PV)} {acs : List (List Key × V)}, RepK T ρ H acc acs → RepK T ρ H (kvs.foldl (fun acc kv => setK kv.1 kv.2 acc) acc) ((ks.map fun kv => (kv.1, kv.2.2)).foldl (fun acc kv => putK acc kv.1 kv.2) acs) := by
    refine RepK.ind (P := fun kvs ks => ∀ {acc : List (List Key × PV)} {acs : List (List Key × V)}, RepK T ρ H acc acs → RepK T ρ H (kvs.foldl (fun acc kv => setK kv.1 kv.2 acc) acc) (ks.foldl (fun acc kv => putK acc kv.1 kv.2) acs)) (fun r => r) (fun k p v kvs ks rp _ ih acc acs r => ?_) h
    exact ih (r.put k rp)
  intro acc acs r
  have := h2 r
  rw [List.foldl_map] at this
  exact this
def dcuOf (l : List PV) : Option AV := (pairsT l).bind fun kvs => if kvs.length ≤ 15 then some (.dt (kvs.foldl (fun acc kv => setK kv.1 kv.2 acc) [])) else none
theorem e_dcu {es : Exs} {ks : List (Option Expr)} {vs : List Expr} {trs : List (TE × TE)} (hu : X.A.units + 1 < cLine) (h : PRs X T E W es ks vs trs) (h0 : ks ≠ []) (h15 : ks.length ≤ 15) : PE X (.Dict ks vs pos) (tE T W fun env S => (evs E es env S).bind fun l S => orBad S (dcuOf l)) := by
  obtain ⟨pp, ha, hl⟩ := h.pps (pos := pos)
  refine pe_imp (pe_dispT hu pp ha hl h0 h15) ?_
  rintro σ H Q ⟨ρ, S, env, hs, he, k⟩ p hp
  have st0 : Step ρ H ρ (upd H p (.dT [])) := step_new hp
  refine h.rd σ _ _ (tM.of (hs.new hp) (he.step st0) ?_)
  have k : Fin T (WE W σ) (RA T) ρ H ((evs E es env S).bind fun l S => orBad S (dcuOf l)) Q := k
  cases q : evs E es env S with
  | bad => rw [q] at k; exact False.elim k
  | err e S' =>
    rw [q] at k
    exact fun ρ' H' cls d s => k ρ' H' cls d (st0.trans s)
  | ok l S' =>
    rw [q] at k
    intro ρ' H' xs s hs' r
    obtain ⟨av, e, k2⟩ := orBad_ok (show Fin T (WE W σ) (RA T) ρ H (orBad S' (dcuOf l)) Q from k)
    unfold dcuOf at e
    obtain ⟨kvs, e1, e2⟩ := Option.bind_eq_some_iff.mp e
    split at e2
    · rename_i h15'
      cases e2
      obtain ⟨ks', h1, hm, h2⟩ := pairsT_ok r e1
      have np : p ∉ ρ := hs.ne hp
      have hp' : H' p = some (.dT []) := s.fr p _ upd_same np (fun ps z => by cases z)
      have np' : p ∉ ρ' := s.out upd_same np
      refine ⟨hp', ks', h1, hm, ?_, ?_⟩
      · have := congrArg List.length h2.1
        rw [List.length_map, List.length_map, List.length_map] at this
        omega
      · have kp : Keep2 H' (upd H' p (.dT (mergeT [] ks'))) := keep2_over hp' (fun xs z => by cases z) (fun b u z => by cases z)
        refine k2 ρ' _ (.ref p) ((st0.trans s).over hp) (SRep.over hp' (fun xs z => by cases z) (fun b u z => by cases z) plain_dt hs' np') ⟨p, mergeT [] ks', rfl, hp, np', upd_same, ?_⟩
        have m := mergeT_ok h2 (RepK.nil (T := T) (ρ := ρ') (H := H'))
        exact ⟨m.1, Reps.two kp _ _ m.2⟩
    · cases e2
end
end EV
/-! The E layer: {k: v for ..} with tuples as keys. -/
namespace EV
open PySem PySem.Spec L2
open PyProof.Rows hiding St
section
variable {X : Cx}
/-- d[b] = v, b a tuple, from within a comprehension -/
theorem put_tup {pins : List (Addr × Obj)} {σ : St} {H : Hp} {s : Shared} {E : Value → Shared → Prop} {D b : Addr} {kvs : List (List Key × V)} {k : List Key} {v : V} {r : Value} {Q : Unit → Shared → Prop} (hu : X.A.units + 1 < cLine) (I : Inv X pins σ H s) (hD : H D = some (.dT kvs)) (hb : H b = some (.tup (k.map kV)))
    (hz : kvs.length < sizeLine) (rv : RelV v r) (h : ∀ s', Inv X pins σ (upd H D (.dT (putK kvs k v))) s' → Q () s') : wpAny (model X.prog X.w) X.A (dictSet D (.ref b) r) Q E s := by
  obtain ⟨z, nm, xs, rel, dd⟩ := dt_of I.hok hD
  have lx : xs.length ≤ sizeLine := by rw [← Paired.length rel]; exact z
  have ln := length_putK kvs k v
  have rm : (tupleKind (mixKind X.prog X.w)).room X.A := by
    show X.A.units < cLine
    omega
  refine wpAny_dictSet_heap (hsz := lx) rm (key_of I.hok hb) dd fun h2 d2 sb => h _ ?_
  obtain ⟨q, es, ep, q1, q2, q3, q4, _, q5⟩ := d2
  refine d_write I (by rw [hD]; exact True.intro) sb ⟨q, q1⟩ ⟨by omega, nm, _, (rel.put k hb rv).keeps fun c ys ec => ?_, q, es, ep, q1, q2, q3, q4, q5⟩
  have ne : c ≠ D := fun e => by rw [e, hD] at ec; cases ec
  rw [upd_ne ne]
  exact ec
/-- what a dict comprehension with tuples as keys asks -/
def tDcT (wi : TI) (g : TG) (tt : TT) (tk tv : TE) (vs : List Nat) : TE := fun σ H Q => wi σ H fun J H1 => ∀ D, H1 D = none → ∃ M : Nat → Nat → Hp → Prop, (∃ m, M 0 m (upd H1 D (.dT []))) ∧ ∀ i m H2, M i m H2 →
  (J.stop i H2 ∧ Q (.ref D) H2) ∨ (J.go i H2 ∧ ∃ N : Hp → Prop, (∀ H3, N H3 → ∃ m2, m2 < m ∧ M (i + 1) m2 H3) ∧ ∀ x H3, J.yld i H2 x H3 → g x (L2.wipe σ vs) H3 fun σ2 H4 => L2.wipe σ2 vs = L2.wipe σ vs ∧ tt σ2 H4 fun b H5 =>
    if b = true then tk σ2 H5 fun y H6 => tv σ2 H6 fun z H7 => ∃ kvs k p, y = .ref p ∧ H7 p = some (.tup (k.map kV)) ∧ H7 D = some (.dT kvs) ∧ kvs.length < sizeLine ∧ N (upd H7 D (.dT (putK kvs k z))) else N H5)
theorem dcT_core {pins : List (Addr × Obj)} {s : Shared} {σ : St} {H : Hp} {Q : VK} {ke ve tg iter : Expr} {ifs : List Expr} {scope : Scope} {own : List (Str × Nat)} {pos pos' : Pos} {wi : TI} {g : TG} {tt : TT} {tk tv : TE} {use : Option (Value → Sem Unit)} {Qf : Value → Shared → Prop} (hu : X.A.units + 1 < cLine)
    (calm : X.calm = true) (nd : X.N.Nodup) (I : Inv X pins σ H s) (hi : PI X tg iter wi) (ok : BlkOk X.N X.env.scope scope own)
    (pG : ∀ (z : Shared) (Hz : Hp) (C : Addr) (cl : List (Str × Addr)) (fp : List Addr), PG (X.blk z Hz scope (compEnvC scope cl C X.env) fp) tg g) (pT : ∀ (z : Shared) (Hz : Hp) (C : Addr) (cl : List (Str × Addr)) (fp : List Addr), PTs (X.blk z Hz scope (compEnvC scope cl C X.env) fp) ifs tt)
    (pK : ∀ (z : Shared) (Hz : Hp) (C : Addr) (cl : List (Str × Addr)) (fp : List Addr), PE (X.blk z Hz scope (compEnvC scope cl C X.env) fp) ke tk)
    (pV : ∀ (z : Shared) (Hz : Hp) (C : Addr) (cl : List (Str × Addr)) (fp : List Addr), PE (X.blk z Hz scope (compEnvC scope cl C X.env) fp) ve tv) (fold : ∀ x, foldedSetIterable iter X.env x = pure x)
    (h : tDcT wi g tt tk tv (own.map (·.2)) σ H Q)
    (out : ∀ D C z m Hz, Inv X pins σ Hz z → Q (.ref D) Hz → z.heap.Ns C m → FpOk X pins Hz C → compPost (model X.prog X.w) X.A X.xe use Qf (.ref D) C (.ok .next) z) :
    wpAny (model X.prog X.w) X.A (comprehension (.DictComp ke ve [⟨tg, iter, ifs, 0⟩] scope pos) scope X.env pos' newDict false (eval iter X.env) use) Qf X.xe s := by
  have cells : ∀ y ∈ scope.names, y.2 = .free → ∃ c, X.env.cells.lookup y.1 = some c := fun y hy e =>
    (ok.free y hy e).elim (fun k => I.ok.has _ (.inl k)) fun k => I.ok.has _ (.inr k)
  refine wpAny_comprehension_free (use := use) rfl fold (closure_ok cells) ok.kind (fun y hy e => by rw [ok.uniq y hy, e]) (thn (hi.run pins s σ H _ I h) fun _ s1 a1 => thn a1 fun _ s2 a2 => ?_)
  obtain ⟨it, fp, tn, J, H2, rfl, I2, T, t2, ff, q⟩ := a2
  refine wpAny_newObj_type (newEnv_comp ?_)
  -- the new dict stands at the heap's end
  generalize eD : s2.heap.objs.size = D
  have fresh : H2 D = none := I2.hok.fresh (Nat.le_of_eq eD)
  obtain ⟨M, ⟨m0, w0⟩, turn⟩ := q D fresh
  generalize es3 : ({ s2 with heap := s2.heap.push { cls := .type "dict", data := .dict #[] } } : Shared) = s3
  have hp3 : s3.heap = s2.heap.push { cls := .type "dict", data := .dict #[] } := by rw [← es3]
  have I3 : Inv X pins σ (upd H2 D (.dT [])) s3 := by
    subst es3 eD
    exact I2.laid (t' := s2.toks) (fun _ _ e => Heap.get?_push_of_some _ e) (Nat.le_refl _) (dt_empty s2.heap I2.big)
  have small : ∀ b ∈ fp, b < s2.heap.objs.size := fun b hb => let ⟨_, e, _⟩ := T.obj _ _ t2 b hb; Heap.lt_size e
  have f3 : ∀ b ∈ fp, FpOk X pins (upd H2 D (.dT [])) b ∧ b < s3.heap.objs.size := fun b hb => by
    have lt := small b hb
    have ne : b ≠ D := by rw [← eD]; exact Nat.ne_of_lt lt
    exact ⟨⟨by rw [upd_ne ne]; exact (ff b hb).1, (ff b hb).2⟩, by rw [hp3, Heap.size_push]; exact Nat.lt_succ_of_lt lt⟩
  have t3 : tn 0 s3.heap := T.keep _ _ _ t2 fun _ _ _ e => by rw [hp3]; exact Heap.get?_push_of_some _ e
  have I4 := block_start I3 ok nd f3
  have cg := pG s3 (upd H2 D (.dT [])) s3.heap.objs.size (cellsFrom (s3.heap.objs.size + 1) scope.names (cloFrom X.env.cells scope.names [])) fp
  have ct := pT s3 (upd H2 D (.dT [])) s3.heap.objs.size (cellsFrom (s3.heap.objs.size + 1) scope.names (cloFrom X.env.cells scope.names [])) fp
  have ck := pK s3 (upd H2 D (.dT [])) s3.heap.objs.size (cellsFrom (s3.heap.objs.size + 1) scope.names (cloFrom X.env.cells scope.names [])) fp
  have cv := pV s3 (upd H2 D (.dT [])) s3.heap.objs.size (cellsFrom (s3.heap.objs.size + 1) scope.names (cloFrom X.env.cells scope.names [])) fp
  show codeAny _ _ (.compStart (.DictComp ke ve [⟨tg, iter, ifs, 0⟩] scope pos) 0 (.ref it) (.ref D) (compEnvC scope (cellsFrom (s3.heap.objs.size + 1) scope.names (cloFrom X.env.cells scope.names [])) s3.heap.objs.size X.env)) (compPost (model X.prog X.w) X.A X.xe use Qf (.ref D) s3.heap.objs.size) { s3 with heap := pushCells (s3.heap.push { cls := .type "dict", data := .dict #[] }) scope.names }
  generalize ece : compEnvC scope (cellsFrom (s3.heap.objs.size + 1) scope.names (cloFrom X.env.cells scope.names [])) s3.heap.objs.size X.env = ce at I4 cg ct ck cv ⊢
  have locals : ce.locals = s3.heap.objs.size := by rw [← ece]; rfl
  have n3 : ∀ b ∈ fp, (upd H2 D (.dT [])) b = none := fun b hb => (f3 b hb).1.1
  generalize eH3 : upd H2 D (.dT []) = H3 at I3 I4 cg ct ck cv w0 n3 f3
  generalize es4 : ({ s3 with heap := pushCells (s3.heap.push { cls := .type "dict", data := .dict #[] }) scope.names } : Shared) = s4 at I4 ⊢
  have t4 : tn 0 s4.heap := T.keep _ _ _ t3 fun _ _ _ e => by rw [← es4]; exact pushCells_keeps _ _ _ _ (Heap.get?_push_of_some _ e)
  have foot : ∀ {σz : St} {Hz : Hp} {z : Shared}, Inv (X.blk s3 H3 scope ce fp) [] σz Hz z → (∀ b ∈ fp, Hz b = none) → ∀ b ∈ fp, FpOk (X.blk s3 H3 scope ce fp) [] Hz b := fun {_ _ _} Iz nz b hb =>
    ⟨nz b hb, (Iz.ok.exf b hb).1, Iz.ok.exfs b hb, .inl hb, fun x c e => (Iz.ok.exf b hb).2 x c e, fun p hp => by cases (show p ∈ ([] : List (Addr × Obj)) from hp)⟩
  have loop : codeAny (model X.prog X.w) X.A (.compLoop (.DictComp ke ve [⟨tg, iter, ifs, 0⟩] scope pos) 0 (.ref it) (.ref D) ce) (compPost (model X.prog X.w) X.A X.xe use Qf (.ref D) s3.heap.objs.size) s4 := by
    refine compLoop_anyD (fun n z => ∃ i Hz, Inv (X.blk s3 H3 scope ce fp) [] (L2.wipe σ (own.map (·.2))) Hz z ∧ tn i z.heap ∧ (∀ b ∈ fp, Hz b = none) ∧ M i n Hz) ?_ m0 ⟨0, H3, I4, t4, n3, w0⟩
    rintro n s5 ⟨i, H5, I5, t5, n5, w5⟩
    rcases turn i n H5 w5 with ⟨st, fin⟩ | ⟨go, N, hN, step⟩
    · refine thnF (T.done (X.blk s3 H3 scope ce fp) rfl rfl rfl calm i [] s5 _ H5 (fun _ _ => False) I5 (foot I5 n5) t5 st) fun r s6 ⟨hr, I6⟩ => ?_
      subst hr
      have I7 : Inv X pins σ H5 s6 := I3.call' (ch := fp) I6.os I6.base I6.hok I6.bare fun b hb => let f := (f3 b hb).1.2; ⟨f.2.2.1, f.1, f.2.2.2.1, f.2.2.2.2⟩
      have free : H5 s3.heap.objs.size = none := locals ▸ (show H5 ce.locals = none from I6.free)
      obtain ⟨m, hm, _⟩ := I6.loc
      have hm : s6.heap.Ns s3.heap.objs.size m := locals ▸ (show s6.heap.Ns ce.locals m from hm)
      exact out D _ s6 m H5 I7 fin hm (I3.fpOk (Nat.le_refl _) free)
    · refine thnF (T.item (X.blk s3 H3 scope ce fp) rfl rfl rfl calm i [] s5 _ H5 (fun _ _ => False) I5 (foot I5 n5) t5 go) fun r s6 ⟨u, hr, a6⟩ => ?_
      subst hr
      refine thnF a6 fun _ s7 ⟨x, H7, I7, r7, y7, t7, n7⟩ => ?_
      have J7 := I7.pinned (foot I7 n7) (T.obj _ _ t7)
      refine thnF (cg.run _ s7 _ H7 x u _ J7 r7 (step x H7 y7)) fun _ s8 ⟨σ8, H8, I8, hw, q8⟩ => thnF (ct.run _ s8 σ8 H8 _ I8 q8) fun b s9 ⟨H9, I9, q9⟩ => ?_
      have close : ∀ {z : Shared} {Hz : Hp}, Inv (X.blk s3 H3 scope ce fp) ([] ++ pinsAt fp s7.heap) σ8 Hz z → N Hz → ∃ m, m < n ∧ ∃ i Hz, Inv (X.blk s3 H3 scope ce fp) [] (L2.wipe σ (own.map (·.2))) Hz z ∧ tn i z.heap ∧ (∀ b ∈ fp, Hz b = none) ∧ M i m Hz := fun {z Hz} Iz nz => by
        obtain ⟨m2, lt, w⟩ := hN Hz nz
        have pin : ∀ b ∈ fp, ∀ o, s7.heap.get? b = some o → z.heap.get? b = some o ∧ Hz b = none := fun b hb o e => by
          have p := Iz.pin (b, o) (List.mem_append_right _ (List.mem_append_right _ (mem_pinsAt hb e)))
          exact ⟨p.1, p.2.1⟩
        have ll : (L2.wipe σ (own.map (·.2))).length = σ8.length := by rw [← hw, L2.wipe_length]
        refine ⟨m2, lt, i + 1, Hz, (Iz.unpinned (pins := [])).weak ll (fun j v e => (L2.wipe_some (hw ▸ e)).1), T.keep _ _ _ t7 fun b hb o e => (pin b hb o e).1, fun b hb => ?_, w⟩
        obtain ⟨o, e, _⟩ := T.obj _ _ t7 b hb
        exact (pin b hb o e).2
      cases b with
      | false => exact close I9 (by simpa using q9)
      | true =>
        simp only [if_true] at q9 ⊢
        refine thnF (ck.run _ s9 σ8 H9 _ I9 q9) fun _ s10 ⟨y, H10, I10, r10, q10⟩ => thnF (cv.run _ s10 σ8 H10 _ I10 q10) fun _ s11 ⟨v, H11, I11, r11, kvs, k, p, ey, ep, eD11, lz, nx⟩ => ?_
        subst ey
        cases r10
        exact put_tup (X := X.blk s3 H3 scope ce fp) hu I11 eD11 ep lz r11 fun s12 I12 => close I12 nx
  exact codeAny_compStart_dict loop (T.self X.A 0 _ _ _ t4 loop)
/-- .. as a value -/
theorem pe_dcT {ke ve tg iter : Expr} {ifs : List Expr} {scope : Scope} {own : List (Str × Nat)} {pos : Pos} {wi : TI} {g : TG} {tt : TT} {tk tv : TE} (hu : X.A.units + 1 < cLine) (calm : X.calm = true) (nd : X.N.Nodup) (hi : PI X tg iter wi) (ok : BlkOk X.N X.env.scope scope own)
    (pG : ∀ (z : Shared) (Hz : Hp) (C : Addr) (cl : List (Str × Addr)) (fp : List Addr), PG (X.blk z Hz scope (compEnvC scope cl C X.env) fp) tg g) (pT : ∀ (z : Shared) (Hz : Hp) (C : Addr) (cl : List (Str × Addr)) (fp : List Addr), PTs (X.blk z Hz scope (compEnvC scope cl C X.env) fp) ifs tt)
    (pK : ∀ (z : Shared) (Hz : Hp) (C : Addr) (cl : List (Str × Addr)) (fp : List Addr), PE (X.blk z Hz scope (compEnvC scope cl C X.env) fp) ke tk)
    (pV : ∀ (z : Shared) (Hz : Hp) (C : Addr) (cl : List (Str × Addr)) (fp : List Addr), PE (X.blk z Hz scope (compEnvC scope cl C X.env) fp) ve tv) (fold : ∀ x, foldedSetIterable iter X.env x = pure x) :
    PE X (.DictComp ke ve [⟨tg, iter, ifs, 0⟩] scope pos) (tDcT wi g tt tk tv (own.map (·.2))) := by
  refine ⟨fun pins s σ H Q I h => ?_⟩
  rw [arm_eval_DictComp]
  refine dcT_core hu calm nd I hi ok pG pT pK pV fold h fun D C z m Hz Iz q hm ⟨a0, a1, a2, a3, a4, a5⟩ => ⟨m, hm, fun hz sb => ?_⟩
  exact ⟨.ref D, Hz, Iz.turned (t' := z.toks) (fun b o hb e => (sb.2 b hb).trans e) a0 a1 a3 a4 a5, rfl, q⟩
end
section
variable {T : TX} {W : WX} {mi : EV.Env → Store → Res EV.It} {mt : EV.Env → Store → Res Bool} {me mk mv : EV.Env → Store → Res AV} {mg : PV → EV.Env → Store → Res EV.Env} {vs ws : List Nat}
abbrev mDcT (mi : EV.Env → Store → Res EV.It) (mg : PV → EV.Env → Store → Res EV.Env) (mt : EV.Env → Store → Res Bool) (mk mv : EV.Env → Store → Res AV) (vs : List Nat) : EV.Env → Store → Res AV := fun env S => (mi env S).bind fun i S =>
  (dcLT (fun p S => (mg p (EV.wipe env vs) S).calm.bind fun env S => (mt env S).bind fun b S =>
    if b = true then ((mk env S).bind EV.keep).bind fun q S => ((mv env S).bind EV.keep).bind fun r S => .ok (some (q, r)) S else .ok none S) i fuel 0 [] S).calm.bind fun l S => .ok (.dt l) S
theorem dcT_rd (hw : ∀ v ∈ ws, v ∈ vs) (σ : St) (H : Hp) (Q : VK) (h : tE T W (mDcT mi mg mt mk mv vs) σ H Q) : tDcT (tI T W mi) (tG T ws mg) (tB' T W0 mt) (tE T W0 mk) (tE T W0 mv) vs σ H Q := by
  have bg : fuel ≤ sizeLine := big_line
  refine tM.imp (tM.bind (R1 := RI T) good_A h) ?_
  rintro J H1 ⟨it, ρ0, ρ1, S1, env, st1, hs1, he1, rJ, k⟩
  obtain ⟨l, S', hl, k⟩ := calm_bind k
  intro D hD
  refine ⟨fun i m H => ∃ ρ S accP accV, Step ρ1 H1 ρ H ∧ SRep T ρ H S ∧ D ∉ ρ ∧ H D = some (.dT accV) ∧ RepK T ρ H accP accV ∧
    dcLT (fun p S => (mg p (EV.wipe env vs) S).calm.bind fun env S => (mt env S).bind fun b S =>
    if b = true then ((mk env S).bind EV.keep).bind fun q S => ((mv env S).bind EV.keep).bind fun r S => .ok (some (q, r)) S else .ok none S) it m i accP S = .ok l S' ∧ accP.length + m ≤ fuel,
    ⟨fuel, ρ1, S1, [], [], step_new hD, hs1.new hD, hs1.ne hD, upd_same, RepK.nil, hl, by simp⟩, ?_⟩
  rintro i m H2 ⟨ρ, S, accP, accV, st, hs, nD, eD, ra, hr, hm⟩
  have rJ2 : ItRel T ρ H2 J it := rJ.step st
  cases m with
  | zero => cases hr
  | succ m =>
    unfold dcLT at hr
    split at hr
    · cases hr
    · rename_i e
      cases hr
      exact .inl ⟨it_stop hs rJ2 e, k ρ H2 (.ref D) st hs ⟨D, accV, rfl, hD, nD, eD, ra⟩⟩
    · rename_i p e
      obtain ⟨o, Sb, hb, hr⟩ := bind_ok hr
      obtain ⟨env2, Sa, ha, hb⟩ := bind_ok hb
      have ha := calm_ok ha
      obtain ⟨c, Sd, hc, hb⟩ := bind_ok hb
      obtain ⟨go, yl⟩ := it_go hs rJ2 e
      refine .inr ⟨go, fun H' => ∃ ρ S accP accV, Step ρ1 H1 ρ H' ∧ SRep T ρ H' S ∧ D ∉ ρ ∧ H' D = some (.dT accV) ∧ RepK T ρ H' accP accV ∧
        dcLT (fun p S => (mg p (EV.wipe env vs) S).calm.bind fun env S => (mt env S).bind fun b S =>
    if b = true then ((mk env S).bind EV.keep).bind fun q S => ((mv env S).bind EV.keep).bind fun r S => .ok (some (q, r)) S else .ok none S) it m (i + 1) accP S = .ok l S' ∧ accP.length + m ≤ fuel,
        fun H' h => ⟨m, Nat.lt_succ_self m, h⟩, fun x H3 hy => ?_⟩
      obtain ⟨st3, hs3, rx⟩ := yl x H3 hy
      have stA := st.trans st3
      refine ⟨ρ, S, EV.wipe env vs, p, hs3, (he1.step stA).wipe vs, rx, ?_⟩
      rw [ha]
      rintro ρ4 H4 σ4 st4 hs4 ⟨he4, ag⟩
      refine ⟨ag.wipe hw, ρ4, Sa, env2, hs4, he4, ?_⟩
      rw [hc]
      rintro ρ5 H5 c' st5 hs5 rfl
      have st25 := st3.trans (st4.trans st5)
      have nD5 := st25.out eD nD
      have eD5 := st25.fr D _ eD nD (fun ps z => nomatch z)
      have ra5 := ra.step st25
      cases c' with
      | false =>
        simp only [Bool.false_eq_true, if_false] at hb ⊢
        cases hb
        exact ⟨ρ5, Sb, accP, accV, st.trans st25, hs5, nD5, eD5, ra5, hr, by omega⟩
      | true =>
        simp only [if_true] at hb ⊢
        obtain ⟨q, Se, hq, hb⟩ := bind_ok hb
        obtain ⟨v, Sf, hv, hb⟩ := bind_ok hb
        cases hb
        refine tM.keep (tM.of hs5 (he4.step st5) ?_)
        show Fin T _ (RP T) ρ5 H5 ((mk env2 Sd).bind EV.keep) _
        rw [hq]
        intro ρ6 H6 y st6 hs6 ry
        refine tM.keep (tM.of hs6 ((he4.step st5).step st6) ?_)
        show Fin T _ (RP T) ρ6 H6 ((mv env2 Se).bind EV.keep) _
        rw [hv]
        intro ρ7 H7 z st7 hs7 rz
        have st57 := st6.trans st7
        have nD7 := st57.out eD5 nD5
        have eD7 := st57.fr D _ eD5 nD5 (fun ps z => nomatch z)
        have ra7 := ra5.step st57
        have ry7 := Rep.step st7 _ _ ry
        have la := ra7.length
        have hr : (match keysOf q with | some k => dcLT (fun p S => (mg p (EV.wipe env vs) S).calm.bind fun env S => (mt env S).bind fun b S =>
          if b = true then ((mk env S).bind EV.keep).bind fun q S => ((mv env S).bind EV.keep).bind fun r S => .ok (some (q, r)) S else .ok none S) it m (i + 1) (setK k v accP) Sb | none => .bad) = .ok l S' := hr
        cases hk : keysOf q with
        | none => rw [hk] at hr; cases hr
        | some ky =>
          rw [hk] at hr
          have sl : Still H7 (upd H7 D (.dT (putK accV ky z))) := still_write eD7 (fun _ z => nomatch z) (fun _ _ z => nomatch z)
          have ls := set_len ky v accP
          have rp := ra7.put ky rz
          obtain ⟨pa, rfl, qa⟩ := keys_ok hk ry7
          exact ⟨accV, ky, pa, rfl, qa, eD7, by omega, ρ7, Sb, setK ky v accP, putK accV ky z, ((st.trans st25).trans st57).off hD, hs7.away eD7 plain_dt nD7 sl, nD7, upd_same, ⟨rp.1, Reps.still sl _ _ rp.2⟩, hr, by omega⟩
end
end EV
/-! The E layer, part O: the check of an expression against the text; what is checked does what the evaluator says. -/
namespace EV
open PySem PySem.Spec L2
open PyProof.Rows hiding St

section
variable {G : Gn} {sg : Sg} {X : Cx} {T : TX} {E : Ev} {W : WX} {pos p : Pos} {a b tg : Expr} {ma mb : EV.Env → Store → Res AV}
/-! ### a call, a display, not -/
theorem run_call (o : On G sg X T E W) {f : Nat} {x : Str} {ad : Addr} (hc : CallAt X.prog X.w X.K X.mg X.base X.A T (E.call f) ad) {pins : List (Addr × Obj)} {s : Shared} {σ : St} {H : Hp} {us : List Value} {vs : List V} {Q : VK} {ρ : List Addr} {S : Store} {ps : List PV}
    (I : L2.Inv X pins σ H s) (r : Vals vs us) (hs : SRep T ρ H S) (rp : Reps T ρ H ps vs) (k : Fin T (WE W σ) (RA T) ρ H ((E.call f ps S).bind fun p S => .ok (.v p) S) Q) :
    wpAny (model X.prog X.w) X.A (PySem.call (.ref ad) us) (EP X pins σ Q) X.xe s :=
  hc X W rfl rfl rfl rfl rfl rfl o.pass pins s σ H us vs Q ρ S ps I r hs rp (fin_call k)
theorem e_call (o : On G sg X T E W) {f : Nat} {x : Str} (hf : G.fn[f]? = some x) (hv : sg.gl x = true) (hd : dbg x = true) {e : Expr} {es : List Expr} {mas : EV.Env → Store → Res (List PV)} (hn : (e :: es).all noStar = true) (has : PA X (e :: es) (tP T W mas)) :
    PE X (.Call (.Name x p) (e :: es) [] pos) (tE T W (mCall E f mas)) := by
  unfold dbg at hd
  simp only [Bool.and_eq_true, Bool.not_eq_true'] at hd
  obtain ⟨ad, hm, _, hk, hc⟩ := o.call f x hf
  refine ⟨fun pins s σ H Q I h => wpAny_Call_Name_kw (ld_glob I (o.gl hv) hm ?_ hd.1)⟩
  have h2 : tP T W mas σ H fun vs H1 => ∃ l ρ1 S1, SRep T ρ1 H1 S1 ∧ Reps T ρ1 H1 l vs ∧ Fin T (WE W σ) (RA T) ρ1 H1 ((E.call f l S1).bind fun p S => .ok (.v p) S) Q := by
    refine tM.imp (tM.bind (R1 := RPs T) good_A h) ?_
    rintro vs H1 ⟨l, ρ, ρ1, S1, env, st, hs1, he1, r, k⟩
    exact ⟨l, ρ1, S1, hs1, r, k⟩
  simp only [List.all_cons, Bool.and_eq_true] at hn
  refine PySem.W.callWith_K (h₀ := X.base) I.ok.mod.kin hk (thn (has.run pos pins s σ H _ I h2) fun us s1 ⟨vs, H1, I1, r, l, ρ1, S1, hs1, rl, k⟩ => ⟨I1.kIn, ?_⟩) (star_of hn.1 es _) (plains_of hn.2 _ _)
  exact run_call o (x := x) hc I1 r hs1 rl k
theorem e_call0 (o : On G sg X T E W) {f : Nat} {x : Str} (hf : G.fn[f]? = some x) (hv : sg.gl x = true) (hd : dbg x = true) : PE X (.Call (.Name x p) [] [] pos) (tE T W (mCall E f fun _ S => .ok [] S)) := by
  unfold dbg at hd
  simp only [Bool.and_eq_true, Bool.not_eq_true'] at hd
  obtain ⟨ad, hm, _, hk, hc⟩ := o.call f x hf
  refine ⟨fun pins s σ H Q I h => wpAny_Call_Name_kw (ld_glob I (o.gl hv) hm (PySem.W.callWith_K0 I.kIn hk ?_) hd.1)⟩
  obtain ⟨ρ, S, env, hs, he, k⟩ := h
  exact run_call o (x := x) hc I .nil hs Reps.nil k
/-- x(e, ..), x a slot that holds a def -/
theorem e_cav (o : On G sg X T E W) {i : Nat} {x : Str} (hN : sg.N[i]? = some x) (hv : sg.vis x = true) (hd : dbg x = true) {e : Expr} {es : List Expr} {xs : Exs} (hn : (e :: es).all noStar = true) (has : PA X (e :: es) (tP T W (evs E xs))) :
    PE X (.Call (.Name x p) (e :: es) [] pos) (tE T W (ev E (.cav i xs))) := by
  unfold dbg at hd
  simp only [Bool.and_eq_true, Bool.not_eq_true'] at hd
  refine ⟨fun pins s σ H Q I h => ?_⟩
  obtain ⟨ρ, S, env, hs, he, k⟩ := h
  unfold ev at k
  split at k
  · rename_i f hf
    obtain ⟨v, e1, rv⟩ := he.at_ i (.fn f) hf
    unfold Rep at rv
    obtain ⟨a, ha, rfl⟩ := rv
    obtain ⟨y, hy⟩ := o.fnx f a ha
    obtain ⟨ad, hm, ha2, hk, hc⟩ := o.call f y hy
    rw [ha] at ha2
    cases ha2
    have pv : PE X (.Name x p) (tVar i) := pe_var (by rw [o.N]; exact hN) (o.vis hv) hd.1 hd.2
    refine wpAny_Call_Name_kw (thn (pv.run pins s σ H (fun v H1 => v = .ref a ∧ H1 = H) I ⟨.ref a, e1, rfl, rfl⟩) fun u s1 ⟨v, H1, I1, r1, q1⟩ => ?_)
    obtain ⟨ev1, eH⟩ := q1
    subst ev1 eH
    have eu : u = Value.ref a := r1
    subst eu
    have h2 : tP T W (evs E xs) σ H1 fun vs H2 => ∃ l ρ1 S1, SRep T ρ1 H2 S1 ∧ Reps T ρ1 H2 l vs ∧ Fin T (WE W σ) (RA T) ρ1 H2 ((E.call f l S1).bind fun p S => .ok (.v p) S) Q := by
      have hh : tE T W (mCall E f (evs E xs)) σ H1 Q := ⟨ρ, S, env, hs, he, k⟩
      refine tM.imp (tM.bind (R1 := RPs T) good_A hh) ?_
      rintro vs H2 ⟨l, ρ, ρ1, S1, env, st, hs1, he1, r, k⟩
      exact ⟨l, ρ1, S1, hs1, r, k⟩
    simp only [List.all_cons, Bool.and_eq_true] at hn
    refine PySem.W.callWith_K (h₀ := X.base) I1.ok.mod.kin hk (thn (has.run pos pins s1 σ H1 _ I1 h2) fun us s2 ⟨vs, H2, I2, r, l, ρ1, S1, hs1, rl, k⟩ => ⟨I2.kIn, ?_⟩) (star_of hn.1 es _) (plains_of hn.2 _ _)
    exact run_call o (x := y) hc I2 r hs1 rl k
  · exact False.elim k
/-- a def's name -/
theorem e_fnv (o : On G sg X T E W) {i : Nat} {x : Str} (hf : G.fn[i]? = some x) (hv : sg.gl x = true) (hd : dbg x = true) : PE X (.Name x pos) (tE T W (ev E (.fnv i))) := by
  unfold dbg at hd
  simp only [Bool.and_eq_true, Bool.not_eq_true'] at hd
  refine ⟨fun pins s σ H Q I h => ?_⟩
  obtain ⟨ρ, S, env, hs, he, k⟩ := h
  obtain ⟨ad, hm, ha, _, _⟩ := o.call i x hf
  refine (pe_glob (v := .ref ad) (o.gl hv) hm rfl hd.1).run pins s σ H Q I (k ρ H (.ref ad) Step.refl hs ?_)
  show Rep T ρ H (.fn i) (.ref ad)
  unfold Rep
  exact ⟨ad, ha, rfl⟩
/-- within a lambda -/
theorem On.lamI (o : On G sg X T E W) {scope : Scope} (L : LamX.LamS X.env.scope scope) {low : Nat → List PV → Store → Res PV} {A2 : Around} {outer : List PySem.Env} {s : Shared} {H : Hp} {E1 : XK} {f c' : Addr} (hg : A2.guards = X.A.guards)
    (lo : LowOk G X.prog X.w X.K X.mg X.base (A2.deeper (LamX.lamEnv X scope s.heap.objs.size f c')) T low) : On G (sg.lamI scope) (LamX.lamCx X A2 outer s H E1 scope f c') T ⟨low, fun _ _ _ => .bad, none, E.hand, E.gd, E.gl⟩ (fun cls d _ H => E1 cls d H) where
  K := o.K
  N := o.N
  sc := rfl
  nd := o.nd
  calm := rfl
  un := lo.un
  dp := lo.dp
  fn := fun x h => by
    have h : (match scope.names.lookup x with
      | some .local => true
      | some .cell => true
      | _ => false) = true := h
    split at h
    · rename_i e
      exact absurd rfl (L.own _ (PySem.mem_of_lookup e)).1
    · rename_i e
      exact absurd rfl (L.own _ (PySem.mem_of_lookup e)).2
    · cases h
  blt := o.blt
  gd := fun z => hg.trans (o.gd z)
  glo := o.glo
  call := lo.call
  fnx := o.fnx
  blx := o.blx
  exc := o.exc
  pass := fun σ => passAt (takes_of rfl rfl rfl rfl) σ
  hp := fun h => by cases h
  st := fun h => by cases h
  tk := fun h => by cases h
  lam := fun g x h X' W' _ _ _ _ _ _ _ _ _ body scope th L' hb p lpos pos => ⟨fun pins s σ H Q I q => by
    obtain ⟨_, _, _, _, _, k⟩ := q
    exact False.elim k⟩
  tabc := fun h => by cases h
/-- x(lambda: ..) -/
theorem e_lam (o : On G sg X T E W) {g : Nat} {b : Ex} {x : Str} (hf : G.fn[g]? = some x) (hv : sg.gl x = true) (hd : dbg x = true) (hl : sg.lam = true) {body : Expr} {scope : Scope} {lpos : Pos} (hL : LamX.lamSB sg.sc scope = true)
    (hb : ∀ {X' : Cx} {E' : Ev} {W' : WX}, On G (sg.lamI scope) X' T E' W' → PE X' body (tE T W' (ev E' b))) : PE X (.Call (.Name x p) [.Lambda noArgs body scope lpos] [] pos) (tE T W (ev E (.lam g b))) := by
  have L : LamX.LamS X.env.scope scope := by
    rw [o.sc]
    exact LamX.lamS_by hL
  exact o.lam g x hf X W rfl rfl rfl rfl rfl rfl (o.gl hv) (by
    unfold dbg at hd
    simp only [Bool.and_eq_true, Bool.not_eq_true'] at hd
    exact hd.1) (o.tabc hl) body scope (fun c env S => ev ⟨c, fun _ _ _ => .bad, none, E.hand, E.gd, E.gl⟩ b env S) L (fun low A2 outer s H E1 f c' hg lo => hb (o.lamI L hg lo)) p lpos pos
theorem un_no (hK : X.K = T.K) : UnR X (unaryOp .Not) (fun x H Q => rTru T x H fun b H1 => Q (.bl (!b)) H1) := by
  intro pins s σ H x v Q I rx h
  unfold unaryOp
  refine wpAny_holding ?_
  show wpAny _ _ (do return Value.bool (!(← truthy v))) _ _ _
  refine wpAny_bind (thn (tru_r hK pins s σ H x v (fun b H1 => Q (.bl (!b)) H1) I rx h) fun b s1 ⟨H1, I1, q⟩ => wpAny_pure ⟨.bl (!b), H1, I1, rfl, q⟩)
theorem e_not (hK : X.K = T.K) (ha : PE X a (tE T W ma)) : PE X (.UnaryOp .Not a pos) (tE T W (mNo ma)) := by
  refine pe_imp (pe_un (un_no hK) ha) ?_
  intro σ H Q h
  refine tM.imp (tM.bind (R1 := RA T) good_A h) ?_
  rintro x H1 ⟨a, ρ, ρ1, S1, env, st, hs1, he1, rx, k⟩
  cases e : truth S1 a with
  | none => rw [e] at k; exact False.elim k
  | some b =>
    rw [e] at k
    exact ⟨ρ1, S1, a, b, H, hs1, rx, e, k ρ1 H1 _ Step.refl hs1 repA_bl⟩
theorem e_dnw (t : Bool) : PE X (.Dict [] [] pos) (tE T W fun _ S => .ok (if t = true then .dt [] else .dk []) S) := by
  cases t with
  | false =>
    refine pe_imp pe_dnewK ?_
    rintro σ H Q ⟨ρ, S, env, hs, he, k⟩ p n
    exact k ρ _ _ (step_new n) (hs.new n) ⟨p, [], rfl, n, hs.ne n, upd_same, RepK.nil⟩
  | true =>
    refine pe_imp pe_dnewT ?_
    rintro σ H Q ⟨ρ, S, env, hs, he, k⟩ p n
    exact k ρ _ _ (step_new n) (hs.new n) ⟨p, [], rfl, n, hs.ne n, upd_same, RepK.nil⟩
/-- the block of a comprehension -/
def Sg.blk (sg : Sg) (scope : Scope) : Sg := ⟨sg.N, relS scope sg.sc, some scope, false, sg.lam⟩
theorem On.blk (o : On G sg X T E W) (scope : Scope) (s : Shared) (H : Hp) (C : Addr) (cl : List (Str × Addr)) (fp : List Addr) : On G (sg.blk scope) (X.blk s H scope (compEnvC scope cl C X.env) fp) T E W0 where
  K := o.K
  N := o.N
  sc := by
    show relS scope X.env.scope = relS scope sg.sc
    rw [o.sc]
  nd := o.nd
  calm := o.calm
  un := o.un
  dp := o.dp
  fn := fun x h => by
    have sc : (compEnvC scope cl C X.env).scope = relS scope sg.sc := by
      show relS scope X.env.scope = _
      rw [o.sc]
    show (scope.names.lookup x == some .cell) = true ∨ (compEnvC scope cl C X.env).scope.names.lookup x = some .local
    rw [sc]
    unfold Sg.loc Sg.blk at h
    dsimp only at h
    split at h
    · rename_i e; exact .inr e
    · exact .inl h
    · cases h
  blt := o.blt
  gd := o.gd
  glo := o.glo
  call := o.call
  fnx := o.fnx
  blx := o.blx
  exc := o.exc
  pass := pass0
  hp := fun h => by cases h
  st := fun h => by cases h
  tk := fun h => by cases h
  lam := o.lam
  tabc := o.tabc
def noSet : Expr → Bool
  | .Set .. => false
  | _ => true
theorem noSet_ok {e : Expr} (h : noSet e = true) (env : PySem.Env) (x : Value) : foldedSetIterable e env x = pure x := by
  cases e <;> first | rfl | cases h
end

/-! ### the check -/
def cstOk : PV → Const → Bool
  | .int i, .int j => i == j
  | .bl b, .bool c => b == c
  | .non, .none => true
  | .str x, .str y => x == y
  | _, _ => false
def isTp : Expr → Bool
  | .Tuple .. => true
  | _ => false
/-- the rest of an and, of an or -/
def restB (op : BoolOp) (z : Expr) (rest : List Expr) (pos : Pos) : Expr := match rest with
  | [] => z
  | _ => .BoolOp op (z :: rest) pos
mutual
def chkE (G : Gn) (sg : Sg) (t : Bool) : Ex → Expr → Bool
  | .var i, x => (match x with | .Name n _ => decide (sg.N[i]? = some n) && (sg.vis n && dbg n) | _ => false)
  | .cst p, x => (match x with | .Constant c _ _ => cstOk p c | _ => false)
  | .glo k, x => (match x with | .Name n _ => decide (G.gl[k]? = some n) && (sg.gl n && dbg n) | _ => false)
  | .tup es, x => (match x with | .Tuple xs _ _ => chkEs G sg es xs | _ => false)
  | .tuq es, x => (match x with | .Tuple xs _ _ => chkEs G sg es xs | _ => false)
  | .lst es, x => (match x with | .List xs _ => chkEs G sg es xs | _ => false)
  | .dnw _, x => (match x with | .Dict [] [] _ => true | _ => false)
  | .dct es, x => (match x with | .Dict ks vs _ => (!ks.isEmpty && decide (ks.length ≤ 15)) && chkD G sg es ks vs | _ => false)
  | .dcu es, x => (match x with | .Dict ks vs _ => (!ks.isEmpty && decide (ks.length ≤ 15)) && chkD G sg es ks vs | _ => false)
  | .bin o a b, x => (match x with | .BinOp y op z _ => decide (op = opE o) && (chkE G sg false a y && chkE G sg false b z) | _ => false)
  | .neg a, x => (match x with | .UnaryOp .USub y _ => chkE G sg false a y | _ => false)
  | .inv a, x => (match x with | .UnaryOp .Invert y _ => chkE G sg false a y | _ => false)
  | .no a, x => (match x with | .UnaryOp .Not y _ => chkE G sg t a y | _ => false)
  | .and a b, x => (match x with | .BoolOp .And (y :: z :: rest) pos => chkE G sg t a y && chkE G sg t b (restB .And z rest pos) | _ => false)
  | .or a b, x => (match x with | .BoolOp .Or (y :: z :: rest) pos => chkE G sg t a y && chkE G sg t b (restB .Or z rest pos) | _ => false)
  | .cmp o a b, x => (match x with | .Compare y [op] [z] _ => (decide (op = coE o) && !behindInMarks op z) && (chkE G sg false a y && chkE G sg false b z) | _ => false)
  | .chn o p a b c, x => (match x with | .Compare y [op, op'] [z, w] _ => ((decide (op = coE o) && decide (op' = coE p)) && !lastMarks [op, op'] [z, w]) && (chkE G sg false a y && (chkE G sg false b z && chkE G sg false c w)) | _ => false)
  | .ifx c a b, x => (match x with | .IfExp w y z _ => !t && (chkE G sg true c w && (chkE G sg false a y && chkE G sg false b z)) | _ => false)
  | .ix a b, x => (match x with | .Subscript y z _ => notSlice z && (chkE G sg false a y && chkE G sg false b z) | _ => false)
  | .sl a lo hi, x => (match x with | .Subscript y (.Slice l h none _) _ => chkE G sg false a y && (chkO G sg lo l && chkO G sg hi h) | _ => false)
  | .call f es, x => (match x with | .Call (.Name n _) xs [] _ => (decide (G.fn[f]? = some n) && (sg.gl n && dbg n)) && (xs.all noStar && chkEs G sg es xs) | _ => false)
  | .cav i es, x => (match x with | .Call (.Name n _) xs [] _ => (decide (sg.N[i]? = some n) && (sg.vis n && dbg n)) && ((!xs.isEmpty && xs.all noStar) && chkEs G sg es xs) | _ => false)
  | .fnv i, x => (match x with | .Name n _ => decide (G.fn[i]? = some n) && (sg.gl n && dbg n) | _ => false)
  | .lam g b, x => (match x with | .Call (.Name n _) [.Lambda ⟨[], [], none, [], [], none, []⟩ body scope _] [] _ => (decide (G.fn[g]? = some n) && (sg.gl n && (dbg n && sg.lam))) && (LamX.lamSB sg.sc scope && chkE G (sg.lamI scope) false b body) | _ => false)
  | .thk, _ => true
  | .dead, _ => true
  | .rgl tu a b, x => (match x with
    | .Call (.Name m _) [.Call (.Name n _) [z] [] _] [] _ => (decide (m = (if tu = true then "tuple" else "list" : Str)) && decide (n = ("range" : Str))) && ((sg.gl (if tu = true then "tuple" else "list") && (sg.gl "range" && noStar z)) && ((match a with | .no => true | _ => false) && chkE G sg false b z))
    | .Call (.Name m _) [.Call (.Name n _) [y, z] [] _] [] _ => (decide (m = (if tu = true then "tuple" else "list" : Str)) && decide (n = ("range" : Str))) && ((sg.gl (if tu = true then "tuple" else "list") && (sg.gl "range" && (noStar y && noStar z))) && (chkO G sg a (some y) && chkE G sg false b z))
    | _ => false)
  | .bf1 f a, x => (match x with
    | .Call (.Name n _) [y] [] _ => (bf1 f && decide (n = bfN f)) && (sg.gl (bfN f) && (noStar y && chkE G sg false a y))
    | .Call (.Name n _) [y, .Name m _] [] _ => (match f with
      | .isi ty => (decide (n = ("isinstance" : Str)) && decide (m = Str.ofString (tyN ty))) && ((sg.gl "isinstance" && sg.gl (Str.ofString (tyN ty))) && (noStar y && chkE G sg false a y))
      | _ => false)
    | _ => false)
  | .bf2 f a b, x => (match x with | .Call (.Name n _) [y, z] [] _ => (bf2 f && decide (n = bfN f)) && (sg.gl (bfN f) && ((noStar y && noStar z) && (chkE G sg false a y && chkE G sg false b z))) | _ => false)
  | .mt m o es, x => (match x with | .Call (.Attribute y n apos) xs [] pos => (((mfOk m || !xs.isEmpty) && decide (n = mfN m)) && (noSuper y && apos.endLine == pos.line)) && ((xs.all noStar && decide (xs.length < 30)) && (chkE G sg false o y && chkV G sg es xs)) | _ => false)
  | .mtk m o es, x => (match x with | .Call (.Attribute y n apos) (z :: zs) [] pos => ((mfOk m && decide (n = mfN m)) && (noSuper y && apos.endLine == pos.line)) && (((z :: zs).all noStar && decide ((z :: zs).length < 30)) && (chkE G sg false o y && chkEs G sg es (z :: zs))) | _ => false)
  | .revL a, x => (match x with | .Subscript y (.Slice none none (some (.UnaryOp .USub (.Constant (.int 1) _ _) _)) _) _ => chkE G sg false a y | _ => false)
  | .lc own tg it c e, x => (match x with | .ListComp el [⟨tx, ix, ifs, 0⟩] scope _ => (blkC sg.N sg.sc scope own && noSet ix) && (((slots tg).all fun v => decide (v ∈ own.map (·.2))) && (chkI G sg it (isTp tx) ix && (chkG G (sg.blk scope) tg tx && (chkC G (sg.blk scope) c ifs && chkE G (sg.blk scope) false e el)))) | _ => false)
  | .lc2 own tg it c tg1 it1 c1 e, x => (match x with | .ListComp el [⟨tx, ix, ifs, 0⟩, ⟨tx1, ix1, ifs1, 0⟩] scope _ => ((blkC sg.N sg.sc scope own && noSet ix) && (noSet ix1 && (slots tg1).all fun v => decide (v ∈ own.map (·.2)))) && (((slots tg).all fun v => decide (v ∈ own.map (·.2))) && (chkI G sg it (isTp tx) ix && (chkG G (sg.blk scope) tg tx && (chkC G (sg.blk scope) c ifs && (chkI G (sg.blk scope) it1 (isTp tx1) ix1 && (chkG G (sg.blk scope) tg1 tx1 && (chkC G (sg.blk scope) c1 ifs1 && chkE G (sg.blk scope) false e el))))))) | _ => false)
  | .dc own tg it c k v, x => (match x with | .DictComp kx vx [⟨tx, ix, ifs, 0⟩] scope _ => (blkC sg.N sg.sc scope own && noSet ix) && (((slots tg).all fun v => decide (v ∈ own.map (·.2))) && (chkI G sg it (isTp tx) ix && (chkG G (sg.blk scope) tg tx && (chkC G (sg.blk scope) c ifs && (chkE G (sg.blk scope) false k kx && chkE G (sg.blk scope) false v vx))))) | _ => false)
  | .dcT own tg it c k v, x => (match x with | .DictComp kx vx [⟨tx, ix, ifs, 0⟩] scope _ => (blkC sg.N sg.sc scope own && noSet ix) && (((slots tg).all fun v => decide (v ∈ own.map (·.2))) && (chkI G sg it (isTp tx) ix && (chkG G (sg.blk scope) tg tx && (chkC G (sg.blk scope) c ifs && (chkE G (sg.blk scope) false k kx && chkE G (sg.blk scope) false v vx))))) | _ => false)
def chkEs (G : Gn) (sg : Sg) : Exs → List Expr → Bool
  | .nil, xs => (match xs with | [] => true | _ => false)
  | .one e r, xs => (match xs with | y :: ys => noStar y && (chkE G sg false e y && chkEs G sg r ys) | _ => false)
  | .star e r, xs => (match xs with | .Starred y _ :: ys => chkE G sg false e y && chkEs G sg r ys | _ => false)
def chkV (G : Gn) (sg : Sg) : Exs → List Expr → Bool
  | .nil, xs => (match xs with | [] => true | _ => false)
  | .one e r, xs => (match xs with | y :: ys => noStar y && (chkE G sg false e y && chkV G sg r ys) | _ => false)
  | .star _ _, _ => false
def chkO (G : Gn) (sg : Sg) : Exo → Option Expr → Bool
  | .no, x => (match x with | none => true | _ => false)
  | .so e, x => (match x with | some y => chkE G sg false e y | _ => false)
def chkC (G : Gn) (sg : Sg) : Exo → List Expr → Bool
  | .no, xs => (match xs with | [] => true | _ => false)
  | .so e, xs => (match xs with | [y] => chkE G sg true e y | _ => false)
def chkD (G : Gn) (sg : Sg) : Exs → List (Option Expr) → List Expr → Bool
  | .nil, ks, vs => ks.isEmpty && vs.isEmpty
  | .one k r, ks, vs => (match ks with | some x :: ks => chkE G sg false k x && chkD2 G sg r ks vs | _ => false)
  | .star _ _, _, _ => false
def chkD2 (G : Gn) (sg : Sg) : Exs → List (Option Expr) → List Expr → Bool
  | .nil, _, _ => false
  | .one v r, ks, vs => (match vs with | y :: vs => chkE G sg false v y && chkD G sg r ks vs | _ => false)
  | .star _ _, _, _ => false
def chkI (G : Gn) (sg : Sg) : Ix → Bool → Expr → Bool
  | .seq e, _, x => chkE G sg false e x
  | .rng a b, _, x => (match x with
    | .Call (.Name n _) [y] [] _ => (decide (n = ("range" : Str)) && (sg.gl "range" && noStar y)) && ((match a with | .no => true | _ => false) && chkE G sg false b y)
    | .Call (.Name n _) [y, z] [] _ => (decide (n = ("range" : Str)) && (sg.gl "range" && (noStar y && noStar z))) && (chkO G sg a (some y) && chkE G sg false b z)
    | _ => false)
  | .enum e, t, x => (match x with | .Call (.Name n _) [y] [] _ => (t && decide (n = ("enumerate" : Str))) && ((sg.gl "enumerate" && noStar y) && chkE G sg false e y) | _ => false)
  | .zip a b, t, x => (match x with | .Call (.Name n _) [y, z] [] _ => (t && decide (n = ("zip" : Str))) && ((sg.gl "zip" && (noStar y && noStar z)) && (chkE G sg false a y && chkE G sg false b z)) | _ => false)
def chkG (G : Gn) (sg : Sg) : Tg → Expr → Bool
  | .nm i, x => (match x with | .Name n _ => decide (sg.N[i]? = some n) && sg.loc n | _ => false)
  | .tp ts, x => (match x with | .Tuple ys _ _ => ys.all noStar && chkGs G sg ts ys | _ => false)
  | .sub o i, x => (match x with | .Subscript y z _ => notSlice z && (chkE G sg false o y && chkE G sg false i z) | _ => false)
def chkGs (G : Gn) (sg : Sg) : Tgs → List Expr → Bool
  | .nil, xs => (match xs with | [] => true | _ => false)
  | .cons t r, xs => (match xs with | y :: ys => chkG G sg t y && chkGs G sg r ys | _ => false)
end
end EV
/-! The E layer, part P: what is checked does what the evaluator says: expressions. -/
namespace EV
open PySem PySem.Spec L2
open PyProof.Rows hiding St

def isBO : Expr → Bool
  | .BoolOp .. => true
  | _ => false
/-- a value's promise, a test's -/
def Goal (t : Bool) (X : Cx) (x : Expr) (T : TX) (W : WX) (m : EV.Env → Store → Res AV) : Prop := match t with
  | true => PT X x (tB' T W (mTru m)) ∧ (isBO x = true → PW X x (tB' T W (mTru m)))
  | false => PE X x (tE T W m)
section
variable {G : Gn} {sg : Sg} {X : Cx} {T : TX} {E : Ev} {W : WX} {x : Expr} {m : EV.Env → Store → Res AV}
theorem goal_v (o : On G sg X T E W) (hp : plainT x = true) (h : PE X x (tE T W m)) (t : Bool) : Goal t X x T W m := by
  cases t with
  | false => exact h
  | true =>
    refine ⟨t_plain o.K h hp, fun z => ?_⟩
    cases x <;> first | (cases z; done) | (cases hp; done)
theorem and2 {a b : Bool} (h : (a && b) = true) : a = true ∧ b = true := by simpa using h
theorem cst_ok {p : PV} {c : Const} {k : Nat} {pos : Pos} (h : cstOk p c = true) : ∃ v, PE X (.Constant c k pos) (tC v) ∧ ∀ ρ H, Rep T ρ H p v := by
  unfold cstOk at h
  split at h
  · obtain rfl := eq_of_beq h
    exact ⟨_, pe_int, fun _ _ => rep_int⟩
  · obtain rfl := eq_of_beq h
    exact ⟨_, pe_bl, fun _ _ => rep_bl⟩
  · exact ⟨_, pe_non, fun _ _ => rep_non⟩
  · obtain rfl := eq_of_beq h
    exact ⟨_, pe_str, fun _ _ => rep_str⟩
  · cases h
theorem w_rest {op : BoolOp} {z : Expr} {rest : List Expr} {pos : Pos} {t : TT} (h1 : op = .And → PT X z t → PW X (.BoolOp op [z] pos) t) (h2 : op = .Or → PT X z t → PW X (.BoolOp op [z] pos) t)
    (h : PT X (restB op z rest pos) t ∧ (isBO (restB op z rest pos) = true → PW X (restB op z rest pos) t)) : PW X (.BoolOp op (z :: rest) pos) t := by
  cases rest with
  | nil => cases op; exact h1 rfl h.1; exact h2 rfl h.1
  | cons y r => exact h.2 rfl
theorem e_rest {op : BoolOp} {z : Expr} {rest : List Expr} {pos : Pos} {t : TE} (h : PE X (restB op z rest pos) t) : PE X (.BoolOp op (z :: rest) pos) t := by
  cases rest with
  | nil => exact pe_one h
  | cons y r => exact h
theorem gs_len : ∀ {m : Tgs} {sg : Sg} {ys : List Expr}, chkGs G sg m ys = true → lenT m = ys.length
  | .nil, sg, ys, h => by
    unfold chkGs at h
    split at h
    · rfl
    · cases h
  | .cons t r, sg, ys, h => by
    unfold chkGs at h
    split at h
    · obtain ⟨_, h⟩ := and2 h
      show lenT r + 1 = _
      rw [gs_len h]
      rfl
    · cases h
theorem pts_imp {ifs : List Expr} {t t' : TT} (h : PTs X ifs t) (i : ∀ σ H Q, t' σ H Q → t σ H Q) : PTs X ifs t' := ⟨fun pins s σ H Q I q => h.run pins s σ H Q I (i _ _ _ q)⟩
mutual
theorem okE (e : Ex) : ∀ {E : Ev} {t : Bool} {sg : Sg} {X : Cx} {W : WX} {x : Expr}, chkE G sg t e x = true → On G sg X T E W → Goal t X x T W (ev E e) := by
  intro E t sg X W x h o
  cases e with
  | var i =>
    unfold chkE at h
    split at h
    · obtain ⟨h1, h2⟩ := and2 h
      obtain ⟨h2, h3⟩ := and2 h2
      exact goal_v o rfl (e_var o (of_decide_eq_true h1) h2 h3) t
    · cases h
  | cst p =>
    unfold chkE at h
    split at h
    · exact goal_v o rfl (e_cst (cst_ok h)) t
    · cases h
  | glo k =>
    unfold chkE at h
    split at h
    · obtain ⟨h1, h2⟩ := and2 h
      obtain ⟨h2, h3⟩ := and2 h2
      exact goal_v o rfl (e_glo o (of_decide_eq_true h1) h2 h3) t
    · cases h
  | tup es =>
    unfold chkE at h
    split at h
    · exact goal_v o rfl (e_tup (okEs es h o)) t
    · cases h
  | tuq es =>
    unfold chkE at h
    split at h
    · exact goal_v o rfl (e_tuq (okEs es h o)) t
    · cases h
  | lst es =>
    unfold chkE at h
    split at h
    · exact goal_v o rfl (e_lst (okEs es h o)) t
    · cases h
  | dnw d =>
    unfold chkE at h
    split at h
    · exact goal_v o rfl (e_dnw d) t
    · cases h
  | bin p a b =>
    unfold chkE at h
    split at h
    · obtain ⟨h1, h2⟩ := and2 h
      obtain ⟨h2, h3⟩ := and2 h2
      obtain rfl := of_decide_eq_true h1
      exact goal_v o rfl (e_bin o.K p (okE a h2 o) (okE b h3 o)) t
    · cases h
  | dct es =>
    unfold chkE at h
    split at h
    · obtain ⟨h1, h2⟩ := and2 h
      obtain ⟨h1, h3⟩ := and2 h1
      obtain ⟨trs, r⟩ := okD es h2 o
      exact goal_v o rfl (e_dct r (by intro z; subst z; cases h1) (of_decide_eq_true h3)) t
    · cases h
  | dcu es =>
    unfold chkE at h
    split at h
    · obtain ⟨h1, h2⟩ := and2 h
      obtain ⟨h1, h3⟩ := and2 h1
      obtain ⟨trs, r⟩ := okD es h2 o
      exact goal_v o rfl (e_dcu (by have := o.un; omega) r (by intro z; subst z; cases h1) (of_decide_eq_true h3)) t
    · cases h
  | neg a =>
    unfold chkE at h
    split at h
    · exact goal_v o rfl (e_neg (okE a h o)) t
    · cases h
  | inv a =>
    unfold chkE at h
    split at h
    · exact goal_v o rfl (e_inv (okE a h o)) t
    · cases h
  | no a =>
    unfold chkE at h
    split at h
    · have r := okE a h o
      cases t with
      | false => exact e_not o.K r
      | true => exact ⟨t_no r.1, fun z => by cases z⟩
    · cases h
  | and a b =>
    unfold chkE at h
    split at h
    · obtain ⟨h1, h2⟩ := and2 h
      have r1 := okE a h1 o
      have r2 := okE b h2 o
      cases t with
      | false => exact e_and r1 (e_rest r2)
      | true =>
        have w := w_and r1.1 (w_rest (fun _ q => pw_and1 q) (fun z => by cases z) r2)
        exact ⟨w.pt, fun _ => w⟩
    · cases h
  | or a b =>
    unfold chkE at h
    split at h
    · obtain ⟨h1, h2⟩ := and2 h
      have r1 := okE a h1 o
      have r2 := okE b h2 o
      cases t with
      | false => exact e_or r1 (e_rest r2)
      | true =>
        have w := w_or r1.1 (w_rest (fun z => by cases z) (fun _ q => pw_or1 q) r2)
        exact ⟨w.pt, fun _ => w⟩
    · cases h
  | cmp p a b =>
    unfold chkE at h
    split at h
    · obtain ⟨h1, h2⟩ := and2 h
      obtain ⟨h1, h4⟩ := and2 h1
      obtain ⟨h2, h3⟩ := and2 h2
      obtain rfl := of_decide_eq_true h1
      have h4 := Bool.not_eq_true' _ |>.mp h4
      cases t with
      | false => exact e_cmp o p (okE a h2 o) (okE b h3 o) h4
      | true => exact ⟨t_cmp o p (okE a h2 o) (okE b h3 o) h4, fun z => by cases z⟩
    · cases h
  | chn p q a b c =>
    unfold chkE at h
    split at h
    · obtain ⟨h1, h2⟩ := and2 h
      obtain ⟨h1, h4⟩ := and2 h1
      obtain ⟨h1, h5⟩ := and2 h1
      obtain ⟨h2, h3⟩ := and2 h2
      obtain ⟨h3, h6⟩ := and2 h3
      obtain rfl := of_decide_eq_true h1
      obtain rfl := of_decide_eq_true h5
      have h4 := Bool.not_eq_true' _ |>.mp h4
      cases t with
      | false => exact e_chn o p q (okE a h2 o) (okE b h3 o) (okE c h6 o) h4
      | true => exact ⟨t_chn o p q (okE a h2 o) (okE b h3 o) (okE c h6 o) h4, fun z => by cases z⟩
    · cases h
  | ifx c a b =>
    unfold chkE at h
    split at h
    · obtain ⟨h1, h2⟩ := and2 h
      obtain ⟨h2, h3⟩ := and2 h2
      obtain ⟨h3, h4⟩ := and2 h3
      cases t with
      | true => cases h1
      | false => exact e_ifx (okE c h2 o).1 (okE a h3 o) (okE b h4 o)
    · cases h
  | ix a b =>
    unfold chkE at h
    split at h
    · obtain ⟨h1, h2⟩ := and2 h
      obtain ⟨h2, h3⟩ := and2 h2
      exact goal_v o rfl (e_ix o (okE a h2 o) (okE b h3 o) h1) t
    · cases h
  | sl a lo hi =>
    unfold chkE at h
    split at h
    · obtain ⟨h1, h2⟩ := and2 h
      obtain ⟨h2, h3⟩ := and2 h2
      exact goal_v o rfl (e_sl o (okE a h1 o) (okO lo h2 o) (okO hi h3 o)) t
    · cases h
  | call f es =>
    unfold chkE at h
    split at h
    · rename_i n p xs pos
      obtain ⟨h1, h2⟩ := and2 h
      obtain ⟨h1, h3⟩ := and2 h1
      obtain ⟨h3, h4⟩ := and2 h3
      obtain ⟨h2, h5⟩ := and2 h2
      cases xs with
      | nil =>
        have q : evs E es = fun _ S => .ok [] S := by
          cases es with
          | nil => rfl
          | one e r => unfold chkEs at h5; cases h5
          | star e r => unfold chkEs at h5; cases h5
        have r : PE X (.Call (.Name n p) [] [] pos) (tE T W (mCall E f (evs E es))) := by
          rw [q]
          exact e_call0 o (of_decide_eq_true h1) h3 h4
        exact goal_v o rfl r t
      | cons y ys => exact goal_v o rfl (e_call o (of_decide_eq_true h1) h3 h4 h2 (okEs es h5 o)) t
    · cases h
  | cav i es =>
    unfold chkE at h
    split at h
    · rename_i n p xs pos
      obtain ⟨h1, h2⟩ := and2 h
      obtain ⟨h1, h3⟩ := and2 h1
      obtain ⟨h3, h4⟩ := and2 h3
      obtain ⟨h2, h5⟩ := and2 h2
      cases xs with
      | nil => cases h2
      | cons y ys => exact goal_v o rfl (e_cav o (of_decide_eq_true h1) h3 h4 (and2 h2).2 (okEs es h5 o)) t
    · cases h
  | fnv i =>
    unfold chkE at h
    split at h
    · obtain ⟨h1, h2⟩ := and2 h
      obtain ⟨h2, h3⟩ := and2 h2
      exact goal_v o rfl (e_fnv o (of_decide_eq_true h1) h2 h3) t
    · cases h
  | lam g b =>
    unfold chkE at h
    split at h
    · obtain ⟨h1, h2⟩ := and2 h
      obtain ⟨h1, h3⟩ := and2 h1
      obtain ⟨h3, h4⟩ := and2 h3
      obtain ⟨h4, h6⟩ := and2 h4
      obtain ⟨h2, h5⟩ := and2 h2
      exact goal_v o rfl (e_lam o (of_decide_eq_true h1) h3 h4 h6 h2 fun o' => okE b h5 o') t
    · cases h
  | thk =>
    have e0 : ∀ (Y : WX) (σ : St) (H : Hp) (Q : V → Hp → Prop), tE T Y (ev E .thk) σ H Q → False := fun _ _ _ _ q => by
      obtain ⟨_, _, _, _, _, k⟩ := q
      exact k
    cases t with
    | true => exact ⟨⟨fun pins s σ H Q I q => by
        obtain ⟨_, _, _, _, _, k⟩ := q
        exact False.elim k⟩, fun _ => ⟨fun wh pins s σ H Q I q => by
        obtain ⟨_, _, _, _, _, k⟩ := q
        exact False.elim k⟩⟩
    | false => exact ⟨fun pins s σ H Q I q => (e0 _ _ _ _ q).elim⟩
  | dead =>
    cases t with
    | true => exact ⟨⟨fun pins s σ H Q I q => by
        obtain ⟨_, _, _, _, _, k⟩ := q
        exact False.elim k⟩, fun _ => ⟨fun wh pins s σ H Q I q => by
        obtain ⟨_, _, _, _, _, k⟩ := q
        exact False.elim k⟩⟩
    | false => exact ⟨fun pins s σ H Q I q => by
        obtain ⟨_, _, _, _, _, k⟩ := q
        exact False.elim k⟩
  | rgl tu a b =>
    unfold chkE at h
    split at h
    · obtain ⟨g1, g2⟩ := and2 h
      obtain ⟨k1, k2⟩ := and2 g1
      obtain ⟨g3, g4⟩ := and2 g2
      obtain ⟨k3, g5⟩ := and2 g3
      obtain ⟨k4, k5⟩ := and2 g5
      obtain ⟨k6, k7⟩ := and2 g4
      clear h g1 g2 g3 g4 g5
      obtain rfl := of_decide_eq_true k1
      obtain rfl := of_decide_eq_true k2
      cases a with
      | so a => cases k6
      | no => exact goal_v o rfl (e_rgl1 o tu k3 k4 k5 (okE b k7 o)) t
    · obtain ⟨g1, g2⟩ := and2 h
      obtain ⟨k1, k2⟩ := and2 g1
      obtain ⟨g3, g4⟩ := and2 g2
      obtain ⟨k3, g5⟩ := and2 g3
      obtain ⟨k4, g6⟩ := and2 g5
      obtain ⟨k5, k8⟩ := and2 g6
      obtain ⟨k6, k7⟩ := and2 g4
      clear h g1 g2 g3 g4 g5 g6
      obtain rfl := of_decide_eq_true k1
      obtain rfl := of_decide_eq_true k2
      cases a with
      | no => unfold chkO at k6; cases k6
      | so a =>
        unfold chkO at k6
        exact goal_v o rfl (e_rgl2 o tu k3 k4 k5 k8 (okE a k6 o) (okE b k7 o)) t
    · cases h
  | bf1 f a =>
    unfold chkE at h
    split at h
    · obtain ⟨h1, h2⟩ := and2 h
      obtain ⟨k1, h3⟩ := and2 h1
      obtain ⟨h2, h4⟩ := and2 h2
      obtain ⟨h4, h5⟩ := and2 h4
      obtain rfl := of_decide_eq_true h3
      exact goal_v o rfl (e_bf1 o f k1 h2 (okE a h5 o) h4) t
    · split at h
      · obtain ⟨h1, h2⟩ := and2 h
        obtain ⟨h1, h3⟩ := and2 h1
        obtain ⟨h2, h4⟩ := and2 h2
        obtain ⟨h2, h5⟩ := and2 h2
        obtain ⟨h4, h6⟩ := and2 h4
        obtain rfl := of_decide_eq_true h1
        obtain rfl := of_decide_eq_true h3
        exact goal_v o rfl (e_isi o _ h2 h5 (okE a h6 o) h4) t
      · cases h
    · cases h
  | bf2 f a b =>
    unfold chkE at h
    split at h
    · obtain ⟨h1, h2⟩ := and2 h
      obtain ⟨k1, h3⟩ := and2 h1
      obtain ⟨h2, h4⟩ := and2 h2
      obtain ⟨h4, h5⟩ := and2 h4
      obtain ⟨h4, h6⟩ := and2 h4
      obtain ⟨h5, h7⟩ := and2 h5
      obtain rfl := of_decide_eq_true h3
      exact goal_v o rfl (e_bf2 o f k1 h2 (okE a h5 o) (okE b h7 o) h4 h6) t
    · cases h
  | mt m ob es =>
    unfold chkE at h
    split at h
    · rename_i y n apos xs pos
      obtain ⟨h1, h2⟩ := and2 h
      obtain ⟨g1, h3⟩ := and2 h1
      obtain ⟨k1, h4⟩ := and2 g1
      obtain ⟨k3, k5⟩ := and2 h3
      obtain ⟨g2, h6⟩ := and2 h2
      obtain ⟨k2, k7⟩ := and2 g2
      obtain ⟨k6, k8⟩ := and2 h6
      obtain rfl := of_decide_eq_true h4
      cases xs with
      | nil =>
        have q : eva E es = fun _ S => .ok [] S := by
          cases es with
          | nil => rfl
          | one e r => unfold chkV at k8; cases k8
          | star e r => unfold chkV at k8; cases k8
        have r : PE X (.Call (.Attribute y (mfN m) apos) [] [] pos) (tE T W (mMt m (ev E ob) (eva E es))) := by
          rw [q]
          exact e_mt0 o m (by rw [Bool.or_eq_true] at k1; exact k1.elim (fun z => z) fun z => by cases z) k3 k5 (okE ob k6 o)
        exact goal_v o rfl r t
      | cons z zs => exact goal_v o rfl (e_mtA o m k3 k5 k2 (of_decide_eq_true k7) (okE ob k6 o) (okV es k8 o)) t
    · cases h
  | mtk m ob es =>
    unfold chkE at h
    split at h
    · rename_i y n apos z zs pos
      obtain ⟨h1, h2⟩ := and2 h
      obtain ⟨g1, h3⟩ := and2 h1
      obtain ⟨k1, h4⟩ := and2 g1
      obtain ⟨k3, k5⟩ := and2 h3
      obtain ⟨g2, h6⟩ := and2 h2
      obtain ⟨k2, k7⟩ := and2 g2
      obtain ⟨k6, k8⟩ := and2 h6
      obtain rfl := of_decide_eq_true h4
      exact goal_v o rfl (e_mt o m k1 k3 k5 k2 (of_decide_eq_true k7) (okE ob k6 o) (pa_imp (okEs es k8 o) laid_rd)) t
    · cases h
  | revL a =>
    unfold chkE at h
    split at h
    · exact goal_v o rfl (e_rev o.K (okE a h o)) t
    · cases h
  | lc own tg it c el =>
    unfold chkE at h
    split at h
    · obtain ⟨h1, h2⟩ := and2 h
      obtain ⟨h1, h3⟩ := and2 h1
      obtain ⟨h2, h4⟩ := and2 h2
      obtain ⟨h4, h5⟩ := and2 h4
      obtain ⟨h5, h6⟩ := and2 h5
      obtain ⟨h6, h7⟩ := and2 h6
      have hw : ∀ v ∈ slots tg, v ∈ own.map (·.2) := fun v hv => of_decide_eq_true (List.all_eq_true.mp h2 v hv)
      have hb : BlkOk X.N X.env.scope _ own := blkOk_by (by rw [o.N, o.sc]; exact h1)
      refine goal_v o rfl (pe_imp (pe_lc o.calm o.nd (okI it h4 (fun z => z) o) hb (fun s H C cl fp => okG tg h5 (o.blk _ s H C cl fp)) (fun s H C cl fp => okC c h6 (o.blk _ s H C cl fp))
        (fun s H C cl fp => okE el h7 (o.blk _ s H C cl fp)) (noSet_ok h3 _)) (lc_rd hw)) t
    · cases h
  | lc2 own tg it c tg1 it1 c1 el =>
    unfold chkE at h
    split at h
    · obtain ⟨h0, h2⟩ := and2 h
      obtain ⟨h0, h8⟩ := and2 h0
      obtain ⟨h1, h3⟩ := and2 h0
      obtain ⟨h8, h9⟩ := and2 h8
      obtain ⟨h2, h4⟩ := and2 h2
      obtain ⟨h4, h5⟩ := and2 h4
      obtain ⟨h5, h6⟩ := and2 h5
      obtain ⟨h6, h7⟩ := and2 h6
      obtain ⟨h7, h10⟩ := and2 h7
      obtain ⟨h10, h11⟩ := and2 h10
      obtain ⟨h11, h12⟩ := and2 h11
      have hw : ∀ v ∈ slots tg, v ∈ own.map (·.2) := fun v hv => of_decide_eq_true (List.all_eq_true.mp h2 v hv)
      have hw1 : ∀ v ∈ slots tg1, v ∈ own.map (·.2) := fun v hv => of_decide_eq_true (List.all_eq_true.mp h9 v hv)
      have hb : BlkOk X.N X.env.scope _ own := blkOk_by (by rw [o.N, o.sc]; exact h1)
      refine goal_v o rfl (pe_imp (pe_lc2 o.calm o.nd (okI it h4 (fun z => z) o) hb hw1 (fun s H C cl fp => okG tg h5 (o.blk _ s H C cl fp)) (fun s H C cl fp => okC c h6 (o.blk _ s H C cl fp))
        (fun s H C cl fp => okI it1 h7 (fun z => z) (o.blk _ s H C cl fp)) (fun s H C cl fp => okG tg1 h10 (o.blk _ s H C cl fp)) (fun s H C cl fp => okC c1 h11 (o.blk _ s H C cl fp))
        (fun s H C cl fp => okE el h12 (o.blk _ s H C cl fp)) (noSet_ok h3 _) (noSet_ok h8)) (lc2_rd hw)) t
    · cases h
  | dc own tg it c k v =>
    unfold chkE at h
    split at h
    · obtain ⟨h1, h2⟩ := and2 h
      obtain ⟨h1, h3⟩ := and2 h1
      obtain ⟨h2, h4⟩ := and2 h2
      obtain ⟨h4, h5⟩ := and2 h4
      obtain ⟨h5, h6⟩ := and2 h5
      obtain ⟨h6, h7⟩ := and2 h6
      obtain ⟨h7, h8⟩ := and2 h7
      have hw : ∀ v ∈ slots tg, v ∈ own.map (·.2) := fun v hv => of_decide_eq_true (List.all_eq_true.mp h2 v hv)
      have hb : BlkOk X.N X.env.scope _ own := blkOk_by (by rw [o.N, o.sc]; exact h1)
      refine goal_v o rfl (pe_imp (pe_dc o.calm o.nd (okI it h4 (fun z => z) o) hb (fun s H C cl fp => okG tg h5 (o.blk _ s H C cl fp)) (fun s H C cl fp => okC c h6 (o.blk _ s H C cl fp))
        (fun s H C cl fp => okE k h7 (o.blk _ s H C cl fp)) (fun s H C cl fp => okE v h8 (o.blk _ s H C cl fp)) (noSet_ok h3 _)) (dc_rd hw)) t
    · cases h
  | dcT own tg it c k v =>
    unfold chkE at h
    split at h
    · obtain ⟨h1, h2⟩ := and2 h
      obtain ⟨h1, h3⟩ := and2 h1
      obtain ⟨h2, h4⟩ := and2 h2
      obtain ⟨h4, h5⟩ := and2 h4
      obtain ⟨h5, h6⟩ := and2 h5
      obtain ⟨h6, h7⟩ := and2 h6
      obtain ⟨h7, h8⟩ := and2 h7
      have hw : ∀ v ∈ slots tg, v ∈ own.map (·.2) := fun v hv => of_decide_eq_true (List.all_eq_true.mp h2 v hv)
      have hb : BlkOk X.N X.env.scope _ own := blkOk_by (by rw [o.N, o.sc]; exact h1)
      refine goal_v o rfl (pe_imp (pe_dcT (by have := o.un; omega) o.calm o.nd (okI it h4 (fun z => z) o) hb (fun s H C cl fp => okG tg h5 (o.blk _ s H C cl fp)) (fun s H C cl fp => okC c h6 (o.blk _ s H C cl fp))
        (fun s H C cl fp => okE k h7 (o.blk _ s H C cl fp)) (fun s H C cl fp => okE v h8 (o.blk _ s H C cl fp)) (noSet_ok h3 _)) (dcT_rd hw)) t
    · cases h
theorem okEs (es : Exs) : ∀ {E : Ev} {sg : Sg} {X : Cx} {W : WX} {xs : List Expr}, chkEs G sg es xs = true → On G sg X T E W → PA X xs (tP T W (evs E es)) := by
  intro E sg X W xs h o
  cases es with
  | nil =>
    unfold chkEs at h
    split at h
    · exact a_nil
    · cases h
  | one e r =>
    unfold chkEs at h
    split at h
    · obtain ⟨h1, h2⟩ := and2 h
      obtain ⟨h2, h3⟩ := and2 h2
      exact a_one (okE e h2 o) (okEs r h3 o) h1
    · cases h
  | star e r =>
    unfold chkEs at h
    split at h
    · obtain ⟨h1, h2⟩ := and2 h
      exact a_star o.K (okE e h1 o) (okEs r h2 o)
    · cases h
theorem okD (es : Exs) : ∀ {E : Ev} {sg : Sg} {X : Cx} {W : WX} {ks : List (Option Expr)} {vs : List Expr}, chkD G sg es ks vs = true → On G sg X T E W → ∃ trs, PRs X T E W es ks vs trs := by
  intro E sg X W ks vs h o
  cases es with
  | nil =>
    unfold chkD at h
    obtain ⟨h1, h2⟩ := and2 h
    cases ks with
    | cons => cases h1
    | nil =>
      cases vs with
      | cons => cases h2
      | nil => exact ⟨[], .nil⟩
  | one k r =>
    unfold chkD at h
    split at h
    · obtain ⟨h1, h2⟩ := and2 h
      cases r with
      | nil => cases h2
      | star e r => cases h2
      | one v r =>
        unfold chkD2 at h2
        split at h2
        · obtain ⟨h3, h4⟩ := and2 h2
          obtain ⟨trs, q⟩ := okD r h4 o
          exact ⟨_, .cons (okE k h1 o) (okE v h3 o) q⟩
        · cases h2
    · cases h
  | star e r => cases h
theorem okV (es : Exs) : ∀ {E : Ev} {sg : Sg} {X : Cx} {W : WX} {xs : List Expr}, chkV G sg es xs = true → On G sg X T E W → PA X xs (tV T W (eva E es)) := by
  intro E sg X W xs h o
  cases es with
  | nil =>
    unfold chkV at h
    split at h
    · exact v_nil
    · cases h
  | one e r =>
    unfold chkV at h
    split at h
    · obtain ⟨h1, h2⟩ := and2 h
      obtain ⟨h2, h3⟩ := and2 h2
      exact v_one (okE e h2 o) (okV r h3 o) h1
    · cases h
  | star e r => cases h
theorem okO (e : Exo) : ∀ {E : Ev} {sg : Sg} {X : Cx} {W : WX} {x : Option Expr}, chkO G sg e x = true → On G sg X T E W → PO X x (tO' T W (evo E e)) := by
  intro E sg X W x h o
  cases e with
  | no =>
    unfold chkO at h
    split at h
    · exact o_none
    · cases h
  | so e =>
    unfold chkO at h
    split at h
    · exact o_some (okE e h o)
    · cases h
theorem okC (e : Exo) : ∀ {E : Ev} {sg : Sg} {X : Cx} {W : WX} {x : List Expr}, chkC G sg e x = true → On G sg X T E W → PTs X x (tB' T W (evc E e)) := by
  intro E sg X W x h o
  cases e with
  | no =>
    unfold chkC at h
    split at h
    · refine pts_imp pts_nil ?_
      rintro σ H Q ⟨ρ, S, env, hs, he, k⟩
      exact k ρ H true Step.refl hs rfl
    · cases h
  | so e =>
    unfold chkC at h
    split at h
    · exact pts_one (okE e h o).1
    · cases h
theorem okI (i : Ix) : ∀ {E : Ev} {sg : Sg} {X : Cx} {W : WX} {tg x : Expr} {b : Bool}, chkI G sg i b x = true → (b = true → isTp tg = true) → On G sg X T E W → PI X tg x (tI T W (evi E i)) := by
  intro E sg X W tg x b h ht o
  have tup : b = true → ∃ es k p, tg = .Tuple es k p := fun z => by
    have := ht z
    cases tg <;> first | exact ⟨_, _, _, rfl⟩ | cases this
  cases i with
  | seq e =>
    unfold chkI at h
    exact i_seq o (okE e h o)
  | rng a b =>
    unfold chkI at h
    split at h
    · obtain ⟨h1, h2⟩ := and2 h
      obtain ⟨h1, h3⟩ := and2 h1
      obtain ⟨h3, h4⟩ := and2 h3
      obtain ⟨h2, h5⟩ := and2 h2
      obtain rfl := of_decide_eq_true h1
      cases a with
      | so a => cases h2
      | no => exact i_rng1 o h3 h4 (okE b h5 o)
    · obtain ⟨h1, h2⟩ := and2 h
      obtain ⟨h1, h3⟩ := and2 h1
      obtain ⟨h3, h4⟩ := and2 h3
      obtain ⟨h4, h6⟩ := and2 h4
      obtain ⟨h2, h5⟩ := and2 h2
      obtain rfl := of_decide_eq_true h1
      cases a with
      | no => unfold chkO at h2; cases h2
      | so a =>
        unfold chkO at h2
        exact i_rng2 o h3 h4 h6 (okE a h2 o) (okE b h5 o)
    · cases h
  | enum e =>
    unfold chkI at h
    split at h
    · obtain ⟨h1, h2⟩ := and2 h
      obtain ⟨k1, h3⟩ := and2 h1
      obtain ⟨h2, h4⟩ := and2 h2
      obtain ⟨h2, h5⟩ := and2 h2
      obtain rfl := of_decide_eq_true h3
      obtain ⟨es, k, p, rfl⟩ := tup k1
      exact i_enum o h2 h5 (okE e h4 o)
    · cases h
  | zip a b =>
    unfold chkI at h
    split at h
    · obtain ⟨h1, h2⟩ := and2 h
      obtain ⟨k1, h3⟩ := and2 h1
      obtain ⟨h2, h4⟩ := and2 h2
      obtain ⟨h2, h5⟩ := and2 h2
      obtain ⟨h5, h6⟩ := and2 h5
      obtain ⟨h4, h7⟩ := and2 h4
      obtain rfl := of_decide_eq_true h3
      obtain ⟨es, k, p, rfl⟩ := tup k1
      exact i_zip o h2 h5 h6 (okE a h4 o) (okE b h7 o)
    · cases h
theorem okG (g : Tg) : ∀ {E : Ev} {sg : Sg} {X : Cx} {W : WX} {x : Expr}, chkG G sg g x = true → On G sg X T E W → PG X x (tG T (slots g) (asg E g)) := by
  intro E sg X W x h o
  cases g with
  | nm i =>
    unfold chkG at h
    split at h
    · obtain ⟨h1, h2⟩ := and2 h
      exact g_nm o (of_decide_eq_true h1) h2
    · cases h
  | tp ts =>
    unfold chkG at h
    split at h
    · obtain ⟨h1, h2⟩ := and2 h
      have q := gs_len h2
      refine pg_imp (g_tp o h1 (okGs ts h1 h2 o)) ?_
      rw [← q]
      exact fun v σ H Q z => z
    · cases h
  | sub ob i =>
    unfold chkG at h
    split at h
    · obtain ⟨h1, h2⟩ := and2 h
      obtain ⟨h2, h3⟩ := and2 h2
      exact g_sub o h1 (okE ob h2 o.weak) (okE i h3 o.weak)
    · cases h
theorem okGs (g : Tgs) : ∀ {E : Ev} {sg : Sg} {X : Cx} {W : WX} {xs : List Expr}, xs.all noStar = true → chkGs G sg g xs = true → On G sg X T E W → PGs X xs (tGs T (slotsL g) (asgs E g)) := by
  intro E sg X W xs hn h o
  cases g with
  | nil =>
    unfold chkGs at h
    split at h
    · refine pgs_imp (gs_nil (T := T)) ?_
      rintro v σ H Q ⟨ρ, S, env, p, hs, he, rp, k⟩
      refine ⟨ρ, S, env, p, hs, he, rp, ?_⟩
      cases p with
      | nil => exact k
      | cons _ _ => exact k
    · cases h
  | cons t r =>
    unfold chkGs at h
    split at h
    · obtain ⟨h1, h2⟩ := and2 h
      simp only [List.all_cons, Bool.and_eq_true] at hn
      refine pgs_imp (gs_cons hn.1 (okG t h1 o) (okGs r hn.2 h2 o)) ?_
      rintro v σ H Q ⟨ρ, S, env, p, hs, he, rp, k⟩
      refine ⟨ρ, S, env, p, hs, he, rp, ?_⟩
      cases p with
      | nil => exact k
      | cons _ _ => exact k
    · cases h
end
end
end EV
/-! The E layer, part Q: statements. -/
namespace EV
open PySem PySem.Spec L2
open PyProof.Rows hiding St

/-- what an end of a statement asks -/
def FinS (T : TX) (W : WX) (ρ : List Addr) (H : Hp) (r : SRes) (D : Ends) : Prop := match r with
  | .next env S => ∀ ρ' H' σ', Step ρ H ρ' H' → SRep T ρ' H' S → EnvRep T ρ' H' env σ' → D.nx σ' H'
  | .brk env S => ∀ ρ' H' σ', Step ρ H ρ' H' → SRep T ρ' H' S → EnvRep T ρ' H' env σ' → D.bk σ' H'
  | .cont env S => ∀ ρ' H' σ', Step ρ H ρ' H' → SRep T ρ' H' S → EnvRep T ρ' H' env σ' → D.ct σ' H'
  | .ret p S => ∀ ρ' H' v, Step ρ H ρ' H' → SRep T ρ' H' S → Rep T ρ' H' p v → D.rt v H'
  | .err e env S => ∀ ρ' H' σ' cls d, Step ρ H ρ' H' → SRep T ρ' H' S → EnvRep T ρ' H' env σ' → ERep T ρ' H' e cls d → W cls d σ' H'
  | .bad => False
def tS (T : TX) (W : WX) (m : EV.Env → Store → SRes) : TS := fun D σ H => ∃ ρ S env, SRep T ρ H S ∧ EnvRep T ρ H env σ ∧ FinS T W ρ H (m env S) D
section
variable {T : TX} {W : WX} {ρ ρ1 : List Addr} {H H1 : Hp} {D D' : Ends} {r : SRes}
theorem FinS.since (s : Step ρ H ρ1 H1) (h : FinS T W ρ H r D) : FinS T W ρ1 H1 r D := by
  cases r with
  | next env S => exact fun ρ' H' σ' t => h ρ' H' σ' (s.trans t)
  | brk env S => exact fun ρ' H' σ' t => h ρ' H' σ' (s.trans t)
  | cont env S => exact fun ρ' H' σ' t => h ρ' H' σ' (s.trans t)
  | ret p S => exact fun ρ' H' v t => h ρ' H' v (s.trans t)
  | err e env S => exact fun ρ' H' σ' c d t => h ρ' H' σ' c d (s.trans t)
  | bad => exact h
theorem FinS.andS {α β : Type} {R1 : Rl α β} {x : Res α} {env : EV.Env} {σ : St} {f : α → Store → SRes} (he : EnvRep T ρ H env σ) (h : FinS T W ρ H (x.andS env f) D) :
    Fin T (WE W σ) R1 ρ H x (fun y H1 => ∃ a ρ1 S1, Step ρ H ρ1 H1 ∧ SRep T ρ1 H1 S1 ∧ R1 H ρ1 H1 a y ∧ x = .ok a S1 ∧ FinS T W ρ1 H1 (f a S1) D) := by
  cases x with
  | ok a S => exact fun ρ' H' y s hs hr => ⟨a, ρ', S, s, hs, hr, rfl, FinS.since s (show FinS T W ρ H (f a S) D from h)⟩
  | err e S => exact fun ρ' H' c d s hs re => h ρ' H' σ c d s hs (he.step s) re
  | bad => exact h
theorem calmS {α : Type} {x : Res α} {env : EV.Env} {f : α → Store → SRes} (h : FinS T W ρ H (x.calm.andS env f) D) : ∃ a S, x = .ok a S ∧ FinS T W ρ H (f a S) D := by
  cases x with
  | ok b S1 => exact ⟨b, S1, rfl, h⟩
  | err e S1 => exact False.elim h
  | bad => exact False.elim h
/-- the end of a body, where the loop's own ends differ -/
theorem FinS.ends (h : FinS T W ρ H r D) (n : ∀ σ H, D.nx σ H → D'.nx σ H) (b : ∀ σ H, D.bk σ H → D'.bk σ H) (c : ∀ σ H, D.ct σ H → D'.ct σ H) (t : ∀ v H, D.rt v H → D'.rt v H) : FinS T W ρ H r D' := by
  cases r with
  | next env S => exact fun ρ' H' σ' s hs he => n _ _ (h ρ' H' σ' s hs he)
  | brk env S => exact fun ρ' H' σ' s hs he => b _ _ (h ρ' H' σ' s hs he)
  | cont env S => exact fun ρ' H' σ' s hs he => c _ _ (h ρ' H' σ' s hs he)
  | ret p S => exact fun ρ' H' v s hs he => t _ _ (h ρ' H' v s hs he)
  | err e env S => exact h
  | bad => exact h
end
section
variable {G : Gn} {sg : Sg} {X : Cx} {T : TX} {E : Ev} {W : WX} {pos p : Pos} {a b tg : Expr} {ma mb mc : EV.Env → Store → Res AV}
theorem s_ex (ha : PE X a (tE T W ma)) (hn : isComp a = false) : PS X (.Expr a pos) (tS T W fun env S => (ma env S).andS env fun _ S => .next env S) := by
  refine ps_imp (ps_expr ha (swap_no hn _ _ _)) ?_
  rintro D σ H ⟨ρ, S, env, hs, he, k⟩
  refine tM.of hs he ((FinS.andS (R1 := RA T) he k).imp ?_)
  rintro x H1 ⟨a, ρ1, S1, st, hs1, _, _, k1⟩
  exact k1 ρ1 H1 σ Step.refl hs1 (he.step st)
/-- t = e -/
abbrev mSet (ma : EV.Env → Store → Res AV) (mg : PV → EV.Env → Store → Res EV.Env) : EV.Env → Store → SRes := fun env S => ((ma env S).bind EV.keep).andS env fun p S => (mg p env S).calm.andS env fun env S => .next env S
theorem set_rd {mg : PV → EV.Env → Store → Res EV.Env} {vs : List Nat} (D : Ends) (σ : St) (H : Hp) (h : tS T W (mSet ma mg) D σ H) : tAsg (tE T W ma) (tG T vs mg) D σ H := by
  obtain ⟨ρ, S, env, hs, he, k⟩ := h
  refine tM.keep (tM.of hs he ((FinS.andS (R1 := RP T) he k).imp ?_))
  rintro x H1 ⟨p, ρ1, S1, st, hs1, rx, _, k1⟩
  obtain ⟨env2, S2, e, k2⟩ := calmS k1
  refine ⟨ρ1, S1, env, p, hs1, he.step st, rx, ?_⟩
  rw [e]
  rintro ρ2 H2 σ2 st2 hs2 ⟨he2, _⟩
  exact k2 ρ2 H2 σ2 st2 hs2 he2
theorem s_set {mg : PV → EV.Env → Store → Res EV.Env} {vs : List Nat} (ha : PE X a (tE T W ma)) (hg : PG X tg (tG T vs mg)) (hs : swapsWithSole [tg] a pos.line X.env = pure false) (hw : swappedStores [tg] a X.env = pure none) (hn : noStar tg = true) :
    PS X (.Assign [tg] a pos) (tS T W (mSet ma mg)) := by
  have h1 : (assignEach [tg] X.env).map (·.2) = [assign tg X.env] := by
    cases tg <;> first | rfl | cases hn
  exact ps_imp (ps_asg ha hg hs hw h1) set_rd
theorem s_ret (ha : PE X a (tE T W ma)) : PS X (.Return (some a) pos) (tS T W fun env S => ((ma env S).bind EV.keep).andS env fun p S => .ret p S) := by
  refine ps_imp (ps_ret ha) ?_
  rintro D σ H ⟨ρ, S, env, hs, he, k⟩
  refine tM.keep (tM.of hs he ((FinS.andS (R1 := RP T) he k).imp ?_))
  rintro x H1 ⟨p, ρ1, S1, st, hs1, rx, _, k1⟩
  exact k1 ρ1 H1 x Step.refl hs1 rx
theorem s_retN : PS X (.Return none pos) (tS T W fun _ S => .ret .non S) := by
  refine ps_imp ps_retN ?_
  rintro D σ H ⟨ρ, S, env, hs, he, k⟩
  exact k ρ H .non Step.refl hs rep_non
theorem s_if {xs ys : List Stmt} {m1 m2 : EV.Env → Store → SRes} (hc : PT X a (tB' T W (mTru ma))) (h1 : PSs X xs (tS T W m1)) (h2 : PSs X ys (tS T W m2)) :
    PS X (.If a xs ys pos) (tS T W fun env S => (mTru ma env S).andS env fun k S => if k = true then m1 env S else m2 env S) := by
  refine ps_imp (ps_if hc h1 h2) ?_
  rintro D σ H ⟨ρ, S, env, hs, he, k⟩
  refine tM.of hs he ((FinS.andS (R1 := RB) he k).imp ?_)
  rintro x H1 ⟨c, ρ1, S1, st, hs1, rfl, _, k1⟩
  cases x with
  | true => exact ⟨ρ1, S1, env, hs1, he.step st, k1⟩
  | false => exact ⟨ρ1, S1, env, hs1, he.step st, k1⟩
theorem s_pass : PS X (.Pass pos) (tS T W fun env S => .next env S) := by
  refine ps_imp ps_pass ?_
  rintro D σ H ⟨ρ, S, env, hs, he, k⟩
  exact k ρ H σ Step.refl hs he
theorem s_brk : PS X (.Break pos) (tS T W fun env S => .brk env S) := by
  refine ps_imp ps_break ?_
  rintro D σ H ⟨ρ, S, env, hs, he, k⟩
  exact k ρ H σ Step.refl hs he
theorem s_cnt : PS X (.Continue pos) (tS T W fun env S => .cont env S) := by
  refine ps_imp ps_continue ?_
  rintro D σ H ⟨ρ, S, env, hs, he, k⟩
  exact k ρ H σ Step.refl hs he
theorem ss_nil : PSs X [] (tS T W fun env S => .next env S) := by
  refine pss_imp pss_nil ?_
  rintro D σ H ⟨ρ, S, env, hs, he, k⟩
  exact k ρ H σ Step.refl hs he
theorem ss_cons {st : Stmt} {xs : List Stmt} {m1 m2 : EV.Env → Store → SRes} (h1 : PS X st (tS T W m1)) (h2 : PSs X xs (tS T W m2)) :
    PSs X (st :: xs) (tS T W fun env S => match m1 env S with
    | .next env S => m2 env S
    | .brk env S => .brk env S
    | .cont env S => .cont env S
    | .ret p S => .ret p S
    | .err e env S => .err e env S
    | .bad => .bad) := by
  refine pss_imp (pss_cons h1 h2) ?_
  rintro D σ H ⟨ρ, S, env, hs, he, k⟩
  refine ⟨ρ, S, env, hs, he, ?_⟩
  dsimp only at k
  cases q : m1 env S with
  | next env1 S1 =>
    rw [q] at k
    exact fun ρ1 H1 σ1 st hs1 he1 => ⟨ρ1, S1, env1, hs1, he1, FinS.since st k⟩
  | brk env1 S1 => rw [q] at k; exact k
  | cont env1 S1 => rw [q] at k; exact k
  | ret p S1 => rw [q] at k; exact k
  | err e env1 S1 => rw [q] at k; exact k
  | bad => rw [q] at k; exact k
/-! ### loops -/
theorem s_whl {xs : List Stmt} {mb : EV.Env → Store → SRes} (hp : PassesOwn (model X.prog X.w) X.A X.env X.xe) (hc : PT X a (tB' T W (mTru ma))) (hb : PSs X xs (tS T W mb)) : PS X (.While a xs [] pos) (tS T W fun env S => whlL (mTru ma) mb fuel env S) := by
  refine ps_imp (ps_while hp hc hb) ?_
  rintro D σ H ⟨ρ, S, env, hs, he, k⟩
  refine ⟨fun m σ H => ∃ ρ S env, SRep T ρ H S ∧ EnvRep T ρ H env σ ∧ FinS T W ρ H (whlL (mTru ma) mb m env S) D, ⟨fuel, ρ, S, env, hs, he, k⟩, ?_⟩
  rintro m σ H ⟨ρ, S, env, hs, he, k⟩
  cases m with
  | zero => exact False.elim k
  | succ m =>
    refine tM.of hs he ((FinS.andS (R1 := RB) he (show FinS T W ρ H ((mTru ma env S).andS env _) D from k)).imp ?_)
    rintro x H1 ⟨c, ρ1, S1, st, hs1, rfl, _, k1⟩
    cases x with
    | false => exact k1 ρ1 H1 σ Step.refl hs1 (he.step st)
    | true =>
      refine ⟨fun σ H => ∃ ρ S env, SRep T ρ H S ∧ EnvRep T ρ H env σ ∧ FinS T W ρ H (whlL (mTru ma) mb m env S) D, fun σ' H' h => ⟨m, Nat.lt_succ_self m, h⟩, ρ1, S1, env, hs1, he.step st, ?_⟩
      have k1 : FinS T W ρ1 H1 (match mb env S1 with
        | .next env' S' => whlL (mTru ma) mb m env' S'
        | .cont env' S' => whlL (mTru ma) mb m env' S'
        | .brk env' S' => .next env' S'
        | .ret p S => .ret p S
        | .err e env S => .err e env S
        | .bad => .bad) D := k1
      cases q : mb env S1 with
      | next env1 S2 => rw [q] at k1; exact fun ρ2 H2 σ2 st2 hs2 he2 => ⟨ρ2, S2, env1, hs2, he2, FinS.since st2 k1⟩
      | cont env1 S2 => rw [q] at k1; exact fun ρ2 H2 σ2 st2 hs2 he2 => ⟨ρ2, S2, env1, hs2, he2, FinS.since st2 k1⟩
      | brk env1 S2 => rw [q] at k1; exact k1
      | ret p S2 => rw [q] at k1; exact k1
      | err e env1 S2 => rw [q] at k1; exact k1
      | bad => rw [q] at k1; exact k1
theorem s_for {iter : Expr} {xs : List Stmt} {mi : EV.Env → Store → Res EV.It} {mg : PV → EV.Env → Store → Res EV.Env} {mb : EV.Env → Store → SRes} {vs : List Nat} (hp : PassesOwn (model X.prog X.w) X.A X.env X.xe) (hc : X.calm = true)
    (hi : PI X tg iter (tI T W mi)) (hg : PG X tg (tG T vs mg)) (hb : PSs X xs (tS T W mb)) (hf : noSet iter = true) :
    PS X (.For tg iter xs [] pos) (tS T W fun env S => (mi env S).andS env fun i S => forL (fun p env S => (mg p env S).calm.andS env fun env S => mb env S) i fuel 0 env S) := by
  refine ps_imp (ps_for hp hc hi hg hb (noSet_ok hf _)) ?_
  rintro D σ H ⟨ρ, S, env, hs, he, k⟩
  refine tM.of hs he ((FinS.andS (R1 := RI T) he k).imp ?_)
  rintro J H1 ⟨it, ρ1, S1, st, hs1, rJ, _, k1⟩
  refine ⟨fun i m σ H => ∃ ρ S env, Step ρ1 H1 ρ H ∧ SRep T ρ H S ∧ EnvRep T ρ H env σ ∧ FinS T W ρ H (forL (fun p env S => (mg p env S).calm.andS env fun env S => mb env S) it m i env S) D,
    ⟨fuel, ρ1, S1, env, Step.refl, hs1, he.step st, k1⟩, ?_⟩
  rintro i m σ H ⟨ρ, S, env, st1, hs, he, k⟩
  cases m with
  | zero => exact False.elim k
  | succ m =>
    unfold forL at k
    have rJ2 : ItRel T ρ H J it := rJ.step st1
    split at k
    · exact False.elim k
    · rename_i e
      exact .inl ⟨it_stop hs rJ2 e, k ρ H σ Step.refl hs he⟩
    · rename_i p e
      obtain ⟨go, yl⟩ := it_go hs rJ2 e
      refine .inr ⟨go, fun σ' H' => ∃ ρ S env, Step ρ1 H1 ρ H' ∧ SRep T ρ H' S ∧ EnvRep T ρ H' env σ' ∧ FinS T W ρ H' (forL (fun p env S => (mg p env S).calm.andS env fun env S => mb env S) it m (i + 1) env S) D,
        fun σ' H' h => ⟨m, Nat.lt_succ_self m, h⟩, fun x H3 hy => ?_⟩
      obtain ⟨st3, hs3, rx⟩ := yl x H3 hy
      cases q : mg p env S with
      | err e S2 => rw [q] at k; exact False.elim k
      | bad => rw [q] at k; exact False.elim k
      | ok env2 S2 =>
        rw [q] at k
        refine ⟨ρ, S, env, p, hs3, he.step st3, rx, ?_⟩
        rw [q]
        rintro ρ4 H4 σ4 st4 hs4 ⟨he4, _⟩
        refine ⟨ρ4, S2, env2, hs4, he4, ?_⟩
        have st14 := st1.trans (st3.trans st4)
        have k : FinS T W ρ H (match mb env2 S2 with
          | .next env' S' => forL (fun p env S => (mg p env S).calm.andS env fun env S => mb env S) it m (i + 1) env' S'
          | .cont env' S' => forL (fun p env S => (mg p env S).calm.andS env fun env S => mb env S) it m (i + 1) env' S'
          | .brk env' S' => .next env' S'
          | .ret p S => .ret p S
          | .err e env S => .err e env S
          | .bad => .bad) D := k
        have k := FinS.since (st3.trans st4) k
        cases q2 : mb env2 S2 with
        | next env1 S3 => rw [q2] at k; exact fun ρ5 H5 σ5 st5 hs5 he5 => ⟨ρ5, S3, env1, st14.trans st5, hs5, he5, FinS.since st5 k⟩
        | cont env1 S3 => rw [q2] at k; exact fun ρ5 H5 σ5 st5 hs5 he5 => ⟨ρ5, S3, env1, st14.trans st5, hs5, he5, FinS.since st5 k⟩
        | brk env1 S3 => rw [q2] at k; exact k
        | ret p S3 => rw [q2] at k; exact k
        | err e env1 S3 => rw [q2] at k; exact k
        | bad => rw [q2] at k; exact k
end
end EV
/-! The E layer, part R: more statements. -/
namespace EV
open PySem PySem.Spec L2
open PyProof.Rows hiding St
section
variable {G : Gn} {sg : Sg} {X : Cx} {T : TX} {E : Ev} {W : WX} {pos p : Pos} {a b c tg : Expr} {ma mb mc : EV.Env → Store → Res AV}
/-! ### a op= b -/
def rIp (T : TX) (o : BOp) : TIp := fun x y H Q => ∃ ρ S p b q S' H0, SRep T ρ H S ∧ Rep T ρ H p x ∧ RepA T H0 ρ H b y ∧ ipA S o p b = some (q, S') ∧ ∀ H' v, Step ρ H ρ H' → SRep T ρ H' S' → Rep T ρ H' q v → Q v H'
theorem ip_int (o : BOp) (i j k : Int) (h : ipI o i j = some k) {pins : List (Addr × Obj)} {s : Shared} {σ : St} {H : Hp} {Q : VK} {v u : Value} (I : L2.Inv X pins σ H s) (rx : RelV (.int i) v) (ry : RelV (.int j) u) (q : Q (.int k) H) :
    wpAny (model X.prog X.w) X.A (inplaceOp (opE o) v u) (EP X pins σ Q) X.xe s := by
  cases o <;> simp only [ipI] at h
  · cases h; exact iop_add pins s σ H _ _ v u Q I rx ry ⟨i, j, rfl, rfl, q⟩
  · cases h; exact iop_sub pins s σ H _ _ v u Q I rx ry ⟨i, j, rfl, rfl, q⟩
  · split at h
    · rename_i c
      cases h
      refine iop_mul pins s σ H _ _ v u Q I rx ry ⟨i, j, rfl, rfl, ?_, q⟩
      simp only [Bool.or_eq_true, decide_eq_true_eq] at c
      unfold CMul
      omega
    · cases h
  · split at h
    · rename_i c
      cases h
      simp only [Bool.and_eq_true, decide_eq_true_eq] at c
      exact iop_fdiv pins s σ H _ _ v u Q I rx ry ⟨i, j, rfl, rfl, c, q⟩
    · cases h
  · split at h
    · rename_i c
      cases h
      exact iop_mod pins s σ H _ _ v u Q I rx ry ⟨i, j, rfl, rfl, of_decide_eq_true c, q⟩
    · cases h
  · cases h
  · split at h
    · rename_i c1
      cases h
      unfold fitsP at c1
      rw [Bool.and_eq_true, Bool.and_eq_true] at c1
      exact iop_shl pins s σ H _ _ v u Q I rx ry ⟨i, j, rfl, rfl, ⟨of_decide_eq_true c1.1.1, of_decide_eq_true c1.1.2, of_decide_eq_true c1.2⟩, q⟩
    · cases h
  · split at h
    · rename_i c
      cases h
      exact iop_shr pins s σ H _ _ v u Q I rx ry ⟨i, j, rfl, rfl, c, q⟩
    · cases h
  · cases h; exact iop_and pins s σ H _ _ v u Q I rx ry ⟨i, j, rfl, rfl, q⟩
  · cases h; exact iop_or pins s σ H _ _ v u Q I rx ry ⟨i, j, rfl, rfl, q⟩
  · cases h; exact iop_xor pins s σ H _ _ v u Q I rx ry ⟨i, j, rfl, rfl, q⟩
theorem ip_r (o : BOp) : PIp X (opE o) (rIp T o) := by
  rintro pins s σ H x y v u Q I rx ry ⟨ρ, S, p, b, q, S', H0, hs, rp, rb, e, k⟩
  have bg := big_line
  unfold ipA at e
  split at e
  · simp only [Option.map_eq_some_iff] at e
    obtain ⟨z, e, h⟩ := e
    cases h
    unfold Rep at rp
    have := of_int rb
    subst rp this
    exact ip_int o _ _ z e I rx ry (k H _ Step.refl hs rep_int)
  · split at e
    · rename_i c
      obtain ⟨rfl, c⟩ := c
      cases e
      unfold Rep at rp
      have := of_str rb
      subst rp this
      exact iop_add_str pins s σ H _ _ v u Q I rx ry ⟨_, _, rfl, rfl, Nat.le_trans c bg, k H _ Step.refl hs rep_str⟩
    · cases e
  · split at e
    · rename_i l m e1 e2
      split at e
      · rename_i c
        obtain ⟨rfl, c⟩ := c
        cases e
        obtain ⟨d, ed, xs, g, r⟩ := hs.get e1
        have := rep_loc rp ed
        subst this
        obtain ⟨f, zs, rfl, g2, r2⟩ := lstOf_ok hs rb e2
        obtain ⟨st, hs'⟩ := put_lst hs ed g (r.app r2)
        have l1 := r.length
        have l2 := r2.length
        exact iop_ext pins s σ H _ _ v u Q I rx ry ⟨d, f, xs, zs, rfl, rfl, g, g2, by rw [← l1, ← l2]; exact Nat.le_trans c bg, k _ _ st hs' (Rep.step st _ _ rp)⟩
      · cases e
    · cases e
  · cases e
abbrev mAug (i : Nat) (o : BOp) (ma : EV.Env → Store → Res AV) : EV.Env → Store → SRes := fun env S => match env[i]? with
    | some (some p) => (ma env S).andS env fun y S => match ipA S o p y with
      | some (q, S) => .next (env.set i (some q)) S
      | none => .bad
    | _ => .bad
theorem s_aug (o : On G sg X T E W) (p : BOp) {i : Nat} {x : Str} {pos' : Pos} (hN : sg.N[i]? = some x) (hl : sg.loc x = true) (ha : PE X a (tE T W ma)) : PS X (.AugAssign (.Name x pos') (opE p) a pos) (tS T W (mAug i p ma)) := by
  refine ps_imp (ps_aug o.nd (by rw [o.N]; exact hN) (o.loc hl) ha (ip_r (T := T) p) (o.fn x hl)) ?_
  rintro D σ H ⟨ρ, S, env, hs, he, k⟩
  unfold mAug at k
  split at k
  · rename_i pv e
    obtain ⟨v, e1, rv⟩ := he.at_ i pv e
    refine ⟨v, e1, tM.of hs he ((FinS.andS (R1 := RA T) he k).imp ?_)⟩
    rintro y H1 ⟨b, ρ1, S1, st, hs1, ry, _, k1⟩
    split at k1
    · rename_i q S2 e2
      exact ⟨ρ1, S1, pv, b, q, S2, H, hs1, Rep.step st _ _ rv, ry, e2, fun H2 z st2 hs2 rz => k1 ρ1 H2 _ st2 hs2 (((he.step st).step st2).set i rz)⟩
    · exact False.elim k1
  · exact False.elim k
/-! ### o[i] op= e -/
def rGet (T : TX) : V → V → Hp → VK → Prop := fun x y H Q => ∃ ρ S a b p H0, SRep T ρ H S ∧ RepA T H0 ρ H a x ∧ Rep T ρ H b y ∧ ixP S a b = some p ∧ ∀ v, Rep T ρ H p v → Q v H
theorem get_r (hK : X.K = T.K) (hu : X.A.units + 1 < cLine) : PGet X (rGet T) := by
  rintro pins s σ H x y v u Q I rx ry ⟨ρ, S, a, b, p, H0, hs, ra, rb, e, q⟩
  obtain ⟨K, fa, ca, fl, tabs⟩ := T
  obtain rfl : X.K = K := hK
  unfold ixP at e
  split at e
  · cases e
  · rename_i ht
    unfold ixOp seqOf at e
    rw [ht] at e
    dsimp only at e
    split at e
    · rename_i l hl
      split at e
      · rename_i i
        obtain ⟨c, xs, rfl, qs, r⟩ := listOf_ok hs ra hl
        unfold Rep at rb
        subst rb
        obtain ⟨w, e1, rw1⟩ := atI_ok r e
        obtain ⟨its, rv, pl, hz⟩ := I.list qs
        obtain ⟨j, h1, h2, h3, h4, h5⟩ := atI_get e1
        obtain ⟨w2, ew, rw2⟩ := rv.get h2
        cases (show v = Value.ref c from rx)
        obtain ⟨tk, rfl⟩ := ry
        have hn := rv.length
        have h63 := line63
        have fin : EP X pins σ Q w2 s := ⟨w, H, I, rw2, q w rw1⟩
        by_cases h0 : 0 ≤ i
        · have hj : i.toNat = j := by
            rw [seqIndex_of h0 h5] at h1
            exact Option.some.inj h1
          exact wpAny_getItem_list pl.isList h0 (by omega) (by rw [hj]; simpa using ew) fin
        · have hj : (i + (its.toArray.size : Int)).toNat = j := by
            rw [seqIndex_neg (by omega) h4] at h1
            rw [List.size_toArray, ← hn]
            exact Option.some.inj h1
          exact wpAny_getItem_list_neg pl.isList (by omega) (by rw [List.size_toArray]; omega) (by omega) (by rw [hj]; simpa using ew) fin
      · cases e
    · cases hg : dGet S a b with
      | none => rw [hg] at e; cases e
      | some o =>
        rw [hg] at e
        have e : o = some p := e
        subst e
        obtain ⟨c, r, rfl, g, ro⟩ := dGet_ok hs ra rb hg
        rcases ro with ⟨z, _⟩ | ⟨p', w, z, rfl, rp⟩
        · cases z
        · cases z
          cases (show v = Value.ref c from rx)
          exact d_getItem hu I g ry fun w' s' I' rw' => ⟨w, H, I', rw', q w rp⟩
abbrev mAugS (op : BOp) (mo mi me : EV.Env → Store → Res AV) : EV.Env → Store → SRes := fun env S => (mo env S).andS env fun x S => ((mi env S).bind EV.keep).andS env fun k S => (orBad S (ixP S x k)).andS env fun p S =>
      (me env S).andS env fun y S => match ipA S op p y with
        | some (q, S) => (match putA S x k q with
          | some S => .next env S
          | none => .bad)
        | none => .bad
theorem aug_sub {b : Expr} (h : notSlice b = true) (ov iv new : Value) : augStore b ov iv new = (do holding [new, ov, iv] (setItem ov iv new); release [new, ov, iv] []; pure .next) := by
  cases b <;> first | rfl | cases h
theorem s_augS (o : On G sg X T E W) (op : BOp) {tpos : Pos} (hn : notSlice b = true) (ha : PE X a (tE T W ma)) (hb : PE X b (tE T W mb)) (hc : PE X c (tE T W mc)) : PS X (.AugAssign (.Subscript a b tpos) (opE op) c pos) (tS T W (mAugS op ma mb mc)) := by
  have hu := o.un
  refine ps_imp (ps_augS ha hb (get_r o.K (by omega)) hc (ip_r (T := T) op) (put_r o.K (by omega)) (aug_sub hn)) ?_
  rintro D σ H ⟨ρ, S, env, hs, he, k⟩
  refine tM.of hs he ((FinS.andS (R1 := RA T) he k).imp ?_)
  rintro x H1 ⟨av, ρ1, S1, st1, hs1, rx, _, k1⟩
  have he1 := he.step st1
  refine tM.keep (tM.of hs1 he1 ((FinS.andS (R1 := RP T) he1 k1).imp ?_))
  rintro y H2 ⟨kv, ρ2, S2, st2, hs2, ry, _, k2⟩
  have he2 := he1.step st2
  cases e : ixP S2 av kv with
  | none => rw [e] at k2; exact False.elim k2
  | some pv =>
    rw [e] at k2
    refine ⟨ρ2, S2, av, kv, pv, H, hs2, rx.step st2, ry, e, fun w rw => tM.of hs2 he2 ((FinS.andS (R1 := RA T) he2 k2).imp ?_)⟩
    rintro z H3 ⟨bv, ρ3, S3, st3, hs3, rz, _, k3⟩
    split at k3
    · rename_i q S4 e4
      refine ⟨ρ3, S3, pv, bv, q, S4, H2, hs3, Rep.step st3 _ _ rw, rz, e4, fun H4 v4 st4 hs4 rv4 => ?_⟩
      split at k3
      · rename_i S5 e5
        exact ⟨ρ3, S4, av, kv, q, S5, H, hs4, ((rx.step st2).step st3).step st4, Rep.step st4 _ _ (Rep.step st3 _ _ ry), rv4, e5, fun H5 st5 hs5 => k3 ρ3 H5 σ (st4.trans st5) hs5 ((he2.step st3).step (st4.trans st5))⟩
      · exact False.elim k3
    · exact False.elim k3

/-! ### swapped stores -/
/-- what swappedStores says, off the scope -/
def swapOf (sc : Scope) (targets : List Expr) (value : Expr) : Option (Option (List Str)) :=
  match (match targets, value with
    | [.Tuple ts _ _], .Tuple vs _ _ | [.List ts _], .Tuple vs _ _ => some (ts, vs)
    | _, _ => none) with
  | none => some none
  | some (ts, vs) =>
    if !(ts.length == 2 || ts.length == 3) || vs.length != ts.length || sc.kind != .function then some none else
    if vs.any fun | .Starred .. => true | _ => false then some none else
    let line := (ts.head?.map (·.pos.line)).getD 0
    let names := ts.filterMap fun
      | .Name id pos => if sc.names.lookup id == some .local && pos.line == line then some id else none
      | _ => none
    if names.length != ts.length || names.eraseDups.length != names.length then some none else
    if vs.all (foldedForSure 8) then some none else
    if vs.all (constantsAlone 8) then none else some (some names)
theorem swap_go {ts vs : List Expr} {r : Option (List Str)} {A B : Bool} {ns : List Str}
    (h : (if A = true then some none else if B = true then some none else if (ns.length != ts.length || ns.eraseDups.length != ns.length) = true then some none else
      if vs.all (foldedForSure 8) = true then some none else if vs.all (constantsAlone 8) = true then none else some (some ns)) = some r) :
    ((if A = true then pure none else if B = true then pure none else if (ns.length != ts.length || ns.eraseDups.length != ns.length) = true then pure none else
      if vs.all (foldedForSure 8) = true then pure none else do
        if vs.all (constantsAlone 8) = true then unsupported "assign.tuple-of-constant-expressions:order-of-the-stores"
        return some ns) : Sem (Option (List Str))) = pure r := by
  split at h
  · rename_i c; rw [if_pos c]; cases h; rfl
  · rename_i c
    rw [if_neg c]
    split at h
    · rename_i c; rw [if_pos c]; cases h; rfl
    · rename_i c
      rw [if_neg c]
      split at h
      · rename_i c; rw [if_pos c]; cases h; rfl
      · rename_i c
        rw [if_neg c]
        split at h
        · rename_i c; rw [if_pos c]; cases h; rfl
        · rename_i c
          rw [if_neg c]
          split at h
          · cases h
          · rename_i c
            cases h
            simp only [c, Bool.false_eq_true, if_false]
theorem swap_ok {targets : List Expr} {value : Expr} {env : PySem.Env} {r : Option (List Str)} (hk : env.scope.kind = .function) (h : swapOf env.scope targets value = some r) : swappedStores targets value env = pure r := by
  have hb : env.blockKind = .function := by unfold Env.blockKind; rw [hk]; rfl
  unfold swapOf at h
  unfold swappedStores
  rw [hb]
  rw [hk] at h
  split at h
  · rename_i e
    cases h
    split
    · rename_i e2
      split at e2
      · cases e
      · cases e
      · cases e2
    · rfl
  · rename_i ts vs e
    split at e
    · cases e
      exact swap_go h
    · cases e
      exact swap_go h
    · cases e
/-- swapsWith, off the scope -/
def swapsOf (sc : Scope) (value : Expr) (target : Expr) : Bool :=
  match (match value with
    | .ListComp _ _ s _ | .SetComp _ _ s _ | .DictComp _ _ _ s _ => some s
    | _ => none) with
  | none => false
  | some s => match target with
    | .Name t pos => sc.kind == .function && sc.names.lookup t == some .local && pos.line == value.pos.line && !(s.names.any fun (n, k) => n == t && (k == .local || k == .cell))
    | _ => false
theorem swaps_ok {value target : Expr} {env : PySem.Env} {l : Nat} (hk : env.scope.kind = .function) : swapsWith value (some target) l env = pure (swapsOf env.scope value target) := by
  have hb : env.blockKind = .function := by unfold Env.blockKind; rw [hk]; rfl
  unfold swapsWith swapsOf
  cases value <;> first
    | rfl
    | (cases target <;> first
        | rfl
        | (dsimp only
           rw [hb, hk]
           rfl))
/-- a, b = x, y; a, b, c = x, y, z -/
abbrev mPar (is : List Nat) (mas : EV.Env → Store → Res (List PV)) : EV.Env → Store → SRes := fun env S => (mas env S).andS env fun l S => if l.length = is.length then .next ((is.zip l).foldl (fun env q => env.set q.1 (some q.2)) env) S else .bad
theorem s_par2 (o : On G sg X T E W) {i j : Nat} {x y : Str} {px py pt : Pos} {kt k2 pt2} {mas : EV.Env → Store → Res (List PV)} (hk : sg.sc.kind = .function) (hi : sg.N[i]? = some x) (hj : sg.N[j]? = some y) (hij : i ≠ j) (hx : sg.sc.names.lookup x = some .local) (hy : sg.sc.names.lookup y = some .local)
    (hw : swapOf sg.sc [.Tuple [.Name x px, .Name y py] kt pt] (.Tuple [a, b] k2 pt2) = some (some [x, y])) (has : PA X [a, b] (tP T W mas)) :
    PS X (.Assign [.Tuple [.Name x px, .Name y py] kt pt] (.Tuple [a, b] k2 pt2) pos) (tS T W (mPar [i, j] mas)) := by
  rw [← o.sc] at hk hx hy hw
  refine ps_imp (ps_par o.calm o.nd (by rw [o.N]; exact hi) (by rw [o.N]; exact hj) hij hx hy has (swap_ok hk hw)) ?_
  rintro D σ H ⟨ρ, S, env, hs, he, k⟩
  refine tM.of hs he ((FinS.andS (R1 := RPs T) he k).imp ?_)
  rintro vs H1 ⟨l, ρ1, S1, st, hs1, r, _, k1⟩
  split at k1
  · rename_i hl
    match l, hl, r with
    | [p, q], _, r =>
      unfold Reps at r
      obtain ⟨v, t, rfl, r1, r2⟩ := r
      unfold Reps at r2
      obtain ⟨w, t, rfl, r2, r3⟩ := r2
      unfold Reps at r3
      subst r3
      exact ⟨v, w, rfl, k1 ρ1 H1 _ Step.refl hs1 (((he.step st).set i r1).set j r2)⟩
  · exact False.elim k1
theorem s_par3 (o : On G sg X T E W) {i j l : Nat} {x y z : Str} {px py pz pt : Pos} {kt k2 pt2} {mas : EV.Env → Store → Res (List PV)} (hk : sg.sc.kind = .function) (hi : sg.N[i]? = some x) (hj : sg.N[j]? = some y) (hl : sg.N[l]? = some z) (hij : i ≠ j) (hil : i ≠ l) (hjl : j ≠ l)
    (hx : sg.sc.names.lookup x = some .local) (hy : sg.sc.names.lookup y = some .local) (hz : sg.sc.names.lookup z = some .local)
    (hw : swapOf sg.sc [.Tuple [.Name x px, .Name y py, .Name z pz] kt pt] (.Tuple [a, b, c] k2 pt2) = some (some [x, y, z])) (has : PA X [a, b, c] (tP T W mas)) :
    PS X (.Assign [.Tuple [.Name x px, .Name y py, .Name z pz] kt pt] (.Tuple [a, b, c] k2 pt2) pos) (tS T W (mPar [i, j, l] mas)) := by
  rw [← o.sc] at hk hx hy hz hw
  refine ps_imp (ps_par3 o.calm o.nd (by rw [o.N]; exact hi) (by rw [o.N]; exact hj) (by rw [o.N]; exact hl) hij hil hjl hx hy hz has (swap_ok hk hw)) ?_
  rintro D σ H ⟨ρ, S, env, hs, he, k⟩
  refine tM.of hs he ((FinS.andS (R1 := RPs T) he k).imp ?_)
  rintro vs H1 ⟨m, ρ1, S1, st, hs1, r, _, k1⟩
  split at k1
  · rename_i hl
    match m, hl, r with
    | [p, q, q'], _, r =>
      unfold Reps at r
      obtain ⟨v, t, rfl, r1, r2⟩ := r
      unfold Reps at r2
      obtain ⟨w, t, rfl, r2, r3⟩ := r2
      unfold Reps at r3
      obtain ⟨u, t, rfl, r3, r4⟩ := r3
      unfold Reps at r4
      subst r4
      exact ⟨v, w, u, rfl, k1 ρ1 H1 _ Step.refl hs1 ((((he.step st).set i r1).set j r2).set l r3)⟩
  · exact False.elim k1
end
end EV
/-! The E layer, part S: a comprehension's name stored inside; the check of statements. -/
namespace EV
open PySem PySem.Spec L2
open PyProof.Rows hiding St
section
variable {X : Cx}
/-- name = {k: v for ..} on one line, the name a local -/
theorem ps_setDc {i : Nat} {y : Str} {py : Pos} {kx vx tg iter : Expr} {ifs : List Expr} {scope : Scope} {own : List (Str × Nat)} {pos spos : Pos} {wi : TI} {g : TG} {tt : TT} {tk tv : TE} (hc : X.calm = true) (hN : X.N.Nodup) (hy : X.N[i]? = some y)
    (hyl : X.env.scope.names.lookup y = some .local) (hsw : swapsWith (.DictComp kx vx [⟨tg, iter, ifs, 0⟩] scope pos) (some (.Name y py)) spos.line X.env = pure true) (hi : PI X tg iter wi) (ok : BlkOk X.N X.env.scope scope own)
    (hg : ∀ (s : Shared) (H : Hp) (C : Addr) (cl : List (Str × Addr)) (fp : List Addr), PG (X.blk s H scope (compEnvC scope cl C X.env) fp) tg g)
    (ht : ∀ (s : Shared) (H : Hp) (C : Addr) (cl : List (Str × Addr)) (fp : List Addr), PTs (X.blk s H scope (compEnvC scope cl C X.env) fp) ifs tt)
    (hk : ∀ (s : Shared) (H : Hp) (C : Addr) (cl : List (Str × Addr)) (fp : List Addr), PE (X.blk s H scope (compEnvC scope cl C X.env) fp) kx tk)
    (he : ∀ (s : Shared) (H : Hp) (C : Addr) (cl : List (Str × Addr)) (fp : List Addr), PE (X.blk s H scope (compEnvC scope cl C X.env) fp) vx tv) (hs : ∀ x, foldedSetIterable iter X.env x = pure x) :
    PS X (.Assign [.Name y py] (.DictComp kx vx [⟨tg, iter, ifs, 0⟩] scope pos) spos) (tAsg (tDc wi g tt tk tv (own.map (·.2))) (gName i)) := by
  refine ⟨fun pins s σ H D I h => ?_⟩
  rw [exec_Assign_Name_used _ _ _ _ hsw]
  refine wpAny_bind (wpAny_standAt (wpAny_bind ?_))
  have h : tDc wi g tt tk tv (own.map (·.2)) σ H (fun x H1 => gName i x σ H1 D.nx) := h
  refine wpAny_bind (thn (dc_core (Qf := fun _ s' => SP X pins D .next s') hc hN I hi ok hg ht hk he hs h fun L C s' m H' I' q hn f => ?_) fun _ s' hq => wpAny_pure (wpAny_pure hq))
  refine wpAny_assign_Name (store_ok2 (v := V.ref L) I' hN hy (.inl hyl) rfl (fun s2 I2 ⟨a, sb, ha⟩ => ?_) (.inr hyl))
  obtain ⟨f0, f1, f2, f3, f4, f5⟩ := f
  have ne : C ≠ a := by
    rcases ha with z | z
    · exact fun e => f1 (e.trans z)
    · exact fun e => f4 y a z e.symm
  exact ⟨m, hn.sameBut sb ne, fun h3 sb3 => ⟨_, H', I2.turned (t' := s2.toks) (fun b o hb e => (sb3.2 b hb).trans e) f0 f1 f3 f4 f5, q⟩⟩
end
/-! ### the check of statements (raise, try: in part U) -/
def isFn (sc : Scope) : Bool := match sc.kind with
  | .function => true
  | _ => false
theorem isFn_ok {sc : Scope} (h : isFn sc = true) : sc.kind = .function := by
  unfold isFn at h
  split at h
  · assumption
  · cases h
/-- the extra forms: raise, try -/
abbrev Xtra := Sx → Stmt → Bool
def names2 (sg : Sg) (is : List Nat) (x y : Str) : Bool := match is with
  | [i, j] => (decide (sg.N[i]? = some x) && decide (sg.N[j]? = some y)) && (decide (i ≠ j) && (decide (sg.sc.names.lookup x = some .local) && decide (sg.sc.names.lookup y = some .local)))
  | _ => false
def names3 (sg : Sg) (is : List Nat) (x y z : Str) : Bool := match is with
  | [i, j, l] => ((decide (sg.N[i]? = some x) && decide (sg.N[j]? = some y)) && (decide (sg.N[l]? = some z) && (decide (i ≠ j) && (decide (i ≠ l) && decide (j ≠ l))))) &&
      (decide (sg.sc.names.lookup x = some .local) && (decide (sg.sc.names.lookup y = some .local) && decide (sg.sc.names.lookup z = some .local)))
  | _ => false
/-- a comprehension's own name is stored inside it -/
def chkSet (G : Gn) (sg : Sg) (t : Tg) (e : Ex) (tx x : Expr) : Bool := match t, tx with
  | .nm i, .Name y _ => (decide (sg.N[i]? = some y) && decide (sg.sc.names.lookup y = some .local)) && (match e, x with
    | .lc own tg it c el, .ListComp elx [⟨tgx, ix, ifs, 0⟩] scope _ => (blkC sg.N sg.sc scope own && noSet ix) && (((slots tg).all fun v => decide (v ∈ own.map (·.2))) && (chkI G sg it (isTp tgx) ix && (chkG G (sg.blk scope) tg tgx && (chkC G (sg.blk scope) c ifs && chkE G (sg.blk scope) false el elx))))
    | .lc2 own tg it c tg1 it1 c1 el, .ListComp elx [⟨tgx, ix, ifs, 0⟩, ⟨tx1, ix1, ifs1, 0⟩] scope _ => ((blkC sg.N sg.sc scope own && noSet ix) && (noSet ix1 && (slots tg1).all fun v => decide (v ∈ own.map (·.2)))) && (((slots tg).all fun v => decide (v ∈ own.map (·.2))) && (chkI G sg it (isTp tgx) ix && (chkG G (sg.blk scope) tg tgx && (chkC G (sg.blk scope) c ifs && (chkI G (sg.blk scope) it1 (isTp tx1) ix1 && (chkG G (sg.blk scope) tg1 tx1 && (chkC G (sg.blk scope) c1 ifs1 && chkE G (sg.blk scope) false el elx)))))))
    | .dc own tg it c k v, .DictComp kx vx [⟨tgx, ix, ifs, 0⟩] scope _ => (blkC sg.N sg.sc scope own && noSet ix) && (((slots tg).all fun v => decide (v ∈ own.map (·.2))) && (chkI G sg it (isTp tgx) ix && (chkG G (sg.blk scope) tg tgx && (chkC G (sg.blk scope) c ifs && (chkE G (sg.blk scope) false k kx && chkE G (sg.blk scope) false v vx)))))
    | _, _ => false)
  | _, _ => false
mutual
def chkS (G : Gn) (xt : Sg → Xtra) (sg : Sg) : Sx → Stmt → Bool
  | .ex e, x => (match x with | .Expr y _ => !isComp y && chkE G sg false e y | _ => false)
  | .set t e, x => (match x with | .Assign [tx] y _ => bif swapsOf sg.sc y tx then chkSet G sg t e tx y else (decide (swapOf sg.sc [tx] y = some none) && noStar tx) && (chkE G sg false e y && chkG G sg t tx) | _ => false)
  | .par is es, x => (match x with
    | .Assign [.Tuple [.Name n px, .Name m py] kt pt] (.Tuple [a, b] k2 pt2) _ => names2 sg is n m && (decide (swapOf sg.sc [.Tuple [.Name n px, .Name m py] kt pt] (.Tuple [a, b] k2 pt2) = some (some [n, m])) && chkEs G sg es [a, b])
    | .Assign [.Tuple [.Name n px, .Name m py, .Name o pz] kt pt] (.Tuple [a, b, c] k2 pt2) _ => names3 sg is n m o && (decide (swapOf sg.sc [.Tuple [.Name n px, .Name m py, .Name o pz] kt pt] (.Tuple [a, b, c] k2 pt2) = some (some [n, m, o])) && chkEs G sg es [a, b, c])
    | _ => false)
  | .aug i o e, x => (match x with | .AugAssign (.Name n _) op y _ => (decide (op = opE o) && decide (sg.N[i]? = some n)) && (sg.loc n && chkE G sg false e y) | _ => false)
  | .augS o i op e, x => (match x with | .AugAssign (.Subscript y z _) op' w _ => (decide (op' = opE op) && notSlice z) && (chkE G sg false o y && (chkE G sg false i z && chkE G sg false e w)) | _ => false)
  | .ret e, x => (match x with | .Return y _ => chkO G sg e y | _ => false)
  | .ife c a b, x => (match x with | .If y xs ys _ => chkE G sg true c y && (chkSs G xt sg a xs && chkSs G xt sg b ys) | _ => false)
  | .whl c b, x => (match x with | .While y xs [] _ => chkE G sg true c y && chkSs G xt sg b xs | _ => false)
  | .for_ tg it b, x => (match x with | .For tx ix xs [] _ => noSet ix && (chkI G sg it (isTp tx) ix && (chkG G sg tg tx && chkSs G xt sg b xs)) | _ => false)
  | .brk, x => (match x with | .Break _ => true | _ => false)
  | .cnt, x => (match x with | .Continue _ => true | _ => false)
  | .pass, x => (match x with | .Pass _ => true | _ => false)
  | .dead, _ => true
  | .rai c e, x => xt sg (.rai c e) x
  | .tr b hs, x => (match x with | .Try xs hx [] [] p => chkSs G xt sg b xs && xt sg (.tr .nil hs) (.Try [] hx [] [] p) | _ => false)
def chkSs (G : Gn) (xt : Sg → Xtra) (sg : Sg) : Sxs → List Stmt → Bool
  | .nil, xs => (match xs with | [] => true | _ => false)
  | .cons s r, xs => (match xs with | y :: ys => chkS G xt sg s y && chkSs G xt sg r ys | _ => false)
end
end EV
/-! The E layer, part T: what is checked does what the evaluator says: statements. -/
namespace EV
open PySem PySem.Spec L2
open PyProof.Rows hiding St
section
variable {G : Gn} {T : TX} {E : Ev} {xt : Sg → Xtra}
theorem swaps_sole {sc : Scope} {e tg : Expr} {env : PySem.Env} {l : Nat} (hk : sc.kind = .function) (hs : env.scope = sc) (h : swapsOf sc e tg = false) : swapsWithSole [tg] e l env = pure false := by
  show swapsWith e (some tg) l env = pure false
  subst hs
  rw [swaps_ok hk, h]
theorem set_lc {sg : Sg} {X : Cx} {W : WX} (o : On G sg X T E W) (hf : isFn sg.sc = true) {t : Tg} {e : Ex} {tx x : Expr} {pos : Pos} (hsw : swapsOf sg.sc x tx = true) (h : chkSet G sg t e tx x = true) : PS X (.Assign [tx] x pos) (tS T W (evS E (.set t e))) := by
  have hk := isFn_ok hf
  unfold chkSet at h
  split at h
  · rename_i i y py
    obtain ⟨h1, h⟩ := and2 h
    obtain ⟨h1, h2⟩ := and2 h1
    have h1 := of_decide_eq_true h1
    have h2 := of_decide_eq_true h2
    have sw : swapsWith x (some (.Name y py)) pos.line X.env = pure true := by
      rw [swaps_ok (by rw [o.sc]; exact hk), o.sc, hsw]
    have fin : ∀ {te : TE}, (∀ σ H Q, tE T W (ev E e) σ H Q → te σ H Q) → PS X (.Assign [.Name y py] x pos) (tAsg te (gName i)) → PS X (.Assign [.Name y py] x pos) (tS T W (evS E (.set (.nm i) e))) := fun {te} hi q => by
      refine ps_imp q ?_
      intro D σ H h
      have k := set_rd (mg := asg E (.nm i)) (vs := [i]) D σ H h
      refine hi _ _ _ (tM.imp k ?_)
      rintro v H1 ⟨ρ, S, env, p, hs, he, rp, k⟩
      refine k ρ H1 _ Step.refl hs ⟨he.set i rp, by simp, fun j hj => ?_⟩
      rw [List.getElem?_set_ne]
      exact fun z => hj (by simp [z])
    split at h
    · obtain ⟨g1, h⟩ := and2 h
      obtain ⟨g1, g3⟩ := and2 g1
      obtain ⟨g2, g4⟩ := and2 h
      obtain ⟨g4, g5⟩ := and2 g4
      obtain ⟨g5, g6⟩ := and2 g5
      obtain ⟨g6, g7⟩ := and2 g6
      have hw : ∀ v ∈ slots _, v ∈ _ := fun v hv => of_decide_eq_true (List.all_eq_true.mp g2 v hv)
      have hb : BlkOk X.N X.env.scope _ _ := blkOk_by (by rw [o.N, o.sc]; exact g1)
      exact fin (lc_rd hw) (ps_setLc o.calm o.nd (by rw [o.N]; exact h1) (by rw [o.sc]; exact h2) sw (okI _ g4 (fun z => z) o) hb (fun s H C cl fp => okG _ g5 (o.blk _ s H C cl fp)) (fun s H C cl fp => okC _ g6 (o.blk _ s H C cl fp))
        (fun s H C cl fp => okE _ g7 (o.blk _ s H C cl fp)) (noSet_ok g3 _))
    · obtain ⟨g0, h⟩ := and2 h
      obtain ⟨g0, g8⟩ := and2 g0
      obtain ⟨g1, g3⟩ := and2 g0
      obtain ⟨g8, g9⟩ := and2 g8
      obtain ⟨g2, g4⟩ := and2 h
      obtain ⟨g4, g5⟩ := and2 g4
      obtain ⟨g5, g6⟩ := and2 g5
      obtain ⟨g6, g7⟩ := and2 g6
      obtain ⟨g7, g10⟩ := and2 g7
      obtain ⟨g10, g11⟩ := and2 g10
      obtain ⟨g11, g12⟩ := and2 g11
      have hw : ∀ v ∈ slots _, v ∈ _ := fun v hv => of_decide_eq_true (List.all_eq_true.mp g2 v hv)
      have hw1 : ∀ v ∈ slots _, v ∈ _ := fun v hv => of_decide_eq_true (List.all_eq_true.mp g9 v hv)
      have hb : BlkOk X.N X.env.scope _ _ := blkOk_by (by rw [o.N, o.sc]; exact g1)
      exact fin (lc2_rd hw) (ps_setLc2 o.calm o.nd (by rw [o.N]; exact h1) (by rw [o.sc]; exact h2) sw (okI _ g4 (fun z => z) o) hb hw1 (fun s H C cl fp => okG _ g5 (o.blk _ s H C cl fp)) (fun s H C cl fp => okC _ g6 (o.blk _ s H C cl fp))
        (fun s H C cl fp => okI _ g7 (fun z => z) (o.blk _ s H C cl fp)) (fun s H C cl fp => okG _ g10 (o.blk _ s H C cl fp)) (fun s H C cl fp => okC _ g11 (o.blk _ s H C cl fp))
        (fun s H C cl fp => okE _ g12 (o.blk _ s H C cl fp)) (noSet_ok g3 _) (noSet_ok g8))
    · obtain ⟨g1, h⟩ := and2 h
      obtain ⟨g1, g3⟩ := and2 g1
      obtain ⟨g2, g4⟩ := and2 h
      obtain ⟨g4, g5⟩ := and2 g4
      obtain ⟨g5, g6⟩ := and2 g5
      obtain ⟨g6, g7⟩ := and2 g6
      obtain ⟨g7, g8⟩ := and2 g7
      have hw : ∀ v ∈ slots _, v ∈ _ := fun v hv => of_decide_eq_true (List.all_eq_true.mp g2 v hv)
      have hb : BlkOk X.N X.env.scope _ _ := blkOk_by (by rw [o.N, o.sc]; exact g1)
      exact fin (dc_rd hw) (ps_setDc o.calm o.nd (by rw [o.N]; exact h1) (by rw [o.sc]; exact h2) sw (okI _ g4 (fun z => z) o) hb (fun s H C cl fp => okG _ g5 (o.blk _ s H C cl fp)) (fun s H C cl fp => okC _ g6 (o.blk _ s H C cl fp))
        (fun s H C cl fp => okE _ g7 (o.blk _ s H C cl fp)) (fun s H C cl fp => okE _ g8 (o.blk _ s H C cl fp)) (noSet_ok g3 _))
    · cases h
  · cases h
/-- what the extra forms promise -/
structure XtOk (G : Gn) (T : TX) (E : Ev) (xt : Sg → Xtra) : Prop where
  rai : ∀ {sg : Sg} {X : Cx} {W : WX} {c : Nat} {e : Exo} {st : Stmt}, xt sg (.rai c e) st = true → sg.fun_ = true → On G sg X T E W → PS X st (tS T W (evS E (.rai c e)))
  tr : ∀ {sg : Sg} {X : Cx} {W : WX} {b : Sxs} {hs : List (Nat × Hx)} {xs : List Stmt} {hx : List ExceptHandler} {pos : Pos}, (∀ {X' : Cx} {W' : WX}, On G sg X' T E W' → PSs X' xs (tS T W' (evSs E b))) →
    xt sg (.tr .nil hs) (.Try [] hx [] [] pos) = true → sg.fun_ = true → On G sg X T E W → PS X (.Try xs hx [] [] pos) (tS T W (evS E (.tr b hs)))
mutual
theorem okS (ok : XtOk G T E xt) (s : Sx) : ∀ {sg : Sg} {X : Cx} {W : WX} {st : Stmt}, isFn sg.sc = true → sg.fun_ = true → chkS G xt sg s st = true → On G sg X T E W → PS X st (tS T W (evS E s)) := by
  intro sg X W st hf hu h o
  have hk := isFn_ok hf
  cases s with
  | ex e =>
    unfold chkS at h
    split at h
    · obtain ⟨h1, h2⟩ := and2 h
      exact s_ex (okE e h2 o) (by simpa using h1)
    · cases h
  | set t e =>
    unfold chkS at h
    split at h
    · rename_i tx y pos
      cases q : swapsOf sg.sc y tx with
      | true =>
        rw [q] at h
        exact set_lc o hf q h
      | false =>
        rw [q] at h
        obtain ⟨h1, h2⟩ := and2 h
        obtain ⟨h1, h3⟩ := and2 h1
        obtain ⟨h2, h4⟩ := and2 h2
        exact s_set (okE e h2 o) (okG t h4 o) (swaps_sole hk o.sc q) (swap_ok (by rw [o.sc]; exact hk) (by rw [o.sc]; exact of_decide_eq_true h1)) h3
    · cases h
  | par is es =>
    unfold chkS at h
    split at h
    · obtain ⟨h1, h2⟩ := and2 h
      obtain ⟨h2, h3⟩ := and2 h2
      unfold names2 at h1
      split at h1
      · simp only [Bool.and_eq_true, decide_eq_true_eq] at h1
        obtain ⟨⟨g1, g2⟩, g3, g4, g5⟩ := h1
        exact s_par2 o hk g1 g2 g3 g4 g5 (of_decide_eq_true h2) (okEs es h3 o)
      · cases h1
    · obtain ⟨h1, h2⟩ := and2 h
      obtain ⟨h2, h3⟩ := and2 h2
      unfold names3 at h1
      split at h1
      · simp only [Bool.and_eq_true, decide_eq_true_eq] at h1
        obtain ⟨⟨⟨g1, g2⟩, g3, g4, g5, g6⟩, g7, g8, g9⟩ := h1
        exact s_par3 o hk g1 g2 g3 g4 g5 g6 g7 g8 g9 (of_decide_eq_true h2) (okEs es h3 o)
      · cases h1
    · cases h
  | aug i p e =>
    unfold chkS at h
    split at h
    · obtain ⟨h1, h2⟩ := and2 h
      obtain ⟨h1, h3⟩ := and2 h1
      obtain ⟨h2, h4⟩ := and2 h2
      obtain rfl := of_decide_eq_true h1
      exact s_aug o p (of_decide_eq_true h3) h2 (okE e h4 o)
    · cases h
  | augS ob i op e =>
    unfold chkS at h
    split at h
    · obtain ⟨h1, h2⟩ := and2 h
      obtain ⟨h1, h3⟩ := and2 h1
      obtain ⟨h2, h4⟩ := and2 h2
      obtain ⟨h4, h5⟩ := and2 h4
      obtain rfl := of_decide_eq_true h1
      exact s_augS o op h3 (okE ob h2 o) (okE i h4 o) (okE e h5 o)
    · cases h
  | ret e =>
    unfold chkS at h
    split at h
    · cases e with
      | no =>
        unfold chkO at h
        split at h
        · exact s_retN
        · cases h
      | so e =>
        unfold chkO at h
        split at h
        · exact s_ret (okE e h o)
        · cases h
    · cases h
  | ife c a b =>
    unfold chkS at h
    split at h
    · obtain ⟨h1, h2⟩ := and2 h
      obtain ⟨h2, h3⟩ := and2 h2
      exact s_if (okE c h1 o).1 (okSs ok a hf hu h2 o) (okSs ok b hf hu h3 o)
    · cases h
  | whl c b =>
    unfold chkS at h
    split at h
    · obtain ⟨h1, h2⟩ := and2 h
      exact s_whl (o.hp hu) (okE c h1 o).1 (okSs ok b hf hu h2 o)
    · cases h
  | for_ tg it b =>
    unfold chkS at h
    split at h
    · obtain ⟨h1, h2⟩ := and2 h
      obtain ⟨h2, h3⟩ := and2 h2
      obtain ⟨h3, h4⟩ := and2 h3
      exact s_for (o.hp hu) o.calm (okI it h2 (fun z => z) o) (okG tg h3 o) (okSs ok b hf hu h4 o) h1
    · cases h
  | brk =>
    unfold chkS at h
    split at h
    · exact s_brk
    · cases h
  | cnt =>
    unfold chkS at h
    split at h
    · exact s_cnt
    · cases h
  | pass =>
    unfold chkS at h
    split at h
    · exact s_pass
    · cases h
  | dead =>
    refine ⟨fun pins s σ H D I q => ?_⟩
    obtain ⟨_, _, _, _, _, k⟩ := q
    exact False.elim k
  | rai c e => exact ok.rai h hu o
  | tr b hs =>
    unfold chkS at h
    split at h
    · obtain ⟨h1, h2⟩ := and2 h
      exact ok.tr (fun {X' W'} o' => okSs ok b hf hu h1 o') h2 hu o
    · cases h
theorem okSs (ok : XtOk G T E xt) (s : Sxs) : ∀ {sg : Sg} {X : Cx} {W : WX} {st : List Stmt}, isFn sg.sc = true → sg.fun_ = true → chkSs G xt sg s st = true → On G sg X T E W → PSs X st (tS T W (evSs E s)) := by
  intro sg X W st hf hu h o
  cases s with
  | nil =>
    unfold chkSs at h
    split at h
    · exact ss_nil
    · cases h
  | cons a r =>
    unfold chkSs at h
    split at h
    · obtain ⟨h1, h2⟩ := and2 h
      exact ss_cons (okS ok a hf hu h1 o) (okSs ok r hf hu h2 o)
    · cases h
end
end
end EV
/-! The E layer: raise. -/
namespace EV
open PySem PySem.Spec L2
open PyProof.Rows hiding St
section
variable {G : Gn} {sg : Sg} {X : Cx} {T : TX} {E : Ev} {W : WX} {pos p p2 pos2 : Pos} {a : Expr} {ma : EV.Env → Store → Res AV}
/-- C(e), what is kept lies at a new place -/
def tMk1 (C : Addr) (f : Str) (ta : TE) : St → Hp → XK → Prop := fun σ H Q => ta σ H fun v H1 => ∀ dx, H1 dx = none → Q (.ref C) (some dx) (upd H1 dx (.xd [(f, v)]))
theorem pmk_make {x f : Str} {C : Addr} {ta : TE} (c : ExC X.prog X.K X.mg x C (some f)) (hg : Gl X x) (hd : X.A.depth + 5 < recursionLimit) (ha : PE X a ta) (hn : noStar a = true) : PMk X (.Call (.Name x p) [a] [] pos) (tMk1 C f ta) := by
  intro pins s σ H Q I h
  cases c.r with
  | kept KF Y FI SF mc mf hms =>
  refine wpAny_Call_Name_kw (ld_glob I hg c.at_ ?_ c.nd)
  have hA : PA X [a] (tCons ta tNil) := pa_cons ha pa_nil (star_of hn [] _)
  refine PySem.W.callWith_K (h₀ := X.base) I.ok.mod.kin c.kp (thn (hA.run pos pins s σ H (fun vs H1 => match vs with | [v] => ∀ dx, H1 dx = none → Q (.ref C) (some dx) (upd H1 dx (.xd [(f, v)])) | _ => False) I h) fun us s1 hh => ?_) (star_of hn [] _) rfl
  obtain ⟨vs, H1, I1, r1, q1⟩ := hh
  refine ⟨I1.kIn, ?_⟩
  cases r1 with
  | nil => exact False.elim q1
  | @cons v u vs' us' rv rn =>
    cases rn with
    | cons => exact False.elim q1
    | nil =>
      have q1 : ∀ dx, H1 dx = none → Q (.ref C) (some dx) (upd H1 dx (.xd [(f, v)])) := q1
      obtain ⟨mb, hb, hbv⟩ := I.ok.mod.blt
      obtain ⟨hp, g, d, tk, os⟩ := s1
      show wpAny _ _ (call (.ref C) [u]) _ _ _
      refine wpAny_call (exc_make KF Y FI SF mc mf I1.kIn (I.ok.mod.glob.keeps I1.bk) (hb.keeps I1.bk) hbv I1.nolimit hms (by rw [make_depth]; omega) fun e dx t1 h' tk' kk he hdx hne hx hn1 => ?_)
      have hdn : H1 dx = none := I1.hok.fresh hdx
      have hen : H1 e = none := I1.hok.fresh he
      obtain ⟨Gh, g1, g2⟩ := restrict h' fun b => decide (b ≠ e)
      have gk : ∀ b, b ≠ e → Gh.get? b = h'.get? b := fun b hb => g1 b (decide_eq_true hb)
      have ge : Gh.get? e = none := g2 e (by simp)
      have J : Inv X pins σ (upd H1 dx (.xd [(f, v)])) ⟨Gh, g, d, tk', os⟩ := by
        refine I1.laid (t' := tk') (h' := Gh) (a := dx) (o := .xd [(f, v)]) (fun b o q => ?_) hdx ?_
        · have : b ≠ e := Nat.ne_of_lt (Nat.lt_of_lt_of_le (Heap.lt_size q) he)
          rw [gk b this]
          exact kk b o q
        · refine ⟨_, hn1.at fun o y => (gk dx hne).trans y, fun z => ?_⟩
          have el : List.lookup z [(f, v)] = if z = f then some v else none := by
            by_cases hz : z = f
            · simp [hz, List.lookup]
            · simp [hz, List.lookup, show (z == f) = false by simpa using hz]
          rw [el]
          by_cases hz : z = f
          · rw [if_pos hz, if_pos hz]
            exact rv
          · rw [if_neg hz, if_neg hz]
            exact True.intro
      refine ⟨e, _, _, ⟨Gh, g, d, tk', os⟩, _, .ref C, some dx, rfl, J, fun b o q => ?_, ge, hx, ⟨rfl, rfl⟩, rfl, rfl, ?_, rfl, I1.bare, raises_own c.ex c.ty, q1 dx hdn⟩
      · by_cases hb : b = e
        · rw [hb, ge] at q; cases q
        · exact (gk b hb).symm.trans q
      · rw [upd_ne (Ne.symm hne)]
        exact hen
/-- raise C('..') -/
theorem s_rai0 (o : On G sg X T E W) (hf : sg.fun_ = true) {c : Nat} {x : Str} (hx : G.exs[c]? = some (x, none)) (hg : sg.gl x = true) {m : Str} {j : Nat} : PS X (.Raise (some (.Call (.Name x p) [.Constant (.str m) j p2] [] pos)) none pos2) (tS T W fun env S => .err ⟨c, none⟩ env S) := by
  obtain ⟨C, hc, _, e⟩ := o.exc c x none hx
  cases e.r with
  | plain F q =>
    refine ps_imp (ps_raise o.calm (o.tk hf) (pmk_own F q e.at_ e.kp (raises_own e.ex e.ty) (o.gl hg) e.nd)) ?_
    rintro D σ H ⟨ρ, S, env, hs, he, k⟩
    exact k ρ H σ (.ref C) none Step.refl hs he ⟨⟨C, hc, rfl⟩, rfl⟩
/-- raise C(e) -/
theorem s_rai1 (o : On G sg X T E W) (hf : sg.fun_ = true) {c : Nat} {x f : Str} (hx : G.exs[c]? = some (x, some f)) (hg : sg.gl x = true) (ha : PE X a (tE T W ma)) (hn : noStar a = true) :
    PS X (.Raise (some (.Call (.Name x p) [a] [] pos)) none pos2) (tS T W fun env S => ((ma env S).bind EV.keep).andS env fun p S => .err ⟨c, some p⟩ env S) := by
  obtain ⟨C, hc, hfl, e⟩ := o.exc c x (some f) hx
  refine ps_imp (ps_raise o.calm (o.tk hf) (pmk_make e (o.gl hg) o.dp ha hn)) ?_
  rintro D σ H ⟨ρ, S, env, hs, he, k⟩
  refine tM.keep (tM.of hs he ((FinS.andS (R1 := RP T) he k).imp ?_))
  rintro v H1 ⟨p, ρ1, S1, st, hs1, rx, he1, k1⟩ dx hdx
  have n : dx ∉ ρ1 := hs1.ne hdx
  have st2 : Step ρ1 H1 ρ1 (upd H1 dx (.xd [(f, v)])) := step_new hdx
  exact k1 ρ1 _ σ (.ref C) (some dx) st2 (hs1.new hdx) ((he.step st).step st2) ⟨⟨C, hc, rfl⟩, dx, v, f, rfl, n, upd_same, hfl, Rep.step st2 _ _ rx⟩
end
end EV
/-! The E layer, part Z: try with clauses, each of them with or without a name, whose suites hand back a value. -/
namespace EV
open PySem PySem.Spec L2
open PyProof.Rows hiding St
/-- a clause: the class that is named, the slot of its name, its suite's reading -/
structure Cl where
  c : Value
  i : Option Nat
  ts : Addr → Value → Option Addr → TS
/-- a suite only hands back -/
def rtOnly (D : Ends) : Ends := { nx := fun _ _ => False, rt := D.rt, bk := fun _ _ => False, ct := fun _ _ => False }
def inSlot (σ : St) (a : Addr) : Option Nat → St
  | some i => σ.set i (some (.ref a))
  | none => σ
/-- what a list of clauses asks of an exception -/
def wCl (K : PySem.W.Frag) (Wo : WX) (D : Ends) : List Cl → WX
  | [] => Wo
  | k :: r => fun cls d σ H => ∃ b, PySem.W.exmOne K cls k.c = some b ∧ (if b = true then (∀ a, H a = none → k.ts a cls d (rtOnly D) (inSlot σ a k.i) H) else wCl K Wo D r cls d σ H)
def ClName (X : Cx) : Option Nat → Option Str → Prop
  | none, none => True
  | some i, some n => X.N[i]? = some n ∧ X.env.kindOf n = some .local
  | _, _ => False
inductive ClsOk (X : Cx) : List ExceptHandler → List Cl → Prop
  | nil : ClsOk X [] []
  | cons {x : Str} {n : Option Str} {k : Cl} {st : Stmt} {sts : List Stmt} {np hp : Pos} {hs : List ExceptHandler} {ks : List Cl} (hc : Names X x k.c) (hn : ClName X k.i n)
      (su : ∀ (a : Addr) (o : Obj) (cls : Value) (d : Option Addr) (pn : List (Addr × Obj)), Zc cls d o → (∃ vs, o.data = .fields vs) → PSs (X.suite a ((a, o) :: pn)) (st :: sts) (k.ts a cls d)) (r : ClsOk X hs ks) :
      ClsOk X (.ExceptHandler (some (.Name x np)) n (st :: sts) hp :: hs) (k :: ks)
section
variable {X : Cx} {body : List Stmt} {h : ExceptHandler} {hs : List ExceptHandler} {ks : List Cl} {pos : Pos} {tb : WX → TS} {Wo : WX}
/-- where a caught exception lies it is no frame -/
theorem not_frame {B : Heap} {l : List PySem.Env} {h : Heap} {a : Addr} {o : Obj} {vs : Array Value} (ff : h.FunFrames B l) (e : h.get? a = some o) (d : o.data = .fields vs) : a ∉ frs l := fun m => by
  obtain ⟨_, o', e2, no⟩ := ff.mem m
  obtain rfl : o = o' := Option.some.inj (e.symm.trans e2)
  exact no _ d
theorem ps_try_cl (hst : X.stack = X.env :: X.outer) (hfr : X.env.frame = some X.env.locals) (hN : X.N.Nodup) (tk : Takes X Wo)
    (hb : ∀ (W : WX) (pn : List (Addr × Obj)) (xe : Value → Shared → Prop), Takes (X.tr pn xe) W → PassesOwn (model X.prog X.w) X.A X.env xe → PSs (X.tr pn xe) body (tb W))
    (hh : ClsOk X (h :: hs) ks) : PS X (.Try body (h :: hs) [] [] pos) (fun D σ H => tb (wCl X.K Wo D ks) D σ H) := by
  constructor
  intro pins s σ H D I q0
  have okX := I.ok
  have hA : X.A.frames = some (X.env :: X.outer) := okX.frames.trans (by rw [hst])
  apply wpAny_Try_except
  let after : Value → Shared → Prop := fun e s₁ => wpAny (model X.prog X.w) X.A (noteFrame e X.env) (fun _ s₂ => wpAny (model X.prog X.w) X.A (setFlight e none) (fun _ s₃ => wpAny (model X.prog X.w) X.A (handleBy e X.env (h :: hs)) (SP X pins D) X.xe s₃) X.xe s₂) X.xe s₁
  have caught : Takes (X.tr (X.pn ++ pins) after) (wCl X.K Wo D ks) := by
    rintro u s' ⟨a, B, sI, pins', σ', H', cls, d, rfl, J', nb, up, sky, na, os, ag, wish⟩
    have J : Inv X pins σ' H' sI := J'.ofTry okX
    show wpAny (model X.prog X.w) X.A (noteFrame (.ref a) X.env) _ _ _
    have sky2 : Sky B (X.env :: X.outer) a (Zc cls d) X.env.locals s'.heap := hst ▸ sky
    apply Sky.land Zc.steady hA hfr sky2
    intro g1 land1 up1
    have J1 : Inv X pins σ' H' { s' with heap := g1 } := J.landed nb land1.1 (up.trans up1) os ag
    obtain ⟨o1, vs1, at1, z1, dt1⟩ := land1.there
    have nf := not_frame land1.2.2.1 at1 dt1
    have nL : a ≠ X.env.locals := fun z => nf (List.mem_filterMap.mpr ⟨X.env, .head _, hfr.trans (by rw [z])⟩)
    have nF : a ∉ X.fs := fun m => by
      obtain ⟨e, he, q⟩ := List.mem_filterMap.mp m
      exact nf (List.mem_filterMap.mpr ⟨e, .tail _ he, q⟩)
    have S1 := J1.suite at1 dt1 na nL nF
    suffices main : ∀ {hs' : List ExceptHandler} {ks' : List Cl}, ClsOk X hs' ks' → wCl X.K Wo D ks' cls d σ' H' → wpAny (model X.prog X.w) X.A (handleBy (.ref a) X.env hs') (SP X pins D) X.xe { s' with heap := g1 } from main hh wish
    intro hs' ks' ok
    induction ok with
    | nil =>
      intro w
      apply wpAny_handleBy_nil
      obtain ⟨_, _, _, o2, vs2, Tb, _, _, at2, z2, dt2, fld, _⟩ := id land1
      have fin : wpAny (model X.prog X.w) X.A (setFlight (.ref a) X.env.frame) (fun _ s4 => wpAny (model X.prog X.w) X.A (throw (.ref a) : Sem Flow) (SP X pins D) X.xe s4) X.xe { s' with heap := g1 } := by
        rw [hfr]
        exact HandSPX.setFlight_upZ land1 fun g2 hg2 up2 => wpAny_throw (tk _ _ ⟨a, B, sI, pins, σ', H', cls, d, rfl, J, nb, (up.trans up1).trans up2, .inr (.inr (hst.symm ▸ hg2)), na, os, ag, w⟩)
      unfold PySem.passOn
      apply wpAny_bind
      apply wpAny_field at2 dt2 fld
      rw [if_neg (by simp : ¬ ((Value.ref Tb == Value.none) = true))]
      first
        | exact wpAny_bind (wpAny_pure (wpAny_bind fin))
        | exact wpAny_bind fin
    | @cons x n k st sts np hp hs2 ks2 hc hn su r ih =>
      rintro ⟨b, eb, w⟩
      have LT : PySem.W.Looks (model X.prog X.w) g1 (typeOf (.ref a)) cls := fun _ _ _ _ keep q => wpAny_typeOf_ref (keep _ _ at1) (z1.1.symm ▸ q)
      have LM := PySem.W.exm_one (M := model X.prog X.w) J1.kIn LT eb
      have test : ∀ {Q : Value → Shared → Prop} {E : Value → Shared → Prop}, Q k.c { s' with heap := g1 } → wpAny (model X.prog X.w) (X.A.mark (some (.ref a))) (eval (.Name x np) X.env) Q E { s' with heap := g1 } := by
        intro Q E q
        rcases hc with ⟨hg, hd, hm | ⟨hm, hv, hx⟩⟩
        · exact ld_glob (X := X.suite a ((a, o1) :: (X.pn ++ pins))) S1 hg hm q hd
        · exact ld_blt (X := X.suite a ((a, o1) :: (X.pn ++ pins))) S1 hg hm hv q hx hd
      refine wpAny_handleBy_cons (codeAny_handlers_test (test (LM.here ?_))) (fun q => nomatch q)
      cases b with
      | false => exact ih w
      | true =>
        have w : ∀ a, H' a = none → k.ts a cls d (rtOnly D) (inSlot σ' a k.i) H' := w
        cases n with
        | none =>
          have ei : k.i = none := by
            cases e : k.i with
            | none => rfl
            | some i => rw [e] at hn; exact hn.elim
          apply codeAny_handlers_suite
          apply HandSPX.lands_againZ land1
          intro g2 land2 up2
          have J2 : Inv X pins σ' H' { s' with heap := g2 } := J.landed nb land2.1 ((up.trans up1).trans up2) os ag
          obtain ⟨o2, vs2, at2, z2, dt2⟩ := land2.there
          have w2 := w a na
          rw [ei] at w2
          refine wpAny_mono ((su a o2 cls d (X.pn ++ pins) z2 ⟨_, dt2⟩).run [] _ _ H' _ (J2.suite at2 dt2 na nL nF) w2) (fun f s6 sp => ?_) fun _ _ z => z.elim
          cases f with
          | ret u => exact let ⟨_, _, _, S6, r6, q6⟩ := sp; ⟨_, _, _, S6.unsuite okX, r6, q6⟩
          | next => exact let ⟨_, _, _, q6⟩ := sp; q6.elim
          | brk => exact let ⟨_, _, _, q6⟩ := sp; q6.elim
          | cont => exact let ⟨_, _, _, q6⟩ := sp; q6.elim
        | some n =>
          obtain ⟨i, ei, hi, hl⟩ : ∃ i, k.i = some i ∧ X.N[i]? = some n ∧ X.env.kindOf n = some .local := by
            cases e : k.i with
            | none => rw [e] at hn; exact hn.elim
            | some i => rw [e] at hn; exact ⟨i, rfl, hn⟩
          apply codeAny_handlers_suite_as
          apply HandSPX.lands_againZ land1
          intro g2 land2 up2
          have J2 : Inv X pins σ' H' { s' with heap := g2 } := J.landed nb land2.1 ((up.trans up1).trans up2) os ag
          obtain ⟨o2, vs2, at2, z2, dt2⟩ := land2.there
          have w2 := w a na
          rw [ei] at w2
          refine store_ok (X := X.suite a ((a, o2) :: (X.pn ++ pins))) (v := .ref a) (J2.suite at2 dt2 na nL nF) hN hi (.inl hl) rfl (fun s5 S5 => ?_) (.inr hl)
          refine wpAny_mono ((su a o2 cls d (X.pn ++ pins) z2 ⟨_, dt2⟩).run [] s5 _ H' _ S5 w2) (fun f s6 sp => ?_) fun _ _ z => z.elim
          cases f with
          | ret u => exact let ⟨_, _, _, S6, r6, q6⟩ := sp; gone_ok (S6.unsuite okX) hN hi hl fun s7 J7 => ⟨_, _, _, J7, r6, q6⟩
          | next => exact let ⟨_, _, _, q6⟩ := sp; q6.elim
          | brk => exact let ⟨_, _, _, q6⟩ := sp; q6.elim
          | cont => exact let ⟨_, _, _, q6⟩ := sp; q6.elim
  refine wpAny_mono ((hb (wCl X.K Wo D ks) (X.pn ++ pins) after caught PassesOwn.looking).run [] s σ H D (I.toTry _) q0) (fun f s1 sp => ?_) fun _ _ z => z
  cases f with
  | next => exact let ⟨_, _, S, q⟩ := sp; wpAny_execs_nil ⟨_, _, S.ofTry okX, q⟩
  | brk => exact let ⟨_, _, S, q⟩ := sp; ⟨_, _, S.ofTry okX, q⟩
  | cont => exact let ⟨_, _, S, q⟩ := sp; ⟨_, _, S.ofTry okX, q⟩
  | ret u => exact let ⟨_, _, _, S, r, q⟩ := sp; ⟨_, _, _, S.ofTry okX, r, q⟩
end
end EV
/-! The E layer: what an except suite hands back. -/
namespace EV
open PySem PySem.Spec L2
open PyProof.Rows hiding St
/-- what a class must say, so that isinstance asks its instances -/
structure IsxC (K : PySem.W.Frag) (C : Addr) : Prop where
  cl : (PySem.W.clsIn K C).isSome = true
  ga : PySem.W.findIn K (.ref C) "__getattribute__" = some (some (.builtin "BaseException.__getattribute__"))
  gg : PySem.W.findIn K (.ref C) "__getattr__" = some none
  ex : PySem.W.subIn K (.ref C) (.type "BaseException") = some true
  ca : PySem.W.findIn K (.ref C) "__class__" = some (some (.builtin "object.__class__"))
  sp : PySem.W.specialIn K (.builtin "object.__class__") "__get__" = some (some (.builtin "getset_descriptor.__get__"))
  tk : PySem.W.takesIn K (.builtin "object.__class__") = some true
  ob : PySem.W.mroIn K C (.type "object") = some true
/-- what the text says of its classes -/
structure TryOk (P : Prog) (T : TX) : Prop where
  exm : ∀ (c c' : Nat) (C C' : Addr) (b : Bool), T.ca c = some C → T.ca c' = some C' → (P.exm[c]?).bind (·[c']?) = some b → PySem.W.exmOne T.K (.ref C) (.ref C') = some b
  fld : ∀ (c : Nat) (C : Addr) (f : Str), T.ca c = some C → P.fld[c]? = some (some f) → T.fl c = some f ∧ XfC T.K C ∧ PySem.W.findIn T.K (.ref C) f = some none
  isx : ∀ (c : Nat) (C : Addr) (B : String) (b : Bool), T.ca c = some C → ((P.isx[c]?).bind fun l => l.lookup B) = some b → IsxC T.K C ∧ PySem.W.kitOne T.K (.ref C) (.type B) = some b
/-- a suite's reading: what the evaluator says -/
def tsX (P : Prog) (gd : Bool) (T : TX) (h : Hx) (i : Option Nat) : Addr → Value → Option Addr → TS := fun a cls d D σ H => ∃ ρ S e p, SRep T ρ H S ∧ ERep T ρ H e cls d ∧ suite P gd e S h = some p ∧ (∀ j, i = some j → j < σ.length → σ[j]? = some (some (.ref a))) ∧
  ∀ ρ' H' v, Step ρ H ρ' H' → SRep T ρ' H' S → Rep T ρ' H' p v → D.rt v H'
section
variable {G : Gn} {sg : Sg} {X : Cx} {P : Prog} {T : TX} {gd : Bool} {a C : Addr} {o : Obj} {cls : Value} {d : Option Addr} {pn : List (Addr × Obj)}
theorem call_isx {dd : Addr} {B : String} {b : Bool} (c : IsxC X.K C) (hz : Zc (.ref C) (some dd) o) (hf : ∃ vs, o.data = .fields vs) (e : PySem.W.kitOne X.K (.ref C) (.type B) = some b) :
    CallR (X.suite a ((a, o) :: pn)) (.builtin "isinstance") (fun xs H Q => xs = [.ref a, .ty B] ∧ (∃ fs, H dd = some (.xd fs)) ∧ Q (.bl b) H) := by
  intro pins s σ H xs us Q I r h
  obtain ⟨rfl, ⟨fs, hd⟩, q⟩ := h
  cases r with
  | cons rx rr =>
    cases rr with
    | cons rt rn =>
      cases rn
      cases rx
      cases rt
      obtain ⟨ha, _⟩ := I.pin (a, o) (List.mem_append_left _ (.head _))
      obtain ⟨vs, hv⟩ := hf
      have hx : ObjOk X.prog X.w H s.heap dd (.xd fs) := I.hok dd _ hd
      obtain ⟨mA, ⟨oD, es, ep, hoD, _⟩, _⟩ := hx
      have J : PySem.W.InstAt s.heap a o C (some oD) := ⟨ha, hz.1, by unfold PySem.W.notCls; rw [hv], by rw [hz.2]; exact hoD⟩
      exact PySem.W.kia_one (PySem.W.kitx_exc c.cl c.ga c.gg c.ex c.ca c.sp c.tk c.ob) I.kIn J e (fun z => nomatch z) fun tk => ⟨.bl b, H, I.kept (t' := tk) fun _ _ z => z, rfl, q⟩
theorem call_isy {B : String} {b : Bool} (c : IsxC X.K C) (hz : Zc (.ref C) d o) (hf : ∃ vs, o.data = .fields vs) (e : PySem.W.kitOne X.K (.ref C) (.type B) = some b) :
    CallR (X.suite a ((a, o) :: pn)) (.builtin "isinstance") (fun xs H Q => xs = [.ref a, .ty B] ∧ (∀ dd, d = some dd → ∃ fs, H dd = some (.xd fs)) ∧ Q (.bl b) H) := by
  cases d with
  | some dd =>
    intro pins s σ H xs us Q I r h
    exact call_isx c hz hf e pins s σ H xs us Q I r ⟨h.1, h.2.1 dd rfl, h.2.2⟩
  | none =>
    intro pins s σ H xs us Q I r h
    obtain ⟨rfl, _, q⟩ := h
    cases r with
    | cons rx rr =>
      cases rr with
      | cons rt rn =>
        cases rn
        cases rx
        cases rt
        obtain ⟨ha, _⟩ := I.pin (a, o) (List.mem_append_left _ (.head _))
        obtain ⟨vs, hv⟩ := hf
        have J : PySem.W.InstAt s.heap a o C none := ⟨ha, hz.1, by unfold PySem.W.notCls; rw [hv], by rw [hz.2]; exact True.intro⟩
        exact PySem.W.kia_one (PySem.W.kitx_exc c.cl c.ga c.gg c.ex c.ca c.sp c.tk c.ob) I.kIn J e (fun z => nomatch z) fun tk => ⟨.bl b, H, I.kept (t' := tk) fun _ _ z => z, rfl, q⟩
theorem kept_ok {ρ : List Addr} {H : Hp} {e : Exn} {attr : Str} {p : PV} (t : TryOk P T) (er : ERep T ρ H e cls d) (h : kept P e attr = some p) :
    ∃ C dd v, cls = .ref C ∧ T.ca e.c = some C ∧ d = some dd ∧ H dd = some (.xd [(attr, v)]) ∧ Rep T ρ H p v ∧ XfC T.K C ∧ PySem.W.findIn T.K (.ref C) attr = some none := by
  obtain ⟨⟨C, hc, rfl⟩, er⟩ := er
  unfold kept at h
  split at h
  · rename_i f q hf hk
    split at h
    · rename_i ef
      subst ef
      cases h
      rw [hk] at er
      obtain ⟨dd, v, f', rfl, _, hH, hfl, rp⟩ := er
      obtain ⟨h1, h2, h3⟩ := t.fld e.c C f hc hf
      rw [hfl] at h1
      cases h1
      exact ⟨C, dd, v, rfl, hc, rfl, hH, rp, h2, h3⟩
    · cases h
  · cases h
theorem su_cst {p : PV} {v : V} {e : Expr} {pos : Pos} {i : Option Nat} (he : PE (X.suite a ((a, o) :: pn)) e (tC v)) (hv : ∀ ρ H, Rep T ρ H p v) : PSs (X.suite a ((a, o) :: pn)) [.Return (some e) pos] (tsX P gd T (.cst p) i a cls d) := by
  refine ⟨fun pins s σ H D I h => ?_⟩
  obtain ⟨ρ, S, e, p', hs, er, es, hi, k⟩ := h
  simp only [suite] at es
  split at es
  · cases es
    exact (pss_one (ps_ret he)).run pins s σ H D I (k ρ H v Step.refl hs (hv ρ H))
  · cases es
theorem su_isf (hK : X.K = T.K) (t : TryOk P T) {B : String} {x y : Int} {attr n : Str} {i : Nat} {j1 j2 kk : Nat} {p1 p2 p3 p4 p5 p6 p7 p8 p9 pos pos2 : Pos} (hN : X.N[i]? = some n) (hn : Vis X.env.scope n) (hd1 : (n == ("__debug__" : Str)) = false) (hd2 : (n == ("__classdict__" : Str)) = false)
    (hg : Gl X "isinstance") (hm : X.mg "isinstance" = none) (hgB : Gl X (Str.ofString B)) (hmB : X.mg (Str.ofString B) = none) (hB : bootBuiltins (Str.ofString B) = some (.type B)) (hB1 : Str.ofString B ≠ "__name__") (hB2 : (Str.ofString B == ("__debug__" : Str)) = false)
    (hz : Zc cls d o) (hf : ∃ vs, o.data = .fields vs) :
    PSs (X.suite a ((a, o) :: pn)) [.Return (some (.Tuple [.IfExp (.Call (.Name "isinstance" p1) [.Name n p2, .Name (Str.ofString B) p3] [] p4) (.Constant (.int x) j1 p5) (.Constant (.int y) j2 p6) p7, .Attribute (.Name n p8) attr p9] kk pos2)) pos] (tsX P gd T (.isf B x y attr) (some i) a cls d) := by
  refine ⟨fun pins s σ H D I h => ?_⟩
  obtain ⟨ρ, S, e, p', hs, er, es, hi, k⟩ := h
  simp only [suite, Option.bind_eq_some_iff, Option.map_eq_some_iff] at es
  obtain ⟨p, ek, b, eb, rfl⟩ := es
  obtain ⟨C, dd, v, rfl, hc, rfl, hH, rp, xf, hno⟩ := kept_ok t er ek
  obtain ⟨ix, kt⟩ := t.isx e.c C B b hc (by simpa [Option.bind_eq_some_iff] using eb)
  rw [← hK] at xf hno ix kt
  have hlt : i < σ.length := by
    rw [I.len]
    exact (List.getElem?_eq_some_iff.mp hN).1
  have pn1 : PE (X.suite a ((a, o) :: pn)) (.Name n p2) (tVar i) := pe_var hN hn hd1 hd2
  have pn2 : PE (X.suite a ((a, o) :: pn)) (.Name n p8) (tVar i) := pe_var hN hn hd1 hd2
  have pB : PE (X.suite a ((a, o) :: pn)) (.Name (Str.ofString B) p3) (tC (.ty B)) := pe_bltn hgB hmB hB rfl hB1 hB2
  have pis := pe_callB (p := p1) (pos := p4) (call_isx (pn := pn) (a := a) ix hz hf kt) hg hm (by kernel_rfl) (pa_cons pn1 (pa_cons pB pa_nil)) (by decide) (by decide)
  have all := pss_one (ps_ret (pos := pos) (pe_tup (x1 := kk) (pos := pos2) (pa_cons (pe_ifExp (pos := p7) (pt_val pis) (pe_int (i := x) (j := j1) (pos := p5)) (pe_int (i := y) (j := j2) (pos := p6))) (pa_cons (pe_xf (pos := p9) xf hno hz hf pn2) pa_nil))))
  refine all.run pins s σ H D I ⟨.ref a, hi i rfl hlt, ⟨rfl, ⟨_, hH⟩, b, rfl, ?_⟩⟩
  have fin : ∀ z : Int, (z = if b = true then x else y) → tCons (tXf a (.ref C) (some dd) C attr (tVar i)) tNil σ H fun xs H1 => (V.int z :: xs).length ≤ sizeLine ∧ ∀ p, H1 p = none → D.rt (.ref p) (upd H1 p (.tup (V.int z :: xs))) := by
    intro z hz
    refine ⟨.ref a, hi i rfl hlt, rfl, rfl, dd, [(attr, v)], v, rfl, hH, by simp [List.lookup], ?_⟩
    refine ⟨by rw [sizeLine_eq]; show 2 ≤ _; omega, fun q hq => ?_⟩
    subst hz
    exact fin_tup hs (.cons rep_int (.cons rp .nil)) (fun ρ' H' v s h r => k ρ' H' v s h r) hq
  cases b with
  | true => exact fin x rfl
  | false => exact fin y rfl
theorem su_isb (hK : X.K = T.K) (t : TryOk P T) {B : String} {n : Str} {i : Nat} {p1 p2 p3 p4 pos : Pos} (hN : X.N[i]? = some n) (hn : Vis X.env.scope n) (hd1 : (n == ("__debug__" : Str)) = false) (hd2 : (n == ("__classdict__" : Str)) = false)
    (hg : Gl X "isinstance") (hm : X.mg "isinstance" = none) (hgB : Gl X (Str.ofString B)) (hmB : X.mg (Str.ofString B) = none) (hB : bootBuiltins (Str.ofString B) = some (.type B)) (hB1 : Str.ofString B ≠ "__name__") (hB2 : (Str.ofString B == ("__debug__" : Str)) = false)
    (hz : Zc cls d o) (hf : ∃ vs, o.data = .fields vs) :
    PSs (X.suite a ((a, o) :: pn)) [.Return (some (.Call (.Name "isinstance" p1) [.Name n p2, .Name (Str.ofString B) p3] [] p4)) pos] (tsX P gd T (.isb B) (some i) a cls d) := by
  refine ⟨fun pins s σ H D I h => ?_⟩
  obtain ⟨ρ, S, e, p', hs, er, es, hi, k⟩ := h
  simp only [suite, Option.map_eq_some_iff] at es
  obtain ⟨b, eb, rfl⟩ := es
  obtain ⟨⟨C, hc, rfl⟩, er2⟩ := er
  obtain ⟨ix, kt⟩ := t.isx e.c C B b hc eb
  rw [← hK] at ix kt
  have hlt : i < σ.length := by
    rw [I.len]
    exact (List.getElem?_eq_some_iff.mp hN).1
  have pn1 : PE (X.suite a ((a, o) :: pn)) (.Name n p2) (tVar i) := pe_var hN hn hd1 hd2
  have pB : PE (X.suite a ((a, o) :: pn)) (.Name (Str.ofString B) p3) (tC (.ty B)) := pe_bltn hgB hmB hB rfl hB1 hB2
  have pis := pe_callB (p := p1) (pos := p4) (call_isy (pn := pn) (a := a) ix hz hf kt) hg hm (by kernel_rfl) (pa_cons pn1 (pa_cons pB pa_nil)) (by decide) (by decide)
  refine (pss_one (ps_ret (pos := pos) pis)).run pins s σ H D I ⟨.ref a, hi i rfl hlt, rfl, fun dd ed => ?_, k ρ H (.bl b) Step.refl hs rep_bl⟩
  subst ed
  cases q : e.k with
  | none => rw [q] at er2; cases er2
  | some p =>
    rw [q] at er2
    obtain ⟨a', v, f, e1, _, hH, _⟩ := er2
    cases e1
    exact ⟨_, hH⟩
theorem su_fld (hK : X.K = T.K) (t : TryOk P T) {attr n : Str} {i : Nat} {p8 p9 pos : Pos} (hN : X.N[i]? = some n) (hn : Vis X.env.scope n) (hd1 : (n == ("__debug__" : Str)) = false) (hd2 : (n == ("__classdict__" : Str)) = false) (hz : Zc cls d o) (hf : ∃ vs, o.data = .fields vs) :
    PSs (X.suite a ((a, o) :: pn)) [.Return (some (.Attribute (.Name n p8) attr p9)) pos] (tsX P gd T (.fld attr) (some i) a cls d) := by
  refine ⟨fun pins s σ H D I h => ?_⟩
  obtain ⟨ρ, S, e, p, hs, er, ek, hi, k⟩ := h
  obtain ⟨C, dd, v, rfl, hc, rfl, hH, rp, xf, hno⟩ := kept_ok t er (show kept P e attr = some p from ek)
  rw [← hK] at xf hno
  have hlt : i < σ.length := by
    rw [I.len]
    exact (List.getElem?_eq_some_iff.mp hN).1
  have pn2 : PE (X.suite a ((a, o) :: pn)) (.Name n p8) (tVar i) := pe_var hN hn hd1 hd2
  exact (pss_one (ps_ret (pos := pos) (pe_xf (pos := p9) xf hno hz hf pn2))).run pins s σ H D I ⟨.ref a, hi i rfl hlt, rfl, rfl, dd, [(attr, v)], v, rfl, hH, by simp [List.lookup], k ρ H v Step.refl hs rp⟩
theorem su_tup (hK : X.K = T.K) (t : TryOk P T) {q : PV} {v0 : V} {c0 : Const} {j0 kk : Nat} {attr n : Str} {i : Nat} {p0 p8 p9 pos pos2 : Pos} (he : PE (X.suite a ((a, o) :: pn)) (.Constant c0 j0 p0) (tC v0)) (hv : ∀ ρ H, Rep T ρ H q v0)
    (hN : X.N[i]? = some n) (hn : Vis X.env.scope n) (hd1 : (n == ("__debug__" : Str)) = false) (hd2 : (n == ("__classdict__" : Str)) = false) (hz : Zc cls d o) (hf : ∃ vs, o.data = .fields vs) :
    PSs (X.suite a ((a, o) :: pn)) [.Return (some (.Tuple [.Constant c0 j0 p0, .Attribute (.Name n p8) attr p9] kk pos2)) pos] (tsX P gd T (.tup q attr) (some i) a cls d) := by
  refine ⟨fun pins s σ H D I h => ?_⟩
  obtain ⟨ρ, S, e, p', hs, er, es, hi, k⟩ := h
  simp only [suite] at es
  split at es
  · obtain ⟨p, ek, rfl⟩ := Option.map_eq_some_iff.mp es
    obtain ⟨C, dd, v, rfl, hc, rfl, hH, rp, xf, hno⟩ := kept_ok t er ek
    rw [← hK] at xf hno
    have hlt : i < σ.length := by
      rw [I.len]
      exact (List.getElem?_eq_some_iff.mp hN).1
    have pn2 : PE (X.suite a ((a, o) :: pn)) (.Name n p8) (tVar i) := pe_var hN hn hd1 hd2
    refine (pss_one (ps_ret (pos := pos) (pe_tup (x1 := kk) (pos := pos2) (pa_cons he (pa_cons (pe_xf (pos := p9) xf hno hz hf pn2) pa_nil))))).run pins s σ H D I ⟨.ref a, hi i rfl hlt, rfl, rfl, dd, [(attr, v)], v, rfl, hH, by simp [List.lookup], ?_⟩
    refine ⟨by rw [sizeLine_eq]; show 2 ≤ _; omega, fun x hx => ?_⟩
    exact fin_tup hs (.cons (hv _ _) (.cons rp .nil)) (fun ρ' H' v s h r => k ρ' H' v s h r) hx
  · cases es
theorem su_rep (hK : X.K = T.K) (hgd : gd = true → X.A.guards = some []) (hun : X.A.units + 80 < cLine) (t : TryOk P T) {pre attr n : Str} {i j0 : Nat} {p0 p1 p4 p8 p9 pos pos2 : Pos} (hN : X.N[i]? = some n) (hn : Vis X.env.scope n)
    (hd1 : (n == ("__debug__" : Str)) = false) (hd2 : (n == ("__classdict__" : Str)) = false) (hg : Gl X "repr") (hm : X.mg "repr" = none) (hz : Zc cls d o) (hf : ∃ vs, o.data = .fields vs) :
    PSs (X.suite a ((a, o) :: pn)) [.Return (some (.BinOp (.Constant (.str pre) j0 p0) .Add (.Call (.Name "repr" p1) [.Attribute (.Name n p8) attr p9] [] p4) pos2)) pos] (tsX P gd T (.rep pre attr) (some i) a cls d) := by
  refine ⟨fun pins s σ H D I h => ?_⟩
  obtain ⟨ρ, S, e, p', hs, er, es, hi, k⟩ := h
  simp only [suite, Option.bind_eq_some_iff] at es
  obtain ⟨p, ek, x, ex, es⟩ := es
  split at es
  · rename_i hl
    cases es
    obtain ⟨C, dd, v, rfl, hc, rfl, hH, rp, xf, hno⟩ := kept_ok t er ek
    have xf' := xf
    have hno' := hno
    rw [← hK] at xf' hno'
    have hlt : i < σ.length := by
      rw [I.len]
      exact (List.getElem?_eq_some_iff.mp hN).1
    have pn2 : PE (X.suite a ((a, o) :: pn)) (.Name n p8) (tVar i) := pe_var hN hn hd1 hd2
    have pr := pe_callB (p := p1) (pos := p4) (f1_repr' (X := X.suite a ((a, o) :: pn)) (T := T) (gd := gd) hK hgd hun) hg hm (by kernel_rfl) (pa_cons (pe_xf (pos := p9) xf' hno' hz hf pn2) pa_nil) (by decide) (by decide)
    have pb := pe_op (pos := pos2) (opR_bin (X := X.suite a ((a, o) :: pn)) (T := T) hK .add) (pe_str (x := pre) (j := j0) (pos := p0)) pr
    refine (pss_one (ps_ret (pos := pos) pb)).run pins s σ H D I ⟨.ref a, hi i rfl hlt, rfl, rfl, dd, [(attr, v)], v, rfl, hH, by simp [List.lookup], ρ, S, .v p, .v (.str x), v, H, rfl, hs, rp, by simp [fn1, ex], fun ρ1 H1 y s1 hs1 ry => ?_⟩
    have ey := of_str ry
    subst ey
    refine ⟨ρ1, S, .v (.str pre), .v (.str x), .v (.str (pre ++ x)), H1, hs1, repA_str, repA_str, by simp [biOp, hl], fun ρ2 H2 z s2 hs2 rz => k ρ2 H2 z (s1.trans s2) hs2 rz⟩
  · cases es
end
end EV
/-! The E layer: try, whole. -/
namespace EV
open PySem PySem.Spec L2
open PyProof.Rows hiding St
section
variable {G : Gn} {sg : Sg} {X : Cx} {P : Prog} {T : TX} {E : Ev} {W : WX} {gd : Bool}
theorem On.tr (o : On G sg X T E W) {W' : WX} {pn : List (Addr × Obj)} {xe : Value → Shared → Prop} (hf : sg.fun_ = true) (tk : Takes (X.tr pn xe) W') (ps : PassesOwn (model X.prog X.w) X.A X.env xe) : On G sg (X.tr pn xe) T E W' where
  K := o.K
  N := o.N
  sc := o.sc
  nd := o.nd
  calm := o.calm
  un := o.un
  dp := o.dp
  fn := o.fn
  blt := o.blt
  gd := o.gd
  glo := o.glo
  call := o.call
  fnx := o.fnx
  blx := o.blx
  exc := o.exc
  pass := fun σ => passAt tk σ
  hp := fun _ => ps
  st := fun _ => o.st hf
  tk := fun _ => tk
  lam := o.lam
  tabc := o.tabc
/-- clauses and the evaluator's handlers -/
inductive HsRel (P : Prog) (T : TX) (gd : Bool) : List (Nat × Hx) → List Cl → Prop
  | nil : HsRel P T gd [] []
  | cons {c : Nat} {h : Hx} {C : Addr} {i : Option Nat} {hs : List (Nat × Hx)} {ks : List Cl} (hc : T.ca c = some C) (r : HsRel P T gd hs ks) : HsRel P T gd ((c, h) :: hs) (⟨.ref C, i, tsX P gd T h i⟩ :: ks)
theorem slot_at {σ : St} {a : Addr} {i : Option Nat} : ∀ j, i = some j → j < (inSlot σ a i).length → (inSlot σ a i)[j]? = some (some (.ref a)) := fun j e l => by
  subst e
  have l : j < (σ.set j (some (.ref a))).length := l
  rw [List.length_set] at l
  show (σ.set j (some (.ref a)))[j]? = _
  rw [List.getElem?_set_self l]
theorem wish_ok (t : TryOk P T) {hs : List (Nat × Hx)} {ks : List Cl} {D : Ends} {e : Exn} {S : Store} {ρ : List Addr} {H : Hp} {σ : St} {cls : Value} {d : Option Addr} {r : Option PV} (rel : HsRel P T gd hs ks) (hr : handle P gd e S hs = some r)
    (hS : SRep T ρ H S) (er : ERep T ρ H e cls d) (hrt : ∀ p, r = some p → ∀ ρ' H' v, Step ρ H ρ' H' → SRep T ρ' H' S → Rep T ρ' H' p v → D.rt v H') (ho : r = none → W cls d σ H) : wCl T.K W D ks cls d σ H := by
  induction rel with
  | nil =>
    unfold handle at hr
    cases hr
    exact ho rfl
  | @cons c h C i hs ks hc rel ih =>
    unfold handle at hr
    obtain ⟨⟨Ce, hce, rfl⟩, _⟩ := id er
    split at hr
    · rename_i hb
      cases q : suite P gd e S h with
      | none => rw [q] at hr; cases hr
      | some p =>
        rw [q] at hr
        cases hr
        refine ⟨true, t.exm _ _ _ _ _ hce hc hb, ?_⟩
        rw [if_pos rfl]
        intro a ha
        exact ⟨ρ, S, e, p, hS, er, q, slot_at, fun ρ' H' v s h r => hrt p rfl ρ' H' v s h r⟩
    · rename_i hb
      refine ⟨false, t.exm _ _ _ _ _ hce hc hb, ?_⟩
      rw [if_neg Bool.false_ne_true]
      exact ih hr
    · cases hr
theorem s_try (t : TryOk P T) (hE : E.hand = handOf P E.gd) (o : On G sg X T E W) (hf : sg.fun_ = true) {b : Sxs} {hs : List (Nat × Hx)} {xs : List Stmt} {h : ExceptHandler} {hx : List ExceptHandler} {ks : List Cl} {pos : Pos}
    (hb : ∀ {X' : Cx} {W' : WX}, On G sg X' T E W' → PSs X' xs (tS T W' (evSs E b))) (hc : ClsOk X (h :: hx) ks) (rel : HsRel P T E.gd hs ks) : PS X (.Try xs (h :: hx) [] [] pos) (tS T W (evS E (.tr b hs))) := by
  obtain ⟨st1, st2⟩ := o.st hf
  refine ps_imp (ps_try_cl (tb := fun W' => tS T W' (evSs E b)) st1 st2 o.nd (o.tk hf) (fun W' pn xe tk ps => hb (o.tr hf tk ps)) hc) ?_
  rintro D σ H ⟨ρ, S, env, hS, he, k⟩
  refine ⟨ρ, S, env, hS, he, ?_⟩
  have k : FinS T W ρ H (match evSs E b env S with
    | .err e env S => (match E.hand e hs S with
      | some (some p) => .ret p S
      | some none => .err e env S
      | none => .bad)
    | r => r) D := k
  cases q : evSs E b env S with
  | err e env2 S2 =>
    rw [q] at k
    dsimp only at k
    intro ρ' H' σ' cls d s hS2 he2 er
    rw [hE] at k
    rw [o.K]
    cases r : handle P E.gd e S2 hs with
    | none =>
      have : handOf P E.gd e hs S2 = none := r
      rw [this] at k
      exact False.elim k
    | some r' =>
      have e1 : handOf P E.gd e hs S2 = some r' := r
      rw [e1] at k
      cases r' with
      | none => exact wish_ok t rel r hS2 er (fun p z => by cases z) fun _ => k ρ' H' σ' cls d s hS2 he2 er
      | some p => exact wish_ok t rel r hS2 er (fun p' z ρ2 H2 v s2 h2 rv => by cases z; exact k ρ2 H2 v (s.trans s2) h2 rv) fun z => by cases z
  | next env2 S2 => rw [q] at k; exact k
  | brk env2 S2 => rw [q] at k; exact k
  | cont env2 S2 => rw [q] at k; exact k
  | ret p S2 => rw [q] at k; exact k
  | bad => rw [q] at k; exact k
end
end EV
/-! The E layer, part U: a call sees what its arguments reach. -/
namespace EV
open PySem PySem.Spec L2
open PyProof.Rows hiding St

/-! ### what is reached -/
theorem reach_ok {S : Store} : ∀ {f : Nat} {seen todo R : List Nat}, reach S f seen todo = some R → seen.Nodup → (∀ n ∈ seen, ∃ o, S[n]? = some o ∧ ∀ m ∈ locsO o, m ∈ seen ∨ m ∈ todo) →
    R.Nodup ∧ (∀ n ∈ R, ∃ o, S[n]? = some o ∧ ∀ m ∈ locsO o, m ∈ R) ∧ (∀ n ∈ seen, n ∈ R) ∧ ∀ n ∈ todo, n ∈ R
  | 0, _, _, _, h, _, _ => by cases h
  | f + 1, seen, [], R, h, nd, inv => by
    cases h
    refine ⟨nd, fun n hn => ?_, fun n hn => hn, fun n hn => by cases hn⟩
    obtain ⟨o, e, q⟩ := inv n hn
    exact ⟨o, e, fun m hm => (q m hm).elim (fun z => z) (fun z => by cases z)⟩
  | f + 1, seen, n :: r, R, h, nd, inv => by
    unfold reach at h
    split at h
    · rename_i hc
      have hc : n ∈ seen := by simpa using hc
      obtain ⟨a, b, c, d⟩ := reach_ok h nd fun k hk => by
        obtain ⟨o, e, q⟩ := inv k hk
        refine ⟨o, e, fun m hm => ?_⟩
        rcases q m hm with z | z
        · exact .inl z
        · rcases List.mem_cons.mp z with rfl | z
          · exact .inl hc
          · exact .inr z
      refine ⟨a, b, c, fun m hm => ?_⟩
      rcases List.mem_cons.mp hm with rfl | hm
      · exact c m hc
      · exact d m hm
    · rename_i hc
      have hc : n ∉ seen := by simpa using hc
      split at h
      · rename_i o e
        obtain ⟨a, b, c, d⟩ := reach_ok h (List.nodup_append.mpr ⟨nd, by simp, fun x hx y hy => by
          have : y = n := by simpa using hy
          subst this
          exact fun z => hc (z ▸ hx)⟩) fun k hk => by
            rcases List.mem_append.mp hk with hk | hk
            · obtain ⟨o', e', q⟩ := inv k hk
              refine ⟨o', e', fun m hm => ?_⟩
              rcases q m hm with z | z
              · exact .inl (List.mem_append_left _ z)
              · rcases List.mem_cons.mp z with rfl | z
                · exact .inl (List.mem_append_right _ (by simp))
                · exact .inr (List.mem_append_right _ z)
            · obtain rfl : k = n := by simpa using hk
              exact ⟨o, e, fun m hm => .inr (List.mem_append_left _ hm)⟩
        refine ⟨a, b, fun m hm => c m (List.mem_append_left _ hm), fun m hm => ?_⟩
        rcases List.mem_cons.mp hm with rfl | hm
        · exact c m (List.mem_append_right _ (by simp))
        · exact d m (List.mem_append_right _ hm)
      · cases h
theorem reach_all {S : Store} {f : Nat} {l R : List Nat} (h : reach S f [] l = some R) : R.Nodup ∧ (∀ n ∈ R, ∃ o, S[n]? = some o ∧ ∀ m ∈ locsO o, m ∈ R) ∧ ∀ n ∈ l, n ∈ R := by
  obtain ⟨a, b, _, d⟩ := reach_ok h List.nodup_nil (fun n hn => by cases hn)
  exact ⟨a, b, d⟩

/-! ### other names for the places -/
section
variable {T : TX} {ρ ρ' : List Addr} {H : Hp} {f : Nat → Nat}
mutual
theorem Rep.ren : ∀ (p : PV) (v : V), (∀ n ∈ locsP p, ∀ a, ρ[n]? = some a → ρ'[f n]? = some a) → Rep T ρ H p v → Rep T ρ' H (mapP f p) v
  | .non, _, _, h => by unfold mapP; unfold Rep at h ⊢; exact h
  | .bl _, _, _, h => by unfold mapP; unfold Rep at h ⊢; exact h
  | .int _, _, _, h => by unfold mapP; unfold Rep at h ⊢; exact h
  | .str _, _, _, h => by unfold mapP; unfold Rep at h ⊢; exact h
  | .tup l, _, q, h => by
    unfold mapP
    unfold Rep at h ⊢
    obtain ⟨a, xs, e, g, r⟩ := h
    exact ⟨a, xs, e, g, Reps.ren l xs (by simpa [locsP] using q) r⟩
  | .rot l, _, q, h => by
    unfold mapP
    unfold Rep at h ⊢
    obtain ⟨a, xs, e, g, r⟩ := h
    exact ⟨a, xs, e, g, Reps.ren l xs (by simpa [locsP] using q) r⟩
  | .rol l, _, q, h => by
    unfold mapP
    unfold Rep at h ⊢
    obtain ⟨a, xs, e, g, r⟩ := h
    exact ⟨a, xs, e, g, Reps.ren l xs (by simpa [locsP] using q) r⟩
  | .loc n, _, q, h => by
    unfold mapP
    unfold Rep at h ⊢
    obtain ⟨a, e, z⟩ := h
    exact ⟨a, q n (by simp [locsP]) a e, z⟩
  | .fn _, _, _, h => by unfold mapP; unfold Rep at h ⊢; exact h
theorem Reps.ren : ∀ (l : List PV) (xs : List V), (∀ n ∈ locsL l, ∀ a, ρ[n]? = some a → ρ'[f n]? = some a) → Reps T ρ H l xs → Reps T ρ' H (mapL f l) xs
  | [], _, _, h => by unfold mapL; unfold Reps at h ⊢; exact h
  | p :: l, _, q, h => by
    unfold mapL
    unfold Reps at h ⊢
    obtain ⟨x, r, e, h1, h2⟩ := h
    exact ⟨x, r, e, Rep.ren p x (fun n hn => q n (by simp [locsL, hn])) h1, Reps.ren l r (fun n hn => q n (by simp [locsL, hn])) h2⟩
end
theorem mapL_map : ∀ l : List PV, mapL f l = l.map (mapP f)
  | [] => rfl
  | p :: l => by unfold mapL; rw [mapL_map l]; rfl
theorem RepK.ren {κ : Type} {kvs : List (κ × PV)} {ks : List (κ × V)} (q : ∀ n ∈ locsL (kvs.map (·.2)), ∀ a, ρ[n]? = some a → ρ'[f n]? = some a) (h : RepK T ρ H kvs ks) : RepK T ρ' H (kvs.map fun z => (z.1, mapP f z.2)) ks := by
  refine ⟨by rw [List.map_map]; exact h.1, ?_⟩
  have r := Reps.ren _ _ q h.2
  rw [mapL_map] at r
  rw [List.map_map] at r ⊢
  exact r
theorem ORep.ren {a : Addr} {o : SO} (q : ∀ n ∈ locsO o, ∀ a, ρ[n]? = some a → ρ'[f n]? = some a) (h : ORep T ρ H a o) : ORep T ρ' H a (mapS f o) := by
  cases o with
  | lst l => obtain ⟨xs, g, r⟩ := h; exact ⟨xs, g, Reps.ren _ _ q r⟩
  | dk l => obtain ⟨xs, g, r⟩ := h; exact ⟨xs, g, r.ren q⟩
  | dt l => obtain ⟨xs, g, r⟩ := h; exact ⟨xs, g, r.ren q⟩
end
/-! ### the callee's store -/
section
variable {T : TX} {ρ : List Addr} {H : Hp} {S : Store} {R : List Nat}
/-- the callee's places -/
def subR (ρ : List Addr) (R : List Nat) : List Addr := R.filterMap fun n => ρ[n]?
theorem fm_get {α β : Type} {g : α → Option β} : ∀ {l : List α}, (∀ a ∈ l, (g a).isSome = true) → ∀ (i : Nat) (a : α), l[i]? = some a → (l.filterMap g)[i]? = g a
  | [], _, i, a, e => by simp at e
  | b :: l, h, i, a, e => by
    obtain ⟨c, hc⟩ := Option.isSome_iff_exists.mp (h b List.mem_cons_self)
    rw [List.filterMap_cons_some hc]
    cases i with
    | zero => simp at e; subst e; simp [hc]
    | succ i =>
      simp at e ⊢
      exact fm_get (fun a ha => h a (List.mem_cons_of_mem _ ha)) i a e
theorem fm_len {α β : Type} {g : α → Option β} : ∀ {l : List α}, (∀ a ∈ l, (g a).isSome = true) → (l.filterMap g).length = l.length
  | [], _ => rfl
  | b :: l, h => by
    obtain ⟨c, hc⟩ := Option.isSome_iff_exists.mp (h b List.mem_cons_self)
    rw [List.filterMap_cons_some hc, List.length_cons, List.length_cons, fm_len fun a ha => h a (List.mem_cons_of_mem _ ha)]
theorem sub_get (hs : SRep T ρ H S) (hR : ∀ n ∈ R, ∃ o, S[n]? = some o ∧ ∀ m ∈ locsO o, m ∈ R) {n : Nat} (hn : n ∈ R) : ∃ a, ρ[n]? = some a ∧ (subR ρ R)[R.idxOf n]? = some a := by
  have all : ∀ m ∈ R, (ρ[m]?).isSome = true := fun m hm => by
    obtain ⟨o, e, _⟩ := hR m hm
    obtain ⟨a, e2, _⟩ := hs.get e
    rw [e2]; rfl
  obtain ⟨a, e⟩ := Option.isSome_iff_exists.mp (all n hn)
  refine ⟨a, e, ?_⟩
  have hi : R[R.idxOf n]? = some n := by
    have lt := List.idxOf_lt_length_iff.mpr hn
    rw [List.getElem?_eq_getElem lt, List.getElem_idxOf lt]
  exact (fm_get all _ _ hi).trans e
theorem sub_idx (hs : SRep T ρ H S) (hR : ∀ n ∈ R, ∃ o, S[n]? = some o ∧ ∀ m ∈ locsO o, m ∈ R) {i : Nat} {a : Addr} (e : (subR ρ R)[i]? = some a) : ∃ n, R[i]? = some n ∧ ρ[n]? = some a := by
  have all : ∀ m ∈ R, (ρ[m]?).isSome = true := fun m hm => by
    obtain ⟨o, e, _⟩ := hR m hm
    obtain ⟨a, e2, _⟩ := hs.get e
    rw [e2]; rfl
  have hl : i < R.length := by
    have := (List.getElem?_eq_some_iff.mp e).1
    unfold subR at this
    rwa [fm_len all] at this
  have e1 : R[i]? = some R[i] := by simp [hl]
  refine ⟨R[i], e1, ?_⟩
  rw [← fm_get all i _ e1]
  exact e
theorem idx_inj {n : Nat} {a b : Addr} {k : Nat} (nd : ρ.Nodup) (h1 : ρ[n]? = some a) (h2 : ρ[k]? = some b) (e : a = b) : n = k := by
  subst e
  obtain ⟨l1, q1⟩ := List.getElem?_eq_some_iff.mp h1
  obtain ⟨l2, q2⟩ := List.getElem?_eq_some_iff.mp h2
  exact (List.getElem_inj nd).mp (q1.trans q2.symm)
theorem SRep.under (hs : SRep T ρ H S) (nd : R.Nodup) (hR : ∀ n ∈ R, ∃ o, S[n]? = some o ∧ ∀ m ∈ locsO o, m ∈ R) : SRep T (subR ρ R) H (under S R) := by
  have all : ∀ m ∈ R, (ρ[m]?).isSome = true := fun m hm => by
    obtain ⟨o, e, _⟩ := hR m hm
    obtain ⟨a, e2, _⟩ := hs.get e
    rw [e2]; rfl
  have all2 : ∀ m ∈ R, ((S[m]?).map (mapS fun m => R.idxOf m)).isSome = true := fun m hm => by
    obtain ⟨o, e, _⟩ := hR m hm
    rw [e]; rfl
  refine ⟨by unfold subR EV.under; rw [fm_len all, fm_len all2], ?_, fun i a o e1 e2 => ?_, hs.tab⟩
  · refine List.pairwise_iff_getElem.mpr fun i j hi hj hij e => ?_
    have e1 : (subR ρ R)[i]? = some (subR ρ R)[i] := by simp [hi]
    have e2 : (subR ρ R)[j]? = some (subR ρ R)[i] := by rw [e]; simp [hj]
    obtain ⟨n, h1, h2⟩ := sub_idx hs hR e1
    obtain ⟨m, h3, h4⟩ := sub_idx hs hR e2
    have := idx_inj hs.nd h2 h4 rfl
    subst this
    exact (Nat.ne_of_lt hij) (idx_inj nd h1 h3 rfl)
  · obtain ⟨n, h1, h2⟩ := sub_idx hs hR e1
    have h3 := fm_get all2 i n h1
    unfold EV.under at e2
    rw [h3] at e2
    obtain ⟨o', e3, q⟩ := hR n (List.mem_of_getElem? h1)
    rw [e3] at e2
    cases e2
    refine ORep.ren (fun m hm b hb => ?_) (hs.at_ n a o' h2 e3)
    obtain ⟨c, e4, e5⟩ := sub_get hs hR (q m hm)
    rw [hb] at e4
    cases e4
    exact e5
/-! ### behind the call -/
/-- a step of the callee, seen by the caller -/
theorem Step.widen {ρ' more : List Addr} {H' : Hp} (st : Step ρ' H (ρ' ++ more) H') (sub : ∀ b ∈ ρ', b ∈ ρ) : Step ρ H (ρ ++ more) H' ∧ Step ρ H ρ H' := by
  have a : Step ρ H (ρ ++ more) H' := by
    refine ⟨⟨more, rfl⟩, fun b hb n => ?_, fun b o e nb nt => st.fr b o e (fun z => nb (sub b z)) nt, fun b ps e nb => st.tb b ps e fun z => nb (sub b z), st.tu, st.fz⟩
    rcases List.mem_append.mp hb with z | z
    · exact absurd z n
    · exact st.new b (List.mem_append_right _ z) fun q => n (sub b q)
  exact ⟨a, ⟨⟨[], by simp⟩, fun b hb n => absurd hb n, a.fr, a.tb, a.tu, a.fz⟩⟩
theorem back_len {f : Nat → Nat} : ∀ (R : List Nat) (S : Store) (G : Store), (back f S R G).length = S.length
  | [], S, G => by cases G <;> rfl
  | n :: R, S, [] => rfl
  | n :: R, S, o :: G => by
    show (back f (S.set n (mapS f o)) R G).length = _
    rw [back_len R, List.length_set]
theorem back_out {f : Nat → Nat} : ∀ (R : List Nat) (S : Store) (G : Store) (k : Nat), k ∉ R → (back f S R G)[k]? = S[k]?
  | [], S, G, k, _ => by cases G <;> rfl
  | n :: R, S, [], k, _ => rfl
  | n :: R, S, o :: G, k, h => by
    rw [List.mem_cons, not_or] at h
    show (back f (S.set n (mapS f o)) R G)[k]? = _
    rw [back_out R _ _ k h.2, List.getElem?_set_ne fun z => h.1 z.symm]
theorem back_in {f : Nat → Nat} : ∀ (R : List Nat) (S : Store) (G : Store) (i n : Nat) (o : SO), R.Nodup → R[i]? = some n → G[i]? = some o → n < S.length → (back f S R G)[n]? = some (mapS f o)
  | [], _, _, i, n, o, _, e, _, _ => by simp at e
  | m :: R, S, [], i, n, o, _, _, e, _ => by simp at e
  | m :: R, S, p :: G, 0, n, o, nd, e1, e2, hl => by
    simp at e1 e2
    subst e1 e2
    have nm := (List.nodup_cons.mp nd).1
    show (back f (S.set m (mapS f p)) R G)[m]? = _
    rw [back_out R _ _ m nm, List.getElem?_set_self hl]
  | m :: R, S, p :: G, i + 1, n, o, nd, e1, e2, hl => by
    simp at e1 e2
    exact back_in R _ G i n o (List.nodup_cons.mp nd).2 e1 e2 (by rw [List.length_set]; exact hl)
theorem outer_lt {S : Store} {R : List Nat} {i n : Nat} (h : R[i]? = some n) : outer S R i = n := by unfold outer; rw [h]
theorem outer_ge {S : Store} {R : List Nat} {i : Nat} (h : R.length ≤ i) : outer S R i = S.length + (i - R.length) := by unfold outer; rw [List.getElem?_eq_none h]
/-- a place of the callee's, in the caller's list -/
theorem outer_at (hs : SRep T ρ H S) (nd : R.Nodup) (hR : ∀ n ∈ R, ∃ o, S[n]? = some o ∧ ∀ m ∈ locsO o, m ∈ R) {more : List Addr} {i : Nat} {a : Addr} (e : (subR ρ R ++ more)[i]? = some a) : (ρ ++ more)[outer S R i]? = some a := by
  have all : ∀ m ∈ R, (ρ[m]?).isSome = true := fun m hm => by
    obtain ⟨o, e, _⟩ := hR m hm
    obtain ⟨a, e2, _⟩ := hs.get e
    rw [e2]; rfl
  have len : (subR ρ R).length = R.length := fm_len all
  by_cases hi : i < R.length
  · rw [List.getElem?_append_left (by rw [len]; exact hi)] at e
    obtain ⟨n, h1, h2⟩ := sub_idx hs hR e
    rw [outer_lt h1, List.getElem?_append_left (List.getElem?_eq_some_iff.mp h2).1]
    exact h2
  · rw [List.getElem?_append_right (by rw [len]; omega)] at e
    rw [outer_ge (Nat.le_of_not_lt hi), List.getElem?_append_right (by rw [hs.len]; omega)]
    rw [len] at e
    rw [hs.len]
    have : S.length + (i - R.length) - S.length = i - R.length := by omega
    rw [this]
    exact e
theorem outer_small (hs : SRep T ρ H S) (hR : ∀ n ∈ R, ∃ o, S[n]? = some o ∧ ∀ m ∈ locsO o, m ∈ R) {i : Nat} {a : Addr} (hi : i < R.length) {more : List Addr} (e : (subR ρ R ++ more)[i]? = some a) : ρ[outer S R i]? = some a := by
  have all : ∀ m ∈ R, (ρ[m]?).isSome = true := fun m hm => by
    obtain ⟨o, e, _⟩ := hR m hm
    obtain ⟨a, e2, _⟩ := hs.get e
    rw [e2]; rfl
  have len : (subR ρ R).length = R.length := fm_len all
  rw [List.getElem?_append_left (by rw [len]; exact hi)] at e
  obtain ⟨n, h1, h2⟩ := sub_idx hs hR e
  rw [outer_lt h1]
  exact h2
/-- what stands at a place that the callee did not see -/
theorem ORep.stay {ρ' more ρn : List Addr} {H' : Hp} {a : Addr} {o : SO} (st : Step ρ' H (ρ' ++ more) H') (st2 : Step ρ H ρn H') (n : a ∉ ρ') (h : ORep T ρ H a o) : ORep T ρn H' a o := by
  cases o with
  | lst l => obtain ⟨xs, g, r⟩ := h; exact ⟨xs, st.fr a _ g n (fun _ z => nomatch z), Reps.step st2 _ _ r⟩
  | dk l => obtain ⟨xs, g, r⟩ := h; exact ⟨xs, st.fr a _ g n (fun _ z => nomatch z), r.step st2⟩
  | dt l => obtain ⟨xs, g, r⟩ := h; exact ⟨xs, st.fr a _ g n (fun _ z => nomatch z), r.step st2⟩
theorem call_end (hs : SRep T ρ H S) (nd : R.Nodup) (hR : ∀ n ∈ R, ∃ o, S[n]? = some o ∧ ∀ m ∈ locsO o, m ∈ R) {ρ2 : List Addr} {H' : Hp} {G : Store} {ps : List PV} {xs : List V} (st : Step (subR ρ R) H ρ2 H') (hg : SRep T ρ2 H' G) (r : Reps T ρ2 H' ps xs) :
    ∃ ρn, Step ρ H ρn H' ∧ SRep T ρn H' (after S R ps G) ∧ Reps T ρn H' (mapL (outer S R) ps) xs := by
  obtain ⟨more, rfl⟩ := st.pre
  have all : ∀ m ∈ R, (ρ[m]?).isSome = true := fun m hm => by
    obtain ⟨o, e, _⟩ := hR m hm
    obtain ⟨a, e2, _⟩ := hs.get e
    rw [e2]; rfl
  have len : (subR ρ R).length = R.length := fm_len all
  have sub : ∀ b ∈ subR ρ R, b ∈ ρ := fun b hb => by
    obtain ⟨i, hi, e⟩ := List.getElem_of_mem hb
    obtain ⟨n, _, h2⟩ := sub_idx hs hR (i := i) (a := b) (by simp [hi, e])
    exact List.mem_of_getElem? h2
  obtain ⟨w1, w2⟩ := st.widen sub
  have lG : G.length = R.length + more.length := by rw [← hg.len, List.length_append, len]
  -- a place that the callee did not see
  have away : ∀ {n : Nat} {a : Addr}, ρ[n]? = some a → n ∉ R → a ∉ subR ρ R := fun {n a} e hn hm => by
    obtain ⟨i, hi, e2⟩ := List.getElem_of_mem hm
    obtain ⟨m, h1, h2⟩ := sub_idx hs hR (i := i) (a := a) (by simp [hi, e2])
    have := idx_inj hs.nd e h2 rfl
    subst this
    exact hn (List.mem_of_getElem? h1)
  -- one that it did
  have seen : ∀ {n : Nat} {a : Addr}, ρ[n]? = some a → n ∈ R → ∃ i o, R[i]? = some n ∧ i < R.length ∧ G[i]? = some o ∧ ORep T (subR ρ R ++ more) H' a o := fun {n a} e hn => by
    have lt := List.idxOf_lt_length_iff.mpr hn
    obtain ⟨b, e1, e2⟩ := sub_get hs hR hn
    rw [e] at e1
    cases e1
    have e3 : (subR ρ R ++ more)[R.idxOf n]? = some a := by rw [List.getElem?_append_left (by rw [len]; exact lt)]; exact e2
    have lg : R.idxOf n < G.length := by omega
    exact ⟨R.idxOf n, G[R.idxOf n], by rw [List.getElem?_eq_getElem lt, List.getElem_idxOf lt], lt, by simp [lg], hg.at_ _ a _ e3 (by simp [lg])⟩
  by_cases hc : ((locsL ps).all (fun i => decide (i < R.length)) && (G.take R.length).all (fun o => (locsO o).all fun i => decide (i < R.length))) = true
  · refine ⟨ρ, w2, ?_, ?_⟩
    · unfold after
      rw [if_pos hc]
      refine ⟨by rw [back_len]; exact hs.len, hs.nd, fun n a o e1 e2 => ?_, hg.tab⟩
      by_cases hn : n ∈ R
      · obtain ⟨i, o', h1, h2, h3, h4⟩ := seen e1 hn
        have hl : n < S.length := by rw [← hs.len]; exact (List.getElem?_eq_some_iff.mp e1).1
        rw [back_in R S G i n o' nd h1 h3 hl] at e2
        cases e2
        refine h4.ren fun m hm b hb => outer_small hs hR ?_ hb
        have q := (Bool.and_eq_true_iff.mp hc).2
        have mem : o' ∈ G.take R.length := by
          refine List.mem_of_getElem? (i := i) ?_
          rw [List.getElem?_take_of_lt h2]
          exact h3
        exact of_decide_eq_true (List.all_eq_true.mp (List.all_eq_true.mp q o' mem) m hm)
      · rw [back_out R S G n hn] at e2
        exact (hs.at_ n a o e1 e2).stay st w2 (away e1 hn)
    · refine Reps.ren ps xs (fun m hm b hb => outer_small hs hR ?_ hb) r
      exact of_decide_eq_true (List.all_eq_true.mp (Bool.and_eq_true_iff.mp hc).1 m hm)
  · refine ⟨ρ ++ more, w1, ?_, Reps.ren ps xs (fun m _ b hb => outer_at hs nd hR hb) r⟩
    unfold after
    rw [if_neg hc]
    have nd2 := List.nodup_append.mp hg.nd
    refine ⟨?_, ?_, fun k a o e1 e2 => ?_, hg.tab⟩
    · rw [List.length_append, List.length_append, back_len, List.length_map, List.length_drop, hs.len, lG]
      omega
    · refine List.nodup_append.mpr ⟨hs.nd, nd2.2.1, fun x hx y hy z => ?_⟩
      subst z
      have n1 := st.new x (List.mem_append_right _ hy) fun q => nd2.2.2 x q x hy rfl
      exact hs.ne n1 hx
    · by_cases hk : k < S.length
      · rw [List.getElem?_append_left (by rw [hs.len]; exact hk)] at e1
        rw [List.getElem?_append_left (by rw [back_len]; exact hk)] at e2
        by_cases hn : k ∈ R
        · obtain ⟨i, o', h1, h2, h3, h4⟩ := seen e1 hn
          rw [back_in R S G i k o' nd h1 h3 hk] at e2
          cases e2
          exact h4.ren fun m hm b hb => outer_at hs nd hR hb
        · rw [back_out R S G k hn] at e2
          exact (hs.at_ k a o e1 e2).stay st w1 (away e1 hn)
      · have hk : S.length ≤ k := Nat.le_of_not_lt hk
        rw [List.getElem?_append_right (by rw [hs.len]; exact hk), hs.len] at e1
        rw [List.getElem?_append_right (by rw [back_len]; exact hk), back_len, List.getElem?_map, List.getElem?_drop] at e2
        cases e3 : G[R.length + (k - S.length)]? with
        | none => rw [e3] at e2; cases e2
        | some o' =>
          rw [e3] at e2
          cases e2
          have e4 : (subR ρ R ++ more)[R.length + (k - S.length)]? = some a := by
            rw [List.getElem?_append_right (by rw [len]; omega), len]
            have : R.length + (k - S.length) - R.length = k - S.length := by omega
            rw [this]
            exact e1
          exact (hg.at_ _ a o' e4 e3).ren fun m hm b hb => outer_at hs nd hR hb
end
/-! ### a call that sees all -/
mutual
theorem mapP_id : ∀ p : PV, mapP (fun i => i) p = p
  | .non => by unfold mapP; rfl
  | .bl _ => by unfold mapP; rfl
  | .int _ => by unfold mapP; rfl
  | .str _ => by unfold mapP; rfl
  | .fn _ => by unfold mapP; rfl
  | .loc _ => by unfold mapP; rfl
  | .tup l => by unfold mapP; rw [mapL_id l]
  | .rot l => by unfold mapP; rw [mapL_id l]
  | .rol l => by unfold mapP; rw [mapL_id l]
theorem mapL_id : ∀ l : List PV, mapL (fun i => i) l = l
  | [] => by unfold mapL; rfl
  | p :: r => by unfold mapL; rw [mapP_id p, mapL_id r]
end
theorem mapS_id (o : SO) : mapS (fun i => i) o = o := by
  have e : (fun p : PV => mapP (fun i => i) p) = fun p => p := funext mapP_id
  cases o with
  | lst l => show SO.lst (mapL _ l) = _; rw [mapL_id]
  | dk l =>
    show SO.dk (l.map fun q => (q.1, mapP (fun i => i) q.2)) = _
    simp only [mapP_id]
    exact congrArg SO.dk (List.map_id' l)
  | dt l =>
    show SO.dt (l.map fun q => (q.1, mapP (fun i => i) q.2)) = _
    simp only [mapP_id]
    exact congrArg SO.dt (List.map_id' l)
section
variable {T : TX} {ρ : List Addr} {H : Hp} {S : Store}
theorem trim_ok {ρ2 : List Addr} {H' : Hp} {G : Store} {ps : List PV} {xs : List V} (hs : SRep T ρ H S) (st : Step ρ H ρ2 H') (hg : SRep T ρ2 H' G) (r : Reps T ρ2 H' ps xs) :
    ∃ ρn, Step ρ H ρn H' ∧ SRep T ρn H' (trim S.length ps G) ∧ Reps T ρn H' ps xs := by
  unfold trim
  split
  · exact ⟨ρ2, st, hg, r⟩
  · split
    · rename_i hc
      obtain ⟨c1, c2⟩ := Bool.and_eq_true_iff.mp hc
      obtain ⟨more, rfl⟩ := st.pre
      have w := (st.widen fun b hb => hb).2
      have lG : G.length = S.length + more.length := by rw [← hg.len, List.length_append, hs.len]
      have small : ∀ {m : Nat} {b : Addr}, Nat.blt m S.length = true → (ρ ++ more)[m]? = some b → ρ[m]? = some b := fun {m b} hm hb => by
        have hm : m < S.length := Nat.le_of_ble_eq_true hm
        rwa [List.getElem?_append_left (by rw [hs.len]; exact hm)] at hb
      refine ⟨ρ, w, ⟨by rw [List.length_take, hs.len]; omega, hs.nd, fun k a o e1 e2 => ?_, hg.tab⟩, ?_⟩
      · have hk : k < S.length := by rw [← hs.len]; exact (List.getElem?_eq_some_iff.mp e1).1
        rw [List.getElem?_take_of_lt hk] at e2
        have q := (hg.at_ k a o (by rw [List.getElem?_append_left (by rw [hs.len]; exact hk)]; exact e1) e2).ren (f := fun i => i) (ρ' := ρ) fun m hm b hb => by
          have mem : o ∈ G.take S.length := List.mem_of_getElem? (i := k) (by rw [List.getElem?_take_of_lt hk]; exact e2)
          exact small (List.all_eq_true.mp (List.all_eq_true.mp c2 o mem) m hm) hb
        rwa [mapS_id] at q
      · have q := Reps.ren (f := fun i => i) (ρ' := ρ) ps xs (fun m hm b hb => small (List.all_eq_true.mp c1 m hm) hb) r
        rwa [mapL_id] at q
    · exact ⟨ρ2, st, hg, r⟩
end
end EV
/-! The E layer, part V: a def of the text. -/
namespace EV
open PySem PySem.Spec L2
open PyProof.Rows hiding St
section
variable {T : TX} {ρ : List Addr} {H : Hp} {S : Store}
theorem start_ok {N : List Str} {args : List PV} {vs : List V} {np ns : Nat} (r : Reps T ρ H args vs) (hl : args.length = np) (hn : N.length = ns) (hle : np ≤ ns) : EnvRep T ρ H (args.map some ++ List.replicate (ns - np) none) (L2.start N vs) := by
  have lv := r.length
  unfold L2.start
  refine ⟨by simp; omega, fun i p e => ?_⟩
  by_cases hi : i < args.length
  · rw [List.getElem?_append_left (by simpa using hi), List.getElem?_map] at e
    cases q : args[i]? with
    | none => rw [q] at e; cases e
    | some p' =>
      rw [q] at e
      cases e
      obtain ⟨v, ev, rv⟩ := r.get q
      exact ⟨v, by rw [List.getElem?_append_left (by simpa using (by omega : i < vs.length)), List.getElem?_map, ev]; rfl, rv⟩
  · rw [List.getElem?_append_right (by simpa using Nat.le_of_not_lt hi), List.getElem?_replicate] at e
    split at e <;> cases e
theorem mapL_len {f : Nat → Nat} : ∀ l : List PV, (mapL f l).length = l.length
  | [] => rfl
  | p :: l => by unfold mapL; rw [List.length_cons, mapL_len l, List.length_cons]
/-- an exception's record is no place -/
theorem SRep.xd (hs : SRep T ρ H S) {a : Addr} {fs : List (Str × V)} (e : H a = some (.xd fs)) : a ∉ ρ := fun m => by
  obtain ⟨k, hk, ek⟩ := List.getElem_of_mem m
  have e1 : ρ[k]? = some a := by simp [hk, ek]
  have hn : k < S.length := by rw [← hs.len]; exact hk
  have r := hs.at_ k a S[k] e1 (by simp [hn])
  cases q : S[k] with
  | lst l => rw [q] at r; obtain ⟨_, q1, _⟩ := r; rw [e] at q1; cases q1
  | dk l => rw [q] at r; obtain ⟨_, q1, _⟩ := r; rw [e] at q1; cases q1
  | dt l => rw [q] at r; obtain ⟨_, q1, _⟩ := r; rw [e] at q1; cases q1
/-- what the callee's end says, for the caller -/
theorem hcall_fin {E0 : XK} {Q : VK} {run : List PV → Store → Res PV} {ps : List PV} {vs : List V} (hs : SRep T ρ H S) (rp : Reps T ρ H ps vs) (k : Fin T E0 (RP T) ρ H (hcall run ps S) Q) :
    ∃ ρ1 S1 args, SRep T ρ1 H S1 ∧ Reps T ρ1 H args vs ∧ Fin T E0 (RP T) ρ1 H (run args S1) Q := by
  unfold hcall at k
  split at k
  · exact False.elim k
  · rename_i R hr
    obtain ⟨nd, hR, hin⟩ := reach_all hr
    refine ⟨subR ρ R, EV.under S R, mapL (fun m => R.idxOf m) ps, hs.under nd hR, Reps.ren ps vs (fun n hn a ha => ?_) rp, ?_⟩
    · obtain ⟨b, h1, h2⟩ := sub_get hs hR (hin n hn)
      rw [ha] at h1
      cases h1
      exact h2
    · split at k
      · rename_i p G e
        rw [e]
        intro ρ2 H2 v st hg rv
        obtain ⟨ρn, st2, hn, r2⟩ := call_end hs nd hR st hg (.cons rv .nil)
        unfold mapL at r2
        unfold Reps at r2
        obtain ⟨x, t, z, r3, _⟩ := r2
        cases z
        exact k ρn H2 v st2 hn r3
      · rename_i e G he
        rw [he]
        intro ρ2 H2 cls d st hg re
        obtain ⟨⟨c, hc, ec⟩, re⟩ := re
        cases q : e.k with
        | none =>
          rw [q] at re
          rw [q] at k
          obtain ⟨ρn, st2, hn, _⟩ := call_end (ps := []) hs nd hR st hg Reps.nil
          exact k ρn H2 cls d st2 hn ⟨⟨c, hc, ec⟩, re⟩
        | some p =>
          rw [q] at re
          rw [q] at k
          obtain ⟨a, x, f, ed, na, ea, ef, rx⟩ := re
          obtain ⟨ρn, st2, hn, r2⟩ := call_end (ps := [p]) hs nd hR st hg (.cons rx .nil)
          unfold mapL at r2
          unfold Reps at r2
          obtain ⟨x', t, z, r3, _⟩ := r2
          cases z
          exact k ρn H2 cls d st2 hn ⟨⟨c, hc, ec⟩, a, x, f, ed, hn.xd ea, ea, ef, r3⟩
      · exact False.elim k
theorem fcall_fin {E0 : XK} {Q : VK} {run : List PV → Store → Res PV} {ps : List PV} {vs : List V} (hs : SRep T ρ H S) (rp : Reps T ρ H ps vs) (k : Fin T E0 (RP T) ρ H (fcall run ps S) Q) :
    ∃ ρ1 S1 args, SRep T ρ1 H S1 ∧ Reps T ρ1 H args vs ∧ Fin T E0 (RP T) ρ1 H (run args S1) Q := by
  refine ⟨ρ, S, ps, hs, rp, ?_⟩
  unfold fcall at k
  split at k
  · rename_i p G e
    rw [e]
    intro ρ2 H2 v st hg rv
    obtain ⟨ρn, st2, hn, r2⟩ := trim_ok hs st hg (.cons rv .nil)
    unfold Reps at r2
    obtain ⟨x, t, z, r3, _⟩ := r2
    cases z
    exact k ρn H2 v st2 hn r3
  · rename_i e G he
    rw [he]
    intro ρ2 H2 cls d st hg re
    obtain ⟨⟨c, hc, ec⟩, re⟩ := re
    cases q : e.k with
    | none =>
      rw [q] at re
      rw [q] at k
      obtain ⟨ρn, st2, hn, _⟩ := trim_ok (ps := []) hs st hg Reps.nil
      exact k ρn H2 cls d st2 hn ⟨⟨c, hc, ec⟩, by rw [q]; exact re⟩
    | some p =>
      rw [q] at re
      rw [q] at k
      obtain ⟨a, x, f, ed, na, ea, ef, rx⟩ := re
      obtain ⟨ρn, st2, hn, r2⟩ := trim_ok (ps := [p]) hs st hg (.cons rx .nil)
      unfold Reps at r2
      obtain ⟨x', t, z, r3, _⟩ := r2
      cases z
      exact k ρn H2 cls d st2 hn ⟨⟨c, hc, ec⟩, by rw [q]; exact ⟨a, x, f, ed, hn.xd ea, ea, ef, r3⟩⟩
  · exact False.elim k
/-- a call of either kind -/
def xcall (b : Bool) (run : List PV → Store → Res PV) (args : List PV) (S : Store) : Res PV := if b = true then fcall run args S else hcall run args S
theorem xcall_fin {E0 : XK} {Q : VK} {b : Bool} {run : List PV → Store → Res PV} {ps : List PV} {vs : List V} (hs : SRep T ρ H S) (rp : Reps T ρ H ps vs) (k : Fin T E0 (RP T) ρ H (xcall b run ps S) Q) :
    ∃ ρ1 S1 args, SRep T ρ1 H S1 ∧ Reps T ρ1 H args vs ∧ Fin T E0 (RP T) ρ1 H (run args S1) Q := by
  cases b with
  | true => exact fcall_fin hs rp k
  | false => exact hcall_fin hs rp k
/-- .. of a body's end -/
theorem out_fin {E0 : XK} {Q : VK} {r : SRes} (k : Fin T E0 (RP T) ρ H (outOf r) Q) : FinS T (fun cls d _ H => E0 cls d H) ρ H r { nx := fun _ H' => Q .non H', rt := Q } := by
  cases r with
  | next env S => exact fun ρ' H' σ' s hs _ => k ρ' H' .non s hs rep_non
  | ret p S => exact k
  | brk env S => exact False.elim k
  | cont env S => exact False.elim k
  | err e env S => exact fun ρ' H' σ' c d s hs _ re => k ρ' H' c d s hs re
  | bad => exact False.elim k
end
/-! ### a def of the text runs -/
/-- the code object of the def at f -/
def cdOf (K : PySem.W.Frag) (f : Addr) : Option Value := match K.lookup f with
  | some ⟨_, _, .func fd, _⟩ => some fd.code
  | _ => none
section
variable {P : Program} {w : World} {K : PySem.W.Frag} {mg : Str → Option Value} {base : Heap} {A : Around} {x qual : Str} {params : Arguments} {body : List Stmt} {scope : Scope} {f : Addr} {fd : FuncData} {N ps : List Str} {k : Nat} {T : TX}
/-- the body runs in its own frame -/
theorem body_run {CX : CXT} (F : FunD K x qual params body scope [] [] f fd) (Sc : FnScope N ps scope) {outer : List PySem.Env} {s : Shared} {H : Hp} {args : Args} {us : List Value} {vs : List V} {Q : VK} {E0 : XK} (hr : Room (k + 1) A) (e0 : Env0 P w K mg base A outer s H)
    (hb : BindsTo s fd args (ps.zip us)) (r : Vals vs us) (hl : vs.length = ps.length)
    (hbody : ∀ cdv, cdOf K f = some cdv → ∃ t, PSs (cxOf CX P w K mg base N qual scope f cdv A outer s H E0) body t ∧ t { nx := fun _ H' => Q .non H', rt := Q } (L2.start N vs) H) :
    codeAny (model P w) A (.call (.ref f) args) (CR CX outer P w H s Q E0) s := by
  obtain ⟨oc, od, dV, kV, doc, pm, an, cdv, ct, osl, rfl, lk, hcd, _, _⟩ := F.ex
  have kIn : K.In s.heap := e0.mod.kin.keeps fun b o e => (e0.bs b o e).1
  have noLim : s.heap.NoLimit := e0.mod.nolimit.keeps fun b o e => (e0.bs b o e).1
  have kinds : ∀ y ∈ ps.zip us, scope.names.lookup y.1 = some .local ∨ (scope.names.lookup y.1 = some .cell ∧ ((cellsFrom (s.heap.objs.size + 1) scope.names []).lookup y.1).isSome = true) := by
    rintro ⟨n, v⟩ hy
    exact (Sc.par n (List.of_mem_zip hy).1).imp (fun q => q) fun q => ⟨q, PySem.W.cellsFrom_some _ _ _ (.inl q)⟩
  refine codeAny_call_function hr.depth (kIn _ _ lk) rfl Sc.co Sc.gen rfl (PySem.W.codeRec_of kIn hcd) (hb _ _ _ _ (wpAny_newFunctionEnv_cells Sc.kind kinds fun env he s1 z => ?_))
  subst he
  refine ⟨noLim.keeps z.toInCall.keep, codeAny_func ?_⟩
  obtain ⟨t, ht, hq⟩ := hbody cdv (by
    unfold cdOf
    rw [lk])
  have I0 : L2.Inv (cxOf CX P w K mg base N qual scope f cdv A outer s H E0) [] (L2.start N vs) H s1 := inv_start Sc hr.hd e0 hl r z
  refine wpAny_mono (ht.run [] s1 (L2.start N vs) H _ I0 hq) (fun fl s2 hs => ?_) fun _ _ hs => hs
  cases fl with
  | ret u => exact let ⟨v, σ', H', J, rv, q⟩ := hs; ⟨v, H', J.os, J.bare, J.base, J.hok, rv, q⟩
  | next => exact let ⟨σ', H', J, q⟩ := hs; ⟨V.non, H', J.os, J.bare, J.base, J.hok, (rfl : Value.none = Value.none), q⟩
  | brk => exact let ⟨_, _, _, q⟩ := hs; False.elim q
  | cont => exact let ⟨_, _, _, q⟩ := hs; False.elim q
theorem def_at {E : Ev} {fn : EV.Fn} (b : Bool) (F : FunD K x qual params body scope [] [] f fd) (Sc : FnScope N ps scope) (hb : ∀ (s : Shared) (us : List Value), us.length = ps.length → BindsTo s fd ⟨us, []⟩ (ps.zip us)) (hnp : ps.length = fn.np) (hns : N.length = fn.ns) (hr : Room (k + 1) A)
    (hbody : ∀ (outer : List PySem.Env) (s : Shared) (H : Hp) (E0 : XK) (cdv : Value), cdOf K f = some cdv → PSs (cxOf (L2.CX P w) P w K mg base N qual scope f cdv A outer s H E0) body (tS T (fun cls d _ H => E0 cls d H) (evSs E fn.body))) :
    CallAt P w K mg base A T (xcall b (runFn E fn)) f := by
  intro X W eP ew eK em eb eA pass pins s σ H us vs Q ρ S as I r hs rp h
  subst eP ew eK em eb eA
  obtain ⟨ρ1, S1, args, hs1, ra, h1⟩ := xcall_fin hs rp h
  unfold runFn at h1
  split at h1
  · rename_i hl
    have lv : vs.length = ps.length := by rw [← ra.length, hl, hnp]
    have lu : us.length = ps.length := by rw [← r.length, lv]
    have hle : fn.np ≤ fn.ns := by
      rw [← hnp, ← hns]
      have := congrArg List.length Sc.pre
      rw [List.length_take] at this
      omega
    refine wpAny_call (codeAny_mono (body_run (CX := L2.CX X.prog X.w) F Sc hr I.env0 (hb s us lu) r lv (fun cdv hcd => ⟨_, hbody _ s H (WE W σ) cdv hcd, ρ1, S1, _, hs1, start_ok ra hl hns hle, out_fin h1⟩)) fun res s' hq => ?_)
    cases res with
    | error e => exact pass σ pins H s e s' I hq
    | ok fl =>
      cases fl with
      | ret u => exact I.after hq
      | next => exact False.elim hq
      | brk => exact False.elim hq
      | cont => exact False.elim hq
  · exact False.elim h1
end
end EV
/-! The E layer: raise and try, checked. -/
namespace EV
open PySem PySem.Spec L2
open PyProof.Rows hiding St
def nameOk (sg : Sg) : Option Str → Bool
  | none => true
  | some m => (match sg.N.findIdx? (· == m) with
    | some i => decide (sg.N[i]? = some m) && decide (sg.sc.names.lookup m = some .local)
    | none => false)
def nameIx (sg : Sg) (n : Option Str) : Option Nat := n.bind fun m => sg.N.findIdx? (· == m)
def chkSu (G : Gn) (sg : Sg) (h : Hx) (n : Option Str) (st : List Stmt) : Bool := match h with
  | .cst p => (match st with
    | [.Return (some (.Constant c _ _)) _] => cstOk p c
    | [.Return (some (.UnaryOp .USub (.Constant (.int j) _ _) _)) _] => (match p with | .int i => decide (i = -j) | _ => false)
    | _ => false)
  | .isf B x y attr => (match n, st with
    | some m, [.Return (some (.Tuple [.IfExp (.Call (.Name f1 _) [.Name n1 _, .Name nB _] [] _) (.Constant (.int x') _ _) (.Constant (.int y') _ _) _, .Attribute (.Name n2 _) attr' _] _ _)) _] =>
      ((decide (n1 = m) && decide (n2 = m)) && (decide (x' = x) && decide (y' = y))) && ((decide (attr' = attr) && decide (f1 = ("isinstance" : Str))) && ((decide (nB = Str.ofString B) && decide (nB ∈ G.bx)) &&
        (((sg.gl "isinstance" && sg.gl nB) && (decide (bootBuiltins nB = some (.type B)) && dbg nB)) && (decide (nB ≠ "__name__") && ((m == ("__debug__" : Str)) == false && (m == ("__classdict__" : Str)) == false)))))
    | _, _ => false)
  | .isb B => (match n, st with
    | some m, [.Return (some (.Call (.Name f1 _) [.Name n1 _, .Name nB _] [] _)) _] =>
      (decide (n1 = m) && decide (f1 = ("isinstance" : Str))) && ((decide (nB = Str.ofString B) && decide (nB ∈ G.bx)) &&
        (((sg.gl "isinstance" && sg.gl nB) && (decide (bootBuiltins nB = some (.type B)) && dbg nB)) && (decide (nB ≠ "__name__") && ((m == ("__debug__" : Str)) == false && (m == ("__classdict__" : Str)) == false))))
    | _, _ => false)
  | .tup q attr => (match n, st with
    | some m, [.Return (some (.Tuple [.Constant c _ _, .Attribute (.Name n2 _) attr' _] _ _)) _] => (cstOk q c && (decide (n2 = m) && decide (attr' = attr))) && ((m == ("__debug__" : Str)) == false && (m == ("__classdict__" : Str)) == false)
    | _, _ => false)
  | .rep pre attr => (match n, st with
    | some m, [.Return (some (.BinOp (.Constant (.str pre') _ _) .Add (.Call (.Name f1 _) [.Attribute (.Name n2 _) attr' _] [] _) _)) _] =>
      ((decide (pre' = pre) && decide (f1 = ("repr" : Str))) && (sg.gl "repr" && (decide (n2 = m) && decide (attr' = attr)))) && ((m == ("__debug__" : Str)) == false && (m == ("__classdict__" : Str)) == false)
    | _, _ => false)
  | .fld attr => (match n, st with
    | some m, [.Return (some (.Attribute (.Name n2 _) attr' _)) _] => (decide (n2 = m) && decide (attr' = attr)) && ((m == ("__debug__" : Str)) == false && (m == ("__classdict__" : Str)) == false)
    | _, _ => false)
def chkHs (G : Gn) (sg : Sg) : List (Nat × Hx) → List ExceptHandler → Bool
  | [], [] => true
  | (c, h) :: hs, .ExceptHandler (some (.Name x _)) n (st :: sts) _ :: hx => (((match G.exs[c]? with | some (y, _) => decide (y = x) | none => false) && (sg.gl x && dbg x)) && (nameOk sg n && chkSu G sg h n (st :: sts))) && chkHs G sg hs hx
  | _, _ => false
def chkR0 (G : Gn) (sg : Sg) (c : Nat) : Stmt → Bool
  | .Raise (some (.Call (.Name x _) [.Constant (.str _) _ _] [] _)) none _ => decide (G.exs[c]? = some (x, none)) && sg.gl x
  | _ => false
def chkR1 (G : Gn) (sg : Sg) (c : Nat) (e : Ex) : Stmt → Bool
  | .Raise (some (.Call (.Name x _) [a] [] _)) none _ => (match G.exs[c]? with | some (y, some _) => decide (y = x) | _ => false) && (sg.gl x && (noStar a && chkE G sg false e a))
  | _ => false
/-- raise, try -/
def xtE (G : Gn) : Sg → Xtra := fun sg s st => match s with
  | .rai c .no => chkR0 G sg c st
  | .rai c (.so e) => chkR1 G sg c e st
  | .tr _ hs => (match st with | .Try _ (h :: hx) [] [] _ => chkHs G sg hs (h :: hx) | _ => false)
  | _ => false
section
variable {G : Gn} {sg : Sg} {X : Cx} {P : Prog} {T : TX} {E : Ev} {W : WX} {gd : Bool}
theorem hand_evK (P : Prog) (k : Nat) (gd : Bool) : (evK P k gd).hand = handOf P gd := by
  unfold evK
  split <;> rfl
theorem gl_evK (P : Prog) (k : Nat) (gd : Bool) : (evK P k gd).gl = P.gl := by
  unfold evK
  split <;> rfl
theorem gd_evK (P : Prog) (k : Nat) (gd : Bool) : (evK P k gd).gd = gd := by
  unfold evK
  split <;> rfl
theorem name_ok {m : Str} (h : nameOk sg (some m) = true) : ∃ i, nameIx sg (some m) = some i ∧ sg.N[i]? = some m ∧ sg.sc.names.lookup m = some .local := by
  have h : (match sg.N.findIdx? (· == m) with
    | some i => decide (sg.N[i]? = some m) && decide (sg.sc.names.lookup m = some .local)
    | none => false) = true := h
  split at h
  · rename_i i e
    obtain ⟨h1, h2⟩ := and2 h
    exact ⟨i, e, of_decide_eq_true h1, of_decide_eq_true h2⟩
  · cases h
theorem su_ok (t : TryOk P T) (o : On G sg X T E W) (hgd : gd = true → X.A.guards = some []) {h : Hx} {n : Option Str} {st : List Stmt} (hn : nameOk sg n = true) (hc : chkSu G sg h n st = true) {a : Addr} {ob : Obj} {cls : Value} {d : Option Addr} {pn : List (Addr × Obj)} (hz : Zc cls d ob) (hf : ∃ vs, ob.data = .fields vs) :
    PSs (X.suite a ((a, ob) :: pn)) st (tsX P gd T h (nameIx sg n) a cls d) := by
  unfold chkSu at hc
  split at hc
  · rename_i p
    split at hc
    · obtain ⟨v, h1, h2⟩ := cst_ok (X := X.suite a ((a, ob) :: pn)) (T := T) hc
      exact su_cst h1 h2
    · split at hc
      · rename_i i
        obtain rfl := of_decide_eq_true hc
        refine su_cst (v := .int _) (pe_imp (pe_un un_neg pe_int) ?_) (fun _ _ => rep_int)
        intro σ H Q q
        exact ⟨_, rfl, q⟩
      · cases hc
    · cases hc
  · rename_i B x y attr
    split at hc
    · rename_i m f1 p1 n1 p2 nB p3 p4 x' j1 p5 y' j2 p6 p7 n2 p8 attr' p9 kk pos2 pos
      obtain ⟨g1, g2⟩ := and2 hc
      obtain ⟨g1, g3⟩ := and2 g1
      obtain ⟨k1, k2⟩ := and2 g1
      obtain ⟨k3, k4⟩ := and2 g3
      obtain ⟨g2, g4⟩ := and2 g2
      obtain ⟨k5, k6⟩ := and2 g2
      obtain ⟨g4, g5⟩ := and2 g4
      obtain ⟨k7, k8⟩ := and2 g4
      obtain ⟨g5, g6⟩ := and2 g5
      obtain ⟨g5, g7⟩ := and2 g5
      obtain ⟨k9, k10⟩ := and2 g5
      obtain ⟨k11, k12⟩ := and2 g7
      obtain ⟨k13, g8⟩ := and2 g6
      obtain ⟨k14, k15⟩ := and2 g8
      clear g1 g2 g3 g4 g5 g6 g7 g8 hc
      have k1 := of_decide_eq_true k1
      have k2 := of_decide_eq_true k2
      have k3 := of_decide_eq_true k3
      have k4 := of_decide_eq_true k4
      have k5 := of_decide_eq_true k5
      have k6 := of_decide_eq_true k6
      have k7 := of_decide_eq_true k7
      have k8 := of_decide_eq_true k8
      have k11 := of_decide_eq_true k11
      have k13 := of_decide_eq_true k13
      subst k1 k3 k4 k5 k6 k7
      subst k2
      obtain ⟨i, ei, h1, h2⟩ := name_ok hn
      rw [ei]
      simp only [dbg, Bool.and_eq_true, Bool.not_eq_true'] at k12
      exact su_isf o.K t (by rw [o.N]; exact h1) (.inl (by rw [o.sc]; exact h2)) (by simpa using k14) (by simpa using k15) (o.gl k9) (o.blt _ (by decide)) (o.gl k10) (o.blx _ k8) k11 k13 k12.1 hz hf
    · cases hc
  · rename_i B
    split at hc
    · rename_i m f1 p1 n1 p2 nB p3 p4 pos
      obtain ⟨g1, g2⟩ := and2 hc
      obtain ⟨k1, k6⟩ := and2 g1
      obtain ⟨g4, g5⟩ := and2 g2
      obtain ⟨k7, k8⟩ := and2 g4
      obtain ⟨g5, g6⟩ := and2 g5
      obtain ⟨g5, g7⟩ := and2 g5
      obtain ⟨k9, k10⟩ := and2 g5
      obtain ⟨k11, k12⟩ := and2 g7
      obtain ⟨k13, g8⟩ := and2 g6
      obtain ⟨k14, k15⟩ := and2 g8
      clear g1 g2 g4 g5 g6 g7 g8 hc
      have k1 := of_decide_eq_true k1
      have k6 := of_decide_eq_true k6
      have k7 := of_decide_eq_true k7
      have k8 := of_decide_eq_true k8
      have k11 := of_decide_eq_true k11
      have k13 := of_decide_eq_true k13
      subst k1 k6 k7
      obtain ⟨i, ei, h1, h2⟩ := name_ok hn
      rw [ei]
      simp only [dbg, Bool.and_eq_true, Bool.not_eq_true'] at k12
      exact su_isb o.K t (by rw [o.N]; exact h1) (.inl (by rw [o.sc]; exact h2)) (by simpa using k14) (by simpa using k15) (o.gl k9) (o.blt _ (by decide)) (o.gl k10) (o.blx _ k8) k11 k13 k12.1 hz hf
    · cases hc
  · rename_i q attr
    split at hc
    · rename_i m c j0 p0 n2 p8 attr' p9 kk pos2 pos
      obtain ⟨g1, g2⟩ := and2 hc
      obtain ⟨k0, g1⟩ := and2 g1
      obtain ⟨k1, k2⟩ := and2 g1
      obtain ⟨k14, k15⟩ := and2 g2
      clear g1 g2 hc
      have k1 := of_decide_eq_true k1
      have k2 := of_decide_eq_true k2
      subst k1 k2
      obtain ⟨i, ei, h1, h2⟩ := name_ok hn
      rw [ei]
      obtain ⟨v0, he, hv⟩ := cst_ok (X := X.suite a ((a, ob) :: pn)) (T := T) k0
      exact su_tup o.K t he hv (by rw [o.N]; exact h1) (.inl (by rw [o.sc]; exact h2)) (by simpa using k14) (by simpa using k15) hz hf
    · cases hc
  · rename_i pre attr
    split at hc
    · rename_i m pre' j0 p0 f1 p1 n2 p8 attr' p9 p4 pos2 pos
      obtain ⟨g1, g2⟩ := and2 hc
      obtain ⟨k0, g1⟩ := and2 g1
      obtain ⟨k0, k3⟩ := and2 k0
      obtain ⟨k4, g1⟩ := and2 g1
      obtain ⟨k1, k2⟩ := and2 g1
      obtain ⟨k14, k15⟩ := and2 g2
      clear g1 g2 hc
      have k0 := of_decide_eq_true k0
      have k1 := of_decide_eq_true k1
      have k2 := of_decide_eq_true k2
      have k3 := of_decide_eq_true k3
      subst k0 k1 k2 k3
      obtain ⟨i, ei, h1, h2⟩ := name_ok hn
      rw [ei]
      exact su_rep o.K hgd o.un t (by rw [o.N]; exact h1) (.inl (by rw [o.sc]; exact h2)) (by simpa using k14) (by simpa using k15) (o.gl k4) (o.blt _ (by decide)) hz hf
    · cases hc
  · rename_i attr
    split at hc
    · rename_i m n2 p8 attr' p9 pos
      obtain ⟨g1, g2⟩ := and2 hc
      obtain ⟨k1, k2⟩ := and2 g1
      obtain ⟨k14, k15⟩ := and2 g2
      clear g1 g2 hc
      have k1 := of_decide_eq_true k1
      have k2 := of_decide_eq_true k2
      subst k1 k2
      obtain ⟨i, ei, h1, h2⟩ := name_ok hn
      rw [ei]
      exact su_fld o.K t (by rw [o.N]; exact h1) (.inl (by rw [o.sc]; exact h2)) (by simpa using k14) (by simpa using k15) hz hf
    · cases hc
theorem hs_ok (t : TryOk P T) (o : On G sg X T E W) (hgd : gd = true → X.A.guards = some []) : ∀ (hs : List (Nat × Hx)) (hx : List ExceptHandler), chkHs G sg hs hx = true → ∃ ks, ClsOk X hx ks ∧ HsRel P T gd hs ks
  | [], [], _ => ⟨[], .nil, .nil⟩
  | [], _ :: _, h => by unfold chkHs at h; cases h
  | (c, h0) :: hs, hx, h => by
    unfold chkHs at h
    split at h
    · rename_i e; cases e
    · rename_i c' h' hs' x np n st sts hp hx' e
      cases e
      obtain ⟨g1, g2⟩ := and2 h
      obtain ⟨g1, g3⟩ := and2 g1
      obtain ⟨g1, g4⟩ := and2 g1
      obtain ⟨g4, g5⟩ := and2 g4
      obtain ⟨g6, g7⟩ := and2 g3
      split at g1
      · rename_i y k hy
        obtain rfl := of_decide_eq_true g1
        obtain ⟨C, hC, _, ec⟩ := o.exc c y k hy
        obtain ⟨ks, h1, h2⟩ := hs_ok t o hgd hs hx' g2
        refine ⟨⟨.ref C, nameIx sg n, tsX P gd T h0 (nameIx sg n)⟩ :: ks, .cons ⟨o.gl g4, ec.nd, .inl ec.at_⟩ ?_ (fun a ob cls d pn hz hf => su_ok t o hgd g6 g7 hz hf) h1, .cons hC h2⟩
        cases n with
        | none => exact True.intro
        | some m =>
          obtain ⟨i, ei, h1, h2⟩ := name_ok g6
          show ClName X (nameIx sg (some m)) (some m)
          rw [ei]
          refine ⟨by rw [o.N]; exact h1, ?_⟩
          unfold Env.kindOf
          rw [o.sc]
          exact h2
      · cases g1
    · cases h
theorem xtE_ok (t : TryOk P T) (k : Nat) : XtOk G T (evK P k gd) (xtE G) where
  rai := by
    intro sg X W c e st h hf o
    cases e with
    | no =>
      have h : chkR0 G sg c st = true := h
      unfold chkR0 at h
      split at h
      · obtain ⟨h1, h2⟩ := and2 h
        exact s_rai0 o hf (of_decide_eq_true h1) h2
      · cases h
    | so e =>
      have h : chkR1 G sg c e st = true := h
      unfold chkR1 at h
      split at h
      · obtain ⟨h1, h2⟩ := and2 h
        obtain ⟨h2, h3⟩ := and2 h2
        obtain ⟨h3, h4⟩ := and2 h3
        split at h1
        · rename_i y f hy
          obtain rfl := of_decide_eq_true h1
          exact s_rai1 o hf hy h2 (okE e h4 o) h3
        · cases h1
      · cases h
  tr := by
    intro sg X W b hs xs hx pos hb h hf o
    have h : (match (Stmt.Try [] hx [] [] pos) with | .Try _ (h :: hx) [] [] _ => chkHs G sg hs (h :: hx) | _ => false) = true := h
    cases hx with
    | nil => cases h
    | cons h0 hx =>
      have h : chkHs G sg hs (h0 :: hx) = true := h
      obtain ⟨ks, h1, h2⟩ := hs_ok (gd := gd) t o (fun z => o.gd (by rw [gd_evK]; exact z)) hs (h0 :: hx) h
      exact s_try t (by rw [hand_evK, gd_evK]) o hf hb h1 (by rw [gd_evK]; exact h2)
end
end EV
/-! The E layer: a lambda without parameters, handed to a def that calls it within try. -/
namespace EV
open PySem PySem.Spec L2
open PyProof.Rows hiding St
open LamX (CodeO TabS Tabs TabB LamS lamEnv lamCx)
/-- nothing but a table has grown, by a new code object -/
def Grown (H H1 : Hp) : Prop := H1 = H ∨ ∃ t ps more c q, H t = some (.tbl ps) ∧ H c = none ∧ H1 = upd (upd H t (.tbl (ps ++ more))) c (CodeO c q)
section
variable {T : TX} {ρ : List Addr} {H H1 : Hp} {S : Store}
theorem Grown.step (g : Grown H H1) : Step ρ H ρ H1 := by
  rcases g with rfl | ⟨t, ps, more, c, q, h1, h2, rfl⟩
  · exact Step.refl
  · have tc : t ≠ c := ne_of_none h1 h2
    have away : ∀ {b : Addr} {o : HO}, H b = some o → (∀ z, o ≠ .tbl z) → upd (upd H t (.tbl (ps ++ more))) c (CodeO c q) b = some o := fun {b o} e n => by
      rw [upd_ne (ne_of_none e h2), upd_ne fun z => by rw [z, h1] at e; exact n _ (Option.some.inj e).symm]
      exact e
    refine ⟨⟨[], by simp⟩, fun b h n => absurd h n, fun b o e _ n => away e n, fun b z e _ => ?_, fun b xs e => away e (fun _ q => by cases q), fun b o u e => away e (fun _ q => by cases q)⟩
    by_cases hb : b = t
    · subst hb
      rw [h1] at e
      cases e
      exact ⟨more, by rw [upd_ne tc, upd_same]⟩
    · exact ⟨#[], by rw [upd_ne (ne_of_none e h2), upd_ne hb]; simpa using e⟩
theorem Grown.srep (g : Grown H H1) (h : SRep T ρ H S) (t : Tabs T.tabs H1) : SRep T ρ H1 S := by
  refine ⟨h.len, h.nd, fun k b u e1 e2 => ?_, t⟩
  have st : Step ρ H ρ H1 := g.step
  have same : ∀ o, H b = some o → Plain1 o → H1 b = some o := fun o e p => by
    rcases g with rfl | ⟨t, ps, more, c, q, h1, h2, rfl⟩
    · exact e
    · rw [upd_ne (ne_of_none e h2), upd_ne fun z => by rw [z, h1] at e; exact p.1 _ (Option.some.inj e).symm]
      exact e
  have r := h.at_ k b u e1 e2
  cases u with
  | lst l => exact let ⟨xs, q, r⟩ := r; ⟨xs, same _ q plain_lst, Reps.step st _ _ r⟩
  | dk l => exact let ⟨xs, q, r⟩ := r; ⟨xs, same _ q plain_dk, r.step st⟩
  | dt l => exact let ⟨xs, q, r⟩ := r; ⟨xs, same _ q plain_dt, r.step st⟩
end
section
variable {X : Cx} {pins : List (Addr × Obj)} {σ : L2.St} {H HZ : Hp} {s s1 : Shared}
/-- the lambda is made -/
theorem lam_new {L : List (Addr × Str)} {c t : Addr} {params : Arguments} {body : Expr} {scope : Scope} {pos : Pos} {E : Value → Shared → Prop} {Q : Value → Shared → Prop} (I : L2.Inv X pins σ H s) (TB : TabB X.base X.mg c t) (hc : X.env.code = .ref c)
    (hm : (t, X.env.qual ++ "<lambda>") ∈ L) (hu : ∀ p ∈ L, p.1 = t → p.2 = X.env.qual ++ "<lambda>") (hT : Tabs L H) (hdef : defaultsOf params X.env = ([], [])) (hfree : ∀ y ∈ scope.names, y.2 = .free → ∃ c, X.env.cells.lookup y.1 = some c)
    (h : ∀ (f c' : Addr) (pm ctv : Value) (H1 : Hp) (s' : Shared), L2.Inv X pins σ H1 s' → Grown H H1 → Tabs L H1 →
      s'.heap.get? f = some (PySem.W.kla_obj "<lambda>" (X.env.qual ++ "<lambda>") params body scope (cloFrom X.env.cells scope.names []) pm c' ctv) → H1 f = none → f ∉ frs X.stack → H1 c' = some (CodeO c' (X.env.qual ++ "<lambda>")) → Q (.ref f) s') :
    wpAny (model X.prog X.w) X.A (eval (.Lambda params body scope pos) X.env) Q E s := by
  obtain ⟨ps, tH, tri, among⟩ := hT _ hm
  refine PySem.W.kla_eval hdef ?_
  have blt : s.heap.BuiltinsAt X.mg t := TB.bm.keeps I.bk
  have tO : s.heap.get? t = some { cls := .none, data := .fields ps } := I.hok t _ tH
  have nofr : ∀ f, s.heap.objs.size ≤ f → f ∉ frs X.stack := fun f hf z => by
    rcases List.mem_cons.mp (I.stkSub _ z) with e | e
    · have lt := I.lt
      rw [← e] at lt
      exact Nat.lt_irrefl _ (Nat.lt_of_lt_of_le lt hf)
    · exact I.nofs hf e
  cases hit : codeAmong pos ps.toList with
  | some cv =>
    obtain ⟨c', e, known⟩ := among pos cv hit
    subst e
    refine PySem.W.kla_makeFunctionHit (mg := X.mg) (c := c) (P := t) (ps := ps) (closure_ok hfree) I.ok.glob (I.mod.glob.keeps I.bk) hc (TB.code.keeps I.bk) tO tri hit blt fun ctv h' tk keep big => ?_
    have J : L2.Inv X pins σ H { s with heap := h'.push (PySem.W.kla_obj "<lambda>" (X.env.qual ++ "<lambda>") params body scope (cloFrom X.env.cells scope.names []) ((X.mg "__name__").getD .none) c' ctv), toks := tk } :=
      I.kept fun b o e => Heap.get?_push_of_some _ (keep b o e)
    exact h h'.objs.size c' _ ctv H _ J (.inl rfl) hT (Heap.get?_push_size _ rfl) (I.hok.fresh big) (nofr _ big) known
  | none =>
    refine PySem.W.kla_makeFunction (mg := X.mg) (c := c) (P := t) (ps := ps) (closure_ok hfree) I.ok.glob (I.mod.glob.keeps I.bk) hc (TB.code.keeps I.bk) tO tri hit TB.gP blt fun c' ctv h' tk keep new lt recd grown => ?_
    obtain ⟨c2, oc, vs, tt, e2, at2, dat2, nm2⟩ := recd
    cases e2
    have big : s.heap.objs.size ≤ h'.objs.size := Nat.le_trans new (Nat.le_of_lt lt)
    have cN : H c' = none := I.hok.fresh new
    have tc : t ≠ c' := ne_of_none tH cN
    have J := LamX.inv_table (t' := tk) (more := #[rawInt pos.line, rawInt pos.col, .ref c']) (h' := h'.push (PySem.W.kla_obj "<lambda>" (X.env.qual ++ "<lambda>") params body scope (cloFrom X.env.cells scope.names []) ((X.mg "__name__").getD .none) c' ctv)) I tH
      (fun b o hb e => Heap.get?_push_of_some _ (keep b o hb e)) (Heap.get?_push_of_some _ grown) new ⟨oc, vs, tt, Heap.get?_push_of_some _ at2, dat2, nm2⟩
    have gr : Grown H (upd (upd H t (.tbl (ps ++ #[rawInt pos.line, rawInt pos.col, .ref c']))) c' (CodeO c' (X.env.qual ++ "<lambda>"))) := .inr ⟨t, ps, _, c', _, tH, cN, rfl⟩
    have codes : ∀ {b : Addr} {q : Str}, H b = some (CodeO b q) → upd (upd H t (.tbl (ps ++ #[rawInt pos.line, rawInt pos.col, .ref c']))) c' (CodeO c' (X.env.qual ++ "<lambda>")) b = some (CodeO b q) := fun {b q} e => by
      rw [upd_ne (ne_of_none e cN), upd_ne fun z => by rw [z, tH] at e; exact LamX.codeO_ne ps (Option.some.inj e).symm]
      exact e
    refine h h'.objs.size c' _ ctv _ _ J gr (fun p hp => ?_) (Heap.get?_push_size _ rfl) ?_ (nofr _ big) upd_same
    · by_cases hb : p.1 = t
      · rw [hu p hp hb, hb]
        have eL : (ps ++ #[rawInt pos.line, rawInt pos.col, .ref c']).toList = ps.toList ++ [rawInt pos.line, rawInt pos.col, .ref c'] := by simp
        refine ⟨_, by rw [upd_ne tc, upd_same], by rw [eL]; exact PySem.TriplesOk_snoc _ _ _ _ tri, fun p' cv ha => ?_⟩
        rw [eL] at ha
        rcases LamX.among_app _ tri ha with z | z
        · obtain ⟨c0, e1, e2⟩ := among p' cv z
          exact ⟨c0, e1, codes e2⟩
        · exact ⟨c', z, upd_same⟩
      · obtain ⟨ps', a1, a2, a3⟩ := hT p hp
        refine ⟨ps', by rw [upd_ne (ne_of_none a1 cN), upd_ne hb]; exact a1, a2, fun p' cv ha => ?_⟩
        obtain ⟨c0, e1, e2⟩ := a3 p' cv ha
        exact ⟨c0, e1, codes e2⟩
    · rw [upd_ne (Nat.ne_of_gt lt), upd_ne (Nat.ne_of_gt (Nat.lt_of_lt_of_le (Heap.lt_size tO) big))]
      exact I.hok.fresh big
/-- x(), in the def that got the lambda (its context entered at s), at the slots σ0 -/
theorem lam_act {CXg : CXT} {Eg : XK} {Ng : List Str} {qg : Str} {sg : Scope} {g f c' : Addr} {cdg pm ctv : Value} {params : Arguments} {body : Expr} {scope : Scope} {k i : Nat} {a : Str} {pn : List (Addr × Obj)} {xe : Value → Shared → Prop} {E : XK} {tb : TE} {p1 p2 : Pos} {σ0 : L2.St}
    (I : L2.Inv X pins σ H s) (L : LamS X.env.scope scope) (hf : s.heap.get? f = some (PySem.W.kla_obj "<lambda>" (X.env.qual ++ "<lambda>") params body scope (cloFrom X.env.cells scope.names []) pm c' ctv)) (hfn : H f = none) (hfr : f ∉ frs X.stack)
    (hbind : bindArgs (PySem.W.kla_fn "<lambda>" (X.env.qual ++ "<lambda>") params body scope (cloFrom X.env.cells scope.names []) pm (.ref c') ctv) ⟨[], []⟩ = pure [])
    (hx : PassesAt (L2.CX X.prog X.w) ((cxOf CXg X.prog X.w X.K X.mg X.base Ng qg sg g cdg X.A X.stack s H Eg).tr pn xe) σ0 E) (hr : Room (k + 1) (X.A.deeper (envOfC qg sg s.heap.objs.size g cdg)))
    (hbody : ∀ (A : Around) (outer : List PySem.Env) (s : Shared) (H : Hp), A.guards = X.A.guards → Room k (A.deeper (lamEnv X scope s.heap.objs.size f c')) → PE (lamCx X A outer s H E scope f c') body tb)
    (hN : Ng[i]? = some a) (hv : Vis sg a) (hd : (a == ("__debug__" : Str)) = false) (hcd : (a == ("__classdict__" : Str)) = false) :
    PE ((cxOf CXg X.prog X.w X.K X.mg X.base Ng qg sg g cdg X.A X.stack s H Eg).tr pn xe) (.Call (.Name a p1) [] [] p2)
      (fun σZ HZ Q => σZ = σ0 ∧ σZ[i]? = some (some (.ref f)) ∧ HZ c' = some (CodeO c' (X.env.qual ++ "<lambda>")) ∧ tb σ HZ Q) := by
  refine ⟨fun pz sz σZ HZ Q IZ h => ?_⟩
  obtain ⟨e0, at0, hco, ht⟩ := h
  subst e0
  have pv := (pe_var (X := (cxOf CXg X.prog X.w X.K X.mg X.base Ng qg sg g cdg X.A X.stack s H Eg).tr pn xe) (pos := p1) (i := i) hN hv hd hcd).run pz sz σZ HZ (fun v H1 => v = .ref f ∧ H1 = HZ) IZ ⟨.ref f, at0, rfl, rfl⟩
  refine wpAny_Call_Name_kw (thn pv fun u s1 ⟨v, H1, I1, r1, q1⟩ => ?_)
  obtain ⟨e1, e2⟩ := q1
  subst e1 e2
  have eu : u = Value.ref f := r1
  subst eu
  have fo : s1.heap.get? f = some (PySem.W.kla_obj "<lambda>" (X.env.qual ++ "<lambda>") params body scope (cloFrom X.env.cells scope.names []) pm c' ctv) := I1.base.keep f _ hf hfn hfr (fun z => nomatch (show f ∈ ([] : List Addr) from z))
  refine PySem.W.callWith_F0 ⟨_, _, _, _, fo⟩ ?_
  have un : Un (frs X.stack) [] H H1 s.heap s1.heap := I1.base
  obtain ⟨⟨oc, vs, t, hoc, hdc, hvc⟩, _, _⟩ := I1.hok c' _ hco
  have rc : codeAny (model X.prog X.w) (X.A.deeper (envOfC qg sg s.heap.objs.size g cdg)) (.call (.ref f) ⟨[], []⟩) (CR (L2.CX X.prog X.w) (envOfC qg sg s.heap.objs.size g cdg :: X.stack) X.prog X.w H1 s1 Q E) s1 := by
    refine PySem.W.kla_callFunE hr.depth fo rfl L.co L.gen rfl ⟨c', oc, vs, t, rfl, hoc, hdc, hvc⟩ ?_
    rw [hbind]
    refine wpAny_pure (wpAny_newFunctionEnv (fun y hy => (L.own y hy).2) (fun y hy => absurd hy (by simp)) (fun h₁ hns hsb => ⟨I1.nolimit.fresh _ hsb, ?_⟩) L.kind)
    show codeAny _ _ (.expr body (lamEnv X scope s1.heap.objs.size f c')) _ _
    have keep : ∀ b o, s1.heap.get? b = some o → h₁.get? b = some o := fun b o e => hsb.extBut b o (Nat.ne_of_lt (Heap.lt_size e)) (Heap.get?_push_of_some _ e)
    have J : L2.Inv (lamCx X (X.A.deeper (envOfC qg sg s.heap.objs.size g cdg)) (envOfC qg sg s.heap.objs.size g cdg :: X.stack) s1 H1 E scope f c') [] σ H1 { s1 with heap := h₁, toks := s1.toks + ([] : List (Str × Value)).length } :=
      LamX.lam_start2 I L I1.env0 hr.hd un hns keep
    refine PySem.W.kla_codeExpr (wpAny_mono ((hbody (X.A.deeper (envOfC qg sg s.heap.objs.size g cdg)) _ s1 H1 rfl (hr.deeper _)).run [] _ _ H1 Q J ht) (fun v s' hq => ?_) fun e s' hq => hq)
    obtain ⟨w', H', J', rv, q⟩ := hq
    exact ⟨w', H', J'.os, J'.bare, J'.base, J'.hok, rv, q⟩
  refine wpAny_call (codeAny_mono rc fun r s' hq => ?_)
  cases r with
  | error e => exact hx pz H1 s1 e s' I1 hq
  | ok fl =>
    cases fl with
    | ret u => exact I1.after hq
    | next => exact False.elim hq
    | brk => exact False.elim hq
    | cont => exact False.elim hq
end
end EV
/-! The E layer, part W: the whole text. -/
namespace EV
open PySem PySem.Spec L2
open PyProof.Rows hiding St
open LamX (CodeO TabS Tabs TabB LamS lamEnv lamCx)

/-- a def of the row: its name, where its row stands, the slots' names, the parameters -/
structure DefS where
  name : Str
  qual : Str
  params : Arguments
  body : List Stmt
  scope : Scope
  N : List Str
  ps : List Str
  /-- lambdas stand in it -/
  lam : Bool := false
def sgOf (d : DefS) : Sg := ⟨d.N, d.scope, none, true, d.lam⟩
/-- what a def must be -/
def scopeOk (d : DefS) : Bool := (isFn d.scope && (!d.scope.isCoroutine && !d.scope.isGenerator)) && ((decide d.N.Nodup && decide (d.N.take d.ps.length = d.ps)) &&
  ((d.ps.all fun x => decide (d.scope.names.lookup x = some .local) || decide (d.scope.names.lookup x = some .cell)) && d.scope.names.all fun y => decide (y.2 ≠ .free)))
theorem scope_ok {d : DefS} (h : scopeOk d = true) : FnScope d.N d.ps d.scope := by
  unfold scopeOk at h
  obtain ⟨h1, h⟩ := and2 h
  obtain ⟨h1, h2⟩ := and2 h1
  obtain ⟨h2, h3⟩ := and2 h2
  obtain ⟨h4, h⟩ := and2 h
  obtain ⟨h4, h5⟩ := and2 h4
  obtain ⟨h6, h7⟩ := and2 h
  refine ⟨isFn_ok h1, by simpa using h2, by simpa using h3, of_decide_eq_true h4, of_decide_eq_true h5, fun x hx => ?_, fun y hy => of_decide_eq_true (List.all_eq_true.mp h7 y hy)⟩
  have := List.all_eq_true.mp h6 x hx
  rw [Bool.or_eq_true] at this
  exact this.imp of_decide_eq_true of_decide_eq_true
/-- the body of a def that takes a thunk -/
def chkMet (G : Gn) (sg : Sg) (body : List Stmt) (hs : List (Nat × Hx)) (p : PV) : Bool := match body with
  | [.Try [.Expr (.Call (.Name a _) [] [] _) _] (h :: hx) [] [] _, .Return (some (.Constant c _ _)) _] => (decide (sg.N[0]? = some a) && (sg.vis a && dbg a)) && ((!sg.lam && chkHs G sg hs (h :: hx)) && cstOk p c)
  | _ => false
/-- the def's row against its text -/
def chkDef (G : Gn) (xt : Sg → Xtra) (d : DefS) (fn : EV.Fn) : Bool := match metS fn.body with
  | some (hs, p) => (scopeOk d && decide (d.ps.length = 1)) && chkMet G (sgOf d) d.body hs p
  | none => (scopeOk d && (decide (d.ps.length = fn.np) && decide (d.N.length = fn.ns))) && chkSs G xt (sgOf d) fn.body d.body
def chkDefs (G : Gn) (xt : Sg → Xtra) : List DefS → List EV.Fn → Bool
  | [], [] => true
  | d :: D, f :: F => chkDef G xt d f && chkDefs G xt D F
  | _, _ => false
theorem chk_at {G : Gn} {xt : Sg → Xtra} : ∀ {D : List DefS} {F : List EV.Fn}, chkDefs G xt D F = true → ∀ (i : Nat) (d : DefS) (f : EV.Fn), D[i]? = some d → F[i]? = some f → chkDef G xt d f = true
  | [], _, _, i, d, f, e, _ => by simp at e
  | _ :: _, [], h, _, _, _, _, _ => by cases h
  | d0 :: D, f0 :: F, h, i, d, f, e1, e2 => by
    unfold chkDefs at h
    obtain ⟨h1, h2⟩ := and2 h
    cases i with
    | zero => simp at e1 e2; subst e1 e2; exact h1
    | succ i => simp at e1 e2; exact chk_at h2 i d f e1 e2
/-- a def stands in the text -/
structure DefIn (K : PySem.W.Frag) (mg : Str → Option Value) (d : DefS) : Prop where
  ex : ∃ f fd, mg d.name = some (.ref f) ∧ FunD K d.name d.qual d.params d.body d.scope [] [] f fd ∧ ∀ (s : Shared) (us : List Value), us.length = d.ps.length → BindsTo s fd ⟨us, []⟩ (d.ps.zip us)
def addrOf (mg : Str → Option Value) (D : List DefS) (i : Nat) : Option Addr := (D[i]?).bind fun d => match mg d.name with
  | some (.ref f) => some f
  | _ => none
def bltN : List Str := ["len", "abs", "max", "min", "int", "all", "any", "sum", "sorted", "tuple", "list", "repr", "isinstance", "range", "enumerate", "zip", "bool", "str", "dict"]
/-- what is known of the text -/
structure TextOk (G : Gn) (D : List DefS) (P : Prog) (Pr : Program) (K : PySem.W.Frag) (mg : Str → Option Value) (T : TX) : Prop where
  tk : T.K = K
  fa : T.fa = addrOf mg D
  names : G.fn = D.map (·.name)
  defs : ∀ (i : Nat) (d : DefS), D[i]? = some d → DefIn K mg d
  blt : ∀ x ∈ bltN, mg x = none
  blx : ∀ x ∈ G.bx, mg x = none
  exc : ∀ (c : Nat) (x : Str) (k : Option Str), G.exs[c]? = some (x, k) → ∃ C, T.ca c = some C ∧ T.fl c = k ∧ ExC Pr K mg x C k
  glo : ∀ (k : Nat) (x : Str) (p : PV), G.gl[k]? = some x → P.gl[k]? = some p → ∃ u v, mg x = some u ∧ RelV v u ∧ ∀ ρ H, Rep T ρ H p v
theorem call_evK (P : Prog) (k : Nat) (gd : Bool) (f : Nat) : (evK P (k + 1) gd).call f = callOf P (evK P k gd) f := by
  cases k with
  | zero => rfl
  | succ k =>
    cases k with
    | zero => rfl
    | succ k => rfl
/-- the tables of the defs in which lambdas stand -/
abbrev TabFor (base : Heap) (mg : Str → Option Value) (T : TX) (q : Str) (cdv : Value) : Prop := ∃ c t, cdv = .ref c ∧ TabB base mg c t ∧ (t, q) ∈ T.tabs ∧ ∀ p ∈ T.tabs, p.1 = t → p.2 = q
abbrev lamQ (d : DefS) : Str := (envOfC d.qual d.scope 0 0 .none).qual ++ "<lambda>"
def TabsAt (D : List DefS) (K : PySem.W.Frag) (mg : Str → Option Value) (base : Heap) (T : TX) : Prop := ∀ (i : Nat) (d : DefS), D[i]? = some d → d.lam = true → ∀ (a : Addr) (cdv : Value), mg d.name = some (.ref a) → cdOf K a = some cdv → TabFor base mg T (lamQ d) cdv
section
variable {G : Gn} {D : List DefS} {P : Prog} {Pr : Program} {w : World} {K : PySem.W.Frag} {mg : Str → Option Value} {base : Heap} {T : TX} {xt : Sg → Xtra} {gd : Bool}
theorem on_def {E : Ev} {k : Nat} {d : DefS} {f : Addr} {A : Around} {outer : List PySem.Env} {s : Shared} {H : Hp} {E0 : XK} {cdv : Value} (tx : TextOk G D P Pr K mg T) (Sc : FnScope d.N d.ps d.scope) (hgl : E.gl = P.gl) (hr : Room k (A.deeper (envOfC d.qual d.scope s.heap.objs.size f cdv)))
    (hg : E.gd = true → A.guards = some [])
    (ih2 : ∀ (i : Nat) (d' : DefS), D[i]? = some d' → ∀ a, mg d'.name = some (.ref a) → CallAt Pr w K mg base (A.deeper (envOfC d.qual d.scope s.heap.objs.size f cdv)) T (E.call i) a)
    (lm : ∀ (i : Nat) (d' : DefS), D[i]? = some d' → LamAt G Pr w K mg base (A.deeper (envOfC d.qual d.scope s.heap.objs.size f cdv)) T (E.callT i) d'.name) (tc : d.lam = true → TabFor base mg T (lamQ d) cdv) :
    On G (sgOf d) (cxOf (L2.CX Pr w) Pr w K mg base d.N d.qual d.scope f cdv A outer s H E0) T E (fun cls d _ H => E0 cls d H) where
  K := tx.tk.symm
  N := rfl
  sc := rfl
  nd := Sc.nd
  calm := rfl
  un := by have := hr.un; show (A.deeper _).units + 80 < _; omega
  dp := by have := hr.dp; show (A.deeper _).depth + 5 < _; omega
  fn := fun _ _ => .inl rfl
  blt := tx.blt
  gd := fun h => hg h
  glo := fun k x p h1 h2 => tx.glo k x p h1 (by rw [← hgl]; exact h2)
  call := fun i x h => by
    rw [tx.names, List.getElem?_map] at h
    cases e : D[i]? with
    | none => rw [e] at h; cases h
    | some d' =>
      rw [e] at h
      cases h
      obtain ⟨a, fd, h1, F, _⟩ := (tx.defs i d' e).ex
      refine ⟨a, h1, ?_, F.kp, ih2 i d' e a h1⟩
      rw [tx.fa]
      unfold addrOf
      rw [e]
      show (match mg d'.name with | some (.ref f) => some f | _ => none) = some a
      rw [h1]
  fnx := fun i a h => by
    rw [tx.fa] at h
    unfold addrOf at h
    obtain ⟨d', e, _⟩ := Option.bind_eq_some_iff.mp h
    exact ⟨d'.name, by rw [tx.names, List.getElem?_map, e]; rfl⟩
  blx := tx.blx
  exc := tx.exc
  pass := fun σ => passAt (takes_of rfl rfl rfl rfl) σ
  hp := fun _ => passes_of rfl
  st := fun _ => ⟨rfl, rfl⟩
  tk := fun _ => takes_of rfl rfl rfl rfl
  lam := fun i x h => by
    rw [tx.names, List.getElem?_map] at h
    cases e : D[i]? with
    | none => rw [e] at h; cases h
    | some d' =>
      rw [e] at h
      cases h
      exact lm i d' e
  tabc := fun h => tc h
/-- nothing is called -/
theorem call_no {A : Around} {a : Addr} : CallAt Pr w K mg base A T (fun _ _ => .bad) a := fun _ _ _ _ _ _ _ _ _ _ _ _ _ _ _ _ _ _ _ _ _ _ _ h => False.elim h
theorem lam_no {A : Around} {x : Str} : LamAt G Pr w K mg base A T (fun _ _ => .bad) x := fun _ _ _ _ _ _ _ _ _ _ _ _ _ _ _ _ _ _ _ => ⟨fun _ _ _ _ _ _ q => by
  obtain ⟨_, _, _, _, _, k⟩ := q
  exact False.elim k⟩
/-- a def that takes a thunk is handed a lambda -/
theorem lam_at (tx : TextOk G D P Pr K mg T) (t : TryOk P T) {low : Nat → List PV → Store → Res PV} {k i : Nat} {d : DefS} {fn : EV.Fn} {hs : List (Nat × Hx)} {p : PV} (e : D[i]? = some d) (q : P.fns[i]? = some fn) (hm : metS fn.body = some (hs, p))
    (hc : chkMet G (sgOf d) d.body hs p = true) (Sc : FnScope d.N d.ps d.scope) (h1 : d.ps.length = 1) {A : Around} (hr : Room (k + 2) A) (hg : gd = true → A.guards = some [])
    (lo : ∀ A2 : Around, Room k A2 → A2.guards = A.guards → ∀ (j : Nat) (d' : DefS), D[j]? = some d' → ∀ a, mg d'.name = some (.ref a) → CallAt Pr w K mg base A2 T (low j) a) :
    LamAt G Pr w K mg base A T (metOf P gd low i) d.name := by
  intro X W eP ew eK em eb eA hgl hnd hcode body scope th L hb p0 lpos pos
  subst eP ew eK em eb eA
  obtain ⟨c, tb, hc1, TB, hmT, hu⟩ := hcode
  obtain ⟨fA, fd, hmg, F, bind⟩ := (tx.defs i d e).ex
  refine ⟨fun pins s σ H Q I h => ?_⟩
  obtain ⟨ρ, S, env, hs0, he0, kk⟩ := h
  refine wpAny_Call_Name_kw (ld_glob I hgl hmg ?_ hnd)
  refine PySem.W.callWith_K (h₀ := X.base) I.ok.mod.kin F.kp ?_ (by rfl) (by rfl)
  show wpAny _ _ (spliced ((false, eval (.Lambda noArgs body scope lpos) X.env) :: backTo pos (starEach [] X.env))) _ _ s
  refine Calls.spliced_cons (lam_new I TB hc1 hmT hu hs0.tab rfl (L.has I.ok) fun f c' pm ctv H1 s1 I1 gr T1 hf hfn hfr hco => ?_)
  refine Calls.spliced_nil ⟨I1.kIn, ?_⟩
  have hs1 := gr.srep hs0 T1
  have he1 := he0.step gr.step
  unfold chkMet at hc
  split at hc
  case h_2 => cases hc
  rename_i a p1 p2 p3 hh hx p4 cc jj p5 p6 eB
  obtain ⟨c1, c2⟩ := and2 hc
  obtain ⟨c1, c3⟩ := and2 c1
  obtain ⟨c3, c4⟩ := and2 c3
  obtain ⟨c2, c5⟩ := and2 c2
  obtain ⟨c6, c7⟩ := and2 c2
  unfold dbg at c4
  simp only [Bool.and_eq_true, Bool.not_eq_true'] at c4
  have nolam : d.lam = false := by simpa [sgOf] using c6
  have rc : codeAny (model X.prog X.w) X.A (.call (.ref fA) ⟨[.ref f], []⟩) (CR (L2.CX X.prog X.w) X.stack X.prog X.w H1 s1 Q (fun _ _ _ => False)) s1 := by
    refine body_run (CX := L2.CX X.prog X.w) (k := k + 1) (vs := [.ref f]) F Sc hr I1.env0 (bind s1 [.ref f] h1.symm) (.cons (show RelV (.ref f) (Value.ref f) from rfl) .nil) h1.symm fun cdv _ => ?_
    have hr2 : Room (k + 1) (X.A.deeper (envOfC d.qual d.scope s1.heap.objs.size fA cdv)) := hr.deeper _
    have o : On G (sgOf d) (cxOf (L2.CX X.prog X.w) X.prog X.w X.K X.mg X.base d.N d.qual d.scope fA cdv X.A X.stack s1 H1 (fun _ _ _ => False)) T ⟨fun _ _ _ => .bad, fun _ _ _ => .bad, none, handOf P gd, gd, P.gl⟩ (fun _ _ _ _ => False) :=
      on_def (E := ⟨fun _ _ _ => .bad, fun _ _ _ => .bad, none, handOf P gd, gd, P.gl⟩) tx Sc rfl hr2 hg (fun _ _ _ _ _ => call_no) (fun _ _ _ => lam_no) fun z => by rw [nolam] at z; cases z
    obtain ⟨ks, k1, k2⟩ := hs_ok (gd := gd) t o hg hs (hh :: hx) c7
    obtain ⟨st1, st2⟩ := o.st rfl
    obtain ⟨v, pv, rv⟩ := cst_ok (X := cxOf (L2.CX X.prog X.w) X.prog X.w X.K X.mg X.base d.N d.qual d.scope fA cdv X.A X.stack s1 H1 (fun _ _ _ => False)) (T := T) (k := jj) (pos := p5) c5
    have tr := ps_try_cl (pos := p4) (tb := fun W' De σZ HZ => σZ[0]? = some (some (.ref f)) ∧ HZ c' = some (CodeO c' (X.env.qual ++ "<lambda>")) ∧ tM T (fun cls d _ H' => W' cls d σZ H') (RA T) (th low) σ HZ (fun _ H' => De.nx σZ H'))
      (body := [.Expr (.Call (.Name a p1) [] [] p2) p3]) st1 st2 o.nd (o.tk rfl) (fun W' pn xe tk ps => ⟨fun pz sz σZ HZ De IZ h => by
        have hvis : Vis d.scope a := o.vis c3
        have act := lam_act (CXg := L2.CX X.prog X.w) (Eg := fun _ _ _ => False) (Ng := d.N) (qg := d.qual) (sg := d.scope) (g := fA) (cdg := cdv) (params := noArgs) (body := body) (scope := scope) (i := 0) (a := a) (pn := pn) (xe := xe) (E := fun cls d H => W' cls d σZ H)
          (tb := tM T (fun cls d _ H' => W' cls d σZ H') (RA T) (th low)) (p1 := p1) (p2 := p2) (σ0 := σZ) (k := k) I1 L hf hfn hfr rfl (passAt tk σZ) hr2
          (fun A2 outer s2 H2 g2 r2 => hb low A2 outer s2 H2 (fun cls d H => W' cls d σZ H) f c' g2 ⟨by have := r2.un; omega, by have := r2.dp; omega, fun j x hj => by
            rw [tx.names, List.getElem?_map] at hj
            cases e' : D[j]? with
            | none => rw [e'] at hj; cases hj
            | some d' =>
              rw [e'] at hj
              cases hj
              obtain ⟨a', fd', h1', F', _⟩ := (tx.defs j d' e').ex
              refine ⟨a', h1', ?_, F'.kp, lo _ r2 g2 j d' e' a' h1'⟩
              rw [tx.fa]
              unfold addrOf
              rw [e']
              show (match X.mg d'.name with | some (.ref f) => some f | _ => none) = some a'
              rw [h1']⟩) (of_decide_eq_true c1) hvis c4.1 c4.2
        exact (pss_one (ps_expr (pos := p3) act)).run pz sz σZ HZ De IZ ⟨rfl, h.1, h.2.1, h.2.2⟩⟩) k1
    rw [eB]
    refine ⟨_, pss_cons tr (pss_one (ps_ret (pos := p6) pv)), ?_⟩
    have at0 : (L2.start d.N [V.ref f])[0]? = some (some (V.ref f)) := rfl
    refine ⟨at0, hco, ρ, S, env, hs1, he1, ?_⟩
    unfold metOf at kk
    rw [q] at kk
    have em : ((some fn).bind fun fn => metS fn.body) = some (hs, p) := hm
    rw [em] at kk
    dsimp only at kk
    cases r : th low env S with
    | bad => rw [r] at kk; exact False.elim kk
    | ok a' S' =>
      rw [r] at kk
      exact fun ρ' H' x st hs' _ => kk ρ' H' v (gr.step.trans st) hs' (rv ρ' H')
    | err e' S' =>
      rw [r] at kk
      dsimp only at kk
      intro ρ' H' cls dd st hs' er
      cases rr : handle P gd e' S' hs with
      | none => rw [rr] at kk; exact False.elim kk
      | some oo =>
        rw [rr] at kk
        cases oo with
        | none => exact False.elim kk
        | some q' =>
          have kT : (cxOf (L2.CX X.prog X.w) X.prog X.w X.K X.mg X.base d.N d.qual d.scope fA cdv X.A X.stack s1 H1 (fun _ _ _ => False)).K = T.K := o.K
          show wCl (cxOf (L2.CX X.prog X.w) X.prog X.w X.K X.mg X.base d.N d.qual d.scope fA cdv X.A X.stack s1 H1 (fun _ _ _ => False)).K _ _ ks cls dd _ H'
          rw [kT]
          exact wish_ok t k2 rr hs' er (fun p' z ρ2 H2 v2 s2 h2 r2 => by cases z; exact kk ρ2 H2 v2 (gr.step.trans (st.trans s2)) h2 r2) fun z => by cases z
  refine wpAny_call (codeAny_mono rc fun r s2 hq => ?_)
  cases r with
  | error e => obtain ⟨_, _, _, _, _, _, _, _, _, _, _, _, z⟩ := hq; exact z.elim
  | ok fl =>
    cases fl with
    | ret u => exact I1.after hq
    | next => exact False.elim hq
    | brk => exact False.elim hq
    | cont => exact False.elim hq
/-- as a def of its own such a def is never run -/
theorem met_bad {E : Ev} {fn : EV.Fn} {z : List (Nat × Hx) × PV} (hm : metS fn.body = some z) {W : XK} {ρ : List Addr} {H : Hp} {ps : List PV} {S : Store} {Q : V → Hp → Prop} {b : Bool} (h : Fin T W (RP T) ρ H (xcall b (runFn E fn) ps S) Q) : False := by
  unfold metS at hm
  split at hm
  · rename_i hs p eb
    have bad : ∀ args G, runFn E fn args G = .bad := fun args G => by
      unfold runFn
      rw [eb]
      split
      · rfl
      · rfl
    cases b with
    | true =>
      have h : Fin T W (RP T) ρ H (fcall (runFn E fn) ps S) Q := h
      unfold fcall at h
      rw [bad] at h
      exact h
    | false =>
      have h : Fin T W (RP T) ρ H (hcall (runFn E fn) ps S) Q := h
      unfold hcall at h
      split at h
      · exact h
      · rw [bad] at h
        exact h
  · cases hm
/-- the lambdas at a depth -/
theorem lam_of (tx : TextOk G D P Pr K mg T) (t : TryOk P T) (hc : chkDefs G xt D P.fns = true) {k : Nat} (ih : ∀ k', k' < k → ∀ (i : Nat) (d : DefS), D[i]? = some d → ∀ a, mg d.name = some (.ref a) → ∀ A, Room k' A → (gd = true → A.guards = some []) → CallAt Pr w K mg base A T ((evK P k' gd).call i) a)
    (i : Nat) (d : DefS) (e : D[i]? = some d) {A : Around} (hr : Room k A) (hg : gd = true → A.guards = some []) : LamAt G Pr w K mg base A T ((evK P k gd).callT i) d.name := by
  match k, ih, hr with
  | 0, _, _ => exact lam_no
  | 1, _, _ => exact lam_no
  | 2, _, _ => exact lam_no
  | k + 3, ih, hr =>
    show LamAt G Pr w K mg base A T (metOf P gd (evK P k gd).call i) d.name
    cases q : P.fns[i]? with
    | none =>
      have : metOf P gd (evK P k gd).call i = fun _ _ => .bad := by
        funext th S
        unfold metOf
        rw [q]
        rfl
      rw [this]
      exact lam_no
    | some fn =>
      cases hm : metS fn.body with
      | none =>
        have : metOf P gd (evK P k gd).call i = fun _ _ => .bad := by
          funext th S
          unfold metOf
          rw [q]
          show (match metS fn.body with | some (hs, p) => _ | none => _) = _
          rw [hm]
        rw [this]
        exact lam_no
      | some z =>
        obtain ⟨hs, p⟩ := z
        have hd := chk_at hc i d fn e q
        unfold chkDef at hd
        rw [hm] at hd
        obtain ⟨h1, h2⟩ := and2 hd
        obtain ⟨h1, h3⟩ := and2 h1
        exact lam_at tx t e q hm h2 (scope_ok h1) (of_decide_eq_true h3) (k := k) (hr.mono (by omega)) hg fun A2 r2 g2 j d' e' a ha => ih k (by omega) j d' e' a ha A2 r2 fun z => g2.trans (hg z)
/-- every def, to a depth -/
theorem all_ok (tx : TextOk G D P Pr K mg T) (t : TryOk P T) (tbs : TabsAt D K mg base T) (hc : chkDefs G xt D P.fns = true) (ok : ∀ k, XtOk G T (evK P k gd) xt) : ∀ (k : Nat) (i : Nat) (d : DefS), D[i]? = some d → ∀ a, mg d.name = some (.ref a) → ∀ A, Room k A → (gd = true → A.guards = some []) →
    CallAt Pr w K mg base A T ((evK P k gd).call i) a := by
  intro k
  induction k using Nat.strongRecOn with
  | ind k ih =>
  cases k with
  | zero =>
    intro i d e a ha A hr hg X W _ _ _ _ _ _ _ pins s σ H us vs Q ρ S ps I r hs rp h
    exact False.elim h
  | succ k =>
    intro i d e a ha A hr hg
    rw [call_evK]
    cases q : P.fns[i]? with
    | none =>
      intro X W _ _ _ _ _ _ _ pins s σ H us vs Q ρ S ps I r hs rp h
      unfold callOf at h
      rw [q] at h
      exact False.elim h
    | some fn =>
      have hd := chk_at hc i d fn e q
      have eq : callOf P (evK P k gd) i = xcall (P.full.contains i) (runFn (evK P k gd) fn) := by
        funext args S
        unfold callOf
        rw [q]
        rfl
      unfold chkDef at hd
      cases hm : metS fn.body with
      | some z =>
        intro X W _ _ _ _ _ _ _ pins s σ H us vs Q ρ S ps I r hs rp h
        rw [eq] at h
        exact (met_bad hm h).elim
      | none =>
      rw [hm] at hd
      obtain ⟨h1, h2⟩ := and2 hd
      obtain ⟨h1, h3⟩ := and2 h1
      obtain ⟨h3, h4⟩ := and2 h3
      have Sc := scope_ok h1
      obtain ⟨b, fd, hb, F, bind⟩ := (tx.defs i d e).ex
      rw [hb] at ha
      cases ha
      rw [eq]
      refine def_at _ F Sc bind (of_decide_eq_true h3) (of_decide_eq_true h4) hr fun outer s H E0 cdv hcd => ?_
      have hr2 := hr.deeper (envOfC d.qual d.scope s.heap.objs.size a cdv)
      have hg2 : gd = true → (A.deeper (envOfC d.qual d.scope s.heap.objs.size a cdv)).guards = some [] := fun z => hg z
      have o := on_def (outer := outer) (H := H) (E0 := E0) (E := evK P k gd) tx Sc (gl_evK P k gd) hr2 (by rw [gd_evK]; exact hg) (fun j d' e' a' ha' => ih k (Nat.lt_succ_self k) j d' e' a' ha' _ hr2 hg2)
        (fun j d' e' => lam_of tx t hc (fun k' hk' => ih k' (Nat.lt_succ_of_lt hk')) j d' e' hr2 hg2) (fun z => tbs i d e z a cdv hb hcd)
      exact okSs (ok k) fn.body (by
        unfold scopeOk at h1
        exact (and2 (and2 h1).1).1) rfl h2 o
end
/-- no raise, no try -/
def xt0 : Sg → Xtra := fun _ _ _ => false
theorem xt0_ok {G : Gn} {T : TX} {E : Ev} : XtOk G T E xt0 where
  rai := fun h _ _ => by cases h
  tr := fun _ h _ _ => by cases h
end EV
/-! The E layer, part X: the facts of a head, the end of a law. -/
namespace EV
open PySem PySem.Spec L2
open PyProof.Rows hiding St

/-- the parameters take the arguments one by one -/
def BindP (d : DefS) : Prop := ∀ (kV doc pm : Value) (an : Option Addr) (cdv ct : Value) (us : List Value), us.length = d.ps.length → bindArgs (PySem.W.fnOf d.name d.qual d.params d.body d.scope .none kV doc pm an cdv ct) ⟨us, []⟩ = pure (d.ps.zip us)
inductive AllB : List DefS → Prop
  | nil : AllB []
  | cons {d : DefS} {D : List DefS} (h : BindP d) (r : AllB D) : AllB (d :: D)
theorem AllB.at {D : List DefS} (h : AllB D) : ∀ (i : Nat) (d : DefS), D[i]? = some d → BindP d := by
  induction h with
  | nil => intro i d e; simp at e
  | cons h r ih =>
    intro i d e
    cases i with
    | zero => simp at e; subst e; exact h
    | succ i => simp at e; exact ih i d e
def toD (d : DefS) : He.DefD := ⟨(d.name, none), d.name, d.qual, d.params, d.body, d.scope, [], []⟩
def txOf (K : PySem.W.Frag) (mg : Str → Option Value) (D : List DefS) (ca : Nat → Option Addr) (fl : Nat → Option Str) (tabs : List (Addr × Str) := []) : TX := ⟨K, addrOf mg D, ca, fl, tabs⟩
/-! ### the law -/
def spLaw (T : TX) (run : List PV → Store → Res PV) : Sp := fun vs H Q _ => vs.length = 1 ∧ ∃ ρ S args, SRep T ρ H S ∧ Reps T ρ H args vs ∧ Fin T (fun _ _ _ => False) (RP T) ρ H (run args S) Q
/-- nothing comes out of a law -/
abbrev CXn : CXT := fun _ _ _ _ _ _ => False
section
variable {T : TX} {K : PySem.W.Frag}
/-- the script, as the law's def gets it -/
theorem script_ok {run : List PV → Store → Res PV} {ns : List Int} {a : Addr} {H : Hp} (hk : T.K = K) (ev : ∃ S, run [.rol (ns.map .int)] [] = .ok (.bl true) S) (hO : ∀ o xs, H a = some o → o ≠ .lst xs) (ht : LamX.Tabs T.tabs H) (hS : SqL K H a (ns.map V.int)) :
    spLaw T run [.ref a] H (fun v _ => v = .bl true) fun _ _ _ => False := by
  obtain ⟨S, ev⟩ := ev
  refine ⟨rfl, [], [], [.rol (ns.map .int)], ⟨rfl, List.nodup_nil, fun n b o e => by simp at e, ht⟩, .cons ?_ .nil, ?_⟩
  · unfold Rep
    refine ⟨a, ns.map V.int, rfl, ?_, Reps.of_map (fun i => rep_int) ns⟩
    rw [hk]
    rcases hS with (h | h) | h
    · exact absurd rfl (hO _ _ h)
    · exact .inl h
    · exact .inr h
  · rw [ev]
    intro ρ' H' v _ _ rv
    unfold Rep at rv
    exact rv
end
end EV
/-! The E layer: a head with classes of exceptions, tables of constants. -/
namespace EV
open PySem PySem.Spec L2
open PyProof.Rows hiding St
/-! ### constants -/
mutual
def repB (K : PySem.W.Frag) : PV → Value → Bool
  | .non, u => (match u with | .none => true | _ => false)
  | .bl b, u => (match u with | .bool c => b == c | _ => false)
  | .int i, u => (match u with | .int j _ => decide (i = j) | _ => false)
  | .str x, u => (match u with | .str y _ => decide (x = y) | _ => false)
  | .rot l, u => (match u with
    | .ref a => (match K.lookup a with
      | some ⟨.type c, none, .seq its _, _⟩ => decide (c = "tuple") && (decide (its.size ≤ sizeLine) && repsB K l its.toList)
      | _ => false)
    | _ => false)
  | _, _ => false
def repsB (K : PySem.W.Frag) : List PV → List Value → Bool
  | [], us => us.isEmpty
  | p :: l, us => (match us with
    | u :: r => repB K p u && repsB K l r
    | [] => false)
end
section
variable {K : PySem.W.Frag} {T : TX} {h : Heap} {mg : Str → Option Value}
mutual
theorem repB_ok (hk : T.K = K) : ∀ (p : PV) (u : Value), repB K p u = true → ∃ v, RelV v u ∧ ∀ ρ H, Rep T ρ H p v
  | .non, u, h => by
    unfold repB at h
    split at h
    · exact ⟨.non, rfl, fun _ _ => by unfold Rep; rfl⟩
    · cases h
  | .bl b, u, h => by
    unfold repB at h
    split at h
    · rename_i c
      have e : b = c := eq_of_beq h
      exact ⟨.bl b, by rw [e]; rfl, fun _ _ => by unfold Rep; rfl⟩
    · cases h
  | .int i, u, h => by
    unfold repB at h
    split at h
    · rename_i j t
      have e : i = j := of_decide_eq_true h
      exact ⟨.int i, ⟨t, by rw [e]⟩, fun _ _ => by unfold Rep; rfl⟩
    · cases h
  | .str x, u, h => by
    unfold repB at h
    split at h
    · rename_i y t
      have e : x = y := of_decide_eq_true h
      exact ⟨.str x, ⟨t, by rw [e]⟩, fun _ _ => by unfold Rep; rfl⟩
    · cases h
  | .rot l, u, h => by
    unfold repB at h
    split at h
    · rename_i a
      split at h
      · rename_i c its n sl q
        obtain ⟨h1, h⟩ := and2 h
        obtain ⟨h2, h3⟩ := and2 h
        obtain ⟨xs, r1, r2⟩ := repsB_ok hk l its.toList h3
        refine ⟨.ref a, rfl, fun ρ H => ?_⟩
        unfold Rep
        refine ⟨a, xs, rfl, ?_, r2 ρ H⟩
        rw [hk]
        exact .inr ⟨_, its, n, q, congrArg Value.type (of_decide_eq_true h1), rfl, rfl, of_decide_eq_true h2, r1⟩
      · cases h
    · cases h
  | .tup l, u, h => by unfold repB at h; cases h
  | .rol l, u, h => by unfold repB at h; cases h
  | .loc l, u, h => by unfold repB at h; cases h
  | .fn l, u, h => by unfold repB at h; cases h
theorem repsB_ok (hk : T.K = K) : ∀ (l : List PV) (us : List Value), repsB K l us = true → ∃ xs, Vals xs us ∧ ∀ ρ H, Reps T ρ H l xs
  | [], us, h => by
    unfold repsB at h
    cases us with
    | nil => exact ⟨[], .nil, fun _ _ => by unfold Reps; rfl⟩
    | cons _ _ => cases h
  | p :: l, us, h => by
    unfold repsB at h
    cases us with
    | nil => cases h
    | cons u r =>
      obtain ⟨h1, h2⟩ := and2 h
      obtain ⟨v, a1, a2⟩ := repB_ok hk p u h1
      obtain ⟨xs, b1, b2⟩ := repsB_ok hk l r h2
      exact ⟨v :: xs, .cons a1 b1, fun ρ H => by unfold Reps; exact ⟨v, xs, rfl, a2 ρ H, b2 ρ H⟩⟩
end
end
/-- the module's name x is this constant -/
def gloB (K : PySem.W.Frag) (q : Str × PV) : Bool := match PySem.W.nsIn K mainGlobals q.1 with
  | some (some u) => repB K q.2 u
  | _ => false
/-! ### classes -/
/-- an __init__ of the text: its def; self's name, the parameter's, the field's, the message -/
structure IniD where
  f : Str
  x : Str
  y : Str
  msg : Str
  i : String
  qual : Str
  st : Stmt
/-- a class: its name; the first built-in among its bases, who makes it, the bases from there on -/
structure ExD where
  x : Str
  B : String
  newId : String
  bmB : List Value
  ini : Option IniD
def shB (d : IniD) : Bool := match defBody d.st with
  | [.Expr (.Call (.Attribute (.Call (.Name su _) [] [] _) ini p2) [.Constant (.str m) _ _] [] p4) _, .Assign [.Attribute (.Name x _) f _] (.Name y _) _] =>
    (p2.endLine == p4.line) && (decide (su = ("super" : Str)) && (decide (ini = ("__init__" : Str)) && (decide (m = d.msg) && (decide (x = d.x) && (decide (f = d.f) && decide (y = d.y))))))
  | _ => false
theorem shB_ok {d : IniD} (h : shB d = true) : ∃ s1 s2, defBody d.st = [s1, s2] ∧ (∃ p0 p1 p2 p3 p4 p5 j, (p2.endLine == p4.line) = true ∧ s1 = .Expr (.Call (.Attribute (.Call (.Name "super" p0) [] [] p1) "__init__" p2) [.Constant (.str d.msg) j p3] [] p4) p5) ∧
    ∃ q1 q2 q3 q4, s2 = .Assign [.Attribute (.Name d.x q1) d.f q2] (.Name d.y q3) q4 := by
  unfold shB at h
  split at h
  · rename_i su p0 p1 ini p2 m j p3 p4 p5 x q1 f q2 y q3 q4 e
    obtain ⟨h1, h⟩ := and2 h
    obtain ⟨h2, h⟩ := and2 h
    obtain ⟨h3, h⟩ := and2 h
    obtain ⟨h4, h⟩ := and2 h
    obtain ⟨h5, h⟩ := and2 h
    obtain ⟨h6, h7⟩ := and2 h
    have e2 := of_decide_eq_true h2
    have e3 := of_decide_eq_true h3
    have e4 := of_decide_eq_true h4
    have e5 := of_decide_eq_true h5
    have e6 := of_decide_eq_true h6
    have e7 := of_decide_eq_true h7
    subst e2 e3 e4 e5 e6 e7
    exact ⟨_, _, e, ⟨p0, p1, p2, p3, p4, p5, j, h1, rfl⟩, ⟨q1, q2, q3, q4, rfl⟩⟩
  · cases h
/-- what an __init__'s row must be -/
def iniB (Pr : Program) (d : IniD) : Bool := shB d && ((isFn (defScope d.st) && (!(defScope d.st).isCoroutine && !(defScope d.st).isGenerator)) && ((decide (d.x ≠ d.y) && (!(d.x == ("__debug__" : Str)) && !(d.y == ("__debug__" : Str)))) &&
  (((defScope d.st).names.all fun z => decide (z.2 ≠ .cell)) && ((decide ((defScope d.st).names.lookup ("super" : Str) = some .globalImplicit) && (decide ((defScope d.st).names.lookup ("__class__" : Str) = some .free) &&
  (decide ((defScope d.st).names.lookup d.x = some .local) && decide ((defScope d.st).names.lookup d.y = some .local)))) && (!(Pr.main.scope.names.lookup ("super" : Str)).isSome &&
  (match ((defArgs d.st).posonlyargs ++ (defArgs d.st).args).head? with | some ar => decide (ar.arg = d.x) | none => false))))))
def BindI (d : IniD) : Prop := ∀ (kV doc pm : Value) (an : Option Addr) (cdv ct : Value) (cc : Addr) (u v : Value), bindArgs (PySem.W.ksFn "__init__" d.qual (defArgs d.st) (defBody d.st) (defScope d.st) .none kV doc pm an cdv ct cc) ⟨[u, v], []⟩ = pure [(d.x, u), (d.y, v)]
abbrev FnX : Type := Option (Str × Str × Arguments × FuncBody × Scope × Addr × List Str × Addr)
def fnXK (K : PySem.W.Frag) (a : Addr) : FnX := match K.lookup a with
  | some ⟨_, _, .func fd, _⟩ => some (fd.name, fd.qualname, fd.params, fd.body, fd.scope, fd.globals, fd.closure.map (·.1), fd.builtins)
  | _ => none
def IniD.val (d : IniD) : FnX := some ("__init__", d.qual, defArgs d.st, .stmts (defBody d.st), defScope d.st, mainGlobals, ["__class__"], builtinsNs)
def dfB : Value → Bool
  | .none => true
  | _ => false
def clB (K : PySem.W.Frag) (C : Addr) : List (Str × Addr) → Bool
  | [(_, cc)] => (match K.lookup cc with
    | some ⟨_, _, .cell (some (.ref C')), _⟩ => decide (C' = C)
    | _ => false)
  | _ => false
def cdB (file : Str) (K : PySem.W.Frag) (qual : Str) : Value → Bool
  | .ref cda => PySem.W.codeIn K (.ref cda) qual && (match K.lookup cda with
    | some ⟨_, _, .fields vs, _⟩ => (match vs.toList[2]? with
      | some (Value.str fl _) => file == fl
      | _ => false)
    | _ => false)
  | _ => false
def iniK (file : Str) (K : PySem.W.Frag) (C : Addr) (d : IniD) : Bool := match K.lookup (He.ma K C "__init__") with
  | some ⟨_, _, .func fd, _⟩ => dfB fd.defaults && (clB K C fd.closure && cdB file K d.qual fd.code)
  | _ => false
def keptB (file : Str) (K : PySem.W.Frag) (C : Addr) (e : ExD) (d : IniD) : Bool := PySem.W.excInitIn K C e.bmB e.newId && (PySem.W.excOver K C e.bmB && (PySem.W.hasDictIn K C && (He.eqO (PySem.W.takerIn K C d.f) (some none) &&
  (He.eqO (PySem.W.findIn K (.ref C) "__setattr__") (some (some (.builtin "object.__setattr__"))) && (decide (PySem.W.subIn K (.ref C) (.type e.B) = some true) && (He.eqO (PySem.W.nsIn K cStatics "thirdparty.any") (some none) &&
  (He.eqO (PySem.W.ks_superIn K C C "__init__") (some (some (.builtin d.i))) && (decide (PySem.W.mroIn K C (.ref C) = some true) && (He.eqO (PySem.W.findIn K (.ref C) "__init__") (some (some (.ref (He.ma K C "__init__")))) &&
  (decide (PySem.W.typeIn K (.ref (He.ma K C "__init__")) = some (.type "function")) && iniK file K C d))))))))))
/-- what the written part must say of the class -/
def excB (file : Str) (K : PySem.W.Frag) (e : ExD) : Bool := He.eqO (PySem.W.nsIn K mainGlobals e.x) (some (some (.ref (He.ga K e.x)))) && (PySem.W.keepIn K (.ref (He.ga K e.x)) && (decide (PySem.W.subIn K (.ref (He.ga K e.x)) (.type "BaseException") = some true) &&
  (decide (PySem.W.typeIn K (.ref (He.ga K e.x)) = some (.type "type")) && (match e.ini with
  | none => PySem.W.excIn K (He.ga K e.x) e.bmB e.newId
  | some d => keptB file K (He.ga K e.x) e d))))
def ExD.kept (e : ExD) : Option Str := e.ini.map (·.f)
def iniX (K : PySem.W.Frag) (e : ExD) : FnX := match e.ini with
  | some _ => fnXK K (He.ma K (He.ga K e.x) "__init__")
  | none => none
def ExD.val (e : ExD) : FnX := match e.ini with
  | some d => d.val
  | none => none
/-- what the kit knows of its built-ins, what its row is -/
inductive ExS (Pr : Program) : ExD → Prop
  | plain {x : Str} {B newId initId : String} {bmB : List Value} (F : ExcBaseFacts B newId initId bmB) : ExS Pr ⟨x, B, newId, bmB, none⟩
  | kept {x : Str} {B Bn newId iN : String} {bmN bmB : List Value} {d : IniD} (KF : PySem.W.KxsFacts B d.i) (Y : PySem.EVn.NwF Bn newId iN bmN bmB) (FI : PySem.EVn.InF B d.i) (SF : StoreFacts B bmB "object.__setattr__" "object") (b : iniB Pr d = true) (bi : BindI d) :
      ExS Pr ⟨x, B, newId, bmB, some d⟩
section
variable {K : PySem.W.Frag} {Pr : Program} {h : Heap} {mg : Str → Option Value}
theorem kept_of {C : Addr} {e : ExD} {d : IniD} (hk : keptB Pr.main.file K C e d = true) (hx : fnXK K (He.ma K C "__init__") = d.val) (b : iniB Pr d = true) (bi : BindI d) :
    ∃ fI cda cc s1 s2 fd, Mkc K C d.f e.B e.newId d.i e.bmB ∧ Mkf Pr K C d.f d.x d.y d.msg fI cda cc "__init__" d.qual (defArgs d.st) (defScope d.st) s1 s2 fd := by
  unfold keptB at hk
  obtain ⟨k1, hk⟩ := and2 hk
  obtain ⟨k2, hk⟩ := and2 hk
  obtain ⟨k3, hk⟩ := and2 hk
  obtain ⟨k4, hk⟩ := and2 hk
  obtain ⟨k5, hk⟩ := and2 hk
  obtain ⟨k6, hk⟩ := and2 hk
  obtain ⟨k7, hk⟩ := and2 hk
  obtain ⟨k8, hk⟩ := and2 hk
  obtain ⟨k9, hk⟩ := and2 hk
  obtain ⟨k10, hk⟩ := and2 hk
  obtain ⟨k11, hk⟩ := and2 hk
  unfold iniB at b
  obtain ⟨b1, b⟩ := and2 b
  obtain ⟨b2, b⟩ := and2 b
  obtain ⟨b2, b3⟩ := and2 b2
  obtain ⟨b3, b4⟩ := and2 b3
  obtain ⟨b5, b⟩ := and2 b
  obtain ⟨b5, b6⟩ := and2 b5
  obtain ⟨b6, b7⟩ := and2 b6
  obtain ⟨b8, b⟩ := and2 b
  obtain ⟨b9, b⟩ := and2 b
  obtain ⟨b9, b10⟩ := and2 b9
  obtain ⟨b10, b11⟩ := and2 b10
  obtain ⟨b11, b12⟩ := and2 b11
  obtain ⟨b13, b14⟩ := and2 b
  obtain ⟨s1, s2, eb, t1, t2⟩ := shB_ok b1
  unfold fnXK at hx
  unfold iniK at hk
  cases q : K.lookup (He.ma K C "__init__") with
  | none => rw [q] at hk; cases hk
  | some o =>
    obtain ⟨oc, od, dt, osl⟩ := o
    rw [q] at hk hx
    cases dt with
    | func fd =>
      obtain ⟨n1, n2, n3, n4, n5, n6, n7, n8, n9, n10, n11, n12, n13, n14, n15⟩ := fd
      have e2 : (some (n1, n2, n3, n4, n5, n6, n7.map (·.1), n15) : FnX) = some (("__init__" : Str), d.qual, defArgs d.st, FuncBody.stmts (defBody d.st), defScope d.st, mainGlobals, [("__class__" : Str)], builtinsNs) := hx
      simp only [Option.some.injEq, Prod.mk.injEq] at e2
      obtain ⟨h1, h2, h3, h4, h5, h6, h7, h8⟩ := e2
      subst h1 h2 h3 h4 h5 h6 h8
      obtain ⟨c1, c9⟩ := and2 (show (dfB n8 && (clB K C n7 && cdB Pr.main.file K d.qual n13)) = true from hk)
      obtain ⟨c2, c3⟩ := and2 c9
      clear c9 hk
      unfold dfB at c1
      unfold clB at c2
      unfold cdB at c3
      split at c1
      · split at c2
        · rename_i cc
          simp only [List.map_cons, List.map_nil, List.cons.injEq, and_true] at h7
          subst h7
          split at c2
          · rename_i cl cld C' csl ecc
            have eC : C' = C := of_decide_eq_true c2
            subst eC
            split at c3
            · rename_i cda
              obtain ⟨c4, c5⟩ := and2 c3
              split at c5
              · rename_i ccl cdd vs ccs ecd
                split at c5
                · rename_i fl tf efl
                  refine ⟨_, cda, cc, s1, s2, _, ⟨k1, k2, k3, He.eqO_ok k4, He.eqO_ok k5, of_decide_eq_true k6, He.eqO_ok k7, He.eqO_ok k8, of_decide_eq_true k9⟩,
                    { it := He.eqO_ok k10, isf := of_decide_eq_true k11, at_ := ⟨oc, od, osl, q⟩, fde := ⟨_, n9, n10, n11, n12, n14, by rw [eb]⟩, code := c4,
                      rec_ := ⟨ccl, cdd, vs, ccs, fl, tf, ecd, by rw [← Array.getElem?_toList]; exact efl, c5⟩, cell := ⟨cl, cld, csl, ecc⟩,
                      bind := fun s u v => .of_eq (bi n9 n10 n11 n12 (.ref cda) n14 cc u v), par := ?_, ne := of_decide_eq_true b5, s1 := t1, s2 := t2,
                      nx := by simpa using b6, ny := by simpa using b7, kind := isFn_ok b2, co := by simpa using b3, gen := by simpa using b4,
                      cells := fun z hz => of_decide_eq_true (List.all_eq_true.mp b8 z hz), ksup := of_decide_eq_true b9, kcls := of_decide_eq_true b10, kx := of_decide_eq_true b11, ky := of_decide_eq_true b12, top := by simpa using b13 }⟩
                  split at b14
                  · rename_i ar har
                    exact ⟨ar, har, of_decide_eq_true b14⟩
                  · cases b14
                · cases c5
              · cases c5
            · cases c3
          · cases c2
        · cases c2
      · cases c1
    | _ => cases hk
theorem exc_of (X : K.In h) (g : h.Ns mainGlobals mg) {e : ExD} (hs : ExS Pr e) (hb : excB Pr.main.file K e = true) (hx : iniX K e = e.val) (hms : mg "super" = none) (hd : (e.x == ("__debug__" : Str)) = false) : ExC Pr K mg e.x (He.ga K e.x) e.kept := by
  unfold excB at hb
  obtain ⟨h1, hb⟩ := and2 hb
  obtain ⟨h2, hb⟩ := and2 hb
  obtain ⟨h3, hb⟩ := and2 hb
  obtain ⟨h4, hb⟩ := and2 hb
  refine ⟨PySem.W.mg_of X g (He.eqO_ok h1), h2, of_decide_eq_true h3, of_decide_eq_true h4, hd, ?_⟩
  cases hs with
  | plain F => exact .plain F hb
  | kept KF Y FI SF b bi =>
    obtain ⟨fI, cda, cc, s1, s2, fd, mc, mf⟩ := kept_of hb hx b bi
    exact .kept KF Y FI SF mc mf hms
end
/-! ### what try asks -/
def isxB (K : PySem.W.Frag) (C : Addr) : Bool := (PySem.W.clsIn K C).isSome && (He.eqO (PySem.W.findIn K (.ref C) "__getattribute__") (some (some (.builtin "BaseException.__getattribute__"))) && (He.eqO (PySem.W.findIn K (.ref C) "__getattr__") (some none) &&
  (decide (PySem.W.subIn K (.ref C) (.type "BaseException") = some true) && (He.eqO (PySem.W.findIn K (.ref C) "__class__") (some (some (.builtin "object.__class__"))) && (He.eqO (PySem.W.specialIn K (.builtin "object.__class__") "__get__") (some (some (.builtin "getset_descriptor.__get__"))) &&
  (decide (PySem.W.takesIn K (.builtin "object.__class__") = some true) && decide (PySem.W.mroIn K C (.type "object") = some true)))))))
theorem isxB_ok {K : PySem.W.Frag} {C : Addr} (h : isxB K C = true) : IsxC K C := by
  unfold isxB at h
  obtain ⟨h1, h⟩ := and2 h
  obtain ⟨h2, h⟩ := and2 h
  obtain ⟨h3, h⟩ := and2 h
  obtain ⟨h4, h⟩ := and2 h
  obtain ⟨h5, h⟩ := and2 h
  obtain ⟨h6, h⟩ := and2 h
  obtain ⟨h7, h8⟩ := and2 h
  exact ⟨h1, He.eqO_ok h2, He.eqO_ok h3, of_decide_eq_true h4, He.eqO_ok h5, He.eqO_ok h6, of_decide_eq_true h7, of_decide_eq_true h8⟩
def caOf (K : PySem.W.Frag) (xs : List ExD) (c : Nat) : Option Addr := (xs[c]?).map fun e => He.ga K e.x
def flOf (xs : List ExD) (c : Nat) : Option Str := (xs[c]?).bind ExD.kept
def exmB (K : PySem.W.Frag) (C : Addr) : List ExD → List Bool → Bool
  | e :: r, b :: s => decide (PySem.W.exmOne K (.ref C) (.ref (He.ga K e.x)) = some b) && exmB K C r s
  | _, [] => true
  | [], _ => true
def exmsB (K : PySem.W.Frag) (xs : List ExD) : List ExD → List (List Bool) → Bool
  | e :: r, l :: s => exmB K (He.ga K e.x) xs l && exmsB K xs r s
  | _, [] => true
  | [], _ => true
def fldB (K : PySem.W.Frag) (e : ExD) : Bool := match e.kept with
  | some f => xfB K (He.ga K e.x) && He.eqO (PySem.W.findIn K (.ref (He.ga K e.x)) f) (some none)
  | none => true
def isxsB (K : PySem.W.Frag) : List ExD → List (List (String × Bool)) → Bool
  | e :: r, l :: s => (match l with
    | [] => true
    | _ :: _ => isxB K (He.ga K e.x) && l.all fun q => decide (PySem.W.kitOne K (.ref (He.ga K e.x)) (.type q.1) = some q.2)) && isxsB K r s
  | _, [] => true
  | [], _ => true
def tryB (K : PySem.W.Frag) (xs : List ExD) (P : Prog) : Bool := exmsB K xs xs P.exm && ((xs.all fun e => fldB K e) && isxsB K xs P.isx)
theorem exmB_ok {K : PySem.W.Frag} {C : Addr} : ∀ {xs : List ExD} {l : List Bool}, exmB K C xs l = true → ∀ (c : Nat) (e : ExD) (b : Bool), xs[c]? = some e → l[c]? = some b → PySem.W.exmOne K (.ref C) (.ref (He.ga K e.x)) = some b
  | [], _, _, c, e, b, h1, _ => by simp at h1
  | _ :: _, [], _, c, e, b, _, h2 => by simp at h2
  | x :: xs, y :: l, h, c, e, b, h1, h2 => by
    unfold exmB at h
    obtain ⟨k1, k2⟩ := and2 h
    cases c with
    | zero => simp at h1 h2; subst h1 h2; exact of_decide_eq_true k1
    | succ c => simp at h1 h2; exact exmB_ok k2 c e b h1 h2
theorem exmsB_ok {K : PySem.W.Frag} {ys : List ExD} : ∀ {xs : List ExD} {l : List (List Bool)}, exmsB K ys xs l = true → ∀ (c : Nat) (e : ExD) (b : List Bool), xs[c]? = some e → l[c]? = some b → exmB K (He.ga K e.x) ys b = true
  | [], _, _, c, e, b, h1, _ => by simp at h1
  | _ :: _, [], _, c, e, b, _, h2 => by simp at h2
  | x :: xs, y :: l, h, c, e, b, h1, h2 => by
    unfold exmsB at h
    obtain ⟨k1, k2⟩ := and2 h
    cases c with
    | zero => simp at h1 h2; subst h1 h2; exact k1
    | succ c => simp at h1 h2; exact exmsB_ok k2 c e b h1 h2
theorem lookup_mem {β : Type} {x : String} {b : β} : ∀ {l : List (String × β)}, l.lookup x = some b → (x, b) ∈ l
  | [], h => by cases h
  | (y, c) :: r, h => by
    rw [List.lookup_cons] at h
    split at h
    · rename_i e
      have e2 : x = y := eq_of_beq e
      cases h
      rw [e2]
      exact List.mem_cons_self ..
    · exact List.mem_cons_of_mem _ (lookup_mem h)
theorem isxsB_ok {K : PySem.W.Frag} : ∀ {xs : List ExD} {l : List (List (String × Bool))}, isxsB K xs l = true → ∀ (c : Nat) (e : ExD) (q : List (String × Bool)) (B : String) (b : Bool), xs[c]? = some e → l[c]? = some q → q.lookup B = some b → IsxC K (He.ga K e.x) ∧ PySem.W.kitOne K (.ref (He.ga K e.x)) (.type B) = some b
  | [], _, _, c, e, q, B, b, h1, _, _ => by simp at h1
  | _ :: _, [], _, c, e, q, B, b, _, h2, _ => by simp at h2
  | x :: xs, y :: l, h, c, e, q, B, b, h1, h2, h3 => by
    unfold isxsB at h
    obtain ⟨k1, k2⟩ := and2 h
    cases c with
    | zero =>
      simp at h1 h2
      subst h1 h2
      cases y with
      | nil => cases h3
      | cons z y =>
        obtain ⟨k3, k4⟩ := and2 k1
        exact ⟨isxB_ok k3, of_decide_eq_true (List.all_eq_true.mp k4 (B, b) (lookup_mem h3))⟩
    | succ c => simp at h1 h2; exact isxsB_ok k2 c e q B b h1 h2 h3
theorem try_ok {K : PySem.W.Frag} {xs : List ExD} {P : Prog} {T : TX} (hK : T.K = K) (hc : T.ca = caOf K xs) (hf : T.fl = flOf xs) (hp : P.fld = xs.map ExD.kept) (h : tryB K xs P = true) : TryOk P T := by
  unfold tryB at h
  obtain ⟨h1, h⟩ := and2 h
  obtain ⟨h2, h3⟩ := and2 h
  subst hK
  refine ⟨fun c c' C C' b e1 e2 e3 => ?_, fun c C f e1 e2 => ?_, fun c C B b e1 e2 => ?_⟩
  · rw [hc] at e1 e2
    unfold caOf at e1 e2
    obtain ⟨x1, a1, rfl⟩ := Option.map_eq_some_iff.mp e1
    obtain ⟨x2, a2, rfl⟩ := Option.map_eq_some_iff.mp e2
    obtain ⟨l, l1, l2⟩ := Option.bind_eq_some_iff.mp e3
    exact exmB_ok (exmsB_ok h1 c x1 l a1 l1) c' x2 b a2 l2
  · rw [hc] at e1
    unfold caOf at e1
    obtain ⟨x1, a1, rfl⟩ := Option.map_eq_some_iff.mp e1
    rw [hp, List.getElem?_map, a1] at e2
    have ek : x1.kept = some f := by simpa using e2
    have fb := List.all_eq_true.mp h2 x1 (List.mem_of_getElem? a1)
    unfold fldB at fb
    rw [ek] at fb
    obtain ⟨f1, f2⟩ := and2 fb
    refine ⟨?_, xfB_ok f1, He.eqO_ok f2⟩
    rw [hf]
    unfold flOf
    rw [a1]
    exact ek
  · rw [hc] at e1
    unfold caOf at e1
    obtain ⟨x1, a1, rfl⟩ := Option.map_eq_some_iff.mp e1
    obtain ⟨l, l1, l2⟩ := Option.bind_eq_some_iff.mp e2
    exact isxsB_ok h3 c x1 l B b a1 l1 l2
/-! ### the Hook -/
/-- lams: the defs in which lambdas stand, and the name that their code objects bear -/
structure HdX where
  /-- where the written part stands -/
  pl : List Addr
  file : Str
  fa : List He.Fa
  fn : List He.DefD
  xs : List ExD
  gl : List (Str × PV)
  P : Prog
  lams : List (Str × Str)
def tabAt (K : PySem.W.Frag) (x : Str) : Addr := (He.cT K (x, none)).2
def HdX.tabs (k : HdX) (K : PySem.W.Frag) : List (Addr × Str) := k.lams.map fun q => (tabAt K q.1, q.2)
def HdX.tf (k : HdX) : List He.Defn := k.lams.map fun q => (q.1, none)
def HdX.b (k : HdX) (K : PySem.W.Frag) : Bool := ((k.gl.all fun q => gloB K q) && ((k.xs.all fun e => excB k.file K e) && tryB K k.xs k.P)) && (k.tabs K).all fun p => (k.tabs K).all fun q => !decide (p.1 = q.1) || decide (p.2 = q.2)
abbrev AlX : Type := Bool × He.AlD × List FnX
def HdX.obsK (k : HdX) (K : PySem.W.Frag) : AlX := (k.b K, He.obsD k.fa k.fn K, k.xs.map fun e => iniX K e)
def HdX.val (k : HdX) : AlX := (true, He.valD k.fn, k.xs.map ExD.val)
def HdX.Kof (k : HdX) (g : Addr → Option Obj) : PySem.W.Frag := He.frT g k.pl
def HdX.obsG (k : HdX) (g : Addr → Option Obj) : Bool × AlX := (He.tabsB g k.tf (k.Kof g), k.obsK (k.Kof g))
section
variable {β : Type}
/-- the written part laid out first -/
def frFg : PySem.W.Frag → (PySem.W.Frag → β) → β
  | [], k => k []
  | (a, o) :: r, k => HandSHeadRun.frNat a fun a => frFg r fun r => k ((a, o) :: r)
theorem frFg_eq : ∀ (l : PySem.W.Frag) (k : PySem.W.Frag → β), frFg l k = k l
  | [], k => rfl
  | (a, o) :: r, k => by
    show (HandSHeadRun.frNat a fun a => frFg r fun r => k ((a, o) :: r)) = _
    rw [HandSHeadRun.frNat_eq]
    exact frFg_eq r _
end
def HdX.obsQ (k : HdX) (g : Addr → Option Obj) : Bool × AlX := frFg (k.Kof g) fun K => (He.tabsB g k.tf K, k.obsK K)
theorem HdX.obsQ_eq (k : HdX) (g : Addr → Option Obj) : k.obsQ g = k.obsG g := frFg_eq _ _
/-- what is told -/
structure HdX.Says (k : HdX) (h : Heap) (K : PySem.W.Frag) : Prop where
  c : k.obsK K = k.val
  hd : ∀ p ∈ k.tf, PySem.W.codeHdIn K (He.cT K p).1 (He.cT K p).2 = true
  out : ∀ p ∈ k.tf, K.lookup (He.cT K p).2 = none
  empty : ∀ p ∈ k.tf, h.get? (He.cT K p).2 = some { cls := .none, data := .fields #[] }
theorem HdX.says_of {k : HdX} {h : Heap} (e : k.obsG h.get? = (true, k.val)) : k.Says h (k.Kof h.get?) := by
  have e1 : He.tabsB h.get? k.tf (k.Kof h.get?) = true := congrArg (fun z : Bool × AlX => z.1) e
  have e2 : k.obsK (k.Kof h.get?) = k.val := congrArg (fun z : Bool × AlX => z.2) e
  have key : ∀ p ∈ k.tf, PySem.W.codeHdIn (k.Kof h.get?) (He.cT (k.Kof h.get?) p).1 (He.cT (k.Kof h.get?) p).2 = true ∧ ∃ o, h.get? (He.cT (k.Kof h.get?) p).2 = some o ∧ He.emptyTab o = true := fun p hp => by
    obtain ⟨h3, h4⟩ := and2 (List.all_eq_true.mp e1 p hp)
    refine ⟨h3, ?_⟩
    cases q : h.get? (He.cT (k.Kof h.get?) p).2 with
    | none => rw [q] at h4; cases h4
    | some o => rw [q] at h4; exact ⟨o, rfl, h4⟩
  refine ⟨e2, fun p hp => (key p hp).1, fun p hp => ?_, fun p hp => ?_⟩
  · obtain ⟨_, o, q, z⟩ := key p hp
    exact He.frT_none q z
  · obtain ⟨_, o, q, z⟩ := key p hp
    rw [q, He.emptyTab_eq z]
def HdX.hook (k : HdX) : PySem.W.Hook where
  α := Bool × AlX
  obs := fun s => k.obsG s.heap.get?
  val := fun _ => (true, k.val)
  says := fun _ h => ∃ K : PySem.W.Frag, K.In h ∧ k.Says h K
  of := fun _ _ e => ⟨_, He.frT_in, HdX.says_of e⟩
  keeps := fun _ _ _ ⟨K, hK, c⟩ k => ⟨K, PySem.W.Frag.In.keeps hK k, ⟨c.c, c.hd, c.out, fun p hp => k _ _ (c.empty p hp)⟩⟩
theorem HdX.obs_eq (k : HdX) {g : Addr → Option Obj} {s : Shared} (h : ∀ a, g a = s.heap.get? a) : k.obsG g = k.hook.obs s := by
  have e : g = s.heap.get? := funext h
  rw [e] <;> rfl
section
variable {k : HdX} {K : PySem.W.Frag}
theorem HdX.says (c : k.obsK K = k.val) : k.b K = true ∧ He.SaysD k.fa k.fn K ∧ (k.xs.map fun e => iniX K e) = k.xs.map ExD.val := by
  have h1 : k.b K = true := congrArg (fun z : AlX => z.1) c
  have h2 : He.obsD k.fa k.fn K = He.valD k.fn := congrArg (fun z : AlX => z.2.1) c
  exact ⟨h1, h2, congrArg (fun z : AlX => z.2.2) c⟩
end
/-- the facts of the text -/
structure Text (k : HdX) (G : Gn) (D : List DefS) (P : Prog) (Pr : Program) : Prop where
  fn : k.fn = D.map toD
  fa : ∀ f ∈ D.map (fun d => He.Fa.glo d.name) ++ ((bltN ++ G.bx).map .free), f ∈ k.fa
  gl : k.gl = G.gl.zip P.gl
  pr : k.P = P
  file : k.file = Pr.main.file
  names : G.fn = D.map (·.name)
  binds : AllB D
  exs : G.exs = k.xs.map fun e => (e.x, e.kept)
  fld : P.fld = k.xs.map ExD.kept
  xs : ∀ e ∈ k.xs, ExS Pr e
  nd : ∀ e ∈ k.xs, (e.x == ("__debug__" : Str)) = false
  sup : k.xs = [] ∨ ("super" : Str) ∈ G.bx
  lams : k.lams = (D.filter (·.lam)).map fun d => (d.name, lamQ d)
def txX (K : PySem.W.Frag) (mg : Str → Option Value) (D : List DefS) (k : HdX) : TX := txOf K mg D (caOf K k.xs) (flOf k.xs) (k.tabs K)
section
variable {k : HdX} {G : Gn} {D : List DefS} {P : Prog} {Pr : Program} {K : PySem.W.Frag} {h : Heap} {mg : Str → Option Value}
theorem Text.free (t : Text k G D P Pr) (X : K.In h) (g : h.Ns mainGlobals mg) (c : k.obsK K = k.val) {x : Str} (hx : x ∈ bltN ++ G.bx) : mg x = none := by
  have m : He.Fa.free x ∈ k.fa := t.fa _ (List.mem_append_right _ (List.mem_map.mpr ⟨x, hx, rfl⟩))
  obtain ⟨j, hj, ej⟩ := List.getElem_of_mem m
  exact He.free_ok X g ((HdX.says c).2.1.fact j (f := .free x) (by rw [← ej]; simp))
theorem Text.def_ (t : Text k G D P Pr) (X : K.In h) (g : h.Ns mainGlobals mg) (c : k.obsK K = k.val) {i : Nat} {d : DefS} (e : D[i]? = some d) :
    mg d.name = some (.ref (He.ga K d.name)) ∧ ∃ fd, FunD K d.name d.qual d.params d.body d.scope [] [] (He.ga K d.name) fd := by
  obtain ⟨cb, cd, cx⟩ := HdX.says c
  have m : He.Fa.glo d.name ∈ k.fa := t.fa _ (List.mem_append_left _ (List.mem_map.mpr ⟨d, List.mem_of_getElem? e, rfl⟩))
  obtain ⟨j, hj, ej⟩ := List.getElem_of_mem m
  have f1 := He.glo_ok X g (cd.fact j (f := .glo d.name) (by rw [← ej]; simp))
  obtain ⟨fd, F⟩ := cd.def_ i (d := toD d) (by rw [t.fn, List.getElem?_map, e]; rfl)
  exact ⟨f1, fd, F⟩
theorem Text.ok (t : Text k G D P Pr) (X : K.In h) (g : h.Ns mainGlobals mg) (c : k.obsK K = k.val) : TextOk G D P Pr K mg (txX K mg D k) ∧ TryOk P (txX K mg D k) := by
  obtain ⟨cb, cd, cx⟩ := HdX.says c
  have cb := and2 (show (((k.gl.all fun q => gloB K q) && ((k.xs.all fun e => excB k.file K e) && tryB K k.xs k.P)) && (k.tabs K).all fun p => (k.tabs K).all fun q => !decide (p.1 = q.1) || decide (p.2 = q.2)) = true from cb)
  obtain ⟨cb, _⟩ := cb
  obtain ⟨c1, c2⟩ := and2 cb
  obtain ⟨c2, c3⟩ := and2 c2
  refine ⟨{ tk := rfl, fa := rfl, names := t.names, defs := ?_, blt := ?_, blx := ?_, exc := ?_, glo := ?_ }, ?_⟩
  · intro i d e
    obtain ⟨f1, fd, F⟩ := t.def_ X g c e
    exact ⟨_, fd, f1, F, fun s us hl => FunD.bindsA (ps := d.ps) F (t.binds.at i d e) s us hl⟩
  · exact fun x hx => t.free X g c (List.mem_append_left _ hx)
  · exact fun x hx => t.free X g c (List.mem_append_right _ hx)
  · intro i x f e
    rw [t.exs, List.getElem?_map] at e
    obtain ⟨d, e1, e2⟩ := Option.map_eq_some_iff.mp e
    cases e2
    have m := List.mem_of_getElem? e1
    refine ⟨He.ga K d.x, by show caOf K k.xs i = _; unfold caOf; rw [e1]; rfl, by show flOf k.xs i = _; unfold flOf; rw [e1]; rfl, ?_⟩
    have hb := List.all_eq_true.mp c2 d m
    rw [t.file] at hb
    have hx : iniX K d = d.val := by
      have := congrArg (fun l : List FnX => l[i]?) cx
      simp only [List.getElem?_map, e1, Option.map_some, Option.some.injEq] at this
      exact this
    refine exc_of X g (t.xs d m) hb hx ?_ (t.nd d m)
    rcases t.sup with z | z
    · rw [z] at m
      cases m
    · exact t.free X g c (List.mem_append_right _ z)
  · intro i x p h1 h2
    have hz : k.gl[i]? = some (x, p) := by rw [t.gl, List.getElem?_zip_eq_some]; exact ⟨h1, h2⟩
    have gb := List.all_eq_true.mp c1 (x, p) (List.mem_of_getElem? hz)
    unfold gloB at gb
    split at gb
    · rename_i u hu
      obtain ⟨v, r1, r2⟩ := repB_ok (T := txX K mg D k) rfl p u gb
      exact ⟨u, v, PySem.W.mg_of X g hu, r1, r2⟩
    · cases gb
  · rw [t.pr] at c3
    exact try_ok rfl rfl rfl t.fld c3
/-- the code objects of the defs in which lambdas stand, and their tables -/
def HdX.cs (k : HdX) (K : PySem.W.Frag) : List (Addr × Addr) := k.tf.map fun p => He.cT K p
theorem Text.tabsAt (t : Text k G D P Pr) (X : K.In h) (g : h.Ns mainGlobals mg) (c : k.obsK K = k.val) {base : Heap} (tb : ∀ p ∈ k.cs K, LamX.TabB base mg p.1 p.2) : TabsAt D K mg base (txX K mg D k) := by
  intro i d e hl a cdv ha hcd
  obtain ⟨f1, fd, F⟩ := t.def_ X g c e
  rw [f1] at ha
  cases ha
  obtain ⟨oc, od, dV, kV, doc, pm, an, cdv', ct, osl, efd, lk, hcode, _, _⟩ := F.ex
  subst efd
  obtain ⟨cc, ecc⟩ := He.codeIn_ref hcode
  have e1 : cdv = cdv' := by
    unfold cdOf at hcd
    rw [lk] at hcd
    exact (Option.some.inj hcd).symm
  subst e1
  have e2 : He.codeOf K (d.name, none) = cc := He.codeOf_eq (p := (d.name, none)) lk ecc
  have ml : (d.name, lamQ d) ∈ k.lams := by
    rw [t.lams]
    exact List.mem_map.mpr ⟨d, List.mem_filter.mpr ⟨List.mem_of_getElem? e, hl⟩, rfl⟩
  have mt : (tabAt K d.name, lamQ d) ∈ k.tabs K := List.mem_map.mpr ⟨_, ml, rfl⟩
  have m2 : He.cT K (d.name, none) ∈ k.cs K := List.mem_map.mpr ⟨(d.name, none), List.mem_map.mpr ⟨_, ml, rfl⟩, rfl⟩
  have tB := tb _ m2
  have e3 : (He.cT K (d.name, none)).1 = cc := e2
  rw [e3] at tB
  refine ⟨cc, tabAt K d.name, ecc, tB, mt, fun p hp ep => ?_⟩
  have cb := (and2 (show (((k.gl.all fun q => gloB K q) && ((k.xs.all fun e => excB k.file K e) && tryB K k.xs k.P)) && (k.tabs K).all fun p => (k.tabs K).all fun q => !decide (p.1 = q.1) || decide (p.2 = q.2)) = true from (HdX.says c).1)).2
  have z := List.all_eq_true.mp (List.all_eq_true.mp cb p hp) _ mt
  rw [Bool.or_eq_true] at z
  rcases z with z | z
  · rw [ep] at z
    simp at z
  · exact of_decide_eq_true z
end
end EV
/-! The E layer: the end of a law whose stack is known. -/
namespace EV
open PySem PySem.Spec L2
open PyProof.Rows hiding St
theorem met_run {E : Ev} {fn : EV.Fn} {z : List (Nat × Hx) × PV} {T : TX} (hm : metS fn.body = some z) {W : XK} {ρ : List Addr} {H : Hp} {ps : List PV} {S : Store} {Q : V → Hp → Prop} (h : Fin T W (RP T) ρ H (runFn E fn ps S) Q) : False := by
  unfold metS at hm
  split at hm
  · rename_i hs p eb
    have bad : runFn E fn ps S = .bad := by
      unfold runFn
      rw [eb]
      split
      · rfl
      · rfl
    rw [bad] at h
    exact h
  · cases hm
section
variable {G : Gn} {D : List DefS} {P : Prog} {Pr : Program} {w : World} {K : PySem.W.Frag} {mg : Str → Option Value} {base : Heap} {T : TX} {xt : Sg → Xtra} {A : Around} {outer : List PySem.Env}
theorem law_run (tx : TextOk G D P Pr K mg T) (ty : TryOk P T) (tbs : TabsAt D K mg base T) (hc : chkDefs G xt D P.fns = true) (ok : ∀ k, XtOk G T (evK P k true) xt) (k i : Nat) {d : DefS} {fn : EV.Fn} {f : Addr} {fd : FuncData} (e : D[i]? = some d) (q : P.fns[i]? = some fn)
    (F : FunD K d.name d.qual d.params d.body d.scope [] [] f fd) (hb : ∀ (s : Shared) (us : List Value), us.length = d.ps.length → BindsTo s fd ⟨us, []⟩ (d.ps.zip us)) (h1 : d.ps.length = 1) (hr : Room (k + 1) A) (hgd : A.guards = some []) (hfm : mg d.name = some (.ref f))
    {s : Shared} {H : Hp} {us : List Value} {vs : List V} {Q : VK} {E0 : XK} (e0 : Env0 Pr w K mg base A outer s H) (r : Vals vs us) (h : spLaw T (runFn (evK P k true) fn) vs H Q E0) :
    codeAny (model Pr w) A (.call (.ref f) ⟨us, []⟩) (CR CXn outer Pr w H s Q E0) s := by
  have hd := chk_at hc i d fn e q
  unfold chkDef at hd
  cases hm : metS fn.body with
  | some z =>
    obtain ⟨_, ρ, S, as, hs, ra, h⟩ := h
    exact (met_run hm h).elim
  | none =>
  rw [hm] at hd
  obtain ⟨g1, g2⟩ := and2 hd
  obtain ⟨g1, g3⟩ := and2 g1
  obtain ⟨g3, g4⟩ := and2 g3
  have g3 : d.ps.length = fn.np := of_decide_eq_true g3
  have g4 : d.N.length = fn.ns := of_decide_eq_true g4
  have Sc := scope_ok g1
  obtain ⟨hv, ρ, S, as, hs, ra, h⟩ := h
  unfold runFn at h
  split at h
  · rename_i hl
    have hle : fn.np ≤ fn.ns := by
      rw [← g3, ← g4]
      have := congrArg List.length Sc.pre
      rw [List.length_take] at this
      omega
    have out : ∀ (r : Result) (s' : Shared), CR (L2.CX Pr w) outer Pr w H s Q (fun _ _ _ => False) r s' → CR CXn outer Pr w H s Q E0 r s' := fun r s' q => by
      cases r with
      | error e => obtain ⟨_, _, _, _, _, _, _, _, _, _, _, _, z⟩ := q; exact z
      | ok fl => cases fl <;> exact q
    have lu : us.length = d.ps.length := r.length.symm.trans (hv.trans h1.symm)
    refine codeAny_mono (body_run (CX := L2.CX Pr w) (E0 := fun _ _ _ => False) F Sc hr e0 (hb s us lu) r (hv.trans h1.symm) fun cdv hcd => ⟨tS T (fun _ _ _ _ => False) (evSs (evK P k true) fn.body), ?_, ρ, S, _, hs, start_ok ra hl g4 hle, out_fin h⟩) out
    have hr2 := hr.deeper (envOfC d.qual d.scope s.heap.objs.size f cdv)
    have o := on_def (outer := outer) (H := H) (E0 := fun _ _ _ => False) (E := evK P k true) (Pr := Pr) (w := w) (base := base) tx Sc (gl_evK P k true) hr2 (by rw [gd_evK]; exact fun _ => hgd)
      (fun j d' e' a' ha' => all_ok (gd := true) tx ty tbs hc ok k j d' e' a' ha' _ hr2 (fun _ => hgd))
      (fun j d' e' => lam_of tx ty hc (fun k' _ => all_ok (gd := true) tx ty tbs hc ok k') j d' e' hr2 (fun _ => hgd)) (fun z => tbs i d e z f cdv hfm hcd)
    exact okSs (ok k) fn.body (by
      unfold scopeOk at g1
      exact (and2 (and2 g1).1).1) rfl g2 o
  · exact False.elim h
end
/-- the heap's view: the tables; the script's own list, or nothing, if the module holds it -/
def scrH (K : PySem.W.Frag) (a : Addr) (vs : List Value) (ns : List Int) (ts : List Addr) : Hp := fun b => match ts.contains b with
  | true => some (.tbl #[])
  | false => (match K.lookup a with
    | some _ => none
    | none => if b = a then some (.frz { cls := .type "list", data := .seq vs.toArray } (.lst (ns.map V.int))) else none)
section
variable {Pr : Program} {w : World} {K : PySem.W.Frag} {mg mb : Str → Option Value} {f a : Addr} {s : Shared} {vs : List Value} {ns : List Int} {cs : List (Addr × Addr)} {ts : List Addr}
theorem scrH_in {b : Addr} {o : HO} (h : scrH K a vs ns ts b = some o) : (b ∈ ts ∧ o = .tbl #[]) ∨ (b = a ∧ K.lookup a = none ∧ o = .frz { cls := .type "list", data := .seq vs.toArray } (.lst (ns.map V.int))) := by
  unfold scrH at h
  cases c : ts.contains b with
  | true =>
    rw [c] at h
    cases h
    exact .inl ⟨by simpa using c, rfl⟩
  | false =>
    rw [c] at h
    cases q : K.lookup a with
    | some _ => rw [q] at h; cases h
    | none =>
      rw [q] at h
      by_cases hb : b = a
      · have h : (if b = a then some (HO.frz { cls := .type "list", data := .seq vs.toArray } (.lst (ns.map V.int))) else none) = some o := h
        rw [if_pos hb] at h
        cases h
        exact .inr ⟨hb, rfl, rfl⟩
      · have h : (if b = a then some (HO.frz { cls := .type "list", data := .seq vs.toArray } (.lst (ns.map V.int))) else none) = some o := h
        rw [if_neg hb] at h
        cases h
theorem scrH_tab {b : Addr} (h : b ∈ ts) : scrH K a vs ns ts b = some (.tbl #[]) := by
  unfold scrH
  rw [show ts.contains b = true by simpa using h]
/-- a law's def, called at the end -/
theorem law_end (KX : K.In s.heap) (hns : s.heap.Ns mainGlobals mg) (hb : s.heap.Ns builtinsNs mb) (hbb : ∀ x : Str, x ≠ "__name__" → mb x = bootBuiltins x) (hlim : s.heap.NoLimit) (hg : s.gens = #[])
    (hT : ∀ p ∈ cs, s.heap.get? p.2 = some { cls := .none, data := .fields #[] }) (nT : ∀ p ∈ cs, K.lookup p.2 = none) (hC : ∀ p ∈ cs, PySem.W.CodeHd s.heap p.1 p.2)
    (hbm : ∃ (bm : Addr) (ob : Obj), mg "__builtins__" = some (.ref bm) ∧ bm ≠ builtinsNs ∧ s.heap.get? bm = some ob ∧ ob.cls = .type "module" ∧ ob.dict = some builtinsNs ∧ ob.data = .plain)
    (ha : s.heap.get? a = some { cls := .type "list", data := .seq vs.toArray }) (hi : IntsAre vs ns) (hl : ns.length ≤ sizeLine) {sp : Sp}
    (F : ∀ (base : Heap) (H : Hp) (Q : VK) (E0 : XK), (∀ p ∈ cs, LamX.TabB base mg p.1 p.2) → Env0 Pr w K mg base callerA [] s H → sp [.ref a] H Q E0 → codeAny (model Pr w) callerA (.call (.ref f) ⟨[.ref a], []⟩) (CR CXn [] Pr w H s Q E0) s)
    (hsp : ∀ H : Hp, (∀ o xs, H a = some o → o ≠ .lst xs) → (∀ p ∈ cs, H p.2 = some (.tbl #[])) → SqL K H a (ns.map V.int) → sp [.ref a] H (fun v _ => v = .bl true) fun _ _ _ => False) :
    codeAny (model Pr w) callerA (.call (.ref f) ⟨[.ref a], []⟩) (fun r s' => r = .ok (.ret (.bool true)) ∧ OldK s.heap s'.heap ∧ s'.os = s.os ∧ AllBare s'.gens) s := by
  have rv := vals_ints hi
  generalize eT : cs.map (·.2) = ts
  have tabO : ∀ b ∈ ts, s.heap.get? b = some { cls := .none, data := .fields #[] } := fun b hb => by
    rw [← eT] at hb
    obtain ⟨p, hp, e⟩ := List.mem_map.mp hb
    rw [← e]
    exact hT p hp
  have inT : ∀ p ∈ cs, p.2 ∈ ts := fun p hp => by
    rw [← eT]
    exact List.mem_map.mpr ⟨p, hp, rfl⟩
  have aT : a ∉ ts := fun z => by
    have q := tabO a z
    rw [ha] at q
    have z' : Data.seq vs.toArray _ = Data.fields #[] := congrArg Obj.data (Option.some.inj q)
    cases z'
  -- what neither is a list nor an empty record is not looked at
  have free : ∀ {b : Addr} {o : Obj}, s.heap.get? b = some o → (∀ v n, o.data ≠ .seq v n) → o.data ≠ .fields #[] → scrH K a vs ns ts b = none := fun {b o} e y1 y2 => by
    cases q : scrH K a vs ns ts b with
    | none => rfl
    | some u =>
      rcases scrH_in q with ⟨hb, _⟩ | ⟨hb, _, _⟩
      · rw [tabO b hb] at e
        cases e
        exact absurd rfl y2
      · rw [hb, ha] at e
        cases e
        exact absurd rfl (y1 _ _)
  have isd : ∀ {b : Addr} {o : Obj} {es : Array DictEntry} {ep : Nat}, s.heap.get? b = some o → o.data = .dict es ep → scrH K a vs ns ts b = none := fun {b o es ep} e d =>
    free e (fun v n z => by rw [d] at z; cases z) fun z => by rw [d] at z; cases z
  have nsk : ∀ {b : Addr} {m : Str → Option Value}, s.heap.Ns b m → (hidT s.heap (scrH K a vs ns ts)).Ns b m := fun ⟨o, es, ep, e, d, r⟩ => ⟨o, es, ep, hidT_get e (isd e d), d, r⟩
  have kin : K.In (hidT s.heap (scrH K a vs ns ts)) := fun b o e => hidT_get (KX b o e) (by
    cases q : scrH K a vs ns ts b with
    | none => rfl
    | some u =>
      rcases scrH_in q with ⟨hb, _⟩ | ⟨hb, hk, _⟩
      · rw [← eT] at hb
        obtain ⟨p, hp, ep⟩ := List.mem_map.mp hb
        rw [← ep, nT p hp] at e
        cases e
      · rw [hb, hk] at e
        cases e)
  have hok : HOk Pr w (scrH K a vs ns ts) s.heap := fun b u z => by
    rcases scrH_in z with ⟨hb, rfl⟩ | ⟨rfl, _, rfl⟩
    · exact tabO b hb
    · exact ⟨ha, by rw [List.length_map]; exact hl, vs, _, rv, ha⟩
  have hS : SqL K (scrH K a vs ns ts) a (ns.map V.int) := by
    cases hk : K.lookup a with
    | none =>
      refine .inl (.inr ⟨{ cls := .type "list", data := .seq vs.toArray }, ?_⟩)
      unfold scrH
      rw [show ts.contains a = false by simpa using aT, hk]
      exact if_pos rfl
    | some o =>
      have e := KX a o hk
      rw [ha] at e
      cases e
      exact .inr ⟨_, vs.toArray, _, hk, rfl, rfl, rfl, by rw [List.size_toArray, hi.length]; exact hl, by simpa using rv⟩
  have mod : Mod K mg (hidT s.heap (scrH K a vs ns ts)) := ⟨kin, nsk hns, ⟨mb, nsk hb, hbb⟩, hlim.imp fun mc z => ⟨nsk z.1, z.2⟩⟩
  have gN : ∀ b ∈ ts, mainGlobals ≠ b := fun b hb z => by
    obtain ⟨o, es, ep, e, d, _⟩ := hns
    rw [z, tabO b hb] at e
    cases e
    cases d
  have tb : ∀ p ∈ cs, LamX.TabB (hidT s.heap (scrH K a vs ns ts)) mg p.1 p.2 := fun p hp => by
    refine ⟨?_, ?_, gN _ (inT p hp)⟩
    · obtain ⟨o, us, file, tf, flags, tg, inF, text, tt, e1, r1, r2, r3, rest⟩ := hC p hp
      exact ⟨o, us, file, tf, flags, tg, inF, text, tt, hidT_get e1 (free e1 (fun v n z => by rw [r2] at z; cases z) fun z => by
        rw [r2] at z
        cases z
        simp at r3), r1, r2, r3, rest⟩
    · obtain ⟨bm, ob, b1, b2, b3, b4, b5, b6⟩ := hbm
      have n1 : bm ≠ mainGlobals := fun q => by
        obtain ⟨o, es, ep, e, d, _⟩ := hns
        rw [q, e] at b3
        cases b3
        rw [d] at b6
        cases b6
      have n2 : bm ≠ p.2 := fun q => by
        rw [q, hT p hp] at b3
        cases b3
        cases b6
      exact ⟨bm, ob, b1, b2, n1, n2, hidT_get b3 (free b3 (fun v n z => by rw [b6] at z; cases z) fun z => by rw [b6] at z; cases z), b4, b5, b6⟩
  have e0 : Env0 Pr w K mg (hidT s.heap (scrH K a vs ns ts)) callerA [] s (scrH K a vs ns ts) := ⟨rfl, mod, fun b o e => of_hidT e, Nat.le_of_eq (hidT_size _ _), trivial, fun b hb => absurd (show b ∈ ([] : List Addr) from hb) (by simp), hok, .of_eq hg⟩
  have nl : ∀ o xs, scrH K a vs ns ts a = some o → o ≠ .lst xs := fun o xs z => by
    rcases scrH_in z with ⟨hb, _⟩ | ⟨_, _, rfl⟩
    · exact absurd hb aT
    · exact fun y => by cases y
  refine codeAny_mono (F _ _ _ _ tb e0 (hsp _ nl (fun p hp => scrH_tab (inT p hp)) hS)) fun r s' h => ?_
  match r, h with
  | .error e, h => exact False.elim h
  | .ok .next, h => exact False.elim h
  | .ok .brk, h => exact False.elim h
  | .ok .cont, h => exact False.elim h
  | .ok (.ret u), h =>
    obtain ⟨v, H', os, bare, un, hok', r', q⟩ := h
    have q' : v = .bl true := q
    subst q'
    have eu : u = Value.bool true := r'
    subst eu
    have grown : ∀ b ∈ ts, ∃ more : Array Value, s'.heap.get? b = some { cls := .none, data := .fields more } := fun b hb => by
      obtain ⟨more, z⟩ := un.tbls b #[] (scrH_tab hb)
      exact ⟨_, hok' b _ z⟩
    have kept : ∀ b o, b ∉ ts → s.heap.get? b = some o → s'.heap.get? b = some o := fun b o nb e => by
      cases q : scrH K a vs ns ts b with
      | none => exact un.keep b o e q (fun z => absurd (show b ∈ ([] : List Addr) from z) (by simp)) (by simp)
      | some u =>
        rcases scrH_in q with ⟨hb, _⟩ | ⟨rfl, _, rfl⟩
        · exact absurd hb nb
        · obtain ⟨e2, _⟩ := hok' b _ (un.frzs b _ _ q)
          rw [ha] at e
          cases e
          exact e2
    refine ⟨rfl, ⟨fun b o e => ?_, fun b o e => ?_⟩, os, bare⟩
    · by_cases hb : b ∈ ts
      · obtain ⟨more, hm⟩ := grown b hb
        rw [tabO b hb] at e
        cases e
        have hb' := hb
        rw [← eT] at hb'
        obtain ⟨p, hp, ep⟩ := List.mem_map.mp hb'
        refine .inr (.inl ⟨?_, rfl, #[], more, rfl, by rw [Array.empty_append]; exact hm⟩)
        rw [← ep]
        exact ((hC p hp).tab (hT p hp)).isCodeTable
      · exact .inl (kept b o hb e)
    · by_cases hb : b ∈ ts
      · obtain ⟨more, hm⟩ := grown b hb
        exact ⟨_, hm⟩
      · exact ⟨o, kept b o hb e⟩
end
/-- a table that holds nothing -/
theorem tabs_nil {H : Hp} {L : List (Addr × Str)} (h : ∀ p ∈ L, H p.1 = some (.tbl #[])) : LamX.Tabs L H := fun p hp => LamX.TabS.nil (h p hp)
/-- a law's walk over such a head -/
theorem walk_text {l : PySem.W.OpenLaw} {n dp : Nat} {q : Program} {loose : List Str} {XP : (Str → Option Value) → Heap → Prop} {d : DefRec} {k : HdX} {G : Gn} {D : List DefS} {P : Prog} {i : Nat} {ds : DefS} {fn : EV.Fn}
    (hn : l.most = some n) (hn2 : n ≤ sizeLine) (hdf : d.params.defaults = []) (hr : Room (dp + 1) callerA) (t : Text k G D P l.prog) (hc : chkDefs G (xtE G) D P.fns = true)
    (e1 : D[i]? = some ds) (e2 : P.fns[i]? = some fn) (h1 : ds.ps.length = 1) (hnm : d.name = ds.name)
    (ev : ∀ ns : List Int, ns.length ≤ n → ∃ S, runFn (evK P dp true) fn [.rol (ns.map .int)] [] = .ok (.bl true) S) :
    PySem.W.WalkO q loose XP k.hook.says l.row.toRowW d [] (fun f vs => PySem.call f vs) := by
  refine Att.attach_call hn hdf fun w s₀ s₁ mg mb fa o pm cd doc a vs ns G' Y ho hd hcd hmg hobj hints hlen hg => ?_
  obtain ⟨K, KX, c⟩ := Y
  obtain ⟨tx, ty⟩ := t.ok KX G'.T.g c.c
  obtain ⟨f, fd, h2, F, bind⟩ := (tx.defs i ds e1).ex
  have e : f = fa := by
    rw [← hnm, hmg] at h2
    cases h2
    rfl
  subst e
  have cmem : ∀ p ∈ k.cs K, ∃ p0 ∈ k.tf, He.cT K p0 = p := fun p hp => by
    obtain ⟨p0, h0, e0⟩ := List.mem_map.mp hp
    exact ⟨p0, h0, e0⟩
  refine law_end (cs := k.cs K) (sp := spLaw (txX K mg D k) (runFn (evK P dp true) fn)) KX G'.T.g G'.T.b G'.T.builtins G'.T.nolimit hg
    (fun p hp => by obtain ⟨p0, h0, rfl⟩ := cmem p hp; exact c.empty p0 h0) (fun p hp => by obtain ⟨p0, h0, rfl⟩ := cmem p hp; exact c.out p0 h0) (fun p hp => by obtain ⟨p0, h0, rfl⟩ := cmem p hp; exact PySem.W.codeHd_of_K KX (c.hd p0 h0)) G'.T.bmain
    hobj hints (Nat.le_trans hlen hn2) (fun base H Q E0 tb e0 h => ?_) (fun H hO hT hS => script_ok rfl (ev ns hlen) hO (tabs_nil fun p hp => ?_) hS)
  · exact law_run (xt := xtE G) tx ty (t.tabsAt KX G'.T.g c.c tb) hc (fun j => xtE_ok ty j) dp i e1 e2 F bind h1 hr rfl h2 e0 (.cons (show RelV (.ref a) (Value.ref a) from rfl) .nil) h
  · obtain ⟨q0, hq, rfl⟩ := List.mem_map.mp hp
    exact hT _ (List.mem_map.mpr ⟨(q0.1, none), List.mem_map.mpr ⟨q0, hq, rfl⟩, rfl⟩)
end EV
/-! The E layer: the dice of the laws. -/
namespace EV
open PySem
/-- _law_dice, _law_roll, as every law has them -/
def fnDice : EV.Fn := ⟨2, 4, ss [.set (.nm 2) (.ifx (.cmp .lt (.var 1) (.bf1 .len (.var 0))) (.bf1 .int (.ix (.var 0) (.var 1))) (.bin .add (.bin .mul (.cst (.int 89)) (.var 1)) (.cst (.int 71)))), .set (.nm 3) (.bin .mod (.bf2 .max2 (.cst (.int 0)) (.bin .sub (.bf1 .abs (.var 2)) (.bin .pow (.cst (.int 10)) (.cst (.int 17))))) (.bin .mul (.bin .pow (.cst (.int 10)) (.cst (.int 60))) (.bin .pow (.cst (.int 10)) (.cst (.int 60))))), .ret (.so (.lst (xs [(.var 3), (.bin .add (.bin .add (.bin .add (.bin .mul (.bin .mod (.bf1 .abs (.var 2)) (.cst (.int 1152921504606846793))) (.cst (.int 41))) (.bin .mul (.cst (.int 947)) (.var 1))) (.bin .mul (.cst (.int 23)) (.bf1 .int (.cmp .lt (.var 2) (.cst (.int 0)))))) (.cst (.int 19))), (.cst (.int 0))])))]⟩
def fnRoll : EV.Fn := ⟨2, 5, ss [.ife (.cmp .gt (.ix (.var 0) (.cst (.int 0))) (.cst (.int 0))) (ss [.set (.nm 4) (.bin .mod (.bf1 .int (.ix (.var 0) (.cst (.int 0)))) (.var 1)), .set (.sub (.var 0) (.cst (.int 0))) (.bin .fdiv (.ix (.var 0) (.cst (.int 0))) (.var 1)), .ret (.so (.var 4))]) (ss []), .set (.sub (.var 0) (.cst (.int 2))) (.bin .add (.ix (.var 0) (.cst (.int 2))) (.cst (.int 1))), .set (.nm 2) (.bin .mod (.bf1 .int (.bin .add (.ix (.var 0) (.cst (.int 1))) (.bin .mul (.cst (.int 15485917)) (.ix (.var 0) (.cst (.int 2)))))) (.cst (.int 2305843009213693951))), .set (.nm 3) (.bin .add (.bin .mul (.bin .mod (.bf1 .int (.bin .add (.bin .mul (.var 2) (.var 2)) (.bin .mul (.cst (.int 173)) (.ix (.var 0) (.cst (.int 2)))))) (.cst (.int 2305843009213693907))) (.cst (.int 7368743))) (.var 2)), .ret (.so (.bin .mod (.bf1 .int (.bin .fdiv (.var 3) (.cst (.int 65536)))) (.var 1)))]⟩
section
variable {E : Ev}
theorem log_small {i : Int} {n : Nat} (h : i.natAbs < 2 ^ n) (hn : 0 < n) : i.natAbs.log2 < n := by
  by_cases z : i.natAbs = 0
  · rw [z]
    simpa using hn
  · exact (Nat.log2_lt z).mpr h
theorem fits_small {i j : Int} (h1 : i.natAbs.log2 < 200) (h2 : j.natAbs.log2 < 62) : fitsM i j = true := by
  unfold fitsM
  exact decide_eq_true (by omega)
theorem log_mod {m : Int} (z : Int) (h0 : 0 < m) (h1 : m < 2 ^ 61) : (z % m).natAbs.log2 < 61 := log_small (by
  have a := Int.emod_nonneg z (show m ≠ 0 by omega)
  have b := Int.emod_lt_of_pos z h0
  omega) (by decide)
theorem roll_ok (a b c t : Int) (hc : 0 ≤ c) (hc2 : c < 2 ^ 60) (ht : 0 < t) (ht2 : t < 2 ^ 60) : ∃ r a' c', 0 ≤ r ∧ r < t ∧ (c' = c ∨ c' = c + 1) ∧ runFn E fnRoll [.loc 0, .int t] [.lst [.int a, .int b, .int c]] = .ok (.int r) [.lst [.int a', .int b, .int c']] := by
  have l1 : t.natAbs.log2 < 60 := log_small (by omega) (by decide)
  have l2 : c.natAbs.log2 < 60 := log_small (by omega) (by decide)
  have l3 : (c + 1).natAbs.log2 < 61 := log_small (by omega) (by decide)
  have k0 : L2.atI [PV.int a, PV.int b, PV.int c] 0 = some (.int a) := rfl
  have k1 : L2.atI [PV.int a, PV.int b, PV.int c] 1 = some (.int b) := rfl
  have k2 : L2.atI [PV.int a, PV.int b, PV.int c] 2 = some (.int c) := rfl
  have n0 : L2.ixN 3 0 = some 0 := rfl
  have n2 : L2.ixN 3 2 = some 2 := rfl
  have f1 : fitsD t = true := by
    unfold fitsD
    simp [ht]
    omega
  by_cases ha : 0 < a
  · refine ⟨a % t, a / t, c, Int.emod_nonneg _ (by omega), Int.emod_lt_of_pos _ ht, .inl rfl, ?_⟩
    simp [runFn, fnRoll, ss, xs, evSs, evS, evT, ev, ha, Res.bind, Res.andS, Res.calm, ixOp, seqOf, tupOf, listOf, atA, k0, coOp, orBad, truth, bl, fn1, biOp, biInt, ht, f1, keep, asg, putA, outOf, n0]
  · have k0' : ∀ x y z : PV, L2.atI [x, y, z] 2 = some z := fun _ _ _ => rfl
    have k1' : ∀ x y z : PV, L2.atI [x, y, z] 1 = some y := fun _ _ _ => rfl
    have m1 : fitsM 15485917 (c + 1) = true := fits_small (by decide) (Nat.lt_trans l3 (by decide))
    have m2 : ∀ z : Int, fitsM (z % 2305843009213693951) (z % 2305843009213693951) = true := fun z => fits_small (Nat.lt_trans (log_mod z (by decide) (by decide)) (by decide)) (Nat.lt_trans (log_mod z (by decide) (by decide)) (by decide))
    have m3 : fitsM 173 (c + 1) = true := fits_small (by decide) (Nat.lt_trans l3 (by decide))
    have m4 : ∀ z : Int, fitsM (z % 2305843009213693907) 7368743 = true := fun z => fits_small (Nat.lt_trans (log_mod z (by decide) (by decide)) (by decide)) (by decide)
    have f2 : fitsD 65536 = true := by decide
    refine ⟨(((b + 15485917 * (c + 1)) % 2305843009213693951 * ((b + 15485917 * (c + 1)) % 2305843009213693951) + 173 * (c + 1)) % 2305843009213693907 * 7368743 + (b + 15485917 * (c + 1)) % 2305843009213693951) / 65536 % t, a, c + 1, Int.emod_nonneg _ (by omega), Int.emod_lt_of_pos _ ht, .inr rfl, ?_⟩
    simp [runFn, fnRoll, ss, xs, evSs, evS, evT, ev, ha, Res.bind, Res.andS, Res.calm, ixOp, seqOf, tupOf, listOf, atA, k0, k2, k0', k1', coOp, orBad, truth, bl, fn1, biOp, biInt, ht, f1, f2, keep, asg, putA, outOf, n0, n2, m1, m2, m3, m4]
theorem at_map {ns : List Int} {i : Int} (h0 : 0 ≤ i) (h : i < ns.length) : ∃ x, L2.atI (ns.map PV.int) i = some (.int x) := by
  obtain ⟨n, rfl⟩ := Int.eq_ofNat_of_zero_le h0
  have hn : n < ns.length := by omega
  refine ⟨ns[n], ?_⟩
  unfold L2.atI L2.ixN
  simp [hn]
theorem dice_ok (ns : List Int) (i : Int) (h0 : 0 ≤ i) (h1 : i < 2 ^ 60) : ∃ a b, runFn E fnDice [.rol (ns.map PV.int), .int i] [] = .ok (.loc 0) [.lst [.int a, .int b, .int 0]] := by
  have li : i.natAbs.log2 < 62 := log_small (by omega) (by decide)
  have m1 : fitsM 89 i = true := fits_small (by decide) li
  have m2 : fitsM 947 i = true := fits_small (by decide) li
  have m3 : fitsM 1000000000000000000000000000000000000000000000000000000000000 1000000000000000000000000000000000000000000000000000000000000 = true := by decide +kernel
  have m4 : ∀ z : Int, fitsM (z % 1152921504606846793) 41 = true := fun z => fits_small (Nat.lt_trans (log_mod z (by decide) (by decide)) (by decide)) (by decide)
  have m5 : ∀ z : Int, z < 2 → 0 ≤ z → fitsM 23 z = true := fun z h1 h2 => fits_small (by decide) (log_small (by omega) (by decide))
  have p1 : fitsP 10 60 = true := by decide
  have p2 : fitsP 10 17 = true := by decide
  have m6 : fitsM 23 0 = true := m5 _ (by decide) (by decide)
  have m7 : fitsM 23 1 = true := m5 _ (by decide) (by decide)
  by_cases hi : i < (ns.length : Int)
  · obtain ⟨x, hx⟩ := at_map h0 hi
    by_cases hx0 : x < 0
    · simp [hi, hx, hx0, runFn, fnDice, ss, xs, evSs, evS, evT, ev, evs, Res.bind, Res.andS, Res.calm, ixOp, seqOf, tupOf, listOf, lenA, atA, coOp, orBad, truth, bl, fn1, fn2, biOp, biInt, keep, asg, outOf, m1, m2, m3, m4, m6, m7, p1, p2]
    · simp [hi, hx, hx0, runFn, fnDice, ss, xs, evSs, evS, evT, ev, evs, Res.bind, Res.andS, Res.calm, ixOp, seqOf, tupOf, listOf, lenA, atA, coOp, orBad, truth, bl, fn1, fn2, biOp, biInt, keep, asg, outOf, m1, m2, m3, m4, m6, m7, p1, p2]
  · have hn : ¬ 89 * i + 71 < 0 := by omega
    simp [hi, hn, runFn, fnDice, ss, xs, evSs, evS, evT, ev, evs, Res.bind, Res.andS, Res.calm, ixOp, seqOf, tupOf, listOf, lenA, atA, coOp, orBad, truth, bl, fn1, fn2, biOp, biInt, keep, asg, outOf, m1, m2, m3, m4, m6, m7, p1, p2]
end
end EV
/-! The E layer: laws that draw by dice: calls with the dice at the store's end, loops over ranges. -/
namespace EV
open PySem
abbrev dl (a b c : Int) : SO := .lst [.int a, .int b, .int c]
section
variable {E : Ev} {s : Sx} {r : Sxs} {env env' : Env} {S S' : Store} {p : PV}
theorem evSs_next (h : evS E s env S = .next env' S') : evSs E (.cons s r) env S = evSs E r env' S' := by
  have e : evSs E (.cons s r) env S = match evS E s env S with
    | .next env S => evSs E r env S
    | .brk env S => .brk env S
    | .cont env S => .cont env S
    | .ret p S => .ret p S
    | .err e env S => .err e env S
    | .bad => .bad := by
    conv => lhs; unfold evSs
    all_goals rfl
  rw [e, h]
theorem evSs_ret (h : evS E s env S = .ret p S') : evSs E (.cons s r) env S = .ret p S' := by
  have e : evSs E (.cons s r) env S = match evS E s env S with
    | .next env S => evSs E r env S
    | .brk env S => .brk env S
    | .cont env S => .cont env S
    | .ret p S => .ret p S
    | .err e env S => .err e env S
    | .bad => .bad := by
    conv => lhs; unfold evSs
    all_goals rfl
  rw [e, h]
end
/-- the statements of a body, one by one -/
def hdS : Sxs → Sx
  | .cons s _ => s
  | .nil => .pass
def tlS : Sxs → Sxs
  | .cons _ r => r
  | .nil => .nil
def nthS : Sxs → Nat → Sx
  | .cons s _, 0 => s
  | .cons _ r, n + 1 => nthS r n
  | .nil, _ => .pass
/-- calls that all give X -/
def cstE (E : Ev) (X : Res PV) : Ev := ⟨fun _ _ _ => X, E.callT, E.thk, E.hand, E.gd, E.gl⟩
/-- the end of a call with the places R -/
def hend (S : Store) (R : List Nat) (X : Res PV) : Res PV := match X with
  | .ok p G => .ok (mapP (outer S R) p) (after S R [p] G)
  | .err e G => .err ⟨e.c, e.k.map (mapP (outer S R))⟩ (after S R e.k.toList G)
  | .bad => .bad
theorem get_end (S : Store) (o : SO) : (S ++ [o])[S.length]? = some o := by simp
section
variable {E : Ev} {a b c t : Int}
/-- _law_roll is called, the dice stand first -/
theorem hroll (rest : Store) (hc : 0 ≤ c) (hc2 : c < 2 ^ 60) (ht : 0 < t) (ht2 : t < 2 ^ 60) : ∃ (r : Nat) (a' c' : Int), (r : Int) < t ∧ (c' = c ∨ c' = c + 1) ∧ hcall (runFn E fnRoll) [.loc 0, .int t] (dl a b c :: rest) = .ok (.int r) (dl a' b c' :: rest) := by
  obtain ⟨r, a', c', h0, h1, h2, h⟩ := roll_ok (E := E) a b c t hc hc2 ht ht2
  obtain ⟨n, rfl⟩ := Int.eq_ofNat_of_zero_le h0
  refine ⟨n, a', c', h1, h2, ?_⟩
  have e : hcall (runFn E fnRoll) [.loc 0, .int t] (dl a b c :: rest) = hend (dl a b c :: rest) [0] (runFn E fnRoll [.loc 0, .int t] [dl a b c]) := rfl
  rw [e, h]
  rfl
/-- a def of the dice alone, the dice at the end -/
theorem hlast {fn : EV.Fn} {S : Store} {a' c' : Int} {G : Store} (h : runFn E fn [.loc 0] [dl a b c] = .ok (.bl true) (dl a' b c' :: G)) : hcall (runFn E fn) [.loc S.length] (S ++ [dl a b c]) = .ok (.bl true) (S ++ [dl a' b c']) := by
  have r1 : reach (S ++ [dl a b c]) fuel [] [S.length] = some [S.length] := by
    show (if ([] : List Nat).contains S.length then reach (S ++ [dl a b c]) 999999 [] [] else match (S ++ [dl a b c])[S.length]? with
      | some o => reach (S ++ [dl a b c]) 999999 ([] ++ [S.length]) (locsO o ++ [])
      | none => none) = _
    rw [get_end]
    rfl
  have r2 : under (S ++ [dl a b c]) [S.length] = [dl a b c] := by
    unfold under
    rw [List.filterMap_cons, get_end]
    rfl
  unfold hcall
  have r3 : locsL [PV.loc S.length] = [S.length] := rfl
  rw [r3, r1]
  dsimp only
  rw [r2]
  have r4 : mapL (fun m => [S.length].idxOf m) [PV.loc S.length] = [PV.loc 0] := by
    show [PV.loc ([S.length].idxOf S.length)] = _
    simp
  rw [r4, h]
  dsimp only
  have r5 : after (S ++ [dl a b c]) [S.length] [.bl true] (dl a' b c' :: G) = S ++ [dl a' b c'] := by
    have z : after (S ++ [dl a b c]) [S.length] [.bl true] (dl a' b c' :: G) = (S ++ [dl a b c]).set S.length (dl a' b c') := by
      unfold after
      rw [if_pos (by simp [locsL, locsP, locsO])]
      simp [back, mapS, mapL, mapP]
    rw [z]
    simp
  rw [r5]
  rfl
end
theorem ints_locs : ∀ ns : List Int, locsL (ns.map PV.int) = []
  | [] => rfl
  | _ :: r => ints_locs r
theorem ints_map (f : Nat → Nat) : ∀ ns : List Int, mapL f (ns.map PV.int) = ns.map PV.int
  | [] => rfl
  | i :: r => congrArg (PV.int i :: ·) (ints_map f r)
/-- _law_dice is called -/
theorem hdice {E : Ev} (S : Store) (ns : List Int) (i : Int) (h0 : 0 ≤ i) (h1 : i < 2 ^ 60) : ∃ a b, hcall (runFn E fnDice) [.rol (ns.map .int), .int i] S = .ok (.loc S.length) (S ++ [dl a b 0]) := by
  obtain ⟨a, b, h⟩ := dice_ok (E := E) ns i h0 h1
  refine ⟨a, b, ?_⟩
  unfold hcall
  have r1 : locsL [PV.rol (ns.map PV.int), .int i] = [] := by
    show locsL (ns.map PV.int) ++ [] = []
    rw [ints_locs]
    rfl
  have r2 : mapL (fun m => ([] : List Nat).idxOf m) [PV.rol (ns.map PV.int), .int i] = [PV.rol (ns.map PV.int), .int i] := by
    show [PV.rol (mapL _ (ns.map PV.int)), .int i] = _
    rw [ints_map]
  rw [r1]
  have r3 : reach S fuel [] [] = some [] := rfl
  rw [r3]
  dsimp only
  rw [r2]
  have r4 : under S [] = [] := rfl
  rw [r4, h]
  rfl
/-- a loop over a range, by what holds ahead of each turn -/
theorem for_rng {body : PV → Env → Store → SRes} {lo : Int} {n : Nat} (Q : Nat → Env → Store → Prop) (h : ∀ i, i < n → ∀ env S, Q i env S → ∃ env' S', body (.int (lo + i)) env S = .next env' S' ∧ Q (i + 1) env' S') :
    ∀ f i env S, n - i < f → i ≤ n → Q i env S → ∃ env' S', forL body (.rng lo n) f i env S = .next env' S' ∧ Q n env' S'
  | 0, i, env, S, hf, _, _ => absurd hf (by omega)
  | f + 1, i, env, S, hf, hi, q => by
    by_cases hn : i < n
    · obtain ⟨env', S', e, q'⟩ := h i hn env S q
      obtain ⟨env2, S2, e2, q2⟩ := for_rng Q h f (i + 1) env' S' (by omega) (by omega) q'
      refine ⟨env2, S2, ?_, q2⟩
      unfold forL
      have it : itAt S (.rng lo n) i = some (some (.int (lo + i))) := by
        show (if i < n then some (some (PV.int (lo + i))) else some none) = _
        rw [if_pos hn]
      rw [it]
      dsimp only
      rw [e]
      exact e2
    · have en : i = n := by omega
      subst en
      refine ⟨env, S, ?_, q⟩
      unfold forL
      have it : itAt S (.rng lo i) i = some none := by
        show (if i < i then some (some (PV.int (lo + i))) else some none) = _
        rw [if_neg (Nat.lt_irrefl _)]
      rw [it]
theorem rng_len (n : Nat) (h : n < 1000000) : rngOf none (n : Int) = some (.rng 0 n) := by
  unfold rngOf
  simp
  omega
/-- range(max(1, min(m, len(script)))), the script in the first slot -/
def spots (m : Nat) : Ix := .rng .no (.bf2 .max2 (.cst (.int 1)) (.bf2 .min2 (.cst (.int m)) (.bf1 .len (.var 0))))
theorem spots_ok {E : Ev} (m : Nat) (hm : 1 ≤ m) (hm2 : m < 1000) (ns : List Int) (rest : Env) (S : Store) : ∃ n, 1 ≤ n ∧ n ≤ m ∧ evi E (spots m) (some (.rol (ns.map .int)) :: rest) S = .ok (.rng 0 n) S := by
  have key : ∀ n : Nat, (if ((if (ns.length : Int) < (m : Int) then (ns.length : Int) else (m : Int)) > 1) then (if (ns.length : Int) < (m : Int) then (ns.length : Int) else (m : Int)) else 1) = (n : Int) → n < 1000000 → evi E (spots m) (some (.rol (ns.map .int)) :: rest) S = .ok (.rng 0 n) S := by
    intro n e hn
    have e1 : evi E (spots m) (some (.rol (ns.map .int)) :: rest) S = match fn2 S .max2 (.v (.int 1)) ((fn2 S .min2 (.v (.int m)) (.v (.int ((ns.map PV.int).length : Int)))).getD (.v .non)) with
      | some (.v (.int j)) => orBad S (rngOf none j)
      | _ => .bad := rfl
    rw [e1, List.length_map]
    show orBad S (rngOf none (if ((if (ns.length : Int) < (m : Int) then (ns.length : Int) else (m : Int)) > 1) then (if (ns.length : Int) < (m : Int) then (ns.length : Int) else (m : Int)) else 1)) = _
    rw [e, rng_len n hn]
    rfl
  by_cases h1 : (ns.length : Int) < (m : Int)
  · by_cases h2 : (1 : Int) < ns.length
    · exact ⟨ns.length, by omega, by omega, key _ (by rw [if_pos h1, if_pos h2]) (by omega)⟩
    · exact ⟨1, by omega, hm, key 1 (by rw [if_pos h1, if_neg h2]; rfl) (by omega)⟩
  · by_cases h2 : (1 : Int) < (m : Int)
    · exact ⟨m, by omega, by omega, key m (by rw [if_neg h1, if_pos h2]) (by omega)⟩
    · exact ⟨1, by omega, hm, key 1 (by rw [if_neg h1, if_neg h2]; rfl) (by omega)⟩
theorem of_map {α β : Type} {f g : α → β} {l : List α} (h : l.map f = l.map g) : ∀ x ∈ l, f x = g x := List.map_inj_left.mp h
theorem of_range {β : Type} {f g : Nat → β} {n : Nat} (h : (List.range n).map f = (List.range n).map g) (k : Nat) (hk : k < n) : f k = g k := of_map h k (List.mem_range.mpr hk)
end EV
/-! The E layer: the evaluator with values brought to their normal form at each call: what it says is the same, the kernel runs it faster. -/
namespace EV
open PySem
section
variable {β : Type}
def frNat (n : Nat) (k : Nat → β) : β := match n with
  | 0 => k 0
  | m + 1 => k (m + 1)
theorem frNat_eq (n : Nat) (k : Nat → β) : frNat n k = k n := by cases n <;> rfl
def frInt (i : Int) (k : Int → β) : β := match i with
  | .ofNat n => frNat n fun n => k (.ofNat n)
  | .negSucc n => frNat n fun n => k (.negSucc n)
theorem frInt_eq (i : Int) (k : Int → β) : frInt i k = k i := by
  cases i with
  | ofNat n => exact frNat_eq n fun n => k (.ofNat n)
  | negSucc n => exact frNat_eq n fun n => k (.negSucc n)
def frBl (b : Bool) (k : Bool → β) : β := match b with
  | true => k true
  | false => k false
theorem frBl_eq (b : Bool) (k : Bool → β) : frBl b k = k b := by cases b <;> rfl
/-- by the recursor itself: the kernel runs it with few steps -/
noncomputable def frP (p : PV) : (PV → β) → β := PV.rec (motive_1 := fun _ => (PV → β) → β) (motive_2 := fun _ => (List PV → β) → β)
  (fun k => k .non) (fun b k => frBl b fun b => k (.bl b)) (fun i k => frInt i fun i => k (.int i)) (fun x k => k (.str x)) (fun _ il k => il fun l => k (.tup l)) (fun l _ k => k (.rot l)) (fun l _ k => k (.rol l))
  (fun n k => frNat n fun n => k (.loc n)) (fun n k => frNat n fun n => k (.fn n)) (fun k => k []) (fun _ _ ip il k => ip fun p => il fun l => k (p :: l)) p
noncomputable def frL (l : List PV) : (List PV → β) → β := PV.rec_1 (motive_1 := fun _ => (PV → β) → β) (motive_2 := fun _ => (List PV → β) → β)
  (fun k => k .non) (fun b k => frBl b fun b => k (.bl b)) (fun i k => frInt i fun i => k (.int i)) (fun x k => k (.str x)) (fun _ il k => il fun l => k (.tup l)) (fun l _ k => k (.rot l)) (fun l _ k => k (.rol l))
  (fun n k => frNat n fun n => k (.loc n)) (fun n k => frNat n fun n => k (.fn n)) (fun k => k []) (fun _ _ ip il k => ip fun p => il fun l => k (p :: l)) l
mutual
theorem frP_eq : ∀ (p : PV) (k : PV → β), frP p k = k p
  | .non, k => rfl
  | .bl b, k => frBl_eq b fun b => k (.bl b)
  | .int i, k => frInt_eq i fun i => k (.int i)
  | .str x, k => rfl
  | .tup l, k => frL_eq l fun l => k (.tup l)
  | .rot l, k => rfl
  | .rol l, k => rfl
  | .loc n, k => frNat_eq n fun n => k (.loc n)
  | .fn n, k => frNat_eq n fun n => k (.fn n)
theorem frL_eq : ∀ (l : List PV) (k : List PV → β), frL l k = k l
  | [], k => rfl
  | p :: r, k => by
    show (frP p fun p => frL r fun l => k (p :: l)) = _
    rw [frP_eq p]
    exact frL_eq r _
end
def frK (q : Key) (k : Key → β) : β := match q with
  | .inl i => frInt i fun i => k (.inl i)
  | .inr x => k (.inr x)
theorem frK_eq (q : Key) (k : Key → β) : frK q k = k q := by
  cases q with
  | inl i => exact frInt_eq i fun i => k (.inl i)
  | inr x => rfl
noncomputable def frKs (l : List Key) : (List Key → β) → β := List.rec (motive := fun _ => (List Key → β) → β) (fun k => k []) (fun q _ ih k => frK q fun q => ih fun r => k (q :: r)) l
theorem frKs_eq : ∀ (l : List Key) (k : List Key → β), frKs l k = k l
  | [], k => rfl
  | q :: r, k => by
    show (frK q fun q => frKs r fun r => k (q :: r)) = _
    rw [frK_eq]
    exact frKs_eq r _
noncomputable def frD (l : List (Key × PV)) : (List (Key × PV) → β) → β := List.rec (motive := fun _ => (List (Key × PV) → β) → β) (fun k => k []) (fun q _ ih k => frK q.1 fun a => frP q.2 fun b => ih fun r => k ((a, b) :: r)) l
theorem frD_eq : ∀ (l : List (Key × PV)) (k : List (Key × PV) → β), frD l k = k l
  | [], k => rfl
  | q :: r, k => by
    show (frK q.1 fun a => frP q.2 fun b => frD r fun r => k ((a, b) :: r)) = _
    rw [frK_eq, frP_eq]
    exact frD_eq r _
noncomputable def frT (l : List (List Key × PV)) : (List (List Key × PV) → β) → β := List.rec (motive := fun _ => (List (List Key × PV) → β) → β) (fun k => k []) (fun q _ ih k => frKs q.1 fun a => frP q.2 fun b => ih fun r => k ((a, b) :: r)) l
theorem frT_eq : ∀ (l : List (List Key × PV)) (k : List (List Key × PV) → β), frT l k = k l
  | [], k => rfl
  | q :: r, k => by
    show (frKs q.1 fun a => frP q.2 fun b => frT r fun r => k ((a, b) :: r)) = _
    rw [frKs_eq, frP_eq]
    exact frT_eq r _
noncomputable def frO (o : SO) (k : SO → β) : β := match o with
  | .lst l => frL l fun l => k (.lst l)
  | .dk l => frD l fun l => k (.dk l)
  | .dt l => frT l fun l => k (.dt l)
theorem frO_eq (o : SO) (k : SO → β) : frO o k = k o := by
  cases o with
  | lst l => exact frL_eq l _
  | dk l => exact frD_eq l _
  | dt l => exact frT_eq l _
noncomputable def frSt (l : Store) : (Store → β) → β := List.rec (motive := fun _ => (Store → β) → β) (fun k => k []) (fun o _ ih k => frO o fun o => ih fun r => k (o :: r)) l
theorem frSt_eq : ∀ (S : Store) (k : Store → β), frSt S k = k S
  | [], k => rfl
  | o :: r, k => by
    show (frO o fun o => frSt r fun r => k (o :: r)) = _
    rw [frO_eq]
    exact frSt_eq r _
end
noncomputable def frRes : Res PV → Res PV
  | .ok p S => frP p fun p => frSt S fun S => .ok p S
  | .err e S => (match e.k with
    | none => frNat e.c fun c => frSt S fun S => .err ⟨c, none⟩ S
    | some p => frNat e.c fun c => frP p fun p => frSt S fun S => .err ⟨c, some p⟩ S)
  | .bad => .bad
theorem frRes_eq (r : Res PV) : frRes r = r := by
  cases r with
  | ok p S =>
    show (frP p fun p => frSt S fun S => (Res.ok p S : Res PV)) = _
    rw [frP_eq, frSt_eq]
  | err e S =>
    obtain ⟨c, k⟩ := e
    cases k with
    | none =>
      show (frNat c fun c => frSt S fun S => (Res.err ⟨c, none⟩ S : Res PV)) = _
      rw [frNat_eq, frSt_eq]
    | some p =>
      show (frNat c fun c => frP p fun p => frSt S fun S => (Res.err ⟨c, some p⟩ S : Res PV)) = _
      rw [frNat_eq, frP_eq, frSt_eq]
  | bad => rfl
/-- a call, with all in its normal form -/
noncomputable def callF (P : Prog) (E : Ev) (f : Nat) (args : List PV) (S : Store) : Res PV := match P.fns[f]? with
  | some fn => if P.full.contains f = true then fcall (runFn E fn) args S else hcall (fun a S => frL a fun a => frSt S fun S => frRes (runFn E fn a S)) args S
  | none => .bad
theorem callF_eq (P : Prog) (E : Ev) : callF P E = callOf P E := by
  funext f args S
  unfold callF callOf
  cases P.fns[f]? with
  | none => rfl
  | some fn =>
    dsimp only
    have e : (fun a S => frL a fun a => frSt S fun S => frRes (runFn E fn a S)) = runFn E fn := by
      funext a S
      rw [frL_eq, frSt_eq, frRes_eq]
    rw [e]
noncomputable def evKF (P : Prog) : Nat → Bool → Ev
  | 0, gd => ⟨fun _ _ _ => .bad, fun _ _ _ => .bad, none, handOf P gd, gd, P.gl⟩
  | 1, gd => ⟨callF P (evKF P 0 gd), fun _ _ _ => .bad, none, handOf P gd, gd, P.gl⟩
  | 2, gd => ⟨callF P (evKF P 1 gd), fun _ _ _ => .bad, none, handOf P gd, gd, P.gl⟩
  | k + 3, gd => ⟨callF P (evKF P (k + 2) gd), metOf P gd (evKF P k gd).call, none, handOf P gd, gd, P.gl⟩
theorem evKF_eq (P : Prog) (gd : Bool) (k : Nat) : evKF P k gd = evK P k gd := by
  induction k using Nat.strongRecOn with
  | ind k ih =>
    match k, ih with
    | 0, _ => rfl
    | 1, ih =>
      unfold evKF evK
      rw [callF_eq, ih 0 (by omega)]
    | 2, ih =>
      unfold evKF evK
      rw [callF_eq, ih 1 (by omega)]
    | k + 3, ih =>
      unfold evKF evK
      rw [callF_eq, ih (k + 2) (by omega), ih k (by omega)]
end EV
/-! The E layer: the evaluator by combinators, for the kernel. -/
namespace EV
open PySem
abbrev M := Ev → Env → Store → Res AV
abbrev MP := Ev → Env → Store → Res (List PV)
abbrev MV := Ev → Env → Store → Res (List AV)
abbrev MO := Ev → Env → Store → Res (Option Int)
abbrev MC := Ev → Env → Store → Res Bool
abbrev MI := Ev → Env → Store → Res It
abbrev MG := Ev → PV → Env → Store → Res Env
abbrev MH := Ev → List PV → Env → Store → Res Env
abbrev MS := Ev → Env → Store → SRes
def mTest (m : M) : Ev → Env → Store → Res Bool := fun E env S => (m E env S).bind fun x S => orBad S (truth S x)
def k_ev_var (i : Nat) : M := fun E env S => match env[i]? with
    | some (some p) => .ok (.v p) S
    | _ => .bad
def k_ev_cst (p : PV) : M := fun E _ S => .ok (.v p) S
def k_ev_glo (k : Nat) : M := fun E _ S => (orBad S E.gl[k]?).bind fun p S => .ok (.v p) S
def k_ev_tup (m_es : MP) : M := fun E env S => (m_es E env S).bind fun l S => if l.length ≤ 1000000 then .ok (.v (.tup l)) S else .bad
def k_ev_tuq (m_es : MP) : M := fun E env S => (m_es E env S).bind fun l S => if l.length ≤ 1000000 then .ok (.v (.rot l)) S else .bad
def k_ev_lst (m_es : MP) : M := fun E env S => (m_es E env S).bind fun l S => if l.length ≤ 1000000 then .ok (.l l) S else .bad
def k_ev_dnw (t : Bool) : M := fun E _ S => .ok (if t = true then .dt [] else .dk []) S
def k_ev_dct (m_es : MP) : M := fun E env S => (m_es E env S).bind fun l S => orBad S ((pairsOf l).bind fun kvs => if kvs.length ≤ 15 then some (.dk (kvs.foldl (fun acc kv => setK kv.1 kv.2 acc) [])) else none)
def k_ev_dcu (m_es : MP) : M := fun E env S => (m_es E env S).bind fun l S => orBad S ((pairsT l).bind fun kvs => if kvs.length ≤ 15 then some (.dt (kvs.foldl (fun acc kv => setK kv.1 kv.2 acc) [])) else none)
def k_ev_bin (o : BOp) (m_a : M) (m_b : M) : M := fun E env S => (m_a E env S).bind fun x S => (m_b E env S).bind fun y S => orBad S (biOp S o x y)
def k_ev_neg (m_a : M) : M := fun E env S => (m_a E env S).bind fun x S => onInt x (fun i S => .ok (.v (.int (-i))) S) S
def k_ev_inv (m_a : M) : M := fun E env S => (m_a E env S).bind fun x S => onInt x (fun i S => .ok (.v (.int (Builtin.bitNot i))) S) S
def k_ev_no (m_a : M) : M := fun E env S => (m_a E env S).bind fun x S => (orBad S (truth S x)).bind fun b S => .ok (bl (!b)) S
def k_ev_and (m_a : M) (m_b : M) : M := fun E env S => (m_a E env S).bind fun x S => onBl x (fun c S => if c = true then (m_b E env S).bind fun y S => onBl y (fun c S => .ok (bl c) S) S else .ok (bl false) S) S
def k_ev_or (m_a : M) (m_b : M) : M := fun E env S => (m_a E env S).bind fun x S => onBl x (fun c S => if c = true then .ok (bl true) S else (m_b E env S).bind fun y S => onBl y (fun c S => .ok (bl c) S) S) S
def k_ev_cmp (o : COp) (m_a : M) (m_b : M) : M := fun E env S => (m_a E env S).bind fun x S => (m_b E env S).bind fun y S => (orBad S (coOp S o x y)).bind fun c S => .ok (bl c) S
def k_ev_chn (o : COp) (p : COp) (m_a : M) (m_b : M) (m_c : M) : M := fun E env S => (m_a E env S).bind fun x S => (m_b E env S).bind fun y S => (orBad S (coOp S o x y)).bind fun k S =>
      if k = true then (m_c E env S).bind fun z S => (orBad S (coOp S p y z)).bind fun k S => .ok (bl k) S else .ok (bl false) S
def k_ev_ifx (m_c : M) (m_a : M) (m_b : M) : M := fun E env S => (m_c E env S).bind fun x S => (orBad S (truth S x)).bind fun k S => if k = true then m_a E env S else m_b E env S
def k_ev_ix (m_a : M) (m_b : M) : M := fun E env S => (m_a E env S).bind fun x S => (m_b E env S).bind fun y S => (orBad S (ixOp S x y)).bind fun p S => .ok (.v p) S
def k_ev_sl (m_a : M) (m_lo : MO) (m_hi : MO) : M := fun E env S => (m_a E env S).bind fun x S => (m_lo E env S).bind fun l S => (m_hi E env S).bind fun h S => orBad S (cutA S x l h)
def k_ev_call (f : Nat) (m_es : MP) : M := fun E env S => (m_es E env S).bind fun l S => (E.call f l S).bind fun p S => .ok (.v p) S
def k_ev_cav (i : Nat) (m_es : MP) : M := fun E env S => match env[i]? with
    | some (some (.fn f)) => (m_es E env S).bind fun l S => (E.call f l S).bind fun p S => .ok (.v p) S
    | _ => .bad
def k_ev_lam (g : Nat) (m_b : M) : M := fun E env S => (E.callT g (fun c S => m_b ⟨c, fun _ _ _ => .bad, none, E.hand, E.gd, E.gl⟩ env S) S).calm.bind fun p S => .ok (.v p) S
def k_ev_fnv (i : Nat) : M := fun E _ S => .ok (.v (.fn i)) S
def k_ev_dead  : M := fun E _ _ => .bad
def k_ev_rgl (t : Bool) (m_a : MO) (m_b : M) : M := fun E env S => (m_a E env S).bind fun x S => (m_b E env S).bind fun y S => onInt y (fun j S => orBad S (rgOf t x j)) S
def k_ev_thk  : M := fun E _ _ => .bad
def k_ev_bf1 (f : BF) (m_a : M) : M := fun E env S => (m_a E env S).bind fun x S => orBad S (fn1 E.gd S f x)
def k_ev_bf2 (f : BF) (m_a : M) (m_b : M) : M := fun E env S => (m_a E env S).bind fun x S => (m_b E env S).bind fun y S => orBad S (fn2 S f x y)
def k_ev_mt (m : MF) (m_o : M) (m_es : MV) : M := fun E env S => (m_o E env S).bind fun x S => if recv S m x = true then ((m_es E env S).bind fun l S => match mth S m x l with
    | some (a, S) => .ok a S
    | none => .bad) else .bad
def k_ev_mtk (m : MF) (m_o : M) (m_es : MP) : M := fun E env S => (m_o E env S).bind fun x S => if recv S m x = true then (((m_es E env S).bind fun l S => .ok (l.map AV.v) S).bind fun l S => match mth S m x l with
    | some (a, S) => .ok a S
    | none => .bad) else .bad
def k_ev_revL (m_a : M) : M := fun E env S => (m_a E env S).bind fun x S => orBad S (revA S x)
def k_ev_lc (own : List (Str × Nat)) (m_tg : MG) (m_it : MI) (m_c : MC) (m_e : M) : M := fun E env S => (m_it E env S).bind fun i S =>
      (lcL (fun p S => (m_tg E p (wipe env (own.map (·.2))) S).calm.bind fun env S => (m_c E env S).bind fun k S =>
        if k = true then ((m_e E env S).bind keep).bind fun q S => .ok (some q) S else .ok none S) i fuel 0 S).calm.bind fun l S => .ok (.l l) S
def k_ev_lc2 (own : List (Str × Nat)) (m_tg : MG) (m_it : MI) (m_c : MC) (m_tg1 : MG) (w_tg1 : List Nat) (m_it1 : MI) (m_c1 : MC) (m_e : M) : M := fun E env S => (m_it E env S).bind fun i S =>
      (lcN (fun p S => (m_tg E p (wipe env (own.map (·.2))) S).calm.bind fun env S => (m_c E env S).bind fun k S =>
        if k = true then (m_it1 E env S).bind fun i1 S => if noFr i1 = true then lcL (fun p S => (m_tg1 E p (wipe env (w_tg1)) S).calm.bind fun env S => (m_c1 E env S).bind fun k S =>
          if k = true then ((m_e E env S).bind keep).bind fun q S => .ok (some q) S else .ok none S) i1 fuel 0 S else .bad else .ok [] S) i fuel 0 S).calm.bind shortL
def k_ev_dc (own : List (Str × Nat)) (m_tg : MG) (m_it : MI) (m_c : MC) (m_k : M) (m_v : M) : M := fun E env S => (m_it E env S).bind fun i S =>
      (dcL (fun p S => (m_tg E p (wipe env (own.map (·.2))) S).calm.bind fun env S => (m_c E env S).bind fun b S =>
        if b = true then ((m_k E env S).bind keep).bind fun q S => ((m_v E env S).bind keep).bind fun r S => .ok (some (q, r)) S else .ok none S) i fuel 0 [] S).calm.bind fun l S => .ok (.dk l) S
def k_ev_dcT (own : List (Str × Nat)) (m_tg : MG) (m_it : MI) (m_c : MC) (m_k : M) (m_v : M) : M := fun E env S => (m_it E env S).bind fun i S =>
      (dcLT (fun p S => (m_tg E p (wipe env (own.map (·.2))) S).calm.bind fun env S => (m_c E env S).bind fun b S =>
        if b = true then ((m_k E env S).bind keep).bind fun q S => ((m_v E env S).bind keep).bind fun r S => .ok (some (q, r)) S else .ok none S) i fuel 0 [] S).calm.bind fun l S => .ok (.dt l) S
def k_evs_nil  : MP := fun E _ S => .ok [] S
def k_evs_one (m_e : M) (m_r : MP) : MP := fun E env S => ((m_e E env S).bind keep).bind fun p S => (m_r E env S).bind fun l S => .ok (p :: l) S
def k_evs_star (m_e : M) (m_r : MP) : MP := fun E env S => (m_e E env S).bind fun x S => match seqOf S x with
    | some l => (m_r E env S).bind fun m S => .ok (l ++ m) S
    | none => .bad
def k_eva_nil  : MV := fun E _ S => .ok [] S
def k_eva_one (m_e : M) (m_r : MV) : MV := fun E env S => (m_e E env S).bind fun p S => (m_r E env S).bind fun l S => .ok (p :: l) S
def k_eva_star  : MV := fun E _ _ => .bad
def k_evo_no  : MO := fun E _ S => .ok none S
def k_evo_so (m_e : M) : MO := fun E env S => (m_e E env S).bind fun x S => onInt x (fun i S => .ok (some i) S) S
def k_evc_no  : MC := fun E _ S => .ok true S
def k_evc_so (m_e : M) : MC := fun E env S => (m_e E env S).bind fun x S => orBad S (truth S x)
def k_evi_seq (m_e : M) : MI := fun E env S => (m_e E env S).bind fun x S => (orBad S (srcOf S x)).bind fun s S => .ok (.src s) S
def k_evi_rng (m_a : MO) (m_b : M) : MI := fun E env S => (m_a E env S).bind fun x S => (m_b E env S).bind fun y S => onInt y (fun j S => orBad S (rngOf x j)) S
def k_evi_enum (m_e : M) : MI := fun E env S => (m_e E env S).bind fun x S => (orBad S (srcOf S x)).bind fun s S => .ok (.enum s) S
def k_evi_zip (m_a : M) (m_b : M) : MI := fun E env S => (m_a E env S).bind fun x S => (m_b E env S).bind fun y S => (orBad S (zipOf S x y)).bind fun z S => .ok z S
def k_asg_nm (i : Nat) : MG := fun E p env S => .ok (env.set i (some p)) S
def k_asg_tp (m_ts : MH) (w_ts : Nat) : MG := fun E p env S => (asTup (w_ts) p S).bind fun l S => m_ts E l env S
def k_asg_sub (m_o : M) (m_i : M) : MG := fun E p env S => (m_o E env S).bind fun x S => ((m_i E env S).bind keep).bind fun y S => match putA S x y p with
    | some S => .ok env S
    | none => .bad
def k_asgs_nil : MH := fun E l env S => match l with
  | [] => .ok env S
  | _ => .bad
def k_asgs_cons (m_t : MG) (m_r : MH) : MH := fun E l env S => match l with
  | p :: l => (m_t E p env S).bind fun env S => m_r E l env S
  | [] => .bad
def k_evS_ex (m_e : M) : MS := fun E env S => (m_e E env S).andS env fun _ S => .next env S
def k_evS_set (m_t : MG) (m_e : M) : MS := fun E env S => ((m_e E env S).bind keep).andS env fun p S => (m_t E p env S).calm.andS env fun env S => .next env S
def k_evS_par (is : List Nat) (m_es : MP) : MS := fun E env S => (m_es E env S).andS env fun l S => if l.length = is.length then .next ((is.zip l).foldl (fun env q => env.set q.1 (some q.2)) env) S else .bad
def k_evS_aug (i : Nat) (o : BOp) (m_e : M) : MS := fun E env S => match env[i]? with
    | some (some p) => (m_e E env S).andS env fun y S => match ipA S o p y with
      | some (q, S) => .next (env.set i (some q)) S
      | none => .bad
    | _ => .bad
def k_evS_augS (m_o : M) (m_i : M) (op : BOp) (m_e : M) : MS := fun E env S => (m_o E env S).andS env fun x S => ((m_i E env S).bind keep).andS env fun k S => (orBad S (ixP S x k)).andS env fun p S =>
      (m_e E env S).andS env fun y S => match ipA S op p y with
        | some (q, S) => (match putA S x k q with
          | some S => .next env S
          | none => .bad)
        | none => .bad
def k_evS_retN  : MS := fun E _ S => .ret .non S
def k_evS_retS (m_e : M) : MS := fun E env S => ((m_e E env S).bind keep).andS env fun p S => .ret p S
def k_evS_ife (m_c : M) (m_a : MS) (m_b : MS) : MS := fun E env S => (mTest m_c E env S).andS env fun k S => if k = true then m_a E env S else m_b E env S
def k_evS_whl (m_c : M) (m_b : MS) : MS := fun E env S => whlL (mTest m_c E) (m_b E) fuel env S
def k_evS_for_ (m_tg : MG) (m_it : MI) (m_b : MS) : MS := fun E env S => (m_it E env S).andS env fun i S => forL (fun p env S => (m_tg E p env S).calm.andS env fun env S => m_b E env S) i fuel 0 env S
def k_evS_brk  : MS := fun E env S => .brk env S
def k_evS_cnt  : MS := fun E env S => .cont env S
def k_evS_pass  : MS := fun E env S => .next env S
def k_evS_dead  : MS := fun E _ _ => .bad
def k_evS_raiN (c : Nat) : MS := fun E env S => .err ⟨c, none⟩ env S
def k_evS_raiS (c : Nat) (m_e : M) : MS := fun E env S => ((m_e E env S).bind keep).andS env fun p S => .err ⟨c, some p⟩ env S
def k_evS_tr (m_b : MS) (hs : List (Nat × Hx)) : MS := fun E env S => match m_b E env S with
    | .err e env S => (match E.hand e hs S with
      | some (some p) => .ret p S
      | some none => .err e env S
      | none => .bad)
    | r => r
def k_evSs_nil  : MS := fun E env S => .next env S
def k_evSs_cons (m_s : MS) (m_r : MS) : MS := fun E env S => match m_s E env S with
    | .next env S => m_r E env S
    | .brk env S => .brk env S
    | .cont env S => .cont env S
    | .ret p S => .ret p S
    | .err e env S => .err e env S
    | .bad => .bad
mutual
def cE : Ex → M
  | .var i => k_ev_var i
  | .cst p => k_ev_cst p
  | .glo k => k_ev_glo k
  | .tup es => k_ev_tup (cP es)
  | .tuq es => k_ev_tuq (cP es)
  | .lst es => k_ev_lst (cP es)
  | .dnw t => k_ev_dnw t
  | .dct es => k_ev_dct (cP es)
  | .dcu es => k_ev_dcu (cP es)
  | .bin o a b => k_ev_bin o (cE a) (cE b)
  | .neg a => k_ev_neg (cE a)
  | .inv a => k_ev_inv (cE a)
  | .no a => k_ev_no (cE a)
  | .and a b => k_ev_and (cE a) (cE b)
  | .or a b => k_ev_or (cE a) (cE b)
  | .cmp o a b => k_ev_cmp o (cE a) (cE b)
  | .chn o p a b c => k_ev_chn o p (cE a) (cE b) (cE c)
  | .ifx c a b => k_ev_ifx (cE c) (cE a) (cE b)
  | .ix a b => k_ev_ix (cE a) (cE b)
  | .sl a lo hi => k_ev_sl (cE a) (cO lo) (cO hi)
  | .call f es => k_ev_call f (cP es)
  | .cav i es => k_ev_cav i (cP es)
  | .lam g b => k_ev_lam g (cE b)
  | .fnv i => k_ev_fnv i
  | .dead => k_ev_dead
  | .rgl t a b => k_ev_rgl t (cO a) (cE b)
  | .thk => k_ev_thk
  | .bf1 f a => k_ev_bf1 f (cE a)
  | .bf2 f a b => k_ev_bf2 f (cE a) (cE b)
  | .mt m o es => k_ev_mt m (cE o) (cV es)
  | .mtk m o es => k_ev_mtk m (cE o) (cP es)
  | .revL a => k_ev_revL (cE a)
  | .lc own tg it c e => k_ev_lc own (cG tg) (cI it) (cC c) (cE e)
  | .lc2 own tg it c tg1 it1 c1 e => k_ev_lc2 own (cG tg) (cI it) (cC c) (cG tg1) (slots tg1) (cI it1) (cC c1) (cE e)
  | .dc own tg it c k v => k_ev_dc own (cG tg) (cI it) (cC c) (cE k) (cE v)
  | .dcT own tg it c k v => k_ev_dcT own (cG tg) (cI it) (cC c) (cE k) (cE v)
def cP : Exs → MP
  | .nil => k_evs_nil
  | .one e r => k_evs_one (cE e) (cP r)
  | .star e r => k_evs_star (cE e) (cP r)
def cV : Exs → MV
  | .nil => k_eva_nil
  | .one e r => k_eva_one (cE e) (cV r)
  | .star _ _ => k_eva_star
def cO : Exo → MO
  | .no => k_evo_no
  | .so e => k_evo_so (cE e)
def cC : Exo → MC
  | .no => k_evc_no
  | .so e => k_evc_so (cE e)
def cI : Ix → MI
  | .seq e => k_evi_seq (cE e)
  | .rng a b => k_evi_rng (cO a) (cE b)
  | .enum e => k_evi_enum (cE e)
  | .zip a b => k_evi_zip (cE a) (cE b)
def cG : Tg → MG
  | .nm i => k_asg_nm i
  | .tp ts => k_asg_tp (cH ts) (lenT ts)
  | .sub o i => k_asg_sub (cE o) (cE i)
def cH : Tgs → MH
  | .nil => k_asgs_nil
  | .cons t r => k_asgs_cons (cG t) (cH r)
end
mutual
def cS : Sx → MS
  | .ex e => k_evS_ex (cE e)
  | .set t e => k_evS_set (cG t) (cE e)
  | .par is es => k_evS_par is (cP es)
  | .aug i o e => k_evS_aug i o (cE e)
  | .augS o i op e => k_evS_augS (cE o) (cE i) op (cE e)
  | .ret .no => k_evS_retN
  | .ret (.so e) => k_evS_retS (cE e)
  | .ife c a b => k_evS_ife (cE c) (cB a) (cB b)
  | .whl c b => k_evS_whl (cE c) (cB b)
  | .for_ tg it b => k_evS_for_ (cG tg) (cI it) (cB b)
  | .brk => k_evS_brk
  | .cnt => k_evS_cnt
  | .pass => k_evS_pass
  | .dead => k_evS_dead
  | .rai c .no => k_evS_raiN c
  | .rai c (.so e) => k_evS_raiS c (cE e)
  | .tr b hs => k_evS_tr (cB b) hs
def cB : Sxs → MS
  | .nil => k_evSs_nil
  | .cons s r => k_evSs_cons (cS s) (cB r)
end
mutual
theorem cE_eq : ∀ x : Ex, cE x = fun E env S => ev E x env S
  | .var i => by
    show k_ev_var i = _
    funext E env S
    (first | rfl | (unfold ev; rfl) | (conv => rhs; unfold ev) )
  | .cst p => by
    show k_ev_cst p = _
    funext E env S
    (first | rfl | (unfold ev; rfl) | (conv => rhs; unfold ev) )
  | .glo k => by
    show k_ev_glo k = _
    funext E env S
    (first | rfl | (unfold ev; rfl) | (conv => rhs; unfold ev) )
  | .tup es => by
    show k_ev_tup (cP es) = _
    rw [cP_eq es]
    funext E env S
    (first | rfl | (unfold ev; rfl) | (conv => rhs; unfold ev) )
  | .tuq es => by
    show k_ev_tuq (cP es) = _
    rw [cP_eq es]
    funext E env S
    (first | rfl | (unfold ev; rfl) | (conv => rhs; unfold ev) )
  | .lst es => by
    show k_ev_lst (cP es) = _
    rw [cP_eq es]
    funext E env S
    (first | rfl | (unfold ev; rfl) | (conv => rhs; unfold ev) )
  | .dnw t => by
    show k_ev_dnw t = _
    funext E env S
    (first | rfl | (unfold ev; rfl) | (conv => rhs; unfold ev) )
  | .dct es => by
    show k_ev_dct (cP es) = _
    rw [cP_eq es]
    funext E env S
    (first | rfl | (unfold ev; rfl) | (conv => rhs; unfold ev) )
  | .dcu es => by
    show k_ev_dcu (cP es) = _
    rw [cP_eq es]
    funext E env S
    (first | rfl | (unfold ev; rfl) | (conv => rhs; unfold ev) )
  | .bin o a b => by
    show k_ev_bin o (cE a) (cE b) = _
    rw [cE_eq a]
    rw [cE_eq b]
    funext E env S
    (first | rfl | (unfold ev; rfl) | (conv => rhs; unfold ev) )
  | .neg a => by
    show k_ev_neg (cE a) = _
    rw [cE_eq a]
    funext E env S
    (first | rfl | (unfold ev; rfl) | (conv => rhs; unfold ev) )
  | .inv a => by
    show k_ev_inv (cE a) = _
    rw [cE_eq a]
    funext E env S
    (first | rfl | (unfold ev; rfl) | (conv => rhs; unfold ev) )
  | .no a => by
    show k_ev_no (cE a) = _
    rw [cE_eq a]
    funext E env S
    (first | rfl | (unfold ev; rfl) | (conv => rhs; unfold ev) )
  | .and a b => by
    show k_ev_and (cE a) (cE b) = _
    rw [cE_eq a]
    rw [cE_eq b]
    funext E env S
    (first | rfl | (unfold ev; rfl) | (conv => rhs; unfold ev) )
  | .or a b => by
    show k_ev_or (cE a) (cE b) = _
    rw [cE_eq a]
    rw [cE_eq b]
    funext E env S
    (first | rfl | (unfold ev; rfl) | (conv => rhs; unfold ev) )
  | .cmp o a b => by
    show k_ev_cmp o (cE a) (cE b) = _
    rw [cE_eq a]
    rw [cE_eq b]
    funext E env S
    (first | rfl | (unfold ev; rfl) | (conv => rhs; unfold ev) )
  | .chn o p a b c => by
    show k_ev_chn o p (cE a) (cE b) (cE c) = _
    rw [cE_eq a]
    rw [cE_eq b]
    rw [cE_eq c]
    funext E env S
    (first | rfl | (unfold ev; rfl) | (conv => rhs; unfold ev) )
  | .ifx c a b => by
    show k_ev_ifx (cE c) (cE a) (cE b) = _
    rw [cE_eq c]
    rw [cE_eq a]
    rw [cE_eq b]
    funext E env S
    (first | rfl | (unfold ev; rfl) | (conv => rhs; unfold ev) )
  | .ix a b => by
    show k_ev_ix (cE a) (cE b) = _
    rw [cE_eq a]
    rw [cE_eq b]
    funext E env S
    (first | rfl | (unfold ev; rfl) | (conv => rhs; unfold ev) )
  | .sl a lo hi => by
    show k_ev_sl (cE a) (cO lo) (cO hi) = _
    rw [cE_eq a]
    rw [cO_eq lo]
    rw [cO_eq hi]
    funext E env S
    (first | rfl | (unfold ev; rfl) | (conv => rhs; unfold ev) )
  | .call f es => by
    show k_ev_call f (cP es) = _
    rw [cP_eq es]
    funext E env S
    (first | rfl | (unfold ev; rfl) | (conv => rhs; unfold ev) )
  | .cav i es => by
    show k_ev_cav i (cP es) = _
    rw [cP_eq es]
    funext E env S
    (first | rfl | (unfold ev; rfl) | (conv => rhs; unfold ev) )
  | .lam g b => by
    show k_ev_lam g (cE b) = _
    rw [cE_eq b]
    funext E env S
    (first | rfl | (unfold ev; rfl) | (conv => rhs; unfold ev) )
  | .fnv i => by
    show k_ev_fnv i = _
    funext E env S
    (first | rfl | (unfold ev; rfl) | (conv => rhs; unfold ev) )
  | .dead => by
    show k_ev_dead = _
    funext E env S
    (first | rfl | (unfold ev; rfl) | (conv => rhs; unfold ev) )
  | .rgl t a b => by
    show k_ev_rgl t (cO a) (cE b) = _
    rw [cO_eq a]
    rw [cE_eq b]
    funext E env S
    (first | rfl | (unfold ev; rfl) | (conv => rhs; unfold ev) )
  | .thk => by
    show k_ev_thk = _
    funext E env S
    (first | rfl | (unfold ev; rfl) | (conv => rhs; unfold ev) )
  | .bf1 f a => by
    show k_ev_bf1 f (cE a) = _
    rw [cE_eq a]
    funext E env S
    (first | rfl | (unfold ev; rfl) | (conv => rhs; unfold ev) )
  | .bf2 f a b => by
    show k_ev_bf2 f (cE a) (cE b) = _
    rw [cE_eq a]
    rw [cE_eq b]
    funext E env S
    (first | rfl | (unfold ev; rfl) | (conv => rhs; unfold ev) )
  | .mt m o es => by
    show k_ev_mt m (cE o) (cV es) = _
    rw [cE_eq o]
    rw [cV_eq es]
    funext E env S
    (first | rfl | (unfold ev; rfl) | (conv => rhs; unfold ev) )
  | .mtk m o es => by
    show k_ev_mtk m (cE o) (cP es) = _
    rw [cE_eq o]
    rw [cP_eq es]
    funext E env S
    (first | rfl | (unfold ev; rfl) | (conv => rhs; unfold ev) )
  | .revL a => by
    show k_ev_revL (cE a) = _
    rw [cE_eq a]
    funext E env S
    (first | rfl | (unfold ev; rfl) | (conv => rhs; unfold ev) )
  | .lc own tg it c e => by
    show k_ev_lc own (cG tg) (cI it) (cC c) (cE e) = _
    rw [cG_eq tg]
    rw [cI_eq it]
    rw [cC_eq c]
    rw [cE_eq e]
    funext E env S
    (first | rfl | (unfold ev; rfl) | (conv => rhs; unfold ev) )
  | .lc2 own tg it c tg1 it1 c1 e => by
    show k_ev_lc2 own (cG tg) (cI it) (cC c) (cG tg1) (slots tg1) (cI it1) (cC c1) (cE e) = _
    rw [cG_eq tg]
    rw [cI_eq it]
    rw [cC_eq c]
    rw [cG_eq tg1]
    rw [cI_eq it1]
    rw [cC_eq c1]
    rw [cE_eq e]
    funext E env S
    (first | rfl | (unfold ev; rfl) | (conv => rhs; unfold ev) )
  | .dc own tg it c k v => by
    show k_ev_dc own (cG tg) (cI it) (cC c) (cE k) (cE v) = _
    rw [cG_eq tg]
    rw [cI_eq it]
    rw [cC_eq c]
    rw [cE_eq k]
    rw [cE_eq v]
    funext E env S
    (first | rfl | (unfold ev; rfl) | (conv => rhs; unfold ev) )
  | .dcT own tg it c k v => by
    show k_ev_dcT own (cG tg) (cI it) (cC c) (cE k) (cE v) = _
    rw [cG_eq tg]
    rw [cI_eq it]
    rw [cC_eq c]
    rw [cE_eq k]
    rw [cE_eq v]
    funext E env S
    (first | rfl | (unfold ev; rfl) | (conv => rhs; unfold ev) )
theorem cP_eq : ∀ x : Exs, cP x = fun E env S => evs E x env S
  | .nil => by
    show k_evs_nil = _
    funext E env S
    (first | rfl | (unfold evs; rfl) | (conv => rhs; unfold evs) )
  | .one e r => by
    show k_evs_one (cE e) (cP r) = _
    rw [cE_eq e]
    rw [cP_eq r]
    funext E env S
    (first | rfl | (unfold evs; rfl) | (conv => rhs; unfold evs) )
  | .star e r => by
    show k_evs_star (cE e) (cP r) = _
    rw [cE_eq e]
    rw [cP_eq r]
    funext E env S
    (first | rfl | (unfold evs; rfl) | (conv => rhs; unfold evs) )
theorem cV_eq : ∀ x : Exs, cV x = fun E env S => eva E x env S
  | .nil => by
    show k_eva_nil = _
    funext E env S
    (first | rfl | (unfold eva; rfl) | (conv => rhs; unfold eva) )
  | .one e r => by
    show k_eva_one (cE e) (cV r) = _
    rw [cE_eq e]
    rw [cV_eq r]
    funext E env S
    (first | rfl | (unfold eva; rfl) | (conv => rhs; unfold eva) )
  | .star _ _ => by
    show k_eva_star = _
    funext E env S
    (first | rfl | (unfold eva; rfl) | (conv => rhs; unfold eva) )
theorem cO_eq : ∀ x : Exo, cO x = fun E env S => evo E x env S
  | .no => by
    show k_evo_no = _
    funext E env S
    (first | rfl | (unfold evo; rfl) | (conv => rhs; unfold evo) )
  | .so e => by
    show k_evo_so (cE e) = _
    rw [cE_eq e]
    funext E env S
    (first | rfl | (unfold evo; rfl) | (conv => rhs; unfold evo) )
theorem cC_eq : ∀ x : Exo, cC x = fun E env S => evc E x env S
  | .no => by
    show k_evc_no = _
    funext E env S
    (first | rfl | (unfold evc; rfl) | (conv => rhs; unfold evc) )
  | .so e => by
    show k_evc_so (cE e) = _
    rw [cE_eq e]
    funext E env S
    (first | rfl | (unfold evc; rfl) | (conv => rhs; unfold evc) )
theorem cI_eq : ∀ x : Ix, cI x = fun E env S => evi E x env S
  | .seq e => by
    show k_evi_seq (cE e) = _
    rw [cE_eq e]
    funext E env S
    (first | rfl | (unfold evi; rfl) | (conv => rhs; unfold evi) )
  | .rng a b => by
    show k_evi_rng (cO a) (cE b) = _
    rw [cO_eq a]
    rw [cE_eq b]
    funext E env S
    (first | rfl | (unfold evi; rfl) | (conv => rhs; unfold evi) )
  | .enum e => by
    show k_evi_enum (cE e) = _
    rw [cE_eq e]
    funext E env S
    (first | rfl | (unfold evi; rfl) | (conv => rhs; unfold evi) )
  | .zip a b => by
    show k_evi_zip (cE a) (cE b) = _
    rw [cE_eq a]
    rw [cE_eq b]
    funext E env S
    (first | rfl | (unfold evi; rfl) | (conv => rhs; unfold evi) )
theorem cG_eq : ∀ x : Tg, cG x = fun E p env S => asg E x p env S
  | .nm i => by
    show k_asg_nm i = _
    funext E p env S
    (first | rfl | (unfold asg; rfl) | (conv => rhs; unfold asg) )
  | .tp ts => by
    show k_asg_tp (cH ts) (lenT ts) = _
    rw [cH_eq ts]
    funext E p env S
    (first | rfl | (unfold asg; rfl) | (conv => rhs; unfold asg) )
  | .sub o i => by
    show k_asg_sub (cE o) (cE i) = _
    rw [cE_eq o]
    rw [cE_eq i]
    funext E p env S
    (first | rfl | (unfold asg; rfl) | (conv => rhs; unfold asg) )
theorem cH_eq : ∀ x : Tgs, cH x = fun E l env S => asgs E x l env S
  | .nil => by
    show k_asgs_nil = _
    funext E l env S
    cases l <;> (first | rfl | (conv => rhs; unfold asgs))
  | .cons t r => by
    show k_asgs_cons (cG t) (cH r) = _
    rw [cG_eq t]
    rw [cH_eq r]
    funext E l env S
    cases l <;> (first | rfl | (conv => rhs; unfold asgs))
end
mutual
theorem cS_eq : ∀ x : Sx, cS x = fun E env S => evS E x env S
  | .ex e => by
    show k_evS_ex (cE e) = _
    rw [cE_eq e]
    funext E env S
    (first | rfl | (unfold evS; rfl) | (conv => rhs; unfold evS) )
  | .set t e => by
    show k_evS_set (cG t) (cE e) = _
    rw [cG_eq t]
    rw [cE_eq e]
    funext E env S
    (first | rfl | (unfold evS; rfl) | (conv => rhs; unfold evS) )
  | .par is es => by
    show k_evS_par is (cP es) = _
    rw [cP_eq es]
    funext E env S
    (first | rfl | (unfold evS; rfl) | (conv => rhs; unfold evS) )
  | .aug i o e => by
    show k_evS_aug i o (cE e) = _
    rw [cE_eq e]
    funext E env S
    (first | rfl | (unfold evS; rfl) | (conv => rhs; unfold evS) )
  | .augS o i op e => by
    show k_evS_augS (cE o) (cE i) op (cE e) = _
    rw [cE_eq o]
    rw [cE_eq i]
    rw [cE_eq e]
    funext E env S
    (first | rfl | (unfold evS; rfl) | (conv => rhs; unfold evS) )
  | .ret .no => by
    show k_evS_retN = _
    funext E env S
    (first | rfl | (unfold evS; rfl) | (conv => rhs; unfold evS) )
  | .ret (.so e) => by
    show k_evS_retS (cE e) = _
    rw [cE_eq e]
    funext E env S
    (first | rfl | (unfold evS; rfl) | (conv => rhs; unfold evS) )
  | .ife c a b => by
    show k_evS_ife (cE c) (cB a) (cB b) = _
    rw [cE_eq c]
    rw [cB_eq a]
    rw [cB_eq b]
    funext E env S
    (first | rfl | (unfold evS; rfl) | (conv => rhs; unfold evS) )
  | .whl c b => by
    show k_evS_whl (cE c) (cB b) = _
    rw [cE_eq c]
    rw [cB_eq b]
    funext E env S
    (first | rfl | (unfold evS; rfl) | (conv => rhs; unfold evS) )
  | .for_ tg it b => by
    show k_evS_for_ (cG tg) (cI it) (cB b) = _
    rw [cG_eq tg]
    rw [cI_eq it]
    rw [cB_eq b]
    funext E env S
    (first | rfl | (unfold evS; rfl) | (conv => rhs; unfold evS) )
  | .brk => by
    show k_evS_brk = _
    funext E env S
    (first | rfl | (unfold evS; rfl) | (conv => rhs; unfold evS) )
  | .cnt => by
    show k_evS_cnt = _
    funext E env S
    (first | rfl | (unfold evS; rfl) | (conv => rhs; unfold evS) )
  | .pass => by
    show k_evS_pass = _
    funext E env S
    (first | rfl | (unfold evS; rfl) | (conv => rhs; unfold evS) )
  | .dead => by
    show k_evS_dead = _
    funext E env S
    (first | rfl | (unfold evS; rfl) | (conv => rhs; unfold evS) )
  | .rai c .no => by
    show k_evS_raiN c = _
    funext E env S
    (first | rfl | (unfold evS; rfl) | (conv => rhs; unfold evS) )
  | .rai c (.so e) => by
    show k_evS_raiS c (cE e) = _
    rw [cE_eq e]
    funext E env S
    (first | rfl | (unfold evS; rfl) | (conv => rhs; unfold evS) )
  | .tr b hs => by
    show k_evS_tr (cB b) hs = _
    rw [cB_eq b]
    funext E env S
    (first | rfl | (unfold evS; rfl) | (conv => rhs; unfold evS) )
theorem cB_eq : ∀ x : Sxs, cB x = fun E env S => evSs E x env S
  | .nil => by
    show k_evSs_nil = _
    funext E env S
    (first | rfl | (unfold evSs; rfl) | (conv => rhs; unfold evSs) )
  | .cons s r => by
    show k_evSs_cons (cS s) (cB r) = _
    rw [cS_eq s]
    rw [cB_eq r]
    funext E env S
    (first | rfl | (unfold evSs; rfl) | (conv => rhs; unfold evSs) )
end
end EV
/-! The E layer: a text by combinators; its calls. -/
namespace EV
open PySem
structure CFn where
  np : Nat
  ns : Nat
  run : MS
  met : Option (List (Nat × Hx) × PV)
def comF (fn : Fn) : CFn := ⟨fn.np, fn.ns, cB fn.body, metS fn.body⟩
def runC (E : Ev) (c : CFn) (args : List PV) (S : Store) : Res PV := if args.length = c.np then outOf (c.run E (args.map some ++ List.replicate (c.ns - c.np) none) S) else .bad
theorem runC_eq (E : Ev) (fn : Fn) : runC E (comF fn) = runFn E fn := by
  funext args S
  unfold runC runFn comF
  rw [cB_eq]
def lk {α : Type} : List α → Nat → Option α
  | [], _ => none
  | a :: _, 0 => some a
  | _ :: l, n + 1 => lk l n
theorem lk_eq {α : Type} : ∀ (l : List α) (n : Nat), lk l n = l[n]?
  | [], n => rfl
  | a :: l, 0 => rfl
  | a :: l, n + 1 => by
    show lk l n = _
    rw [lk_eq l n]
    rfl
/-- lists of eight, one behind the other -/
def lk8 {α : Type} (L : List (List α)) (n : Nat) : Option α := match lk L (n / 8) with
  | some l => lk l (n % 8)
  | none => none
def ok8 {α : Type} : List (List α) → Bool
  | [] => true
  | [c] => Nat.ble c.length 8
  | c :: r => Nat.beq c.length 8 && ok8 r
theorem lk8_eq {α : Type} : ∀ (L : List (List α)) (n : Nat), ok8 L = true → lk8 L n = L.flatten[n]?
  | [], n, _ => rfl
  | [c], n, h => by
    have h : c.length ≤ 8 := Nat.le_of_ble_eq_true h
    unfold lk8
    by_cases hn : n < 8
    · have e1 : n / 8 = 0 := by omega
      have e2 : n % 8 = n := by omega
      rw [e1, e2]
      show lk c n = _
      rw [lk_eq]
      simp
    · obtain ⟨m, e1⟩ : ∃ m, n / 8 = m + 1 := ⟨n / 8 - 1, by omega⟩
      rw [e1]
      show none = _
      simp only [List.flatten_cons, List.flatten_nil, List.append_nil]
      rw [List.getElem?_eq_none (by omega)]
  | c :: d :: r, n, h => by
    have h : (Nat.beq c.length 8 && ok8 (d :: r)) = true := h
    rw [Bool.and_eq_true] at h
    have hl : c.length = 8 := Nat.eq_of_beq_eq_true h.1
    by_cases hn : n < 8
    · have e1 : n / 8 = 0 := by omega
      have e2 : n % 8 = n := by omega
      unfold lk8
      rw [e1, e2]
      show lk c n = _
      rw [lk_eq, List.flatten_cons, List.getElem?_append_left (by omega)]
    · have ih := lk8_eq (d :: r) (n - 8) h.2
      rw [List.flatten_cons, List.getElem?_append_right (by omega), hl, ← ih]
      unfold lk8
      have e1 : n / 8 = (n - 8) / 8 + 1 := by omega
      have e2 : n % 8 = (n - 8) % 8 := by omega
      rw [e1, e2]
      rfl
mutual
theorem mapP_no (f : Nat → Nat) : ∀ p : PV, locsP p = [] → mapP f p = p
  | .non, _ => rfl
  | .bl _, _ => rfl
  | .int _, _ => rfl
  | .str _, _ => rfl
  | .fn _, _ => rfl
  | .loc _, h => by simp [locsP] at h
  | .tup l, h => by
    unfold mapP
    rw [mapL_no f l (by simpa [locsP] using h)]
  | .rot l, h => by
    unfold mapP
    rw [mapL_no f l (by simpa [locsP] using h)]
  | .rol l, h => by
    unfold mapP
    rw [mapL_no f l (by simpa [locsP] using h)]
theorem mapL_no (f : Nat → Nat) : ∀ l : List PV, locsL l = [] → mapL f l = l
  | [], _ => rfl
  | p :: r, h => by
    unfold locsL at h
    have h := List.append_eq_nil_iff.mp h
    unfold mapL
    rw [mapP_no f p h.1, mapL_no f r h.2]
end
/-- whether some place is held -/
noncomputable def hasP (p : PV) : Bool := PV.rec (motive_1 := fun _ => Bool) (motive_2 := fun _ => Bool) false (fun _ => false) (fun _ => false) (fun _ => false) (fun _ i => i) (fun _ i => i) (fun _ i => i) (fun _ => true) (fun _ => false) false (fun _ _ a b => cond a true b) p
noncomputable def hasL (l : List PV) : Bool := PV.rec_1 (motive_1 := fun _ => Bool) (motive_2 := fun _ => Bool) false (fun _ => false) (fun _ => false) (fun _ => false) (fun _ i => i) (fun _ i => i) (fun _ i => i) (fun _ => true) (fun _ => false) false (fun _ _ a b => cond a true b) l
mutual
theorem hasP_no : ∀ p : PV, hasP p = false → locsP p = []
  | .non, _ => rfl
  | .bl _, _ => rfl
  | .int _, _ => rfl
  | .str _, _ => rfl
  | .fn _, _ => rfl
  | .loc _, h => by cases (show true = false from h)
  | .tup l, h => by
    unfold locsP
    exact hasL_no l h
  | .rot l, h => by
    unfold locsP
    exact hasL_no l h
  | .rol l, h => by
    unfold locsP
    exact hasL_no l h
theorem hasL_no : ∀ l : List PV, hasL l = false → locsL l = []
  | [], _ => rfl
  | p :: r, h => by
    have h : cond (hasP p) true (hasL r) = false := h
    unfold locsL
    cases e : hasP p with
    | true => rw [e] at h; cases h
    | false =>
      rw [e] at h
      rw [hasP_no p e, hasL_no r h]
      rfl
end
/-- a call: short where no argument holds a place -/
noncomputable def hcallQ (run : List PV → Store → Res PV) (args : List PV) (S : Store) : Res PV := match hasL args with
  | false => (match run args [] with
    | .ok p G => (match hasP p with
      | false => .ok p S
      | true => .ok (mapP (outer S []) p) (after S [] [p] G))
    | .err e G => (match e.k with
      | none => .err e S
      | some p => (match hasP p with
        | false => .err e S
        | true => .err ⟨e.c, some (mapP (outer S []) p)⟩ (after S [] [p] G)))
    | .bad => .bad)
  | true => hcall run args S
theorem after_no (S : Store) (ps : List PV) (G : Store) (h : locsL ps = []) : after S [] ps G = S := by
  unfold after
  rw [h]
  have e : (List.take ([] : List Nat).length G) = [] := by simp
  rw [e]
  have z : (([] : List Nat).all (fun i => decide (i < ([] : List Nat).length)) && ([] : List SO).all fun o => (locsO o).all fun i => decide (i < ([] : List Nat).length)) = true := rfl
  rw [if_pos z]
  cases G <;> rfl
theorem hcallQ_eq (run : List PV → Store → Res PV) (args : List PV) (S : Store) : hcallQ run args S = hcall run args S := by
  unfold hcallQ
  split
  · rename_i h
    have h := hasL_no _ h
    unfold hcall
    rw [h]
    have r : reach S fuel [] [] = some [] := rfl
    rw [r]
    dsimp only
    rw [mapL_no _ _ h]
    have u : under S [] = [] := rfl
    rw [u]
    cases run args [] with
    | bad => rfl
    | ok p G =>
      dsimp only
      split
      · rename_i hp
        have hp := hasP_no _ hp
        rw [mapP_no _ _ hp, after_no _ _ _ (by simp [locsL, hp])]
      · rfl
    | err e G =>
      obtain ⟨c, k⟩ := e
      cases k with
      | none =>
        show Res.err ⟨c, none⟩ S = Res.err ⟨c, none⟩ (after S [] [] G)
        rw [after_no _ _ _ rfl]
      | some p =>
        dsimp only
        split
        · rename_i hp
          have hp := hasP_no _ hp
          show Res.err ⟨c, some p⟩ S = Res.err ⟨c, some (mapP (outer S []) p)⟩ (after S [] [p] G)
          rw [mapP_no _ _ hp, after_no _ _ _ (by simp [locsL, hp])]
        · rfl
  · rfl
noncomputable def callC (P : Prog) (C : List (List CFn)) (E : Ev) (f : Nat) (args : List PV) (S : Store) : Res PV := match lk8 C f with
  | some c => if P.full.contains f = true then fcall (runC E c) args S else hcallQ (fun a S => frL a fun a => frSt S fun S => frRes (runC E c a S)) args S
  | none => .bad
structure ComOk (P : Prog) (C : List (List CFn)) : Prop where
  eq : C.flatten = P.fns.map comF
  ok : ok8 C = true
theorem callC_eq (P : Prog) {C : List (List CFn)} (h : ComOk P C) (E : Ev) : callC P C E = callOf P E := by
  funext f args S
  unfold callC callOf
  rw [lk8_eq C f h.ok, h.eq, List.getElem?_map]
  cases P.fns[f]? with
  | none => rfl
  | some fn =>
    dsimp only [Option.map]
    have e : (fun a S => frL a fun a => frSt S fun S => frRes (runC E (comF fn) a S)) = runFn E fn := by
      funext a S
      rw [frL_eq, frSt_eq, frRes_eq, runC_eq]
    rw [e, hcallQ_eq, runC_eq]
def metC (P : Prog) (C : List (List CFn)) (gd : Bool) (low : Nat → List PV → Store → Res PV) (g : Nat) (th : (Nat → List PV → Store → Res PV) → Store → Res AV) (S : Store) : Res PV := match (lk8 C g).bind CFn.met with
  | some (hs, p) => (match th low S with
    | .ok _ S => .ok p S
    | .err e S => (match handle P gd e S hs with
      | some (some q) => .ok q S
      | some none => .err e S
      | none => .bad)
    | .bad => .bad)
  | none => .bad
theorem metC_eq (P : Prog) {C : List (List CFn)} (h : ComOk P C) (gd : Bool) : metC P C gd = metOf P gd := by
  funext low g th S
  unfold metC metOf
  rw [lk8_eq C g h.ok, h.eq, List.getElem?_map]
  have e : ((P.fns[g]?).map comF).bind CFn.met = (P.fns[g]?).bind fun fn => metS fn.body := by
    cases P.fns[g]? <;> rfl
  rw [e]
  all_goals (cases (P.fns[g]?).bind fun fn => metS fn.body <;> rfl)
noncomputable def evKC (P : Prog) (C : List (List CFn)) : Nat → Bool → Ev
  | 0, gd => ⟨fun _ _ _ => .bad, fun _ _ _ => .bad, none, handOf P gd, gd, P.gl⟩
  | 1, gd => ⟨callC P C (evKC P C 0 gd), fun _ _ _ => .bad, none, handOf P gd, gd, P.gl⟩
  | 2, gd => ⟨callC P C (evKC P C 1 gd), fun _ _ _ => .bad, none, handOf P gd, gd, P.gl⟩
  | k + 3, gd => ⟨callC P C (evKC P C (k + 2) gd), metC P C gd (evKC P C k gd).call, none, handOf P gd, gd, P.gl⟩
theorem evKC_eq (P : Prog) {C : List (List CFn)} (h : ComOk P C) (gd : Bool) (k : Nat) : evKC P C k gd = evK P k gd := by
  induction k using Nat.strongRecOn with
  | ind k ih =>
    match k, ih with
    | 0, _ => rfl
    | 1, ih =>
      unfold evKC evK
      rw [callC_eq P h, ih 0 (by omega)]
    | 2, ih =>
      unfold evKC evK
      rw [callC_eq P h, ih 1 (by omega)]
    | k + 3, ih =>
      unfold evKC evK
      rw [callC_eq P h, metC_eq P h, ih (k + 2) (by omega), ih k (by omega)]
end EV
/-! The E layer: bodies that are gone through statement by statement; a statement that compares what a call hands back. -/
namespace EV
open PySem
def dropS : Sxs → Nat → Sxs
  | b, 0 => b
  | .cons _ r, n + 1 => dropS r n
  | .nil, _ => .nil
/-- calls with the dice and one place, told -/
def callM (E : Ev) (l : List (Nat × Res PV)) : Ev := ⟨fun i a S => match a with
  | [.loc 0, .loc m] => (match l.lookup m with
    | some X => X
    | none => E.call i a S)
  | _ => E.call i a S, E.callT, E.thk, E.hand, E.gd, E.gl⟩
/-- if f(..) op b: A else: B -/
structure CallIf where
  o : COp
  f : Nat
  es : Exs
  b : Ex
  A : Sxs
  B : Sxs
def getIf : Sx → CallIf
  | .ife (.cmp o (.call f es) b) A B => ⟨o, f, es, b, A, B⟩
  | _ => ⟨.eq, 0, .nil, .dead, .nil, .nil⟩
def getRet : Sx → CallIf
  | .ret (.so (.cmp o (.call f es) b)) => ⟨o, f, es, b, .nil, .nil⟩
  | _ => ⟨.eq, 0, .nil, .dead, .nil, .nil⟩
/-- .. behind the call -/
def cmpR (E : Ev) (k : CallIf) (p : PV) (env : Env) (S : Store) : Res AV := (ev E k.b env S).bind fun y S => (orBad S (coOp S k.o (.v p) y)).bind fun c S => .ok (bl c) S
def ifR (E : Ev) (k : CallIf) (p : PV) (env : Env) (S : Store) : SRes := ((cmpR E k p env S).bind fun x S => orBad S (truth S x)).andS env fun c S => if c = true then evSs E k.A env S else evSs E k.B env S
def retR (E : Ev) (k : CallIf) (p : PV) (env : Env) (S : Store) : SRes := ((cmpR E k p env S).bind keep).andS env fun q S => .ret q S
section
variable {E : Ev} {k : CallIf} {env : Env} {S S1 S2 : Store} {l : List PV} {p : PV} {s : Sx}
theorem cmp_call (h1 : evs E k.es env S = .ok l S1) (h2 : E.call k.f l S1 = .ok p S2) : ev E (.cmp k.o (.call k.f k.es) k.b) env S = cmpR E k p env S2 := by
  have e : ev E (.cmp k.o (.call k.f k.es) k.b) env S = ((evs E k.es env S).bind fun l S => (E.call k.f l S).bind fun p S => .ok (.v p) S).bind fun x S => (ev E k.b env S).bind fun y S => (orBad S (coOp S k.o x y)).bind fun c S => .ok (bl c) S := by
    conv => lhs; unfold ev
    conv => lhs; arg 1; unfold ev
  rw [e, h1]
  show ((E.call k.f l S1).bind fun p S => .ok (AV.v p) S).bind _ = _
  rw [h2]
  rfl
theorem if_call (e : s = .ife (.cmp k.o (.call k.f k.es) k.b) k.A k.B) (h1 : evs E k.es env S = .ok l S1) (h2 : E.call k.f l S1 = .ok p S2) : evS E s env S = ifR E k p env S2 := by
  subst e
  conv => lhs; unfold evS
  show ((ev E (.cmp k.o (.call k.f k.es) k.b) env S).bind _).andS env _ = _
  rw [cmp_call h1 h2]
  rfl
theorem ret_call (e : s = .ret (.so (.cmp k.o (.call k.f k.es) k.b))) (h1 : evs E k.es env S = .ok l S1) (h2 : E.call k.f l S1 = .ok p S2) : evS E s env S = retR E k p env S2 := by
  subst e
  conv => lhs; unfold evS
  rw [cmp_call h1 h2]
  rfl
end
/-- x = f(..) -/
structure CallSet where
  i : Nat
  f : Nat
  es : Exs
def getSet : Sx → CallSet
  | .set (.nm i) (.call f es) => ⟨i, f, es⟩
  | _ => ⟨0, 0, .nil⟩
/-- x, y = f(..), g(..) -/
structure CallTwo where
  is : List Nat
  f : Nat
  es : Exs
  f2 : Nat
  es2 : Exs
def getTwo : Sx → CallTwo
  | .par is (.one (.call f es) (.one (.call f2 es2) .nil)) => ⟨is, f, es, f2, es2⟩
  | _ => ⟨[], 0, .nil, 0, .nil⟩
section
variable {E : Ev} {env : Env} {S S1 S2 S3 S4 : Store} {l l2 : List PV} {p p2 : PV} {s : Sx}
theorem ev_call {f : Nat} {es : Exs} (h1 : evs E es env S = .ok l S1) (h2 : E.call f l S1 = .ok p S2) : ev E (.call f es) env S = .ok (.v p) S2 := by
  conv => lhs; unfold ev
  rw [h1]
  show ((E.call f l S1).bind fun p S => .ok (AV.v p) S) = _
  rw [h2]
  rfl
theorem set_call {k : CallSet} (e : s = .set (.nm k.i) (.call k.f k.es)) (h1 : evs E k.es env S = .ok l S1) (h2 : E.call k.f l S1 = .ok p S2) : evS E s env S = .next (env.set k.i (some p)) S2 := by
  subst e
  conv => lhs; unfold evS
  rw [ev_call h1 h2]
  show (asg E (.nm k.i) p env S2).calm.andS env (fun env S => SRes.next env S) = _
  conv => lhs; unfold asg
  rfl
theorem two_call {k : CallTwo} (e : s = .par k.is (.one (.call k.f k.es) (.one (.call k.f2 k.es2) .nil))) (h1 : evs E k.es env S = .ok l S1) (c1 : E.call k.f l S1 = .ok p S2) (h2 : evs E k.es2 env S2 = .ok l2 S3) (c2 : E.call k.f2 l2 S3 = .ok p2 S4) (hl : k.is.length = 2) :
    evS E s env S = .next ((k.is.zip [p, p2]).foldl (fun env q => env.set q.1 (some q.2)) env) S4 := by
  subst e
  have e1 : evs E (.one (.call k.f2 k.es2) .nil) env S2 = .ok [p2] S4 := by
    conv => lhs; unfold evs
    rw [ev_call h2 c2]
    show ((Res.ok (AV.v p2) S4).bind EV.keep).bind _ = _
    show (evs E .nil env S4).bind (fun l S => Res.ok (p2 :: l) S) = _
    conv => lhs; unfold evs
    rfl
  have e2 : evs E (.one (.call k.f k.es) (.one (.call k.f2 k.es2) .nil)) env S = .ok [p, p2] S4 := by
    conv => lhs; unfold evs
    rw [ev_call h1 c1]
    show (evs E (.one (.call k.f2 k.es2) .nil) env S2).bind (fun l S => Res.ok (p :: l) S) = _
    rw [e1]
    rfl
  conv => lhs; unfold evS
  rw [e2]
  show (if [p, p2].length = k.is.length then SRes.next _ S4 else .bad) = _
  rw [if_pos (by rw [hl]; rfl)]
end
/-- a def that is gone through -/
theorem run_of {E : Ev} {fn : EV.Fn} {args : List PV} {S G : Store} {p : PV} {env : Env} (hl : args.length = fn.np) (he : args.map some ++ List.replicate (fn.ns - fn.np) none = env) (z : evSs E fn.body env S = .ret p G) : runFn E fn args S = .ok p G := by
  unfold runFn
  rw [if_pos hl, he, z]
  rfl
/-- a call whose arguments hold no place -/
theorem call_none {P : Prog} {k : Nat} {gd : Bool} {f : Nat} {fn : EV.Fn} {args : List PV} {S G : Store} {p : PV} (h : P.fns[f]? = some fn) (hf : P.full.contains f = false) (hl : locsL args = []) (z : runFn (evK P k gd) fn args [] = .ok p G) :
    (evK P (k + 1) gd).call f args S = .ok (mapP (outer S []) p) (after S [] [p] G) := by
  have e : (evK P (k + 1) gd).call f = callOf P (evK P k gd) f := by
    cases k with
    | zero => rfl
    | succ k =>
      cases k with
      | zero => rfl
      | succ k => rfl
  rw [e]
  unfold callOf
  rw [h]
  show (if P.full.contains f = true then fcall (runFn (evK P k gd) fn) args S else hcall (runFn (evK P k gd) fn) args S) = _
  rw [if_neg (by rw [hf]; decide)]
  unfold hcall
  rw [hl]
  have r : reach S fuel [] [] = some [] := rfl
  rw [r]
  dsimp only
  rw [mapL_no _ _ hl]
  have u : under S [] = [] := rfl
  rw [u, z]
/-- a def that sees all is called -/
theorem call_full {P : Prog} {k : Nat} {gd : Bool} {f : Nat} {fn : EV.Fn} {args : List PV} {S G G' : Store} {p : PV} {env : Env} (h : P.fns[f]? = some fn) (hf : P.full.contains f = true) (hl : args.length = fn.np) (he : args.map some ++ List.replicate (fn.ns - fn.np) none = env)
    (z : evSs (evK P k gd) fn.body env S = .ret p G) (ht : trim S.length [p] G = G') : (evK P (k + 1) gd).call f args S = .ok p G' := by
  have e : (evK P (k + 1) gd).call f = callOf P (evK P k gd) f := by
    cases k with
    | zero => rfl
    | succ k =>
      cases k with
      | zero => rfl
      | succ k => rfl
  rw [e]
  unfold callOf
  rw [h]
  show (if P.full.contains f = true then fcall (runFn (evK P k gd) fn) args S else _) = _
  rw [if_pos hf]
  unfold fcall runFn
  rw [if_pos hl, he, z]
  show Res.ok p (trim S.length [p] G) = _
  rw [ht]
end EV
namespace AST
open PySem EV PySem.Spec L2
def top (i : Nat) : Stmt := PySem.Challenge.pw_rimtrees_k69_errors_of_chords.main.body.getD i (.Pass ⟨0, 0, 0, 0⟩)
def dS (N ps : List Str) (lm : Bool) (st : Stmt) : DefS := match st with
  | .FunctionDef n a b _ _ _ sc _ _ _ => ⟨n, n, a, b, sc, N, ps, lm⟩
  | _ => ⟨"", "", ⟨[], [], none, [], [], none, []⟩, [], ⟨.function, [], false, false, []⟩, [], [], lm⟩
/-- is_whole -/
def d0 : DefS := dS ["value"] ["value"] false (top 11)
def f0 : EV.Fn := ⟨1, 1, ss [.ret (.so (.and (.bf1 (.isi .int) (.var 0)) (.no (.bf1 (.isi .bool) (.var 0)))))]⟩
/-- is_near -/
def d1 : DefS := dS ["value"] ["value"] false (top 12)
def f1 : EV.Fn := ⟨1, 1, ss [.ret (.so (.and (.call 0 (xs [(.var 0)])) (.chn .lt .lt (.neg (.glo 0)) (.var 0) (.glo 0))))]⟩
/-- is_within -/
def d2 : DefS := dS ["value", "least", "most"] ["value", "least", "most"] false (top 13)
def f2 : EV.Fn := ⟨3, 3, ss [.ret (.so (.and (.call 0 (xs [(.var 0)])) (.chn .le .le (.var 1) (.var 0) (.var 2))))]⟩
/-- is_pair -/
def d3 : DefS := dS ["value"] ["value"] false (top 14)
def f3 : EV.Fn := ⟨1, 1, ss [.ret (.so (.and (.bf1 (.isi .tuple) (.var 0)) (.cmp .eq (.bf1 .len (.var 0)) (.glo 1))))]⟩
/-- is_ascending -/
def d4 : DefS := dS ["items", "one", "other"] ["items"] false (top 15)
def f4 : EV.Fn := ⟨1, 3, ss [.ret (.so (.bf1 .all (.lc [("one", 1), ("other", 2)] (.tp (ts [(.nm 1), (.nm 2)])) (.zip (.var 0) (.sl (.var 0) (.so (.cst (.int 1))) .no)) .no (.cmp .lt (.var 1) (.var 2)))))]⟩
/-- require_number -/
def d5 : DefS := dS ["value", "least", "most"] ["value", "least", "most"] false (top 16)
def f5 : EV.Fn := ⟨3, 3, ss [.ife (.or (.no (.call 1 (xs [(.var 0)]))) (.or (.and (.cmp .notN (.var 1) (.cst .non)) (.cmp .lt (.var 0) (.var 1))) (.and (.cmp .notN (.var 2) (.cst .non)) (.cmp .gt (.var 0) (.var 2))))) (ss [.rai 5 (.so (.var 0))]) (ss [])]⟩
/-- is_lot_of -/
def d6 : DefS := dS ["many", "value", "one"] ["many", "value"] false (top 17)
def f6 : EV.Fn := ⟨2, 3, ss [.ife (.or (.no (.bf1 (.isi .tuple) (.var 1))) (.no (.bf1 .all (.lc [("one", 2)] (.nm 2) (.seq (.var 1)) .no (.call 2 (xs [(.var 2), (.cst (.int 0)), (.bin .sub (.var 0) (.cst (.int 1)))])))))) (ss [.ret (.so (.cst (.bl false)))]) (ss []), .ret (.so (.call 4 (xs [(.var 1)])))]⟩
/-- lots_of -/
def d7 : DefS := dS ["many", "found", "thing", "lot"] ["many"] false (top 18)
def f7 : EV.Fn := ⟨1, 4, ss [.set (.nm 1) (.lst (xs [(.tup (xs []))])), .for_ (.nm 2) (.rng .no (.var 0)) (ss [.ex (.mt .extend (.var 1) (xs [(.lc [("lot", 3)] (.nm 3) (.seq (.bf1 .list (.var 1))) .no (.tup (.star (.var 3) (.one (.var 2) .nil))))]))]), .ret (.so (.bf1 .sorted (.var 1)))]⟩
/-- is_tied_pair -/
def d8 : DefS := dS ["many", "value"] ["many", "value"] false (top 21)
def f8 : EV.Fn := ⟨2, 2, ss [.ret (.so (.and (.call 3 (xs [(.var 1)])) (.and (.call 2 (xs [(.ix (.var 1) (.cst (.int 0))), (.cst (.int 0)), (.bin .sub (.var 0) (.cst (.int 1)))])) (.call 2 (xs [(.ix (.var 1) (.cst (.int 1))), (.bin .add (.ix (.var 1) (.cst (.int 0))) (.cst (.int 1))), (.bin .sub (.var 0) (.cst (.int 1)))])))))]⟩
/-- is_graph_in -/
def d9 : DefS := dS ["value", "pair"] ["value"] false (top 22)
def f9 : EV.Fn := ⟨1, 2, ss [.ife (.or (.no (.call 3 (xs [(.var 0)]))) (.or (.no (.call 2 (xs [(.ix (.var 0) (.cst (.int 0))), (.cst (.int 0)), (.glo 2)]))) (.no (.bf1 (.isi .tuple) (.ix (.var 0) (.cst (.int 1))))))) (ss [.ret (.so (.cst (.bl false)))]) (ss []), .ret (.so (.and (.bf1 .all (.lc [("pair", 1)] (.nm 1) (.seq (.ix (.var 0) (.cst (.int 1)))) .no (.call 8 (xs [(.ix (.var 0) (.cst (.int 0))), (.var 1)])))) (.call 4 (xs [(.ix (.var 0) (.cst (.int 1)))]))))]⟩
/-- bit_of -/
def d10 : DefS := dS ["node"] ["node"] false (top 23)
def f10 : EV.Fn := ⟨1, 1, ss [.ret (.so (.bin .shl (.cst (.int 1)) (.var 0)))]⟩
/-- masks_of -/
def d11 : DefS := dS ["graph", "found", "a", "b"] ["graph"] false (top 24)
def f11 : EV.Fn := ⟨1, 4, ss [.set (.nm 1) (.bin .mul (.lst (xs [(.cst (.int 0))])) (.ix (.var 0) (.cst (.int 0)))), .for_ (.tp (ts [(.nm 2), (.nm 3)])) (.seq (.ix (.var 0) (.cst (.int 1)))) (ss [.augS (.var 1) (.var 2) .bor (.call 10 (xs [(.var 3)])), .augS (.var 1) (.var 3) .bor (.call 10 (xs [(.var 2)]))]), .ret (.so (.var 1))]⟩
/-- graph_by_masks -/
def d12 : DefS := dS ["masks", "pairs", "a", "b"] ["masks"] false (top 25)
def f12 : EV.Fn := ⟨1, 4, ss [.set (.nm 1) (.lst (xs [])), .for_ (.nm 2) (.rng .no (.bf1 .len (.var 0))) (ss [.ex (.mt .extend (.var 1) (xs [(.lc [("b", 3)] (.nm 3) (.rng (.so (.bin .add (.var 2) (.cst (.int 1)))) (.bf1 .len (.var 0))) (.so (.cmp .ne (.bin .band (.ix (.var 0) (.var 2)) (.call 10 (xs [(.var 3)]))) (.cst (.int 0)))) (.tup (xs [(.var 2), (.var 3)])))]))]), .ret (.so (.tup (xs [(.bf1 .len (.var 0)), (.bf1 .tuple (.var 1))])))]⟩
/-- nodes_in -/
def d13 : DefS := dS ["masks", "node", "other"] ["masks", "node"] false (top 26)
def f13 : EV.Fn := ⟨2, 3, ss [.ret (.so (.lc [("other", 2)] (.nm 2) (.rng .no (.bf1 .len (.var 0))) (.so (.cmp .ne (.bin .band (.ix (.var 0) (.var 1)) (.call 10 (xs [(.var 2)]))) (.cst (.int 0)))) (.var 2)))]⟩
/-- turned_masks -/
def d14 : DefS := dS ["masks", "node", "found", "other"] ["masks", "node"] false (top 27)
def f14 : EV.Fn := ⟨2, 4, ss [.set (.nm 2) (.bf1 .list (.var 0)), .for_ (.nm 3) (.seq (.call 13 (xs [(.var 0), (.var 1)]))) (ss [.augS (.var 2) (.var 3) .bxor (.bin .band (.ix (.var 0) (.var 1)) (.inv (.call 10 (xs [(.var 3)]))))]), .ret (.so (.var 2))]⟩
/-- mask_rank -/
def d15 : DefS := dS ["rows", "heads", "row", "left"] ["rows"] false (top 28)
def f15 : EV.Fn := ⟨1, 4, ss [.set (.nm 1) (.dnw false), .for_ (.nm 2) (.seq (.var 0)) (ss [.set (.nm 3) (.var 2), .whl (.and (.cmp .ne (.var 3) (.cst (.int 0))) (.cmp .isin (.mt .bits (.var 3) (xs [])) (.var 1))) (ss [.aug 3 .bxor (.ix (.var 1) (.mt .bits (.var 3) (xs [])))]), .ife (.cmp .ne (.var 3) (.cst (.int 0))) (ss [.set (.sub (.var 1) (.mt .bits (.var 3) (xs []))) (.var 3)]) (ss [])]), .ret (.so (.bf1 .len (.var 1)))]⟩
/-- mask_of_lot -/
def d16 : DefS := dS ["lot", "node"] ["lot"] false (top 29)
def f16 : EV.Fn := ⟨1, 2, ss [.ret (.so (.bf1 .sum (.lc [("node", 1)] (.nm 1) (.seq (.var 0)) .no (.call 10 (xs [(.var 1)])))))]⟩
/-- local_turn_in -/
def d17 : DefS := dS ["graph", "node"] ["graph", "node"] false (top 30)
def f17 : EV.Fn := ⟨2, 2, ss [.ret (.so (.call 12 (xs [(.call 14 (xs [(.call 11 (xs [(.var 0)])), (.var 1)]))])))]⟩
/-- turned_along_in -/
def d18 : DefS := dS ["graph", "row", "masks", "node"] ["graph", "row"] false (top 31)
def f18 : EV.Fn := ⟨2, 4, ss [.set (.nm 2) (.call 11 (xs [(.var 0)])), .for_ (.nm 3) (.seq (.var 1)) (ss [.set (.nm 2) (.call 14 (xs [(.var 2), (.var 3)]))]), .ret (.so (.call 12 (xs [(.var 2)])))]⟩
/-- graph_part_in -/
def d19 : DefS := dS ["graph", "lot", "names", "pairs", "at", "node", "a", "b"] ["graph", "lot"] false (top 32)
def f19 : EV.Fn := ⟨2, 8, ss [.set (.nm 2) (.dc [("at", 4), ("node", 5)] (.tp (ts [(.nm 4), (.nm 5)])) (.enum (.var 1)) .no (.var 5) (.var 4)), .set (.nm 3) (.lc [("a", 6), ("b", 7)] (.tp (ts [(.nm 6), (.nm 7)])) (.seq (.ix (.var 0) (.cst (.int 1)))) (.so (.and (.cmp .isin (.var 6) (.var 2)) (.cmp .isin (.var 7) (.var 2)))) (.tup (xs [(.ix (.var 2) (.var 6)), (.ix (.var 2) (.var 7))]))), .ret (.so (.tup (xs [(.bf1 .len (.var 1)), (.bf1 .tuple (.var 3))])))]⟩
/-- graph_pieces_in -/
def d20 : DefS := dS ["graph", "node", "masks", "found", "met", "piece", "waiting", "fresh", "other"] ["graph"] false (top 33)
def f20 : EV.Fn := ⟨1, 9, ss [.par [2, 3, 4] (xs [(.call 11 (xs [(.var 0)])), (.lst (xs [])), (.cst (.int 0))]), .for_ (.nm 1) (.rng .no (.ix (.var 0) (.cst (.int 0)))) (ss [.ife (.cmp .eq (.bin .band (.var 4) (.call 10 (xs [(.var 1)]))) (.cst (.int 0))) (ss [.set (.tp (ts [(.nm 5), (.nm 6)])) (.tup (xs [(.call 10 (xs [(.var 1)])), (.lst (xs [(.var 1)]))])), .whl (.cmp .ne (.var 6) (.lst (xs []))) (ss [.set (.nm 7) (.bin .band (.ix (.var 2) (.mt .pop (.var 6) (xs []))) (.inv (.var 5))), .aug 5 .bor (.var 7), .ex (.mt .extend (.var 6) (xs [(.lc [("other", 8)] (.nm 8) (.rng .no (.ix (.var 0) (.cst (.int 0)))) (.so (.cmp .ne (.bin .band (.var 7) (.call 10 (xs [(.var 8)]))) (.cst (.int 0)))) (.var 8))]))]), .aug 4 .bor (.var 5), .ex (.mt .append (.var 3) (xs [(.bf1 .tuple (.lc [("other", 8)] (.nm 8) (.rng .no (.ix (.var 0) (.cst (.int 0)))) (.so (.cmp .ne (.bin .band (.var 5) (.call 10 (xs [(.var 8)]))) (.cst (.int 0)))) (.var 8)))]))]) (ss [])]), .ret (.so (.var 3))]⟩
/-- cut_rank_in -/
def d21 : DefS := dS ["graph", "lot", "masks", "inside", "node"] ["graph", "lot"] false (top 34)
def f21 : EV.Fn := ⟨2, 5, ss [.set (.tp (ts [(.nm 2), (.nm 3)])) (.tup (xs [(.call 11 (xs [(.var 0)])), (.call 16 (xs [(.var 1)]))])), .ret (.so (.call 15 (xs [(.lc [("node", 4)] (.nm 4) (.seq (.var 1)) .no (.bin .band (.ix (.var 2) (.var 4)) (.inv (.var 3))))])))]⟩
/-- require_graph -/
def d22 : DefS := dS ["value"] ["value"] false (top 35)
def f22 : EV.Fn := ⟨1, 1, ss [.ife (.no (.call 9 (xs [(.var 0)]))) (ss [.rai 3 .no]) (ss [])]⟩
/-- mate_of -/
def d23 : DefS := dS ["end"] ["end"] false (top 38)
def f23 : EV.Fn := ⟨1, 1, ss [.ret (.so (.ifx (.cmp .eq (.bin .mod (.var 0) (.cst (.int 2))) (.cst (.int 0))) (.bin .add (.var 0) (.cst (.int 1))) (.bin .sub (.var 0) (.cst (.int 1)))))]⟩
/-- round_from -/
def d24 : DefS := dS ["move", "start", "found", "here"] ["move", "start"] false (top 39)
def f24 : EV.Fn := ⟨2, 4, ss [.par [2, 3] (xs [(.lst (xs [(.var 1)])), (.ix (.var 0) (.var 1))]), .whl (.cmp .ne (.var 3) (.var 1)) (ss [.ex (.mt .append (.var 2) (xs [(.var 3)])), .set (.nm 3) (.ix (.var 0) (.var 3))]), .ret (.so (.bf1 .tuple (.var 2)))]⟩
/-- rounds_of -/
def d25 : DefS := dS ["move", "start", "met", "found", "end"] ["move"] false (top 40)
def f25 : EV.Fn := ⟨1, 5, ss [.par [2, 3] (xs [(.dnw false), (.lst (xs []))]), .for_ (.nm 1) (.rng .no (.bf1 .len (.var 0))) (ss [.ife (.cmp .notin (.var 1) (.var 2)) (ss [.ex (.mt .append (.var 3) (xs [(.call 24 (xs [(.var 0), (.var 1)]))])), .ex (.mt .update (.var 2) (xs [(.dc [("end", 4)] (.nm 4) (.seq (.ix (.var 3) (.neg (.cst (.int 1))))) .no (.var 4) (.cst (.bl true)))]))]) (ss [])]), .ret (.so (.ifx (.cmp .ne (.var 3) (.lst (xs []))) (.bf1 .tuple (.var 3)) (.tup (xs [(.tup (xs []))]))))]⟩
/-- places_in -/
def d26 : DefS := dS ["web"] ["web"] false (top 41)
def f26 : EV.Fn := ⟨1, 1, ss [.ret (.so (.call 25 (xs [(.var 0)])))]⟩
/-- ends_with -/
def d27 : DefS := dS ["web", "start", "met", "waiting", "here", "there"] ["web", "start"] false (top 42)
def f27 : EV.Fn := ⟨2, 6, ss [.par [2, 3] (xs [(.dct (xs [(.var 1), (.cst (.bl true))])), (.lst (xs [(.var 1)]))]), .whl (.cmp .ne (.var 3) (.lst (xs []))) (ss [.set (.nm 4) (.mt .pop (.var 3) (xs [])), .for_ (.nm 5) (.seq (.tup (xs [(.ix (.var 0) (.var 4)), (.call 23 (xs [(.var 4)]))]))) (ss [.ife (.cmp .notin (.var 5) (.var 2)) (ss [.set (.sub (.var 2) (.var 5)) (.cst (.bl true)), .ex (.mt .append (.var 3) (xs [(.var 5)]))]) (ss [])])]), .ret (.so (.var 2))]⟩
/-- is_all_ends -/
def d28 : DefS := dS ["many", "value", "end"] ["many", "value"] false (top 43)
def f28 : EV.Fn := ⟨2, 3, ss [.ife (.or (.no (.bf1 (.isi .tuple) (.var 1))) (.cmp .ne (.bf1 .len (.var 1)) (.var 0))) (ss [.ret (.so (.cst (.bl false)))]) (ss []), .ret (.so (.and (.bf1 .all (.lc [("end", 2)] (.nm 2) (.seq (.var 1)) .no (.call 2 (xs [(.var 2), (.cst (.int 0)), (.bin .sub (.var 0) (.cst (.int 1)))])))) (.cmp .eq (.bf1 .sorted (.var 1)) (.rgl false .no (.var 0)))))]⟩
/-- is_web_in -/
def d29 : DefS := dS ["value"] ["value"] false (top 44)
def f29 : EV.Fn := ⟨1, 1, ss [.ife (.or (.no (.bf1 (.isi .tuple) (.var 0))) (.or (.cmp .eq (.bin .mod (.bf1 .len (.var 0)) (.cst (.int 2))) (.cst (.int 1))) (.cmp .gt (.bf1 .len (.var 0)) (.bin .mul (.cst (.int 2)) (.glo 3))))) (ss [.ret (.so (.cst (.bl false)))]) (ss []), .ife (.no (.call 28 (xs [(.bf1 .len (.var 0)), (.var 0)]))) (ss [.ret (.so (.cst (.bl false)))]) (ss []), .ret (.so (.or (.cmp .eq (.var 0) (.tup (xs []))) (.cmp .eq (.bf1 .len (.call 27 (xs [(.var 0), (.cst (.int 0))]))) (.bf1 .len (.var 0)))))]⟩
/-- require_web -/
def d30 : DefS := dS ["value"] ["value"] false (top 45)
def f30 : EV.Fn := ⟨1, 1, ss [.ife (.no (.call 29 (xs [(.var 0)]))) (ss [.rai 1 .no]) (ss [])]⟩
/-- left_move -/
def d31 : DefS := dS ["web", "lot", "kept", "tie", "end"] ["web", "lot"] false (top 47)
def f31 : EV.Fn := ⟨2, 5, ss [.set (.nm 2) (.dc [("tie", 3)] (.nm 3) (.seq (.var 1)) .no (.var 3) (.cst (.bl true))), .ret (.so (.bf1 .tuple (.lc [("end", 4)] (.nm 4) (.rng .no (.bf1 .len (.var 0))) .no (.ifx (.cmp .isin (.bin .fdiv (.var 4) (.cst (.int 2))) (.var 2)) (.ix (.var 0) (.call 23 (xs [(.var 4)]))) (.ix (.var 0) (.var 4))))))]⟩
/-- is_chord_word -/
def d32 : DefS := dS ["value", "sign"] ["value"] false (top 56)
def f32 : EV.Fn := ⟨1, 2, ss [.ife (.or (.no (.bf1 (.isi .tuple) (.var 0))) (.or (.cmp .eq (.bin .mod (.bf1 .len (.var 0)) (.cst (.int 2))) (.cst (.int 1))) (.cmp .gt (.bf1 .len (.var 0)) (.bin .mul (.cst (.int 2)) (.glo 4))))) (ss [.ret (.so (.cst (.bl false)))]) (ss []), .ife (.no (.bf1 .all (.lc [("sign", 1)] (.nm 1) (.seq (.var 0)) .no (.call 2 (xs [(.var 1), (.cst (.int 0)), (.bin .sub (.bin .fdiv (.bf1 .len (.var 0)) (.cst (.int 2))) (.cst (.int 1)))]))))) (ss [.ret (.so (.cst (.bl false)))]) (ss []), .ret (.so (.bf1 .all (.lc [("sign", 1)] (.nm 1) (.rng .no (.bin .fdiv (.bf1 .len (.var 0)) (.cst (.int 2)))) .no (.cmp .eq (.mt .countT (.var 0) (xs [(.var 1)])) (.glo 5)))))]⟩
/-- spots_of -/
def d33 : DefS := dS ["word", "sign", "first"] ["word", "sign"] false (top 57)
def f33 : EV.Fn := ⟨2, 3, ss [.set (.nm 2) (.mt .index (.var 0) (xs [(.var 1)])), .ret (.so (.tup (xs [(.var 2), (.mt .indexU (.var 0) (xs [(.var 1), (.bin .add (.var 2) (.cst (.int 1)))]))])))]⟩
/-- graph_in_word -/
def d34 : DefS := dS ["word", "spots", "pairs", "b", "sign", "low", "high", "a"] ["word"] false (top 58)
def f34 : EV.Fn := ⟨1, 8, ss [.set (.nm 1) (.lc [("sign", 4)] (.nm 4) (.rng .no (.bin .fdiv (.bf1 .len (.var 0)) (.cst (.int 2)))) .no (.call 33 (xs [(.var 0), (.var 4)]))), .set (.nm 2) (.lst (xs [])), .for_ (.tp (ts [(.nm 3), (.tp (ts [(.nm 5), (.nm 6)]))])) (.enum (.var 1)) (ss [.ex (.mt .extend (.var 2) (xs [(.lc [("a", 7)] (.nm 7) (.rng .no (.var 3)) (.so (.cmp .ne (.chn .lt .lt (.var 5) (.ix (.ix (.var 1) (.var 7)) (.cst (.int 0))) (.var 6)) (.chn .lt .lt (.var 5) (.ix (.ix (.var 1) (.var 7)) (.cst (.int 1))) (.var 6)))) (.tup (xs [(.var 7), (.var 3)])))]))]), .ret (.so (.tup (xs [(.bin .fdiv (.bf1 .len (.var 0)) (.cst (.int 2))), (.bf1 .tuple (.bf1 .sorted (.var 2)))])))]⟩
/-- word_in_web -/
def d35 : DefS := dS ["web", "end"] ["web"] false (top 59)
def f35 : EV.Fn := ⟨1, 2, ss [.ret (.so (.ifx (.cmp .ne (.var 0) (.tup (xs []))) (.bf1 .tuple (.lc [("end", 1)] (.nm 1) (.seq (.call 24 (xs [(.call 31 (xs [(.var 0), (.tup (xs []))])), (.cst (.int 0))]))) .no (.bin .fdiv (.var 1) (.cst (.int 2))))) (.tup (xs []))))]⟩
/-- web_in_word -/
def d36 : DefS := dS ["word", "sign", "after", "met", "row", "at", "end"] ["word"] false (top 60)
def f36 : EV.Fn := ⟨1, 7, ss [.par [3, 4] (xs [(.dnw false), (.lst (xs []))]), .for_ (.nm 1) (.seq (.var 0)) (ss [.ex (.mt .append (.var 4) (xs [(.bin .add (.bin .mul (.cst (.int 2)) (.var 1)) (.mt .get2 (.var 3) (xs [(.var 1), (.cst (.int 0))])))])), .set (.sub (.var 3) (.var 1)) (.cst (.int 1))]), .set (.nm 2) (.bin .mul (.lst (xs [(.cst (.int 0))])) (.bf1 .len (.var 4))), .for_ (.tp (ts [(.nm 5), (.nm 6)])) (.enum (.var 4)) (ss [.set (.sub (.var 2) (.var 6)) (.ix (.var 4) (.bin .mod (.bin .add (.var 5) (.cst (.int 1))) (.bf1 .len (.var 4))))]), .ret (.so (.bf1 .tuple (.var 2)))]⟩
/-- least_in_turns -/
def d37 : DefS := dS ["word", "back", "some", "at"] ["word"] false (top 61)
def f37 : EV.Fn := ⟨1, 4, ss [.set (.nm 1) (.revL (.var 0)), .ret (.so (.bf1 .minL (.lc2 [("some", 2), ("at", 3)] (.nm 2) (.seq (.tup (xs [(.var 0), (.var 1)]))) .no (.nm 3) (.rng .no (.bf2 .max2 (.cst (.int 1)) (.bf1 .len (.var 0)))) .no (.bin .add (.sl (.var 2) (.so (.var 3)) .no) (.sl (.var 2) .no (.so (.var 3)))))))]⟩
/-- turned_word_in -/
def d38 : DefS := dS ["word", "sign", "low", "high"] ["word", "sign"] false (top 62)
def f38 : EV.Fn := ⟨2, 4, ss [.set (.tp (ts [(.nm 2), (.nm 3)])) (.call 33 (xs [(.var 0), (.var 1)])), .ret (.so (.bin .add (.bin .add (.sl (.var 0) .no (.so (.bin .add (.var 2) (.cst (.int 1))))) (.revL (.sl (.var 0) (.so (.bin .add (.var 2) (.cst (.int 1)))) (.so (.var 3))))) (.sl (.var 0) (.so (.var 3)) .no)))]⟩
/-- near_nodes -/
def d39 : DefS := dS ["graph", "node", "a", "b"] ["graph", "node"] false (top 63)
def f39 : EV.Fn := ⟨2, 4, ss [.ret (.so (.dc [("a", 2), ("b", 3)] (.tp (ts [(.nm 2), (.nm 3)])) (.seq (.ix (.var 0) (.cst (.int 1)))) (.so (.cmp .isin (.var 1) (.tup (xs [(.var 2), (.var 3)])))) (.ifx (.cmp .eq (.var 2) (.var 1)) (.var 3) (.var 2)) (.cst (.bl true))))]⟩
/-- with_sign -/
def d40 : DefS := dS ["word", "sign", "near", "low", "known", "found", "odd", "high", "other"] ["word", "sign", "near"] false (top 64)
def f40 : EV.Fn := ⟨3, 9, ss [.par [4, 5] (xs [(.lc [("other", 8)] (.nm 8) (.seq (.var 2)) (.so (.cmp .isin (.var 8) (.var 0))) (.var 8)), (.lst (xs []))]), .for_ (.nm 3) (.rng (.so (.bf2 .min2 (.cst (.int 1)) (.bf1 .len (.var 0)))) (.bin .add (.bf1 .len (.var 0)) (.cst (.int 1)))) (ss [.set (.nm 6) (.dnw false), .for_ (.nm 7) (.rng (.so (.var 3)) (.bin .add (.bf1 .len (.var 0)) (.cst (.int 1)))) (ss [.ife (.and (.cmp .eq (.bf1 .len (.var 6)) (.bf1 .len (.var 4))) (.bf1 .all (.lc [("other", 8)] (.nm 8) (.seq (.var 4)) .no (.cmp .isin (.var 8) (.var 6))))) (ss [.ex (.mt .append (.var 5) (xs [(.tup (.star (.sl (.var 0) .no (.so (.var 3))) (.one (.var 1) (.star (.sl (.var 0) (.so (.var 3)) (.so (.var 7))) (.one (.var 1) (.star (.sl (.var 0) (.so (.var 7)) .no) .nil))))))]))]) (ss []), .ife (.and (.cmp .lt (.var 7) (.bf1 .len (.var 0))) (.cmp .isN .dead (.cst .non))) (ss [.set (.sub (.var 6) (.ix (.var 0) (.var 7))) (.cst (.bl true))]) (ss [])])]), .ret (.so (.var 5))]⟩
/-- sequence_of -/
def d41 : DefS := dS ["graph", "piece", "row", "left", "tied", "node", "one"] ["graph", "piece"] false (top 65)
def f41 : EV.Fn := ⟨2, 7, ss [.set (.tp (ts [(.nm 2), (.nm 3)])) (.tup (xs [(.lst (xs [(.ix (.var 1) (.cst (.int 0)))])), (.lc [("node", 5)] (.nm 5) (.seq (.sl (.var 1) (.so (.cst (.int 1))) .no)) .no (.var 5))])), .whl (.cmp .ne (.var 3) (.lst (xs []))) (ss [.set (.nm 4) (.lc [("node", 5)] (.nm 5) (.seq (.var 3)) (.so (.bf1 .any (.lc [("one", 6)] (.nm 6) (.seq (.var 2)) .no (.cmp .isin (.var 6) (.call 39 (xs [(.var 0), (.var 5)])))))) (.var 5)), .ex (.mt .append (.var 2) (xs [(.ix (.var 4) (.cst (.int 0)))])), .set (.nm 3) (.lc [("node", 5)] (.nm 5) (.seq (.var 3)) (.so (.cmp .ne (.var 5) (.ix (.var 4) (.cst (.int 0))))) (.var 5))]), .ret (.so (.var 2))]⟩
/-- first_word -/
def d42 : DefS := dS ["graph", "row", "word", "sign", "longer", "found"] ["graph", "row", "word"] false (top 66)
def f42 : EV.Fn := ⟨3, 6, ss [.ife (.cmp .eq (.bin .mul (.cst (.int 2)) (.bf1 .len (.var 1))) (.bf1 .len (.var 2))) (ss [.ret (.so (.var 2))]) (ss []), .set (.nm 3) (.ix (.var 1) (.bin .fdiv (.bf1 .len (.var 2)) (.cst (.int 2)))), .for_ (.nm 4) (.seq (.call 40 (xs [(.var 2), (.var 3), (.call 39 (xs [(.var 0), (.var 3)]))]))) (ss [.set (.nm 5) (.call 42 (xs [(.var 0), (.var 1), (.var 4)])), .ife (.cmp .notN (.var 5) (.cst .non)) (ss [.ret (.so (.var 5))]) (ss [])]), .ret (.so (.cst .non))]⟩
/-- word_in_graph -/
def d43 : DefS := dS ["graph", "found", "piece", "word"] ["graph"] false (top 67)
def f43 : EV.Fn := ⟨1, 4, ss [.set (.nm 1) (.tup (xs [])), .for_ (.nm 2) (.seq (.call 20 (xs [(.var 0)]))) (ss [.set (.nm 3) (.call 42 (xs [(.var 0), (.call 41 (xs [(.var 0), (.var 2)])), (.tup (xs []))])), .ife (.cmp .isN (.var 3) (.cst .non)) (ss [.ret (.so (.cst .non))]) (ss []), .set (.nm 1) (.bin .add (.var 1) (.var 3))]), .ret (.so (.var 1))]⟩
/-- words_in_graph -/
def d44 : DefS := dS ["graph", "most", "found", "waiting", "word", "sign"] ["graph", "most"] false (top 68)
def f44 : EV.Fn := ⟨2, 6, ss [.par [2, 3] (xs [(.dnw false), (.lst (xs [(.tup (xs []))]))]), .whl (.cmp .ne (.var 3) (.lst (xs []))) (ss [.set (.nm 4) (.mt .pop (.var 3) (xs [])), .set (.nm 5) (.bin .fdiv (.bf1 .len (.var 4)) (.cst (.int 2))), .ife (.cmp .eq (.var 5) (.ix (.var 0) (.cst (.int 0)))) (ss [.set (.sub (.var 2) (.call 37 (xs [(.var 4)]))) (.cst (.bl true)), .ife (.cmp .gt (.bf1 .len (.var 2)) (.var 1)) (ss [.rai 6 (.so (.var 1))]) (ss [])]) (ss [.ex (.mt .extend (.var 3) (xs [(.call 40 (xs [(.var 4), (.var 5), (.call 39 (xs [(.var 0), (.var 5)]))]))]))])]), .ret (.so (.bf1 .sorted (.var 2)))]⟩
/-- degrees_in -/
def d45 : DefS := dS ["graph", "node"] ["graph"] false (top 69)
def f45 : EV.Fn := ⟨1, 2, ss [.ret (.so (.lc [("node", 1)] (.nm 1) (.rng .no (.ix (.var 0) (.cst (.int 0)))) .no (.bf1 .len (.call 39 (xs [(.var 0), (.var 1)])))))]⟩
/-- is_round_in -/
def d46 : DefS := dS ["graph", "many"] ["graph"] false (top 70)
def f46 : EV.Fn := ⟨1, 2, ss [.ret (.so (.and (.bf1 .all (.lc [("many", 1)] (.nm 1) (.seq (.call 45 (xs [(.var 0)]))) .no (.cmp .eq (.var 1) (.glo 5)))) (.cmp .eq (.bf1 .len (.call 20 (xs [(.var 0)]))) (.cst (.int 1)))))]⟩
/-- is_three_with_hub -/
def d47 : DefS := dS ["graph", "index", "hub", "rest", "near", "node", "a", "b"] ["graph", "index", "hub"] false (top 71)
def f47 : EV.Fn := ⟨3, 8, ss [.set (.nm 3) (.lc [("node", 5)] (.nm 5) (.rng .no (.ix (.var 0) (.cst (.int 0)))) (.so (.cmp .ne (.var 5) (.var 2))) (.var 5)), .ife (.no (.call 46 (xs [(.call 19 (xs [(.var 0), (.bf1 .tuple (.var 3))]))]))) (ss [.ret (.so (.cst (.bl false)))]) (ss []), .set (.nm 4) (.call 39 (xs [(.var 0), (.var 2)])), .ife (.cmp .lt (.var 1) (.glo 5)) (ss [.ret (.so (.cmp .eq (.bf1 .len (.var 4)) (.bf1 .len (.var 3))))]) (ss []), .ret (.so (.and (.cmp .eq (.bf1 .len (.var 4)) (.bin .fdiv (.bf1 .len (.var 3)) (.cst (.int 2)))) (.no (.bf1 .any (.lc [("a", 6), ("b", 7)] (.tp (ts [(.nm 6), (.nm 7)])) (.seq (.ix (.var 0) (.cst (.int 1)))) (.so (.cmp .notin (.var 2) (.tup (xs [(.var 6), (.var 7)])))) (.and (.cmp .isin (.var 6) (.var 4)) (.cmp .isin (.var 7) (.var 4))))))))]⟩
/-- is_one_of_three -/
def d48 : DefS := dS ["graph", "index", "hub"] ["graph", "index"] false (top 72)
def f48 : EV.Fn := ⟨2, 3, ss [.ife (.or (.cmp .ne (.ix (.var 0) (.cst (.int 0))) (.ix (.ix (.glo 6) (.var 1)) (.cst (.int 0)))) (.cmp .ne (.bf1 .len (.ix (.var 0) (.cst (.int 1)))) (.bf1 .len (.ix (.ix (.glo 6) (.var 1)) (.cst (.int 1)))))) (ss [.ret (.so (.cst (.bl false)))]) (ss []), .ret (.so (.bf1 .any (.lc [("hub", 2)] (.nm 2) (.rng .no (.ix (.var 0) (.cst (.int 0)))) .no (.call 47 (xs [(.var 0), (.var 1), (.var 2)])))))]⟩
/-- part_of_three_in -/
def d49 : DefS := dS ["graph", "index", "lot"] ["graph"] false (top 73)
def f49 : EV.Fn := ⟨1, 3, ss [.for_ (.nm 1) (.rng .no (.bf1 .len (.glo 6))) (ss [.for_ (.nm 2) (.seq (.call 7 (xs [(.ix (.var 0) (.cst (.int 0)))]))) (ss [.ife (.and (.cmp .eq (.bf1 .len (.var 2)) (.ix (.ix (.glo 6) (.var 1)) (.cst (.int 0)))) (.call 48 (xs [(.call 19 (xs [(.var 0), (.var 2)])), (.var 1)]))) (ss [.ret (.so (.tup (xs [(.var 1), (.var 2)])))]) (ss [])])]), .ret (.so (.cst .non))]⟩
/-- way_to_three -/
def d50 : DefS := dS ["graph", "met", "waiting", "here", "found", "node", "later"] ["graph"] false (top 74)
def f50 : EV.Fn := ⟨1, 7, ss [.par [1, 2] (xs [(.dct (xs [(.var 0), (.tup (xs []))])), (.lst (xs [(.var 0)]))]), .whl (.cmp .ne (.var 2) (.lst (xs []))) (ss [.set (.nm 3) (.mt .popAt (.var 2) (xs [(.cst (.int 0))])), .set (.nm 4) (.call 49 (xs [(.var 3)])), .ife (.cmp .notN (.var 4) (.cst .non)) (ss [.ret (.so (.tup (xs [(.ix (.var 1) (.var 3)), (.ix (.var 4) (.cst (.int 1)))])))]) (ss []), .for_ (.nm 5) (.rng .no (.ix (.var 0) (.cst (.int 0)))) (ss [.set (.nm 6) (.call 17 (xs [(.var 3), (.var 5)])), .ife (.cmp .notin (.var 6) (.var 1)) (ss [.set (.sub (.var 1) (.var 6)) (.tup (.star (.ix (.var 1) (.var 3)) (.one (.var 5) .nil))), .ex (.mt .append (.var 2) (xs [(.var 6)]))]) (ss [])])]), .ret (.so (.cst .non))]⟩
/-- chord_answer_in -/
def d51 : DefS := dS ["graph", "word"] ["graph"] false (top 75)
def f51 : EV.Fn := ⟨1, 2, ss [.set (.nm 1) (.call 43 (xs [(.var 0)])), .ife (.cmp .notN (.var 1) (.cst .non)) (ss [.ret (.so (.tup (xs [(.tup (xs [(.glo 7), (.var 0)])), (.call 36 (xs [(.var 1)]))])))]) (ss []), .ret (.so (.tup (xs [(.tup (xs [(.glo 8), (.var 0)])), (.call 50 (xs [(.var 0)]))])))]⟩
/-- is_lone_web -/
def d52 : DefS := dS ["value"] ["value"] false (top 76)
def f52 : EV.Fn := ⟨1, 1, ss [.ret (.so (.and (.call 29 (xs [(.var 0)])) (.cmp .eq (.bf1 .len (.call 26 (xs [(.var 0)]))) (.cst (.int 1)))))]⟩
/-- is_chord_web_in -/
def d53 : DefS := dS ["graph", "value"] ["graph", "value"] false (top 77)
def f53 : EV.Fn := ⟨2, 2, ss [.ife (.or (.no (.call 52 (xs [(.var 1)]))) (.cmp .ne (.bf1 .len (.var 1)) (.bin .mul (.cst (.int 2)) (.ix (.var 0) (.cst (.int 0)))))) (ss [.ret (.so (.cst (.bl false)))]) (ss []), .ret (.so (.cmp .eq (.call 34 (xs [(.call 35 (xs [(.var 1)]))])) (.var 0)))]⟩
/-- is_no_chord_paper_in -/
def d54 : DefS := dS ["graph", "value", "part", "index", "node"] ["graph", "value"] false (top 78)
def f54 : EV.Fn := ⟨2, 5, ss [.ife (.or (.no (.call 3 (xs [(.var 1)]))) (.or (.no (.bf1 (.isi .tuple) (.ix (.var 1) (.cst (.int 0))))) (.cmp .gt (.bf1 .len (.ix (.var 1) (.cst (.int 0)))) (.glo 9)))) (ss [.ret (.so (.cst (.bl false)))]) (ss []), .ife (.or (.no (.bf1 .all (.lc [("node", 4)] (.nm 4) (.seq (.ix (.var 1) (.cst (.int 0)))) .no (.call 2 (xs [(.var 4), (.cst (.int 0)), (.bin .sub (.ix (.var 0) (.cst (.int 0))) (.cst (.int 1)))]))))) (.no (.call 6 (xs [(.ix (.var 0) (.cst (.int 0))), (.ix (.var 1) (.cst (.int 1)))])))) (ss [.ret (.so (.cst (.bl false)))]) (ss []), .set (.nm 2) (.call 19 (xs [(.call 18 (xs [(.var 0), (.ix (.var 1) (.cst (.int 0)))])), (.ix (.var 1) (.cst (.int 1)))])), .ret (.so (.bf1 .any (.lc [("index", 3)] (.nm 3) (.rng .no (.bf1 .len (.glo 6))) .no (.call 48 (xs [(.var 2), (.var 3)])))))]⟩
/-- rows_of_lot -/
def d55 : DefS := dS ["word", "lot", "known", "turns", "round_word", "rows", "at", "low", "high", "sign"] ["word", "lot"] false (top 79)
def f55 : EV.Fn := ⟨2, 10, ss [.set (.nm 2) (.dc [("sign", 9)] (.nm 9) (.seq (.var 1)) .no (.var 9) (.cst (.bl true))), .set (.nm 3) (.lc [("at", 6)] (.nm 6) (.rng .no (.bf1 .len (.var 0))) (.so (.and (.cmp .isin (.ix (.var 0) (.var 6)) (.var 2)) (.cmp .notin (.ix (.var 0) (.bin .sub (.var 6) (.cst (.int 1)))) (.var 2)))) (.var 6)), .ife (.cmp .eq (.var 3) (.lst (xs []))) (ss [.ret (.so (.ifx (.and (.cmp .ne (.var 1) (.tup (xs []))) (.cmp .ne (.var 0) (.tup (xs [])))) (.lst (xs [(.tup (xs [(.var 0), (.tup (xs []))]))])) (.lst (xs []))))]) (ss []), .set (.nm 4) (.bin .add (.sl (.var 0) (.so (.ix (.var 3) (.cst (.int 0)))) .no) (.sl (.var 0) .no (.so (.ix (.var 3) (.cst (.int 0)))))), .par [5, 6] (xs [(.lst (xs [])), (.cst (.int 0))]), .whl (.cmp .lt (.var 6) (.bf1 .len (.var 4))) (ss [.set (.nm 7) (.var 6), .whl (.and (.cmp .lt (.var 6) (.bf1 .len (.var 4))) (.cmp .isin (.ix (.var 4) (.var 6)) (.var 2))) (ss [.aug 6 .add (.cst (.int 1))]), .set (.nm 8) (.var 6), .whl (.and (.cmp .lt (.var 6) (.bf1 .len (.var 4))) (.cmp .notin (.ix (.var 4) (.var 6)) (.var 2))) (ss [.aug 6 .add (.cst (.int 1))]), .ex (.mt .append (.var 5) (xs [(.tup (xs [(.sl (.var 4) (.so (.var 7)) (.so (.var 8))), (.sl (.var 4) (.so (.var 8)) (.so (.var 6)))]))]))]), .ret (.so (.var 5))]⟩
/-- is_share_in -/
def d56 : DefS := dS ["word", "lot"] ["word", "lot"] false (top 80)
def f56 : EV.Fn := ⟨2, 2, ss [.ret (.so (.cmp .le (.bf1 .len (.call 55 (xs [(.var 0), (.var 1)]))) (.glo 5)))]⟩
/-- share_steps -/
def d57 : DefS := dS ["word", "lot", "rows", "found", "one", "ahead", "other", "behind", "first", "second"] ["word", "lot"] false (top 81)
def f57 : EV.Fn := ⟨2, 10, ss [.set (.nm 2) (.call 55 (xs [(.var 0), (.var 1)])), .ife (.cmp .eq (.var 2) (.lst (xs []))) (ss [.ret (.so (.lst (xs [(.var 0)])))]) (ss []), .set (.tp (ts [(.nm 4), (.nm 5)])) (.ix (.var 2) (.cst (.int 0))), .set (.tp (ts [(.nm 6), (.nm 7)])) (.ifx (.cmp .eq (.bf1 .len (.var 2)) (.glo 5)) (.ix (.var 2) (.cst (.int 1))) (.tup (xs [(.tup (xs [])), (.tup (xs []))]))), .set (.nm 3) (.lst (xs [])), .for_ (.tp (ts [(.nm 8), (.nm 9)])) (.seq (.tup (xs [(.tup (xs [(.var 4), (.var 6)])), (.tup (xs [(.revL (.var 4)), (.revL (.var 6))])), (.tup (xs [(.var 6), (.var 4)])), (.tup (xs [(.revL (.var 6)), (.revL (.var 4))]))]))) (ss [.ex (.mt .append (.var 3) (xs [(.ifx (.cmp .eq (.bf1 .len (.var 2)) (.glo 5)) (.bin .add (.bin .add (.bin .add (.var 8) (.var 5)) (.var 9)) (.var 7)) (.bin .add (.bin .add (.var 8) (.var 9)) (.var 5)))]))]), .ret (.so (.var 3))]⟩
/-- first_split_in -/
def d58 : DefS := dS ["graph", "lot", "rest", "node"] ["graph"] false (top 82)
def f58 : EV.Fn := ⟨1, 4, ss [.for_ (.nm 1) (.seq (.call 7 (xs [(.ix (.var 0) (.cst (.int 0)))]))) (ss [.set (.nm 2) (.bf1 .tuple (.lc [("node", 3)] (.nm 3) (.rng .no (.ix (.var 0) (.cst (.int 0)))) (.so (.cmp .notin (.var 3) (.var 1))) (.var 3))), .ife (.and (.cmp .eq (.sl (.var 1) .no (.so (.cst (.int 1)))) (.tup (xs [(.cst (.int 0))]))) (.and (.cmp .ge (.bf2 .min2 (.bf1 .len (.var 1)) (.bf1 .len (.var 2))) (.glo 5)) (.cmp .le (.call 21 (xs [(.var 0), (.var 1)])) (.cst (.int 1))))) (ss [.ret (.so (.tup (xs [(.var 1), (.var 2)])))]) (ss [])]), .ret (.so (.cst .non))]⟩
/-- require_word -/
def d59 : DefS := dS ["value"] ["value"] false (top 83)
def f59 : EV.Fn := ⟨1, 1, ss [.ife (.no (.call 32 (xs [(.var 0)]))) (ss [.rai 4 .no]) (ss [])]⟩
/-- require_few_chords -/
def d60 : DefS := dS ["graph"] ["graph"] false (top 84)
def f60 : EV.Fn := ⟨1, 1, ss [.ex (.call 22 (xs [(.var 0)])), .ife (.cmp .gt (.ix (.var 0) (.cst (.int 0))) (.glo 4)) (ss [.rai 6 (.so (.glo 4))]) (ss [])]⟩
/-- require_signs -/
def d61 : DefS := dS ["word", "lot"] ["word", "lot"] false (top 85)
def f61 : EV.Fn := ⟨2, 2, ss [.ex (.call 59 (xs [(.var 0)])), .ife (.no (.call 6 (xs [(.bin .fdiv (.bf1 .len (.var 0)) (.cst (.int 2))), (.var 1)]))) (ss [.rai 2 .no]) (ss [])]⟩
/-- word_of_web -/
def d62 : DefS := dS ["web"] ["web"] false (top 86)
def f62 : EV.Fn := ⟨1, 1, ss [.ex (.call 30 (xs [(.var 0)])), .ife (.or (.no (.call 52 (xs [(.var 0)]))) (.cmp .gt (.bf1 .len (.var 0)) (.bin .mul (.cst (.int 2)) (.glo 4)))) (ss [.rai 4 .no]) (ss []), .ret (.so (.call 35 (xs [(.var 0)])))]⟩
/-- web_of_word -/
def d63 : DefS := dS ["word"] ["word"] false (top 87)
def f63 : EV.Fn := ⟨1, 1, ss [.ex (.call 59 (xs [(.var 0)])), .ret (.so (.call 36 (xs [(.var 0)])))]⟩
/-- graph_of_word -/
def d64 : DefS := dS ["word"] ["word"] false (top 88)
def f64 : EV.Fn := ⟨1, 1, ss [.ex (.call 59 (xs [(.var 0)])), .ret (.so (.call 34 (xs [(.var 0)])))]⟩
/-- least_word -/
def d65 : DefS := dS ["word"] ["word"] false (top 89)
def f65 : EV.Fn := ⟨1, 1, ss [.ex (.call 59 (xs [(.var 0)])), .ret (.so (.call 37 (xs [(.var 0)])))]⟩
/-- turned_word -/
def d66 : DefS := dS ["word", "sign"] ["word", "sign"] false (top 90)
def f66 : EV.Fn := ⟨2, 2, ss [.ex (.call 59 (xs [(.var 0)])), .ex (.call 5 (xs [(.var 1), (.cst (.int 0)), (.bin .sub (.bin .fdiv (.bf1 .len (.var 0)) (.cst (.int 2))) (.cst (.int 1)))])), .ret (.so (.call 38 (xs [(.var 0), (.var 1)])))]⟩
/-- chord_answer -/
def d67 : DefS := dS ["graph"] ["graph"] false (top 91)
def f67 : EV.Fn := ⟨1, 1, ss [.ex (.call 60 (xs [(.var 0)])), .ret (.so (.call 51 (xs [(.var 0)])))]⟩
/-- is_chord_web -/
def d68 : DefS := dS ["graph", "value"] ["graph", "value"] false (top 92)
def f68 : EV.Fn := ⟨2, 2, ss [.ex (.call 60 (xs [(.var 0)])), .ret (.so (.call 53 (xs [(.var 0), (.var 1)])))]⟩
/-- is_no_chord_paper -/
def d69 : DefS := dS ["graph", "value"] ["graph", "value"] false (top 93)
def f69 : EV.Fn := ⟨2, 2, ss [.ex (.call 60 (xs [(.var 0)])), .ret (.so (.call 54 (xs [(.var 0), (.var 1)])))]⟩
/-- chord_words -/
def d70 : DefS := dS ["graph"] ["graph"] false (top 94)
def f70 : EV.Fn := ⟨1, 1, ss [.ex (.call 60 (xs [(.var 0)])), .ret (.so (.bf1 .tuple (.call 44 (xs [(.var 0), (.glo 10)]))))]⟩
/-- part_of_three -/
def d71 : DefS := dS ["graph"] ["graph"] false (top 95)
def f71 : EV.Fn := ⟨1, 1, ss [.ex (.call 60 (xs [(.var 0)])), .ret (.so (.call 49 (xs [(.var 0)])))]⟩
/-- is_share -/
def d72 : DefS := dS ["word", "lot"] ["word", "lot"] false (top 96)
def f72 : EV.Fn := ⟨2, 2, ss [.ex (.call 61 (xs [(.var 0), (.var 1)])), .ret (.so (.call 56 (xs [(.var 0), (.var 1)])))]⟩
/-- shares_turned -/
def d73 : DefS := dS ["word", "lot", "some"] ["word", "lot"] false (top 97)
def f73 : EV.Fn := ⟨2, 3, ss [.ex (.call 61 (xs [(.var 0), (.var 1)])), .ife (.no (.call 56 (xs [(.var 0), (.var 1)]))) (ss [.rai 4 .no]) (ss []), .ret (.so (.bf1 .tuple (.bf1 .sorted (.dcT [("some", 2)] (.nm 2) (.seq (.call 57 (xs [(.var 0), (.var 1)]))) .no (.call 37 (xs [(.var 2)])) (.cst (.bl true))))))]⟩
/-- first_split -/
def d74 : DefS := dS ["graph"] ["graph"] false (top 98)
def f74 : EV.Fn := ⟨1, 1, ss [.ex (.call 60 (xs [(.var 0)])), .ret (.so (.call 58 (xs [(.var 0)])))]⟩
/-- _law_dice -/
def d75 : DefS := dS ["script", "spot", "cell", "left"] ["script", "spot"] false (top 100)
def f75 : EV.Fn := ⟨2, 4, ss [.set (.nm 2) (.ifx (.cmp .lt (.var 1) (.bf1 .len (.var 0))) (.bf1 .int (.ix (.var 0) (.var 1))) (.bin .add (.bin .mul (.cst (.int 89)) (.var 1)) (.cst (.int 71)))), .set (.nm 3) (.bin .mod (.bf2 .max2 (.cst (.int 0)) (.bin .sub (.bf1 .abs (.var 2)) (.bin .pow (.cst (.int 10)) (.cst (.int 17))))) (.bin .mul (.bin .pow (.cst (.int 10)) (.cst (.int 60))) (.bin .pow (.cst (.int 10)) (.cst (.int 60))))), .ret (.so (.lst (xs [(.var 3), (.bin .add (.bin .add (.bin .add (.bin .mul (.bin .mod (.bf1 .abs (.var 2)) (.cst (.int 1152921504606846793))) (.cst (.int 41))) (.bin .mul (.cst (.int 947)) (.var 1))) (.bin .mul (.cst (.int 23)) (.bf1 .int (.cmp .lt (.var 2) (.cst (.int 0)))))) (.cst (.int 19))), (.cst (.int 0))])))]⟩
/-- _law_roll -/
def d76 : DefS := dS ["dice", "total", "one", "two", "found"] ["dice", "total"] false (top 101)
def f76 : EV.Fn := ⟨2, 5, ss [.ife (.cmp .gt (.ix (.var 0) (.cst (.int 0))) (.cst (.int 0))) (ss [.set (.nm 4) (.bin .mod (.bf1 .int (.ix (.var 0) (.cst (.int 0)))) (.var 1)), .set (.sub (.var 0) (.cst (.int 0))) (.bin .fdiv (.ix (.var 0) (.cst (.int 0))) (.var 1)), .ret (.so (.var 4))]) (ss []), .set (.sub (.var 0) (.cst (.int 2))) (.bin .add (.ix (.var 0) (.cst (.int 2))) (.cst (.int 1))), .set (.nm 2) (.bin .mod (.bf1 .int (.bin .add (.ix (.var 0) (.cst (.int 1))) (.bin .mul (.cst (.int 15485917)) (.ix (.var 0) (.cst (.int 2)))))) (.cst (.int 2305843009213693951))), .set (.nm 3) (.bin .add (.bin .mul (.bin .mod (.bf1 .int (.bin .add (.bin .mul (.var 2) (.var 2)) (.bin .mul (.cst (.int 173)) (.ix (.var 0) (.cst (.int 2)))))) (.cst (.int 2305843009213693907))) (.cst (.int 7368743))) (.var 2)), .ret (.so (.bin .mod (.bf1 .int (.bin .fdiv (.var 3) (.cst (.int 65536)))) (.var 1)))]⟩
/-- _law_pick -/
def d77 : DefS := dS ["dice", "items"] ["dice", "items"] false (top 102)
def f77 : EV.Fn := ⟨2, 2, ss [.ret (.so (.ix (.var 1) (.call 76 (xs [(.var 0), (.bf1 .len (.var 1))]))))]⟩
/-- _law_met -/
def d78 : DefS := dS ["call", "error"] ["call"] false (top 103)
def f78 : EV.Fn := ⟨1, 2, ss [.tr (ss [.ex .thk]) [(3, .cst (.str "graph")), (1, .cst (.str "web")), (2, .cst (.str "lot")), (4, .cst (.str "operation")), (5, .rep "number " "value"), (6, .rep "many " "number")], .ret (.so (.cst (.str "fine")))]⟩
/-- _law_graph_words -/
def d79 : DefS := dS ["graph", "told", "call"] ["graph"] true (top 104)
def f79 : EV.Fn := ⟨1, 3, ss [.set (.nm 1) (.lc [("call", 2)] (.nm 2) (.seq (.tup (xs [(.fnv 67), (.fnv 70)]))) .no (.lam 78 (.cav 2 (xs [(.var 0)])))), .set (.nm 1) (.bin .add (.var 1) (.lc [("call", 2)] (.nm 2) (.seq (.tup (xs [(.fnv 68), (.fnv 69)]))) .no (.lam 78 (.cav 2 (xs [(.var 0), (.cst .non)]))))), .ret (.so (.bin .add (.var 1) (.lc [("call", 2)] (.nm 2) (.seq (.tup (xs [(.fnv 71), (.fnv 74)]))) .no (.lam 78 (.cav 2 (xs [(.var 0)]))))))]⟩
/-- _law_word_words -/
def d80 : DefS := dS ["word", "sign", "lot", "told", "call"] ["word", "sign", "lot"] true (top 105)
def f80 : EV.Fn := ⟨3, 5, ss [.set (.nm 3) (.lc [("call", 4)] (.nm 4) (.seq (.tup (xs [(.fnv 63), (.fnv 64), (.fnv 65)]))) .no (.lam 78 (.cav 4 (xs [(.var 0)])))), .ex (.mt .append (.var 3) (xs [(.lam 78 (.call 66 (xs [(.var 0), (.var 1)])))])), .ret (.so (.bin .add (.var 3) (.lc [("call", 4)] (.nm 4) (.seq (.tup (xs [(.fnv 72), (.fnv 73)]))) .no (.lam 78 (.cav 4 (xs [(.var 0), (.var 2)]))))))]⟩
/-- _law_right -/
def d81 : DefS := dS ["dice", "none", "bad", "sign", "lot", "word", "odd", "web", "more", "told"] ["dice"] true (top 106)
def f81 : EV.Fn := ⟨1, 10, ss [.set (.nm 1) (.lst (xs [(.cst .non), (.cst (.int 0)), (.tuq (xs [])), (.tuq (xs [(.cst (.int 2))])), (.tuq (xs [(.cst (.int 2)), (.lst (xs [(.tuq (xs [(.cst (.int 0)), (.cst (.int 1))]))]))])), (.tuq (xs [(.cst (.int 2)), (.tuq (xs [(.tuq (xs [(.cst (.int 1)), (.cst (.int 0))]))]))])), (.tuq (xs [(.cst (.int 2)), (.tuq (xs [(.tuq (xs [(.cst (.int 0)), (.cst (.int 2))]))]))])), (.tuq (xs [(.cst (.int 2)), (.tuq (xs [(.tuq (xs [(.cst (.int 0)), (.cst (.int 1))])), (.tuq (xs [(.cst (.int 0)), (.cst (.int 1))]))]))])), (.lst (xs [(.cst (.int 2)), (.tuq (xs []))])), (.tuq (xs [(.cst (.int 11)), (.tuq (xs []))]))])), .set (.nm 1) (.bin .add (.var 1) (.lst (xs [(.tuq (xs [(.cst (.int 2)), (.tuq (xs [(.tuq (xs [(.cst (.int 0)), (.cst (.int 0))]))]))])), (.tuq (xs [(.cst (.int 2)), (.tuq (xs [(.tuq (xs [(.cst (.int 0)), (.cst (.bl true))]))]))]))]))), .set (.nm 1) (.call 77 (xs [(.var 0), (.bin .add (.var 1) (.lst (xs [(.tuq (xs [(.neg (.cst (.int 1))), (.tuq (xs []))])), (.tuq (xs [(.cst (.bl true)), (.tuq (xs []))])), (.tuq (xs [(.cst (.int 3)), (.tuq (xs [(.tuq (xs [(.cst (.int 1)), (.cst (.int 2))])), (.tuq (xs [(.cst (.int 0)), (.cst (.int 1))]))]))])), (.cst (.str "graph")), (.dnw false)])))])), .ife (.cmp .ne (.call 79 (xs [(.var 1)])) (.bin .mul (.lst (xs [(.cst (.str "graph"))])) (.cst (.int 6)))) (ss [.ret (.so (.cst (.bl false)))]) (ss []), .set (.nm 2) (.lst (xs [(.cst .non), (.cst (.int 0)), (.tuq (xs [(.cst (.int 0))])), (.tuq (xs [(.cst (.int 0)), (.cst (.int 1))])), (.tuq (xs [(.cst (.int 0)), (.cst (.int 0)), (.cst (.int 0))])), (.tuq (xs [(.cst (.int 0)), (.cst (.int 0)), (.cst (.int 2)), (.cst (.int 2))])), (.tuq (xs [(.cst (.int 1)), (.cst (.int 1))])), (.lst (xs [(.cst (.int 0)), (.cst (.int 0))])), (.tuq (xs [(.cst (.int 0)), (.cst (.str "0"))])), (.cst (.str "00")), (.dnw false), (.tuq (xs [(.cst (.int 0)), (.cst (.int 0)), (.cst (.int 1)), (.cst (.int 1)), (.cst (.int 1)), (.cst (.int 1))]))])), .set (.nm 2) (.call 77 (xs [(.var 0), (.bin .add (.var 2) (.lst (xs [(.tuq (xs [(.neg (.cst (.int 1))), (.neg (.cst (.int 1)))])), (.bf1 .tupS (.bin .mul (.rgl false .no (.cst (.int 9))) (.cst (.int 2)))), (.tuq (xs [(.cst (.int 0)), (.cst (.int 0)), (.cst (.bl true)), (.cst (.bl true))])), (.tuq (xs [(.cst (.int 0)), (.cst .non)]))])))])), .set (.nm 3) (.call 77 (xs [(.var 0), (.lst (xs [(.cst .non), (.neg (.cst (.int 1))), (.cst (.int 3)), (.cst (.bl true)), (.cst (.str "0")), (.tuq (xs [(.cst (.int 0))])), (.bin .pow (.cst (.int 10)) (.cst (.int 59)))]))])), .set (.nm 4) (.call 77 (xs [(.var 0), (.lst (xs [(.cst .non), (.cst (.int 0)), (.lst (xs [(.cst (.int 0))])), (.tuq (xs [(.cst (.int 3))])), (.tuq (xs [(.neg (.cst (.int 1)))])), (.tuq (xs [(.cst (.int 1)), (.cst (.int 0))])), (.tuq (xs [(.cst (.int 0)), (.cst (.int 0))])), (.tuq (xs [(.cst (.bl true))])), (.tuq (xs [(.cst (.str "0"))])), (.dnw false), (.tuq (xs [(.cst .non)]))]))])), .ife (.cmp .ne (.call 80 (xs [(.var 2), (.var 3), (.var 4)])) (.bin .mul (.lst (xs [(.cst (.str "operation"))])) (.cst (.int 6)))) (ss [.ret (.so (.cst (.bl false)))]) (ss []), .set (.nm 5) (.tuq (xs [(.cst (.int 0)), (.cst (.int 1)), (.cst (.int 2)), (.cst (.int 0)), (.cst (.int 1)), (.cst (.int 2))])), .ife (.cmp .ne (.call 80 (xs [(.var 5), (.var 3), (.var 4)])) (.bin .add (.bin .add (.bin .mul (.lst (xs [(.cst (.str "fine"))])) (.cst (.int 3))) (.lst (xs [(.bin .add (.cst (.str "number ")) (.bf1 .repr (.var 3)))]))) (.bin .mul (.lst (xs [(.cst (.str "lot"))])) (.cst (.int 2))))) (ss [.ret (.so (.cst (.bl false)))]) (ss []), .set (.nm 6) (.lam 78 (.call 73 (xs [(.tuq (xs [(.cst (.int 0)), (.cst (.int 1)), (.cst (.int 2)), (.cst (.int 3)), (.cst (.int 0)), (.cst (.int 1)), (.cst (.int 2)), (.cst (.int 3))])), (.tuq (xs [(.cst (.int 0)), (.cst (.int 2))]))]))), .set (.nm 7) (.call 77 (xs [(.var 0), (.lst (xs [(.cst .non), (.cst (.int 0)), (.tuq (xs [(.cst (.int 0))])), (.tuq (xs [(.cst (.int 1)), (.cst (.int 1))])), (.tuq (xs [(.cst (.int 0)), (.cst (.int 1)), (.cst (.int 2)), (.cst (.int 3))])), (.lst (xs [(.cst (.int 1)), (.cst (.int 0))])), (.tuq (xs [(.cst (.int 1)), (.cst (.int 2))])), (.tuq (xs [(.cst (.bl true)), (.cst (.bl false))])), (.cst (.str "web")), (.dnw false), (.tuq (xs [(.cst (.int 1)), (.cst .non)]))]))])), .set (.nm 8) (.call 77 (xs [(.var 0), (.lst (xs [(.tuq (xs [(.cst (.int 0)), (.cst (.int 1))])), (.tuq (xs [(.cst (.int 2)), (.cst (.int 5)), (.cst (.int 4)), (.cst (.int 1)), (.cst (.int 0)), (.cst (.int 3))])), (.bf1 .tupS (.bin .add (.rgl false (.so (.cst (.int 1))) (.cst (.int 18))) (.lst (xs [(.cst (.int 0))]))))]))])), .set (.nm 9) (.lst (xs [(.var 6), (.lam 78 (.call 62 (xs [(.var 7)])))])), .ex (.mt .append (.var 9) (xs [(.lam 78 (.call 62 (xs [(.var 8)])))])), .ret (.so (.cmp .eq (.var 9) (.lst (xs [(.cst (.str "operation")), (.cst (.str "web")), (.cst (.str "operation"))]))))]⟩
/-- law -/
def d82 : DefS := dS ["script", "spot", "nine", "dice", "turn", "word", "row"] ["script"] true (top 107)
def f82 : EV.Fn := ⟨1, 7, ss [.for_ (.nm 1) (.rng .no (.bf2 .max2 (.cst (.int 1)) (.bf2 .min2 (.cst (.int 5)) (.bf1 .len (.var 0))))) (ss [.set (.nm 3) (.call 75 (xs [(.var 0), (.var 1)])), .for_ (.nm 4) (.rng .no (.cst (.int 2))) (ss [.ife (.no (.call 81 (xs [(.var 3)]))) (ss [.ret (.so (.cst (.bl false)))]) (ss [])])]), .set (.nm 2) (.tuq (xs [(.cst (.int 9)), (.tuq (xs [(.tuq (xs [(.cst (.int 0)), (.cst (.int 1))]))]))])), .ife (.or (.cmp .ne (.glo 4) (.cst (.int 8))) (.cmp .ne (.sl (.call 79 (xs [(.var 2)])) .no (.so (.cst (.int 4)))) (.bin .add (.bin .mul (.lst (xs [(.cst (.str "many 8"))])) (.cst (.int 2))) (.bin .mul (.lst (xs [(.cst (.str "many 8"))])) (.cst (.int 2)))))) (ss [.ret (.so (.cst (.bl false)))]) (ss []), .set (.tp (ts [(.nm 5), (.nm 6)])) (.tuq (xs [(.bf1 .tupS (.bin .mul (.rgl false .no (.cst (.int 8))) (.cst (.int 2)))), (.bf1 .tupS (.bin .add (.rgl false (.so (.cst (.int 1))) (.cst (.int 16))) (.lst (xs [(.cst (.int 0))]))))])), .ret (.so (.and (.cmp .eq (.call 80 (xs [(.var 5), (.cst (.int 7)), (.tuq (xs [(.cst (.int 0)), (.cst (.int 7))]))])) (.bin .mul (.lst (xs [(.cst (.str "fine"))])) (.cst (.int 6)))) (.cmp .eq (.lam 78 (.call 62 (xs [(.var 6)]))) (.cst (.str "fine")))))]⟩
def D : List DefS := [d0, d1, d2, d3, d4, d5, d6, d7, d8, d9, d10, d11, d12, d13, d14, d15, d16, d17, d18, d19, d20, d21, d22, d23, d24, d25, d26, d27, d28, d29, d30, d31, d32, d33, d34, d35, d36, d37, d38, d39, d40, d41, d42, d43, d44, d45, d46, d47, d48, d49, d50, d51, d52, d53, d54, d55, d56, d57, d58, d59, d60, d61, d62, d63, d64, d65, d66, d67, d68, d69, d70, d71, d72, d73, d74, d75, d76, d77, d78, d79, d80, d81, d82]
def F : List EV.Fn := [f0, f1, f2, f3, f4, f5, f6, f7, f8, f9, f10, f11, f12, f13, f14, f15, f16, f17, f18, f19, f20, f21, f22, f23, f24, f25, f26, f27, f28, f29, f30, f31, f32, f33, f34, f35, f36, f37, f38, f39, f40, f41, f42, f43, f44, f45, f46, f47, f48, f49, f50, f51, f52, f53, f54, f55, f56, f57, f58, f59, f60, f61, f62, f63, f64, f65, f66, f67, f68, f69, f70, f71, f72, f73, f74, f75, f76, f77, f78, f79, f80, f81, f82]
def gl : List PV := [.int (1000000000000000000000000000000000000000000000000000000000000), .int (2), .int (10), .int (14), .int (8), .int (2), .rot [.rot [.int (6), .rot [.rot [.int (0), .int (1)], .rot [.int (0), .int (4)], .rot [.int (0), .int (5)], .rot [.int (1), .int (2)], .rot [.int (1), .int (5)], .rot [.int (2), .int (3)], .rot [.int (2), .int (5)], .rot [.int (3), .int (4)], .rot [.int (3), .int (5)], .rot [.int (4), .int (5)]]], .rot [.int (8), .rot [.rot [.int (0), .int (1)], .rot [.int (0), .int (6)], .rot [.int (0), .int (7)], .rot [.int (1), .int (2)], .rot [.int (1), .int (7)], .rot [.int (2), .int (3)], .rot [.int (2), .int (7)], .rot [.int (3), .int (4)], .rot [.int (3), .int (7)], .rot [.int (4), .int (5)], .rot [.int (4), .int (7)], .rot [.int (5), .int (6)], .rot [.int (5), .int (7)], .rot [.int (6), .int (7)]]], .rot [.int (7), .rot [.rot [.int (0), .int (1)], .rot [.int (0), .int (5)], .rot [.int (0), .int (6)], .rot [.int (1), .int (2)], .rot [.int (2), .int (3)], .rot [.int (2), .int (6)], .rot [.int (3), .int (4)], .rot [.int (4), .int (5)], .rot [.int (4), .int (6)]]]], .str "chords", .str "no chords", .int (1000), .int (2000)]
def exs : List (Str × Option Str) := [("RimError", none), ("InvalidWeb", none), ("InvalidLot", none), ("InvalidGraph", none), ("InvalidOperation", none), ("InvalidNumber", some "value"), ("TooMany", some "number")]
def exm : List (List Bool) := [[true, false, false, false, false, false, false], [true, true, false, false, false, false, false], [true, false, true, false, false, false, false], [true, false, false, true, false, false, false], [true, false, false, false, true, false, false], [false, false, false, false, false, true, false], [false, false, false, false, false, false, true]]
def fld : List (Option Str) := exs.map (·.2)
def isx : List (List (String × Bool)) := [[], [], [], [], [], [], []]
def G : Gn := { fn := D.map (·.name), gl := ["FAR", "PAIR_SIZE", "MOST_NODES", "MOST_TIES", "MOST_CHORDS", "TWICE", "THREE", "CHORDS", "NO_CHORDS", "MOST_ROW", "MOST_WORDS"], exs := exs, bx := ["super"] }

def P : Prog := { fns := F, exm := exm, fld := fld, gl := gl, isx := isx, full := [67, 70, 74, 64, 68, 69, 72, 65, 71, 73, 66, 63, 62, 79, 80, 60, 59, 61, 5, 30] }
end AST
namespace AST
open PySem EV
def c0 : CFn := ⟨1, 1, (k_evSs_cons (k_evS_retS (k_ev_and (k_ev_bf1 (.isi .int) (k_ev_var 0)) (k_ev_no (k_ev_bf1 (.isi .bool) (k_ev_var 0))))) k_evSs_nil), metS f0.body⟩
def c1 : CFn := ⟨1, 1, (k_evSs_cons (k_evS_retS (k_ev_and (k_ev_call 0 (k_evs_one (k_ev_var 0) k_evs_nil)) (k_ev_chn .lt .lt (k_ev_neg (k_ev_glo 0)) (k_ev_var 0) (k_ev_glo 0)))) k_evSs_nil), metS f1.body⟩
def c2 : CFn := ⟨3, 3, (k_evSs_cons (k_evS_retS (k_ev_and (k_ev_call 0 (k_evs_one (k_ev_var 0) k_evs_nil)) (k_ev_chn .le .le (k_ev_var 1) (k_ev_var 0) (k_ev_var 2)))) k_evSs_nil), metS f2.body⟩
def c3 : CFn := ⟨1, 1, (k_evSs_cons (k_evS_retS (k_ev_and (k_ev_bf1 (.isi .tuple) (k_ev_var 0)) (k_ev_cmp .eq (k_ev_bf1 .len (k_ev_var 0)) (k_ev_glo 1)))) k_evSs_nil), metS f3.body⟩
def c4 : CFn := ⟨1, 3, (k_evSs_cons (k_evS_retS (k_ev_bf1 .all (k_ev_lc [("one", 1), ("other", 2)] (k_asg_tp (k_asgs_cons (k_asg_nm 1) (k_asgs_cons (k_asg_nm 2) k_asgs_nil)) (lenT (ts [(.nm 1), (.nm 2)]))) (k_evi_zip (k_ev_var 0) (k_ev_sl (k_ev_var 0) (k_evo_so (k_ev_cst (.int 1))) k_evo_no)) k_evc_no (k_ev_cmp .lt (k_ev_var 1) (k_ev_var 2))))) k_evSs_nil), metS f4.body⟩
def c5 : CFn := ⟨3, 3, (k_evSs_cons (k_evS_ife (k_ev_or (k_ev_no (k_ev_call 1 (k_evs_one (k_ev_var 0) k_evs_nil))) (k_ev_or (k_ev_and (k_ev_cmp .notN (k_ev_var 1) (k_ev_cst .non)) (k_ev_cmp .lt (k_ev_var 0) (k_ev_var 1))) (k_ev_and (k_ev_cmp .notN (k_ev_var 2) (k_ev_cst .non)) (k_ev_cmp .gt (k_ev_var 0) (k_ev_var 2))))) (k_evSs_cons (k_evS_raiS 5 (k_ev_var 0)) k_evSs_nil) k_evSs_nil) k_evSs_nil), metS f5.body⟩
def c6 : CFn := ⟨2, 3, (k_evSs_cons (k_evS_ife (k_ev_or (k_ev_no (k_ev_bf1 (.isi .tuple) (k_ev_var 1))) (k_ev_no (k_ev_bf1 .all (k_ev_lc [("one", 2)] (k_asg_nm 2) (k_evi_seq (k_ev_var 1)) k_evc_no (k_ev_call 2 (k_evs_one (k_ev_var 2) (k_evs_one (k_ev_cst (.int 0)) (k_evs_one (k_ev_bin .sub (k_ev_var 0) (k_ev_cst (.int 1))) k_evs_nil)))))))) (k_evSs_cons (k_evS_retS (k_ev_cst (.bl false))) k_evSs_nil) k_evSs_nil) (k_evSs_cons (k_evS_retS (k_ev_call 4 (k_evs_one (k_ev_var 1) k_evs_nil))) k_evSs_nil)), metS f6.body⟩
def c7 : CFn := ⟨1, 4, (k_evSs_cons (k_evS_set (k_asg_nm 1) (k_ev_lst (k_evs_one (k_ev_tup k_evs_nil) k_evs_nil))) (k_evSs_cons (k_evS_for_ (k_asg_nm 2) (k_evi_rng k_evo_no (k_ev_var 0)) (k_evSs_cons (k_evS_ex (k_ev_mt .extend (k_ev_var 1) (k_eva_one (k_ev_lc [("lot", 3)] (k_asg_nm 3) (k_evi_seq (k_ev_bf1 .list (k_ev_var 1))) k_evc_no (k_ev_tup (k_evs_star (k_ev_var 3) (k_evs_one (k_ev_var 2) k_evs_nil)))) k_eva_nil))) k_evSs_nil)) (k_evSs_cons (k_evS_retS (k_ev_bf1 .sorted (k_ev_var 1))) k_evSs_nil))), metS f7.body⟩
def c8 : CFn := ⟨2, 2, (k_evSs_cons (k_evS_retS (k_ev_and (k_ev_call 3 (k_evs_one (k_ev_var 1) k_evs_nil)) (k_ev_and (k_ev_call 2 (k_evs_one (k_ev_ix (k_ev_var 1) (k_ev_cst (.int 0))) (k_evs_one (k_ev_cst (.int 0)) (k_evs_one (k_ev_bin .sub (k_ev_var 0) (k_ev_cst (.int 1))) k_evs_nil)))) (k_ev_call 2 (k_evs_one (k_ev_ix (k_ev_var 1) (k_ev_cst (.int 1))) (k_evs_one (k_ev_bin .add (k_ev_ix (k_ev_var 1) (k_ev_cst (.int 0))) (k_ev_cst (.int 1))) (k_evs_one (k_ev_bin .sub (k_ev_var 0) (k_ev_cst (.int 1))) k_evs_nil))))))) k_evSs_nil), metS f8.body⟩
def c9 : CFn := ⟨1, 2, (k_evSs_cons (k_evS_ife (k_ev_or (k_ev_no (k_ev_call 3 (k_evs_one (k_ev_var 0) k_evs_nil))) (k_ev_or (k_ev_no (k_ev_call 2 (k_evs_one (k_ev_ix (k_ev_var 0) (k_ev_cst (.int 0))) (k_evs_one (k_ev_cst (.int 0)) (k_evs_one (k_ev_glo 2) k_evs_nil))))) (k_ev_no (k_ev_bf1 (.isi .tuple) (k_ev_ix (k_ev_var 0) (k_ev_cst (.int 1))))))) (k_evSs_cons (k_evS_retS (k_ev_cst (.bl false))) k_evSs_nil) k_evSs_nil) (k_evSs_cons (k_evS_retS (k_ev_and (k_ev_bf1 .all (k_ev_lc [("pair", 1)] (k_asg_nm 1) (k_evi_seq (k_ev_ix (k_ev_var 0) (k_ev_cst (.int 1)))) k_evc_no (k_ev_call 8 (k_evs_one (k_ev_ix (k_ev_var 0) (k_ev_cst (.int 0))) (k_evs_one (k_ev_var 1) k_evs_nil))))) (k_ev_call 4 (k_evs_one (k_ev_ix (k_ev_var 0) (k_ev_cst (.int 1))) k_evs_nil)))) k_evSs_nil)), metS f9.body⟩
def c10 : CFn := ⟨1, 1, (k_evSs_cons (k_evS_retS (k_ev_bin .shl (k_ev_cst (.int 1)) (k_ev_var 0))) k_evSs_nil), metS f10.body⟩
def c11 : CFn := ⟨1, 4, (k_evSs_cons (k_evS_set (k_asg_nm 1) (k_ev_bin .mul (k_ev_lst (k_evs_one (k_ev_cst (.int 0)) k_evs_nil)) (k_ev_ix (k_ev_var 0) (k_ev_cst (.int 0))))) (k_evSs_cons (k_evS_for_ (k_asg_tp (k_asgs_cons (k_asg_nm 2) (k_asgs_cons (k_asg_nm 3) k_asgs_nil)) (lenT (ts [(.nm 2), (.nm 3)]))) (k_evi_seq (k_ev_ix (k_ev_var 0) (k_ev_cst (.int 1)))) (k_evSs_cons (k_evS_augS (k_ev_var 1) (k_ev_var 2) .bor (k_ev_call 10 (k_evs_one (k_ev_var 3) k_evs_nil))) (k_evSs_cons (k_evS_augS (k_ev_var 1) (k_ev_var 3) .bor (k_ev_call 10 (k_evs_one (k_ev_var 2) k_evs_nil))) k_evSs_nil))) (k_evSs_cons (k_evS_retS (k_ev_var 1)) k_evSs_nil))), metS f11.body⟩
def c12 : CFn := ⟨1, 4, (k_evSs_cons (k_evS_set (k_asg_nm 1) (k_ev_lst k_evs_nil)) (k_evSs_cons (k_evS_for_ (k_asg_nm 2) (k_evi_rng k_evo_no (k_ev_bf1 .len (k_ev_var 0))) (k_evSs_cons (k_evS_ex (k_ev_mt .extend (k_ev_var 1) (k_eva_one (k_ev_lc [("b", 3)] (k_asg_nm 3) (k_evi_rng (k_evo_so (k_ev_bin .add (k_ev_var 2) (k_ev_cst (.int 1)))) (k_ev_bf1 .len (k_ev_var 0))) (k_evc_so (k_ev_cmp .ne (k_ev_bin .band (k_ev_ix (k_ev_var 0) (k_ev_var 2)) (k_ev_call 10 (k_evs_one (k_ev_var 3) k_evs_nil))) (k_ev_cst (.int 0)))) (k_ev_tup (k_evs_one (k_ev_var 2) (k_evs_one (k_ev_var 3) k_evs_nil)))) k_eva_nil))) k_evSs_nil)) (k_evSs_cons (k_evS_retS (k_ev_tup (k_evs_one (k_ev_bf1 .len (k_ev_var 0)) (k_evs_one (k_ev_bf1 .tuple (k_ev_var 1)) k_evs_nil)))) k_evSs_nil))), metS f12.body⟩
def c13 : CFn := ⟨2, 3, (k_evSs_cons (k_evS_retS (k_ev_lc [("other", 2)] (k_asg_nm 2) (k_evi_rng k_evo_no (k_ev_bf1 .len (k_ev_var 0))) (k_evc_so (k_ev_cmp .ne (k_ev_bin .band (k_ev_ix (k_ev_var 0) (k_ev_var 1)) (k_ev_call 10 (k_evs_one (k_ev_var 2) k_evs_nil))) (k_ev_cst (.int 0)))) (k_ev_var 2))) k_evSs_nil), metS f13.body⟩
def c14 : CFn := ⟨2, 4, (k_evSs_cons (k_evS_set (k_asg_nm 2) (k_ev_bf1 .list (k_ev_var 0))) (k_evSs_cons (k_evS_for_ (k_asg_nm 3) (k_evi_seq (k_ev_call 13 (k_evs_one (k_ev_var 0) (k_evs_one (k_ev_var 1) k_evs_nil)))) (k_evSs_cons (k_evS_augS (k_ev_var 2) (k_ev_var 3) .bxor (k_ev_bin .band (k_ev_ix (k_ev_var 0) (k_ev_var 1)) (k_ev_inv (k_ev_call 10 (k_evs_one (k_ev_var 3) k_evs_nil))))) k_evSs_nil)) (k_evSs_cons (k_evS_retS (k_ev_var 2)) k_evSs_nil))), metS f14.body⟩
def c15 : CFn := ⟨1, 4, (k_evSs_cons (k_evS_set (k_asg_nm 1) (k_ev_dnw false)) (k_evSs_cons (k_evS_for_ (k_asg_nm 2) (k_evi_seq (k_ev_var 0)) (k_evSs_cons (k_evS_set (k_asg_nm 3) (k_ev_var 2)) (k_evSs_cons (k_evS_whl (k_ev_and (k_ev_cmp .ne (k_ev_var 3) (k_ev_cst (.int 0))) (k_ev_cmp .isin (k_ev_mt .bits (k_ev_var 3) k_eva_nil) (k_ev_var 1))) (k_evSs_cons (k_evS_aug 3 .bxor (k_ev_ix (k_ev_var 1) (k_ev_mt .bits (k_ev_var 3) k_eva_nil))) k_evSs_nil)) (k_evSs_cons (k_evS_ife (k_ev_cmp .ne (k_ev_var 3) (k_ev_cst (.int 0))) (k_evSs_cons (k_evS_set (k_asg_sub (k_ev_var 1) (k_ev_mt .bits (k_ev_var 3) k_eva_nil)) (k_ev_var 3)) k_evSs_nil) k_evSs_nil) k_evSs_nil)))) (k_evSs_cons (k_evS_retS (k_ev_bf1 .len (k_ev_var 1))) k_evSs_nil))), metS f15.body⟩
def c16 : CFn := ⟨1, 2, (k_evSs_cons (k_evS_retS (k_ev_bf1 .sum (k_ev_lc [("node", 1)] (k_asg_nm 1) (k_evi_seq (k_ev_var 0)) k_evc_no (k_ev_call 10 (k_evs_one (k_ev_var 1) k_evs_nil))))) k_evSs_nil), metS f16.body⟩
def c17 : CFn := ⟨2, 2, (k_evSs_cons (k_evS_retS (k_ev_call 12 (k_evs_one (k_ev_call 14 (k_evs_one (k_ev_call 11 (k_evs_one (k_ev_var 0) k_evs_nil)) (k_evs_one (k_ev_var 1) k_evs_nil))) k_evs_nil))) k_evSs_nil), metS f17.body⟩
def c18 : CFn := ⟨2, 4, (k_evSs_cons (k_evS_set (k_asg_nm 2) (k_ev_call 11 (k_evs_one (k_ev_var 0) k_evs_nil))) (k_evSs_cons (k_evS_for_ (k_asg_nm 3) (k_evi_seq (k_ev_var 1)) (k_evSs_cons (k_evS_set (k_asg_nm 2) (k_ev_call 14 (k_evs_one (k_ev_var 2) (k_evs_one (k_ev_var 3) k_evs_nil)))) k_evSs_nil)) (k_evSs_cons (k_evS_retS (k_ev_call 12 (k_evs_one (k_ev_var 2) k_evs_nil))) k_evSs_nil))), metS f18.body⟩
def c19 : CFn := ⟨2, 8, (k_evSs_cons (k_evS_set (k_asg_nm 2) (k_ev_dc [("at", 4), ("node", 5)] (k_asg_tp (k_asgs_cons (k_asg_nm 4) (k_asgs_cons (k_asg_nm 5) k_asgs_nil)) (lenT (ts [(.nm 4), (.nm 5)]))) (k_evi_enum (k_ev_var 1)) k_evc_no (k_ev_var 5) (k_ev_var 4))) (k_evSs_cons (k_evS_set (k_asg_nm 3) (k_ev_lc [("a", 6), ("b", 7)] (k_asg_tp (k_asgs_cons (k_asg_nm 6) (k_asgs_cons (k_asg_nm 7) k_asgs_nil)) (lenT (ts [(.nm 6), (.nm 7)]))) (k_evi_seq (k_ev_ix (k_ev_var 0) (k_ev_cst (.int 1)))) (k_evc_so (k_ev_and (k_ev_cmp .isin (k_ev_var 6) (k_ev_var 2)) (k_ev_cmp .isin (k_ev_var 7) (k_ev_var 2)))) (k_ev_tup (k_evs_one (k_ev_ix (k_ev_var 2) (k_ev_var 6)) (k_evs_one (k_ev_ix (k_ev_var 2) (k_ev_var 7)) k_evs_nil))))) (k_evSs_cons (k_evS_retS (k_ev_tup (k_evs_one (k_ev_bf1 .len (k_ev_var 1)) (k_evs_one (k_ev_bf1 .tuple (k_ev_var 3)) k_evs_nil)))) k_evSs_nil))), metS f19.body⟩
def c20 : CFn := ⟨1, 9, (k_evSs_cons (k_evS_par [2, 3, 4] (k_evs_one (k_ev_call 11 (k_evs_one (k_ev_var 0) k_evs_nil)) (k_evs_one (k_ev_lst k_evs_nil) (k_evs_one (k_ev_cst (.int 0)) k_evs_nil)))) (k_evSs_cons (k_evS_for_ (k_asg_nm 1) (k_evi_rng k_evo_no (k_ev_ix (k_ev_var 0) (k_ev_cst (.int 0)))) (k_evSs_cons (k_evS_ife (k_ev_cmp .eq (k_ev_bin .band (k_ev_var 4) (k_ev_call 10 (k_evs_one (k_ev_var 1) k_evs_nil))) (k_ev_cst (.int 0))) (k_evSs_cons (k_evS_set (k_asg_tp (k_asgs_cons (k_asg_nm 5) (k_asgs_cons (k_asg_nm 6) k_asgs_nil)) (lenT (ts [(.nm 5), (.nm 6)]))) (k_ev_tup (k_evs_one (k_ev_call 10 (k_evs_one (k_ev_var 1) k_evs_nil)) (k_evs_one (k_ev_lst (k_evs_one (k_ev_var 1) k_evs_nil)) k_evs_nil)))) (k_evSs_cons (k_evS_whl (k_ev_cmp .ne (k_ev_var 6) (k_ev_lst k_evs_nil)) (k_evSs_cons (k_evS_set (k_asg_nm 7) (k_ev_bin .band (k_ev_ix (k_ev_var 2) (k_ev_mt .pop (k_ev_var 6) k_eva_nil)) (k_ev_inv (k_ev_var 5)))) (k_evSs_cons (k_evS_aug 5 .bor (k_ev_var 7)) (k_evSs_cons (k_evS_ex (k_ev_mt .extend (k_ev_var 6) (k_eva_one (k_ev_lc [("other", 8)] (k_asg_nm 8) (k_evi_rng k_evo_no (k_ev_ix (k_ev_var 0) (k_ev_cst (.int 0)))) (k_evc_so (k_ev_cmp .ne (k_ev_bin .band (k_ev_var 7) (k_ev_call 10 (k_evs_one (k_ev_var 8) k_evs_nil))) (k_ev_cst (.int 0)))) (k_ev_var 8)) k_eva_nil))) k_evSs_nil)))) (k_evSs_cons (k_evS_aug 4 .bor (k_ev_var 5)) (k_evSs_cons (k_evS_ex (k_ev_mt .append (k_ev_var 3) (k_eva_one (k_ev_bf1 .tuple (k_ev_lc [("other", 8)] (k_asg_nm 8) (k_evi_rng k_evo_no (k_ev_ix (k_ev_var 0) (k_ev_cst (.int 0)))) (k_evc_so (k_ev_cmp .ne (k_ev_bin .band (k_ev_var 5) (k_ev_call 10 (k_evs_one (k_ev_var 8) k_evs_nil))) (k_ev_cst (.int 0)))) (k_ev_var 8))) k_eva_nil))) k_evSs_nil)))) k_evSs_nil) k_evSs_nil)) (k_evSs_cons (k_evS_retS (k_ev_var 3)) k_evSs_nil))), metS f20.body⟩
def c21 : CFn := ⟨2, 5, (k_evSs_cons (k_evS_set (k_asg_tp (k_asgs_cons (k_asg_nm 2) (k_asgs_cons (k_asg_nm 3) k_asgs_nil)) (lenT (ts [(.nm 2), (.nm 3)]))) (k_ev_tup (k_evs_one (k_ev_call 11 (k_evs_one (k_ev_var 0) k_evs_nil)) (k_evs_one (k_ev_call 16 (k_evs_one (k_ev_var 1) k_evs_nil)) k_evs_nil)))) (k_evSs_cons (k_evS_retS (k_ev_call 15 (k_evs_one (k_ev_lc [("node", 4)] (k_asg_nm 4) (k_evi_seq (k_ev_var 1)) k_evc_no (k_ev_bin .band (k_ev_ix (k_ev_var 2) (k_ev_var 4)) (k_ev_inv (k_ev_var 3)))) k_evs_nil))) k_evSs_nil)), metS f21.body⟩
def c22 : CFn := ⟨1, 1, (k_evSs_cons (k_evS_ife (k_ev_no (k_ev_call 9 (k_evs_one (k_ev_var 0) k_evs_nil))) (k_evSs_cons (k_evS_raiN 3) k_evSs_nil) k_evSs_nil) k_evSs_nil), metS f22.body⟩
def c23 : CFn := ⟨1, 1, (k_evSs_cons (k_evS_retS (k_ev_ifx (k_ev_cmp .eq (k_ev_bin .mod (k_ev_var 0) (k_ev_cst (.int 2))) (k_ev_cst (.int 0))) (k_ev_bin .add (k_ev_var 0) (k_ev_cst (.int 1))) (k_ev_bin .sub (k_ev_var 0) (k_ev_cst (.int 1))))) k_evSs_nil), metS f23.body⟩
def c24 : CFn := ⟨2, 4, (k_evSs_cons (k_evS_par [2, 3] (k_evs_one (k_ev_lst (k_evs_one (k_ev_var 1) k_evs_nil)) (k_evs_one (k_ev_ix (k_ev_var 0) (k_ev_var 1)) k_evs_nil))) (k_evSs_cons (k_evS_whl (k_ev_cmp .ne (k_ev_var 3) (k_ev_var 1)) (k_evSs_cons (k_evS_ex (k_ev_mt .append (k_ev_var 2) (k_eva_one (k_ev_var 3) k_eva_nil))) (k_evSs_cons (k_evS_set (k_asg_nm 3) (k_ev_ix (k_ev_var 0) (k_ev_var 3))) k_evSs_nil))) (k_evSs_cons (k_evS_retS (k_ev_bf1 .tuple (k_ev_var 2))) k_evSs_nil))), metS f24.body⟩
def c25 : CFn := ⟨1, 5, (k_evSs_cons (k_evS_par [2, 3] (k_evs_one (k_ev_dnw false) (k_evs_one (k_ev_lst k_evs_nil) k_evs_nil))) (k_evSs_cons (k_evS_for_ (k_asg_nm 1) (k_evi_rng k_evo_no (k_ev_bf1 .len (k_ev_var 0))) (k_evSs_cons (k_evS_ife (k_ev_cmp .notin (k_ev_var 1) (k_ev_var 2)) (k_evSs_cons (k_evS_ex (k_ev_mt .append (k_ev_var 3) (k_eva_one (k_ev_call 24 (k_evs_one (k_ev_var 0) (k_evs_one (k_ev_var 1) k_evs_nil))) k_eva_nil))) (k_evSs_cons (k_evS_ex (k_ev_mt .update (k_ev_var 2) (k_eva_one (k_ev_dc [("end", 4)] (k_asg_nm 4) (k_evi_seq (k_ev_ix (k_ev_var 3) (k_ev_neg (k_ev_cst (.int 1))))) k_evc_no (k_ev_var 4) (k_ev_cst (.bl true))) k_eva_nil))) k_evSs_nil)) k_evSs_nil) k_evSs_nil)) (k_evSs_cons (k_evS_retS (k_ev_ifx (k_ev_cmp .ne (k_ev_var 3) (k_ev_lst k_evs_nil)) (k_ev_bf1 .tuple (k_ev_var 3)) (k_ev_tup (k_evs_one (k_ev_tup k_evs_nil) k_evs_nil)))) k_evSs_nil))), metS f25.body⟩
def c26 : CFn := ⟨1, 1, (k_evSs_cons (k_evS_retS (k_ev_call 25 (k_evs_one (k_ev_var 0) k_evs_nil))) k_evSs_nil), metS f26.body⟩
def c27 : CFn := ⟨2, 6, (k_evSs_cons (k_evS_par [2, 3] (k_evs_one (k_ev_dct (k_evs_one (k_ev_var 1) (k_evs_one (k_ev_cst (.bl true)) k_evs_nil))) (k_evs_one (k_ev_lst (k_evs_one (k_ev_var 1) k_evs_nil)) k_evs_nil))) (k_evSs_cons (k_evS_whl (k_ev_cmp .ne (k_ev_var 3) (k_ev_lst k_evs_nil)) (k_evSs_cons (k_evS_set (k_asg_nm 4) (k_ev_mt .pop (k_ev_var 3) k_eva_nil)) (k_evSs_cons (k_evS_for_ (k_asg_nm 5) (k_evi_seq (k_ev_tup (k_evs_one (k_ev_ix (k_ev_var 0) (k_ev_var 4)) (k_evs_one (k_ev_call 23 (k_evs_one (k_ev_var 4) k_evs_nil)) k_evs_nil)))) (k_evSs_cons (k_evS_ife (k_ev_cmp .notin (k_ev_var 5) (k_ev_var 2)) (k_evSs_cons (k_evS_set (k_asg_sub (k_ev_var 2) (k_ev_var 5)) (k_ev_cst (.bl true))) (k_evSs_cons (k_evS_ex (k_ev_mt .append (k_ev_var 3) (k_eva_one (k_ev_var 5) k_eva_nil))) k_evSs_nil)) k_evSs_nil) k_evSs_nil)) k_evSs_nil))) (k_evSs_cons (k_evS_retS (k_ev_var 2)) k_evSs_nil))), metS f27.body⟩
def c28 : CFn := ⟨2, 3, (k_evSs_cons (k_evS_ife (k_ev_or (k_ev_no (k_ev_bf1 (.isi .tuple) (k_ev_var 1))) (k_ev_cmp .ne (k_ev_bf1 .len (k_ev_var 1)) (k_ev_var 0))) (k_evSs_cons (k_evS_retS (k_ev_cst (.bl false))) k_evSs_nil) k_evSs_nil) (k_evSs_cons (k_evS_retS (k_ev_and (k_ev_bf1 .all (k_ev_lc [("end", 2)] (k_asg_nm 2) (k_evi_seq (k_ev_var 1)) k_evc_no (k_ev_call 2 (k_evs_one (k_ev_var 2) (k_evs_one (k_ev_cst (.int 0)) (k_evs_one (k_ev_bin .sub (k_ev_var 0) (k_ev_cst (.int 1))) k_evs_nil)))))) (k_ev_cmp .eq (k_ev_bf1 .sorted (k_ev_var 1)) (k_ev_rgl false k_evo_no (k_ev_var 0))))) k_evSs_nil)), metS f28.body⟩
def c29 : CFn := ⟨1, 1, (k_evSs_cons (k_evS_ife (k_ev_or (k_ev_no (k_ev_bf1 (.isi .tuple) (k_ev_var 0))) (k_ev_or (k_ev_cmp .eq (k_ev_bin .mod (k_ev_bf1 .len (k_ev_var 0)) (k_ev_cst (.int 2))) (k_ev_cst (.int 1))) (k_ev_cmp .gt (k_ev_bf1 .len (k_ev_var 0)) (k_ev_bin .mul (k_ev_cst (.int 2)) (k_ev_glo 3))))) (k_evSs_cons (k_evS_retS (k_ev_cst (.bl false))) k_evSs_nil) k_evSs_nil) (k_evSs_cons (k_evS_ife (k_ev_no (k_ev_call 28 (k_evs_one (k_ev_bf1 .len (k_ev_var 0)) (k_evs_one (k_ev_var 0) k_evs_nil)))) (k_evSs_cons (k_evS_retS (k_ev_cst (.bl false))) k_evSs_nil) k_evSs_nil) (k_evSs_cons (k_evS_retS (k_ev_or (k_ev_cmp .eq (k_ev_var 0) (k_ev_tup k_evs_nil)) (k_ev_cmp .eq (k_ev_bf1 .len (k_ev_call 27 (k_evs_one (k_ev_var 0) (k_evs_one (k_ev_cst (.int 0)) k_evs_nil)))) (k_ev_bf1 .len (k_ev_var 0))))) k_evSs_nil))), metS f29.body⟩
def c30 : CFn := ⟨1, 1, (k_evSs_cons (k_evS_ife (k_ev_no (k_ev_call 29 (k_evs_one (k_ev_var 0) k_evs_nil))) (k_evSs_cons (k_evS_raiN 1) k_evSs_nil) k_evSs_nil) k_evSs_nil), metS f30.body⟩
def c31 : CFn := ⟨2, 5, (k_evSs_cons (k_evS_set (k_asg_nm 2) (k_ev_dc [("tie", 3)] (k_asg_nm 3) (k_evi_seq (k_ev_var 1)) k_evc_no (k_ev_var 3) (k_ev_cst (.bl true)))) (k_evSs_cons (k_evS_retS (k_ev_bf1 .tuple (k_ev_lc [("end", 4)] (k_asg_nm 4) (k_evi_rng k_evo_no (k_ev_bf1 .len (k_ev_var 0))) k_evc_no (k_ev_ifx (k_ev_cmp .isin (k_ev_bin .fdiv (k_ev_var 4) (k_ev_cst (.int 2))) (k_ev_var 2)) (k_ev_ix (k_ev_var 0) (k_ev_call 23 (k_evs_one (k_ev_var 4) k_evs_nil))) (k_ev_ix (k_ev_var 0) (k_ev_var 4)))))) k_evSs_nil)), metS f31.body⟩
def c32 : CFn := ⟨1, 2, (k_evSs_cons (k_evS_ife (k_ev_or (k_ev_no (k_ev_bf1 (.isi .tuple) (k_ev_var 0))) (k_ev_or (k_ev_cmp .eq (k_ev_bin .mod (k_ev_bf1 .len (k_ev_var 0)) (k_ev_cst (.int 2))) (k_ev_cst (.int 1))) (k_ev_cmp .gt (k_ev_bf1 .len (k_ev_var 0)) (k_ev_bin .mul (k_ev_cst (.int 2)) (k_ev_glo 4))))) (k_evSs_cons (k_evS_retS (k_ev_cst (.bl false))) k_evSs_nil) k_evSs_nil) (k_evSs_cons (k_evS_ife (k_ev_no (k_ev_bf1 .all (k_ev_lc [("sign", 1)] (k_asg_nm 1) (k_evi_seq (k_ev_var 0)) k_evc_no (k_ev_call 2 (k_evs_one (k_ev_var 1) (k_evs_one (k_ev_cst (.int 0)) (k_evs_one (k_ev_bin .sub (k_ev_bin .fdiv (k_ev_bf1 .len (k_ev_var 0)) (k_ev_cst (.int 2))) (k_ev_cst (.int 1))) k_evs_nil))))))) (k_evSs_cons (k_evS_retS (k_ev_cst (.bl false))) k_evSs_nil) k_evSs_nil) (k_evSs_cons (k_evS_retS (k_ev_bf1 .all (k_ev_lc [("sign", 1)] (k_asg_nm 1) (k_evi_rng k_evo_no (k_ev_bin .fdiv (k_ev_bf1 .len (k_ev_var 0)) (k_ev_cst (.int 2)))) k_evc_no (k_ev_cmp .eq (k_ev_mt .countT (k_ev_var 0) (k_eva_one (k_ev_var 1) k_eva_nil)) (k_ev_glo 5))))) k_evSs_nil))), metS f32.body⟩
def c33 : CFn := ⟨2, 3, (k_evSs_cons (k_evS_set (k_asg_nm 2) (k_ev_mt .index (k_ev_var 0) (k_eva_one (k_ev_var 1) k_eva_nil))) (k_evSs_cons (k_evS_retS (k_ev_tup (k_evs_one (k_ev_var 2) (k_evs_one (k_ev_mt .indexU (k_ev_var 0) (k_eva_one (k_ev_var 1) (k_eva_one (k_ev_bin .add (k_ev_var 2) (k_ev_cst (.int 1))) k_eva_nil))) k_evs_nil)))) k_evSs_nil)), metS f33.body⟩
def c34 : CFn := ⟨1, 8, (k_evSs_cons (k_evS_set (k_asg_nm 1) (k_ev_lc [("sign", 4)] (k_asg_nm 4) (k_evi_rng k_evo_no (k_ev_bin .fdiv (k_ev_bf1 .len (k_ev_var 0)) (k_ev_cst (.int 2)))) k_evc_no (k_ev_call 33 (k_evs_one (k_ev_var 0) (k_evs_one (k_ev_var 4) k_evs_nil))))) (k_evSs_cons (k_evS_set (k_asg_nm 2) (k_ev_lst k_evs_nil)) (k_evSs_cons (k_evS_for_ (k_asg_tp (k_asgs_cons (k_asg_nm 3) (k_asgs_cons (k_asg_tp (k_asgs_cons (k_asg_nm 5) (k_asgs_cons (k_asg_nm 6) k_asgs_nil)) (lenT (ts [(.nm 5), (.nm 6)]))) k_asgs_nil)) (lenT (ts [(.nm 3), (.tp (ts [(.nm 5), (.nm 6)]))]))) (k_evi_enum (k_ev_var 1)) (k_evSs_cons (k_evS_ex (k_ev_mt .extend (k_ev_var 2) (k_eva_one (k_ev_lc [("a", 7)] (k_asg_nm 7) (k_evi_rng k_evo_no (k_ev_var 3)) (k_evc_so (k_ev_cmp .ne (k_ev_chn .lt .lt (k_ev_var 5) (k_ev_ix (k_ev_ix (k_ev_var 1) (k_ev_var 7)) (k_ev_cst (.int 0))) (k_ev_var 6)) (k_ev_chn .lt .lt (k_ev_var 5) (k_ev_ix (k_ev_ix (k_ev_var 1) (k_ev_var 7)) (k_ev_cst (.int 1))) (k_ev_var 6)))) (k_ev_tup (k_evs_one (k_ev_var 7) (k_evs_one (k_ev_var 3) k_evs_nil)))) k_eva_nil))) k_evSs_nil)) (k_evSs_cons (k_evS_retS (k_ev_tup (k_evs_one (k_ev_bin .fdiv (k_ev_bf1 .len (k_ev_var 0)) (k_ev_cst (.int 2))) (k_evs_one (k_ev_bf1 .tuple (k_ev_bf1 .sorted (k_ev_var 2))) k_evs_nil)))) k_evSs_nil)))), metS f34.body⟩
def c35 : CFn := ⟨1, 2, (k_evSs_cons (k_evS_retS (k_ev_ifx (k_ev_cmp .ne (k_ev_var 0) (k_ev_tup k_evs_nil)) (k_ev_bf1 .tuple (k_ev_lc [("end", 1)] (k_asg_nm 1) (k_evi_seq (k_ev_call 24 (k_evs_one (k_ev_call 31 (k_evs_one (k_ev_var 0) (k_evs_one (k_ev_tup k_evs_nil) k_evs_nil))) (k_evs_one (k_ev_cst (.int 0)) k_evs_nil)))) k_evc_no (k_ev_bin .fdiv (k_ev_var 1) (k_ev_cst (.int 2))))) (k_ev_tup k_evs_nil))) k_evSs_nil), metS f35.body⟩
def c36 : CFn := ⟨1, 7, (k_evSs_cons (k_evS_par [3, 4] (k_evs_one (k_ev_dnw false) (k_evs_one (k_ev_lst k_evs_nil) k_evs_nil))) (k_evSs_cons (k_evS_for_ (k_asg_nm 1) (k_evi_seq (k_ev_var 0)) (k_evSs_cons (k_evS_ex (k_ev_mt .append (k_ev_var 4) (k_eva_one (k_ev_bin .add (k_ev_bin .mul (k_ev_cst (.int 2)) (k_ev_var 1)) (k_ev_mt .get2 (k_ev_var 3) (k_eva_one (k_ev_var 1) (k_eva_one (k_ev_cst (.int 0)) k_eva_nil)))) k_eva_nil))) (k_evSs_cons (k_evS_set (k_asg_sub (k_ev_var 3) (k_ev_var 1)) (k_ev_cst (.int 1))) k_evSs_nil))) (k_evSs_cons (k_evS_set (k_asg_nm 2) (k_ev_bin .mul (k_ev_lst (k_evs_one (k_ev_cst (.int 0)) k_evs_nil)) (k_ev_bf1 .len (k_ev_var 4)))) (k_evSs_cons (k_evS_for_ (k_asg_tp (k_asgs_cons (k_asg_nm 5) (k_asgs_cons (k_asg_nm 6) k_asgs_nil)) (lenT (ts [(.nm 5), (.nm 6)]))) (k_evi_enum (k_ev_var 4)) (k_evSs_cons (k_evS_set (k_asg_sub (k_ev_var 2) (k_ev_var 6)) (k_ev_ix (k_ev_var 4) (k_ev_bin .mod (k_ev_bin .add (k_ev_var 5) (k_ev_cst (.int 1))) (k_ev_bf1 .len (k_ev_var 4))))) k_evSs_nil)) (k_evSs_cons (k_evS_retS (k_ev_bf1 .tuple (k_ev_var 2))) k_evSs_nil))))), metS f36.body⟩
def c37 : CFn := ⟨1, 4, (k_evSs_cons (k_evS_set (k_asg_nm 1) (k_ev_revL (k_ev_var 0))) (k_evSs_cons (k_evS_retS (k_ev_bf1 .minL (k_ev_lc2 [("some", 2), ("at", 3)] (k_asg_nm 2) (k_evi_seq (k_ev_tup (k_evs_one (k_ev_var 0) (k_evs_one (k_ev_var 1) k_evs_nil)))) k_evc_no (k_asg_nm 3) (slots (.nm 3)) (k_evi_rng k_evo_no (k_ev_bf2 .max2 (k_ev_cst (.int 1)) (k_ev_bf1 .len (k_ev_var 0)))) k_evc_no (k_ev_bin .add (k_ev_sl (k_ev_var 2) (k_evo_so (k_ev_var 3)) k_evo_no) (k_ev_sl (k_ev_var 2) k_evo_no (k_evo_so (k_ev_var 3))))))) k_evSs_nil)), metS f37.body⟩
def c38 : CFn := ⟨2, 4, (k_evSs_cons (k_evS_set (k_asg_tp (k_asgs_cons (k_asg_nm 2) (k_asgs_cons (k_asg_nm 3) k_asgs_nil)) (lenT (ts [(.nm 2), (.nm 3)]))) (k_ev_call 33 (k_evs_one (k_ev_var 0) (k_evs_one (k_ev_var 1) k_evs_nil)))) (k_evSs_cons (k_evS_retS (k_ev_bin .add (k_ev_bin .add (k_ev_sl (k_ev_var 0) k_evo_no (k_evo_so (k_ev_bin .add (k_ev_var 2) (k_ev_cst (.int 1))))) (k_ev_revL (k_ev_sl (k_ev_var 0) (k_evo_so (k_ev_bin .add (k_ev_var 2) (k_ev_cst (.int 1)))) (k_evo_so (k_ev_var 3))))) (k_ev_sl (k_ev_var 0) (k_evo_so (k_ev_var 3)) k_evo_no))) k_evSs_nil)), metS f38.body⟩
def c39 : CFn := ⟨2, 4, (k_evSs_cons (k_evS_retS (k_ev_dc [("a", 2), ("b", 3)] (k_asg_tp (k_asgs_cons (k_asg_nm 2) (k_asgs_cons (k_asg_nm 3) k_asgs_nil)) (lenT (ts [(.nm 2), (.nm 3)]))) (k_evi_seq (k_ev_ix (k_ev_var 0) (k_ev_cst (.int 1)))) (k_evc_so (k_ev_cmp .isin (k_ev_var 1) (k_ev_tup (k_evs_one (k_ev_var 2) (k_evs_one (k_ev_var 3) k_evs_nil))))) (k_ev_ifx (k_ev_cmp .eq (k_ev_var 2) (k_ev_var 1)) (k_ev_var 3) (k_ev_var 2)) (k_ev_cst (.bl true)))) k_evSs_nil), metS f39.body⟩
def c40 : CFn := ⟨3, 9, (k_evSs_cons (k_evS_par [4, 5] (k_evs_one (k_ev_lc [("other", 8)] (k_asg_nm 8) (k_evi_seq (k_ev_var 2)) (k_evc_so (k_ev_cmp .isin (k_ev_var 8) (k_ev_var 0))) (k_ev_var 8)) (k_evs_one (k_ev_lst k_evs_nil) k_evs_nil))) (k_evSs_cons (k_evS_for_ (k_asg_nm 3) (k_evi_rng (k_evo_so (k_ev_bf2 .min2 (k_ev_cst (.int 1)) (k_ev_bf1 .len (k_ev_var 0)))) (k_ev_bin .add (k_ev_bf1 .len (k_ev_var 0)) (k_ev_cst (.int 1)))) (k_evSs_cons (k_evS_set (k_asg_nm 6) (k_ev_dnw false)) (k_evSs_cons (k_evS_for_ (k_asg_nm 7) (k_evi_rng (k_evo_so (k_ev_var 3)) (k_ev_bin .add (k_ev_bf1 .len (k_ev_var 0)) (k_ev_cst (.int 1)))) (k_evSs_cons (k_evS_ife (k_ev_and (k_ev_cmp .eq (k_ev_bf1 .len (k_ev_var 6)) (k_ev_bf1 .len (k_ev_var 4))) (k_ev_bf1 .all (k_ev_lc [("other", 8)] (k_asg_nm 8) (k_evi_seq (k_ev_var 4)) k_evc_no (k_ev_cmp .isin (k_ev_var 8) (k_ev_var 6))))) (k_evSs_cons (k_evS_ex (k_ev_mt .append (k_ev_var 5) (k_eva_one (k_ev_tup (k_evs_star (k_ev_sl (k_ev_var 0) k_evo_no (k_evo_so (k_ev_var 3))) (k_evs_one (k_ev_var 1) (k_evs_star (k_ev_sl (k_ev_var 0) (k_evo_so (k_ev_var 3)) (k_evo_so (k_ev_var 7))) (k_evs_one (k_ev_var 1) (k_evs_star (k_ev_sl (k_ev_var 0) (k_evo_so (k_ev_var 7)) k_evo_no) k_evs_nil)))))) k_eva_nil))) k_evSs_nil) k_evSs_nil) (k_evSs_cons (k_evS_ife (k_ev_and (k_ev_cmp .lt (k_ev_var 7) (k_ev_bf1 .len (k_ev_var 0))) (k_ev_cmp .isN k_ev_dead (k_ev_cst .non))) (k_evSs_cons (k_evS_set (k_asg_sub (k_ev_var 6) (k_ev_ix (k_ev_var 0) (k_ev_var 7))) (k_ev_cst (.bl true))) k_evSs_nil) k_evSs_nil) k_evSs_nil))) k_evSs_nil))) (k_evSs_cons (k_evS_retS (k_ev_var 5)) k_evSs_nil))), metS f40.body⟩
def c41 : CFn := ⟨2, 7, (k_evSs_cons (k_evS_set (k_asg_tp (k_asgs_cons (k_asg_nm 2) (k_asgs_cons (k_asg_nm 3) k_asgs_nil)) (lenT (ts [(.nm 2), (.nm 3)]))) (k_ev_tup (k_evs_one (k_ev_lst (k_evs_one (k_ev_ix (k_ev_var 1) (k_ev_cst (.int 0))) k_evs_nil)) (k_evs_one (k_ev_lc [("node", 5)] (k_asg_nm 5) (k_evi_seq (k_ev_sl (k_ev_var 1) (k_evo_so (k_ev_cst (.int 1))) k_evo_no)) k_evc_no (k_ev_var 5)) k_evs_nil)))) (k_evSs_cons (k_evS_whl (k_ev_cmp .ne (k_ev_var 3) (k_ev_lst k_evs_nil)) (k_evSs_cons (k_evS_set (k_asg_nm 4) (k_ev_lc [("node", 5)] (k_asg_nm 5) (k_evi_seq (k_ev_var 3)) (k_evc_so (k_ev_bf1 .any (k_ev_lc [("one", 6)] (k_asg_nm 6) (k_evi_seq (k_ev_var 2)) k_evc_no (k_ev_cmp .isin (k_ev_var 6) (k_ev_call 39 (k_evs_one (k_ev_var 0) (k_evs_one (k_ev_var 5) k_evs_nil))))))) (k_ev_var 5))) (k_evSs_cons (k_evS_ex (k_ev_mt .append (k_ev_var 2) (k_eva_one (k_ev_ix (k_ev_var 4) (k_ev_cst (.int 0))) k_eva_nil))) (k_evSs_cons (k_evS_set (k_asg_nm 3) (k_ev_lc [("node", 5)] (k_asg_nm 5) (k_evi_seq (k_ev_var 3)) (k_evc_so (k_ev_cmp .ne (k_ev_var 5) (k_ev_ix (k_ev_var 4) (k_ev_cst (.int 0))))) (k_ev_var 5))) k_evSs_nil)))) (k_evSs_cons (k_evS_retS (k_ev_var 2)) k_evSs_nil))), metS f41.body⟩
def c42 : CFn := ⟨3, 6, (k_evSs_cons (k_evS_ife (k_ev_cmp .eq (k_ev_bin .mul (k_ev_cst (.int 2)) (k_ev_bf1 .len (k_ev_var 1))) (k_ev_bf1 .len (k_ev_var 2))) (k_evSs_cons (k_evS_retS (k_ev_var 2)) k_evSs_nil) k_evSs_nil) (k_evSs_cons (k_evS_set (k_asg_nm 3) (k_ev_ix (k_ev_var 1) (k_ev_bin .fdiv (k_ev_bf1 .len (k_ev_var 2)) (k_ev_cst (.int 2))))) (k_evSs_cons (k_evS_for_ (k_asg_nm 4) (k_evi_seq (k_ev_call 40 (k_evs_one (k_ev_var 2) (k_evs_one (k_ev_var 3) (k_evs_one (k_ev_call 39 (k_evs_one (k_ev_var 0) (k_evs_one (k_ev_var 3) k_evs_nil))) k_evs_nil))))) (k_evSs_cons (k_evS_set (k_asg_nm 5) (k_ev_call 42 (k_evs_one (k_ev_var 0) (k_evs_one (k_ev_var 1) (k_evs_one (k_ev_var 4) k_evs_nil))))) (k_evSs_cons (k_evS_ife (k_ev_cmp .notN (k_ev_var 5) (k_ev_cst .non)) (k_evSs_cons (k_evS_retS (k_ev_var 5)) k_evSs_nil) k_evSs_nil) k_evSs_nil))) (k_evSs_cons (k_evS_retS (k_ev_cst .non)) k_evSs_nil)))), metS f42.body⟩
def c43 : CFn := ⟨1, 4, (k_evSs_cons (k_evS_set (k_asg_nm 1) (k_ev_tup k_evs_nil)) (k_evSs_cons (k_evS_for_ (k_asg_nm 2) (k_evi_seq (k_ev_call 20 (k_evs_one (k_ev_var 0) k_evs_nil))) (k_evSs_cons (k_evS_set (k_asg_nm 3) (k_ev_call 42 (k_evs_one (k_ev_var 0) (k_evs_one (k_ev_call 41 (k_evs_one (k_ev_var 0) (k_evs_one (k_ev_var 2) k_evs_nil))) (k_evs_one (k_ev_tup k_evs_nil) k_evs_nil))))) (k_evSs_cons (k_evS_ife (k_ev_cmp .isN (k_ev_var 3) (k_ev_cst .non)) (k_evSs_cons (k_evS_retS (k_ev_cst .non)) k_evSs_nil) k_evSs_nil) (k_evSs_cons (k_evS_set (k_asg_nm 1) (k_ev_bin .add (k_ev_var 1) (k_ev_var 3))) k_evSs_nil)))) (k_evSs_cons (k_evS_retS (k_ev_var 1)) k_evSs_nil))), metS f43.body⟩
def c44 : CFn := ⟨2, 6, (k_evSs_cons (k_evS_par [2, 3] (k_evs_one (k_ev_dnw false) (k_evs_one (k_ev_lst (k_evs_one (k_ev_tup k_evs_nil) k_evs_nil)) k_evs_nil))) (k_evSs_cons (k_evS_whl (k_ev_cmp .ne (k_ev_var 3) (k_ev_lst k_evs_nil)) (k_evSs_cons (k_evS_set (k_asg_nm 4) (k_ev_mt .pop (k_ev_var 3) k_eva_nil)) (k_evSs_cons (k_evS_set (k_asg_nm 5) (k_ev_bin .fdiv (k_ev_bf1 .len (k_ev_var 4)) (k_ev_cst (.int 2)))) (k_evSs_cons (k_evS_ife (k_ev_cmp .eq (k_ev_var 5) (k_ev_ix (k_ev_var 0) (k_ev_cst (.int 0)))) (k_evSs_cons (k_evS_set (k_asg_sub (k_ev_var 2) (k_ev_call 37 (k_evs_one (k_ev_var 4) k_evs_nil))) (k_ev_cst (.bl true))) (k_evSs_cons (k_evS_ife (k_ev_cmp .gt (k_ev_bf1 .len (k_ev_var 2)) (k_ev_var 1)) (k_evSs_cons (k_evS_raiS 6 (k_ev_var 1)) k_evSs_nil) k_evSs_nil) k_evSs_nil)) (k_evSs_cons (k_evS_ex (k_ev_mt .extend (k_ev_var 3) (k_eva_one (k_ev_call 40 (k_evs_one (k_ev_var 4) (k_evs_one (k_ev_var 5) (k_evs_one (k_ev_call 39 (k_evs_one (k_ev_var 0) (k_evs_one (k_ev_var 5) k_evs_nil))) k_evs_nil)))) k_eva_nil))) k_evSs_nil)) k_evSs_nil)))) (k_evSs_cons (k_evS_retS (k_ev_bf1 .sorted (k_ev_var 2))) k_evSs_nil))), metS f44.body⟩
def c45 : CFn := ⟨1, 2, (k_evSs_cons (k_evS_retS (k_ev_lc [("node", 1)] (k_asg_nm 1) (k_evi_rng k_evo_no (k_ev_ix (k_ev_var 0) (k_ev_cst (.int 0)))) k_evc_no (k_ev_bf1 .len (k_ev_call 39 (k_evs_one (k_ev_var 0) (k_evs_one (k_ev_var 1) k_evs_nil)))))) k_evSs_nil), metS f45.body⟩
def c46 : CFn := ⟨1, 2, (k_evSs_cons (k_evS_retS (k_ev_and (k_ev_bf1 .all (k_ev_lc [("many", 1)] (k_asg_nm 1) (k_evi_seq (k_ev_call 45 (k_evs_one (k_ev_var 0) k_evs_nil))) k_evc_no (k_ev_cmp .eq (k_ev_var 1) (k_ev_glo 5)))) (k_ev_cmp .eq (k_ev_bf1 .len (k_ev_call 20 (k_evs_one (k_ev_var 0) k_evs_nil))) (k_ev_cst (.int 1))))) k_evSs_nil), metS f46.body⟩
def c47 : CFn := ⟨3, 8, (k_evSs_cons (k_evS_set (k_asg_nm 3) (k_ev_lc [("node", 5)] (k_asg_nm 5) (k_evi_rng k_evo_no (k_ev_ix (k_ev_var 0) (k_ev_cst (.int 0)))) (k_evc_so (k_ev_cmp .ne (k_ev_var 5) (k_ev_var 2))) (k_ev_var 5))) (k_evSs_cons (k_evS_ife (k_ev_no (k_ev_call 46 (k_evs_one (k_ev_call 19 (k_evs_one (k_ev_var 0) (k_evs_one (k_ev_bf1 .tuple (k_ev_var 3)) k_evs_nil))) k_evs_nil))) (k_evSs_cons (k_evS_retS (k_ev_cst (.bl false))) k_evSs_nil) k_evSs_nil) (k_evSs_cons (k_evS_set (k_asg_nm 4) (k_ev_call 39 (k_evs_one (k_ev_var 0) (k_evs_one (k_ev_var 2) k_evs_nil)))) (k_evSs_cons (k_evS_ife (k_ev_cmp .lt (k_ev_var 1) (k_ev_glo 5)) (k_evSs_cons (k_evS_retS (k_ev_cmp .eq (k_ev_bf1 .len (k_ev_var 4)) (k_ev_bf1 .len (k_ev_var 3)))) k_evSs_nil) k_evSs_nil) (k_evSs_cons (k_evS_retS (k_ev_and (k_ev_cmp .eq (k_ev_bf1 .len (k_ev_var 4)) (k_ev_bin .fdiv (k_ev_bf1 .len (k_ev_var 3)) (k_ev_cst (.int 2)))) (k_ev_no (k_ev_bf1 .any (k_ev_lc [("a", 6), ("b", 7)] (k_asg_tp (k_asgs_cons (k_asg_nm 6) (k_asgs_cons (k_asg_nm 7) k_asgs_nil)) (lenT (ts [(.nm 6), (.nm 7)]))) (k_evi_seq (k_ev_ix (k_ev_var 0) (k_ev_cst (.int 1)))) (k_evc_so (k_ev_cmp .notin (k_ev_var 2) (k_ev_tup (k_evs_one (k_ev_var 6) (k_evs_one (k_ev_var 7) k_evs_nil))))) (k_ev_and (k_ev_cmp .isin (k_ev_var 6) (k_ev_var 4)) (k_ev_cmp .isin (k_ev_var 7) (k_ev_var 4)))))))) k_evSs_nil))))), metS f47.body⟩
def c48 : CFn := ⟨2, 3, (k_evSs_cons (k_evS_ife (k_ev_or (k_ev_cmp .ne (k_ev_ix (k_ev_var 0) (k_ev_cst (.int 0))) (k_ev_ix (k_ev_ix (k_ev_glo 6) (k_ev_var 1)) (k_ev_cst (.int 0)))) (k_ev_cmp .ne (k_ev_bf1 .len (k_ev_ix (k_ev_var 0) (k_ev_cst (.int 1)))) (k_ev_bf1 .len (k_ev_ix (k_ev_ix (k_ev_glo 6) (k_ev_var 1)) (k_ev_cst (.int 1)))))) (k_evSs_cons (k_evS_retS (k_ev_cst (.bl false))) k_evSs_nil) k_evSs_nil) (k_evSs_cons (k_evS_retS (k_ev_bf1 .any (k_ev_lc [("hub", 2)] (k_asg_nm 2) (k_evi_rng k_evo_no (k_ev_ix (k_ev_var 0) (k_ev_cst (.int 0)))) k_evc_no (k_ev_call 47 (k_evs_one (k_ev_var 0) (k_evs_one (k_ev_var 1) (k_evs_one (k_ev_var 2) k_evs_nil))))))) k_evSs_nil)), metS f48.body⟩
def c49 : CFn := ⟨1, 3, (k_evSs_cons (k_evS_for_ (k_asg_nm 1) (k_evi_rng k_evo_no (k_ev_bf1 .len (k_ev_glo 6))) (k_evSs_cons (k_evS_for_ (k_asg_nm 2) (k_evi_seq (k_ev_call 7 (k_evs_one (k_ev_ix (k_ev_var 0) (k_ev_cst (.int 0))) k_evs_nil))) (k_evSs_cons (k_evS_ife (k_ev_and (k_ev_cmp .eq (k_ev_bf1 .len (k_ev_var 2)) (k_ev_ix (k_ev_ix (k_ev_glo 6) (k_ev_var 1)) (k_ev_cst (.int 0)))) (k_ev_call 48 (k_evs_one (k_ev_call 19 (k_evs_one (k_ev_var 0) (k_evs_one (k_ev_var 2) k_evs_nil))) (k_evs_one (k_ev_var 1) k_evs_nil)))) (k_evSs_cons (k_evS_retS (k_ev_tup (k_evs_one (k_ev_var 1) (k_evs_one (k_ev_var 2) k_evs_nil)))) k_evSs_nil) k_evSs_nil) k_evSs_nil)) k_evSs_nil)) (k_evSs_cons (k_evS_retS (k_ev_cst .non)) k_evSs_nil)), metS f49.body⟩
def c50 : CFn := ⟨1, 7, (k_evSs_cons (k_evS_par [1, 2] (k_evs_one (k_ev_dct (k_evs_one (k_ev_var 0) (k_evs_one (k_ev_tup k_evs_nil) k_evs_nil))) (k_evs_one (k_ev_lst (k_evs_one (k_ev_var 0) k_evs_nil)) k_evs_nil))) (k_evSs_cons (k_evS_whl (k_ev_cmp .ne (k_ev_var 2) (k_ev_lst k_evs_nil)) (k_evSs_cons (k_evS_set (k_asg_nm 3) (k_ev_mt .popAt (k_ev_var 2) (k_eva_one (k_ev_cst (.int 0)) k_eva_nil))) (k_evSs_cons (k_evS_set (k_asg_nm 4) (k_ev_call 49 (k_evs_one (k_ev_var 3) k_evs_nil))) (k_evSs_cons (k_evS_ife (k_ev_cmp .notN (k_ev_var 4) (k_ev_cst .non)) (k_evSs_cons (k_evS_retS (k_ev_tup (k_evs_one (k_ev_ix (k_ev_var 1) (k_ev_var 3)) (k_evs_one (k_ev_ix (k_ev_var 4) (k_ev_cst (.int 1))) k_evs_nil)))) k_evSs_nil) k_evSs_nil) (k_evSs_cons (k_evS_for_ (k_asg_nm 5) (k_evi_rng k_evo_no (k_ev_ix (k_ev_var 0) (k_ev_cst (.int 0)))) (k_evSs_cons (k_evS_set (k_asg_nm 6) (k_ev_call 17 (k_evs_one (k_ev_var 3) (k_evs_one (k_ev_var 5) k_evs_nil)))) (k_evSs_cons (k_evS_ife (k_ev_cmp .notin (k_ev_var 6) (k_ev_var 1)) (k_evSs_cons (k_evS_set (k_asg_sub (k_ev_var 1) (k_ev_var 6)) (k_ev_tup (k_evs_star (k_ev_ix (k_ev_var 1) (k_ev_var 3)) (k_evs_one (k_ev_var 5) k_evs_nil)))) (k_evSs_cons (k_evS_ex (k_ev_mt .append (k_ev_var 2) (k_eva_one (k_ev_var 6) k_eva_nil))) k_evSs_nil)) k_evSs_nil) k_evSs_nil))) k_evSs_nil))))) (k_evSs_cons (k_evS_retS (k_ev_cst .non)) k_evSs_nil))), metS f50.body⟩
def c51 : CFn := ⟨1, 2, (k_evSs_cons (k_evS_set (k_asg_nm 1) (k_ev_call 43 (k_evs_one (k_ev_var 0) k_evs_nil))) (k_evSs_cons (k_evS_ife (k_ev_cmp .notN (k_ev_var 1) (k_ev_cst .non)) (k_evSs_cons (k_evS_retS (k_ev_tup (k_evs_one (k_ev_tup (k_evs_one (k_ev_glo 7) (k_evs_one (k_ev_var 0) k_evs_nil))) (k_evs_one (k_ev_call 36 (k_evs_one (k_ev_var 1) k_evs_nil)) k_evs_nil)))) k_evSs_nil) k_evSs_nil) (k_evSs_cons (k_evS_retS (k_ev_tup (k_evs_one (k_ev_tup (k_evs_one (k_ev_glo 8) (k_evs_one (k_ev_var 0) k_evs_nil))) (k_evs_one (k_ev_call 50 (k_evs_one (k_ev_var 0) k_evs_nil)) k_evs_nil)))) k_evSs_nil))), metS f51.body⟩
def c52 : CFn := ⟨1, 1, (k_evSs_cons (k_evS_retS (k_ev_and (k_ev_call 29 (k_evs_one (k_ev_var 0) k_evs_nil)) (k_ev_cmp .eq (k_ev_bf1 .len (k_ev_call 26 (k_evs_one (k_ev_var 0) k_evs_nil))) (k_ev_cst (.int 1))))) k_evSs_nil), metS f52.body⟩
def c53 : CFn := ⟨2, 2, (k_evSs_cons (k_evS_ife (k_ev_or (k_ev_no (k_ev_call 52 (k_evs_one (k_ev_var 1) k_evs_nil))) (k_ev_cmp .ne (k_ev_bf1 .len (k_ev_var 1)) (k_ev_bin .mul (k_ev_cst (.int 2)) (k_ev_ix (k_ev_var 0) (k_ev_cst (.int 0)))))) (k_evSs_cons (k_evS_retS (k_ev_cst (.bl false))) k_evSs_nil) k_evSs_nil) (k_evSs_cons (k_evS_retS (k_ev_cmp .eq (k_ev_call 34 (k_evs_one (k_ev_call 35 (k_evs_one (k_ev_var 1) k_evs_nil)) k_evs_nil)) (k_ev_var 0))) k_evSs_nil)), metS f53.body⟩
def c54 : CFn := ⟨2, 5, (k_evSs_cons (k_evS_ife (k_ev_or (k_ev_no (k_ev_call 3 (k_evs_one (k_ev_var 1) k_evs_nil))) (k_ev_or (k_ev_no (k_ev_bf1 (.isi .tuple) (k_ev_ix (k_ev_var 1) (k_ev_cst (.int 0))))) (k_ev_cmp .gt (k_ev_bf1 .len (k_ev_ix (k_ev_var 1) (k_ev_cst (.int 0)))) (k_ev_glo 9)))) (k_evSs_cons (k_evS_retS (k_ev_cst (.bl false))) k_evSs_nil) k_evSs_nil) (k_evSs_cons (k_evS_ife (k_ev_or (k_ev_no (k_ev_bf1 .all (k_ev_lc [("node", 4)] (k_asg_nm 4) (k_evi_seq (k_ev_ix (k_ev_var 1) (k_ev_cst (.int 0)))) k_evc_no (k_ev_call 2 (k_evs_one (k_ev_var 4) (k_evs_one (k_ev_cst (.int 0)) (k_evs_one (k_ev_bin .sub (k_ev_ix (k_ev_var 0) (k_ev_cst (.int 0))) (k_ev_cst (.int 1))) k_evs_nil))))))) (k_ev_no (k_ev_call 6 (k_evs_one (k_ev_ix (k_ev_var 0) (k_ev_cst (.int 0))) (k_evs_one (k_ev_ix (k_ev_var 1) (k_ev_cst (.int 1))) k_evs_nil))))) (k_evSs_cons (k_evS_retS (k_ev_cst (.bl false))) k_evSs_nil) k_evSs_nil) (k_evSs_cons (k_evS_set (k_asg_nm 2) (k_ev_call 19 (k_evs_one (k_ev_call 18 (k_evs_one (k_ev_var 0) (k_evs_one (k_ev_ix (k_ev_var 1) (k_ev_cst (.int 0))) k_evs_nil))) (k_evs_one (k_ev_ix (k_ev_var 1) (k_ev_cst (.int 1))) k_evs_nil)))) (k_evSs_cons (k_evS_retS (k_ev_bf1 .any (k_ev_lc [("index", 3)] (k_asg_nm 3) (k_evi_rng k_evo_no (k_ev_bf1 .len (k_ev_glo 6))) k_evc_no (k_ev_call 48 (k_evs_one (k_ev_var 2) (k_evs_one (k_ev_var 3) k_evs_nil)))))) k_evSs_nil)))), metS f54.body⟩
def c55 : CFn := ⟨2, 10, (k_evSs_cons (k_evS_set (k_asg_nm 2) (k_ev_dc [("sign", 9)] (k_asg_nm 9) (k_evi_seq (k_ev_var 1)) k_evc_no (k_ev_var 9) (k_ev_cst (.bl true)))) (k_evSs_cons (k_evS_set (k_asg_nm 3) (k_ev_lc [("at", 6)] (k_asg_nm 6) (k_evi_rng k_evo_no (k_ev_bf1 .len (k_ev_var 0))) (k_evc_so (k_ev_and (k_ev_cmp .isin (k_ev_ix (k_ev_var 0) (k_ev_var 6)) (k_ev_var 2)) (k_ev_cmp .notin (k_ev_ix (k_ev_var 0) (k_ev_bin .sub (k_ev_var 6) (k_ev_cst (.int 1)))) (k_ev_var 2)))) (k_ev_var 6))) (k_evSs_cons (k_evS_ife (k_ev_cmp .eq (k_ev_var 3) (k_ev_lst k_evs_nil)) (k_evSs_cons (k_evS_retS (k_ev_ifx (k_ev_and (k_ev_cmp .ne (k_ev_var 1) (k_ev_tup k_evs_nil)) (k_ev_cmp .ne (k_ev_var 0) (k_ev_tup k_evs_nil))) (k_ev_lst (k_evs_one (k_ev_tup (k_evs_one (k_ev_var 0) (k_evs_one (k_ev_tup k_evs_nil) k_evs_nil))) k_evs_nil)) (k_ev_lst k_evs_nil))) k_evSs_nil) k_evSs_nil) (k_evSs_cons (k_evS_set (k_asg_nm 4) (k_ev_bin .add (k_ev_sl (k_ev_var 0) (k_evo_so (k_ev_ix (k_ev_var 3) (k_ev_cst (.int 0)))) k_evo_no) (k_ev_sl (k_ev_var 0) k_evo_no (k_evo_so (k_ev_ix (k_ev_var 3) (k_ev_cst (.int 0))))))) (k_evSs_cons (k_evS_par [5, 6] (k_evs_one (k_ev_lst k_evs_nil) (k_evs_one (k_ev_cst (.int 0)) k_evs_nil))) (k_evSs_cons (k_evS_whl (k_ev_cmp .lt (k_ev_var 6) (k_ev_bf1 .len (k_ev_var 4))) (k_evSs_cons (k_evS_set (k_asg_nm 7) (k_ev_var 6)) (k_evSs_cons (k_evS_whl (k_ev_and (k_ev_cmp .lt (k_ev_var 6) (k_ev_bf1 .len (k_ev_var 4))) (k_ev_cmp .isin (k_ev_ix (k_ev_var 4) (k_ev_var 6)) (k_ev_var 2))) (k_evSs_cons (k_evS_aug 6 .add (k_ev_cst (.int 1))) k_evSs_nil)) (k_evSs_cons (k_evS_set (k_asg_nm 8) (k_ev_var 6)) (k_evSs_cons (k_evS_whl (k_ev_and (k_ev_cmp .lt (k_ev_var 6) (k_ev_bf1 .len (k_ev_var 4))) (k_ev_cmp .notin (k_ev_ix (k_ev_var 4) (k_ev_var 6)) (k_ev_var 2))) (k_evSs_cons (k_evS_aug 6 .add (k_ev_cst (.int 1))) k_evSs_nil)) (k_evSs_cons (k_evS_ex (k_ev_mt .append (k_ev_var 5) (k_eva_one (k_ev_tup (k_evs_one (k_ev_sl (k_ev_var 4) (k_evo_so (k_ev_var 7)) (k_evo_so (k_ev_var 8))) (k_evs_one (k_ev_sl (k_ev_var 4) (k_evo_so (k_ev_var 8)) (k_evo_so (k_ev_var 6))) k_evs_nil))) k_eva_nil))) k_evSs_nil)))))) (k_evSs_cons (k_evS_retS (k_ev_var 5)) k_evSs_nil))))))), metS f55.body⟩
def c56 : CFn := ⟨2, 2, (k_evSs_cons (k_evS_retS (k_ev_cmp .le (k_ev_bf1 .len (k_ev_call 55 (k_evs_one (k_ev_var 0) (k_evs_one (k_ev_var 1) k_evs_nil)))) (k_ev_glo 5))) k_evSs_nil), metS f56.body⟩
def c57 : CFn := ⟨2, 10, (k_evSs_cons (k_evS_set (k_asg_nm 2) (k_ev_call 55 (k_evs_one (k_ev_var 0) (k_evs_one (k_ev_var 1) k_evs_nil)))) (k_evSs_cons (k_evS_ife (k_ev_cmp .eq (k_ev_var 2) (k_ev_lst k_evs_nil)) (k_evSs_cons (k_evS_retS (k_ev_lst (k_evs_one (k_ev_var 0) k_evs_nil))) k_evSs_nil) k_evSs_nil) (k_evSs_cons (k_evS_set (k_asg_tp (k_asgs_cons (k_asg_nm 4) (k_asgs_cons (k_asg_nm 5) k_asgs_nil)) (lenT (ts [(.nm 4), (.nm 5)]))) (k_ev_ix (k_ev_var 2) (k_ev_cst (.int 0)))) (k_evSs_cons (k_evS_set (k_asg_tp (k_asgs_cons (k_asg_nm 6) (k_asgs_cons (k_asg_nm 7) k_asgs_nil)) (lenT (ts [(.nm 6), (.nm 7)]))) (k_ev_ifx (k_ev_cmp .eq (k_ev_bf1 .len (k_ev_var 2)) (k_ev_glo 5)) (k_ev_ix (k_ev_var 2) (k_ev_cst (.int 1))) (k_ev_tup (k_evs_one (k_ev_tup k_evs_nil) (k_evs_one (k_ev_tup k_evs_nil) k_evs_nil))))) (k_evSs_cons (k_evS_set (k_asg_nm 3) (k_ev_lst k_evs_nil)) (k_evSs_cons (k_evS_for_ (k_asg_tp (k_asgs_cons (k_asg_nm 8) (k_asgs_cons (k_asg_nm 9) k_asgs_nil)) (lenT (ts [(.nm 8), (.nm 9)]))) (k_evi_seq (k_ev_tup (k_evs_one (k_ev_tup (k_evs_one (k_ev_var 4) (k_evs_one (k_ev_var 6) k_evs_nil))) (k_evs_one (k_ev_tup (k_evs_one (k_ev_revL (k_ev_var 4)) (k_evs_one (k_ev_revL (k_ev_var 6)) k_evs_nil))) (k_evs_one (k_ev_tup (k_evs_one (k_ev_var 6) (k_evs_one (k_ev_var 4) k_evs_nil))) (k_evs_one (k_ev_tup (k_evs_one (k_ev_revL (k_ev_var 6)) (k_evs_one (k_ev_revL (k_ev_var 4)) k_evs_nil))) k_evs_nil)))))) (k_evSs_cons (k_evS_ex (k_ev_mt .append (k_ev_var 3) (k_eva_one (k_ev_ifx (k_ev_cmp .eq (k_ev_bf1 .len (k_ev_var 2)) (k_ev_glo 5)) (k_ev_bin .add (k_ev_bin .add (k_ev_bin .add (k_ev_var 8) (k_ev_var 5)) (k_ev_var 9)) (k_ev_var 7)) (k_ev_bin .add (k_ev_bin .add (k_ev_var 8) (k_ev_var 9)) (k_ev_var 5))) k_eva_nil))) k_evSs_nil)) (k_evSs_cons (k_evS_retS (k_ev_var 3)) k_evSs_nil))))))), metS f57.body⟩
def c58 : CFn := ⟨1, 4, (k_evSs_cons (k_evS_for_ (k_asg_nm 1) (k_evi_seq (k_ev_call 7 (k_evs_one (k_ev_ix (k_ev_var 0) (k_ev_cst (.int 0))) k_evs_nil))) (k_evSs_cons (k_evS_set (k_asg_nm 2) (k_ev_bf1 .tuple (k_ev_lc [("node", 3)] (k_asg_nm 3) (k_evi_rng k_evo_no (k_ev_ix (k_ev_var 0) (k_ev_cst (.int 0)))) (k_evc_so (k_ev_cmp .notin (k_ev_var 3) (k_ev_var 1))) (k_ev_var 3)))) (k_evSs_cons (k_evS_ife (k_ev_and (k_ev_cmp .eq (k_ev_sl (k_ev_var 1) k_evo_no (k_evo_so (k_ev_cst (.int 1)))) (k_ev_tup (k_evs_one (k_ev_cst (.int 0)) k_evs_nil))) (k_ev_and (k_ev_cmp .ge (k_ev_bf2 .min2 (k_ev_bf1 .len (k_ev_var 1)) (k_ev_bf1 .len (k_ev_var 2))) (k_ev_glo 5)) (k_ev_cmp .le (k_ev_call 21 (k_evs_one (k_ev_var 0) (k_evs_one (k_ev_var 1) k_evs_nil))) (k_ev_cst (.int 1))))) (k_evSs_cons (k_evS_retS (k_ev_tup (k_evs_one (k_ev_var 1) (k_evs_one (k_ev_var 2) k_evs_nil)))) k_evSs_nil) k_evSs_nil) k_evSs_nil))) (k_evSs_cons (k_evS_retS (k_ev_cst .non)) k_evSs_nil)), metS f58.body⟩
def c59 : CFn := ⟨1, 1, (k_evSs_cons (k_evS_ife (k_ev_no (k_ev_call 32 (k_evs_one (k_ev_var 0) k_evs_nil))) (k_evSs_cons (k_evS_raiN 4) k_evSs_nil) k_evSs_nil) k_evSs_nil), metS f59.body⟩
def c60 : CFn := ⟨1, 1, (k_evSs_cons (k_evS_ex (k_ev_call 22 (k_evs_one (k_ev_var 0) k_evs_nil))) (k_evSs_cons (k_evS_ife (k_ev_cmp .gt (k_ev_ix (k_ev_var 0) (k_ev_cst (.int 0))) (k_ev_glo 4)) (k_evSs_cons (k_evS_raiS 6 (k_ev_glo 4)) k_evSs_nil) k_evSs_nil) k_evSs_nil)), metS f60.body⟩
def c61 : CFn := ⟨2, 2, (k_evSs_cons (k_evS_ex (k_ev_call 59 (k_evs_one (k_ev_var 0) k_evs_nil))) (k_evSs_cons (k_evS_ife (k_ev_no (k_ev_call 6 (k_evs_one (k_ev_bin .fdiv (k_ev_bf1 .len (k_ev_var 0)) (k_ev_cst (.int 2))) (k_evs_one (k_ev_var 1) k_evs_nil)))) (k_evSs_cons (k_evS_raiN 2) k_evSs_nil) k_evSs_nil) k_evSs_nil)), metS f61.body⟩
def c62 : CFn := ⟨1, 1, (k_evSs_cons (k_evS_ex (k_ev_call 30 (k_evs_one (k_ev_var 0) k_evs_nil))) (k_evSs_cons (k_evS_ife (k_ev_or (k_ev_no (k_ev_call 52 (k_evs_one (k_ev_var 0) k_evs_nil))) (k_ev_cmp .gt (k_ev_bf1 .len (k_ev_var 0)) (k_ev_bin .mul (k_ev_cst (.int 2)) (k_ev_glo 4)))) (k_evSs_cons (k_evS_raiN 4) k_evSs_nil) k_evSs_nil) (k_evSs_cons (k_evS_retS (k_ev_call 35 (k_evs_one (k_ev_var 0) k_evs_nil))) k_evSs_nil))), metS f62.body⟩
def c63 : CFn := ⟨1, 1, (k_evSs_cons (k_evS_ex (k_ev_call 59 (k_evs_one (k_ev_var 0) k_evs_nil))) (k_evSs_cons (k_evS_retS (k_ev_call 36 (k_evs_one (k_ev_var 0) k_evs_nil))) k_evSs_nil)), metS f63.body⟩
def c64 : CFn := ⟨1, 1, (k_evSs_cons (k_evS_ex (k_ev_call 59 (k_evs_one (k_ev_var 0) k_evs_nil))) (k_evSs_cons (k_evS_retS (k_ev_call 34 (k_evs_one (k_ev_var 0) k_evs_nil))) k_evSs_nil)), metS f64.body⟩
def c65 : CFn := ⟨1, 1, (k_evSs_cons (k_evS_ex (k_ev_call 59 (k_evs_one (k_ev_var 0) k_evs_nil))) (k_evSs_cons (k_evS_retS (k_ev_call 37 (k_evs_one (k_ev_var 0) k_evs_nil))) k_evSs_nil)), metS f65.body⟩
def c66 : CFn := ⟨2, 2, (k_evSs_cons (k_evS_ex (k_ev_call 59 (k_evs_one (k_ev_var 0) k_evs_nil))) (k_evSs_cons (k_evS_ex (k_ev_call 5 (k_evs_one (k_ev_var 1) (k_evs_one (k_ev_cst (.int 0)) (k_evs_one (k_ev_bin .sub (k_ev_bin .fdiv (k_ev_bf1 .len (k_ev_var 0)) (k_ev_cst (.int 2))) (k_ev_cst (.int 1))) k_evs_nil))))) (k_evSs_cons (k_evS_retS (k_ev_call 38 (k_evs_one (k_ev_var 0) (k_evs_one (k_ev_var 1) k_evs_nil)))) k_evSs_nil))), metS f66.body⟩
def c67 : CFn := ⟨1, 1, (k_evSs_cons (k_evS_ex (k_ev_call 60 (k_evs_one (k_ev_var 0) k_evs_nil))) (k_evSs_cons (k_evS_retS (k_ev_call 51 (k_evs_one (k_ev_var 0) k_evs_nil))) k_evSs_nil)), metS f67.body⟩
def c68 : CFn := ⟨2, 2, (k_evSs_cons (k_evS_ex (k_ev_call 60 (k_evs_one (k_ev_var 0) k_evs_nil))) (k_evSs_cons (k_evS_retS (k_ev_call 53 (k_evs_one (k_ev_var 0) (k_evs_one (k_ev_var 1) k_evs_nil)))) k_evSs_nil)), metS f68.body⟩
def c69 : CFn := ⟨2, 2, (k_evSs_cons (k_evS_ex (k_ev_call 60 (k_evs_one (k_ev_var 0) k_evs_nil))) (k_evSs_cons (k_evS_retS (k_ev_call 54 (k_evs_one (k_ev_var 0) (k_evs_one (k_ev_var 1) k_evs_nil)))) k_evSs_nil)), metS f69.body⟩
def c70 : CFn := ⟨1, 1, (k_evSs_cons (k_evS_ex (k_ev_call 60 (k_evs_one (k_ev_var 0) k_evs_nil))) (k_evSs_cons (k_evS_retS (k_ev_bf1 .tuple (k_ev_call 44 (k_evs_one (k_ev_var 0) (k_evs_one (k_ev_glo 10) k_evs_nil))))) k_evSs_nil)), metS f70.body⟩
def c71 : CFn := ⟨1, 1, (k_evSs_cons (k_evS_ex (k_ev_call 60 (k_evs_one (k_ev_var 0) k_evs_nil))) (k_evSs_cons (k_evS_retS (k_ev_call 49 (k_evs_one (k_ev_var 0) k_evs_nil))) k_evSs_nil)), metS f71.body⟩
def c72 : CFn := ⟨2, 2, (k_evSs_cons (k_evS_ex (k_ev_call 61 (k_evs_one (k_ev_var 0) (k_evs_one (k_ev_var 1) k_evs_nil)))) (k_evSs_cons (k_evS_retS (k_ev_call 56 (k_evs_one (k_ev_var 0) (k_evs_one (k_ev_var 1) k_evs_nil)))) k_evSs_nil)), metS f72.body⟩
def c73 : CFn := ⟨2, 3, (k_evSs_cons (k_evS_ex (k_ev_call 61 (k_evs_one (k_ev_var 0) (k_evs_one (k_ev_var 1) k_evs_nil)))) (k_evSs_cons (k_evS_ife (k_ev_no (k_ev_call 56 (k_evs_one (k_ev_var 0) (k_evs_one (k_ev_var 1) k_evs_nil)))) (k_evSs_cons (k_evS_raiN 4) k_evSs_nil) k_evSs_nil) (k_evSs_cons (k_evS_retS (k_ev_bf1 .tuple (k_ev_bf1 .sorted (k_ev_dcT [("some", 2)] (k_asg_nm 2) (k_evi_seq (k_ev_call 57 (k_evs_one (k_ev_var 0) (k_evs_one (k_ev_var 1) k_evs_nil)))) k_evc_no (k_ev_call 37 (k_evs_one (k_ev_var 2) k_evs_nil)) (k_ev_cst (.bl true)))))) k_evSs_nil))), metS f73.body⟩
def c74 : CFn := ⟨1, 1, (k_evSs_cons (k_evS_ex (k_ev_call 60 (k_evs_one (k_ev_var 0) k_evs_nil))) (k_evSs_cons (k_evS_retS (k_ev_call 58 (k_evs_one (k_ev_var 0) k_evs_nil))) k_evSs_nil)), metS f74.body⟩
def c75 : CFn := ⟨2, 4, (k_evSs_cons (k_evS_set (k_asg_nm 2) (k_ev_ifx (k_ev_cmp .lt (k_ev_var 1) (k_ev_bf1 .len (k_ev_var 0))) (k_ev_bf1 .int (k_ev_ix (k_ev_var 0) (k_ev_var 1))) (k_ev_bin .add (k_ev_bin .mul (k_ev_cst (.int 89)) (k_ev_var 1)) (k_ev_cst (.int 71))))) (k_evSs_cons (k_evS_set (k_asg_nm 3) (k_ev_bin .mod (k_ev_bf2 .max2 (k_ev_cst (.int 0)) (k_ev_bin .sub (k_ev_bf1 .abs (k_ev_var 2)) (k_ev_bin .pow (k_ev_cst (.int 10)) (k_ev_cst (.int 17))))) (k_ev_bin .mul (k_ev_bin .pow (k_ev_cst (.int 10)) (k_ev_cst (.int 60))) (k_ev_bin .pow (k_ev_cst (.int 10)) (k_ev_cst (.int 60)))))) (k_evSs_cons (k_evS_retS (k_ev_lst (k_evs_one (k_ev_var 3) (k_evs_one (k_ev_bin .add (k_ev_bin .add (k_ev_bin .add (k_ev_bin .mul (k_ev_bin .mod (k_ev_bf1 .abs (k_ev_var 2)) (k_ev_cst (.int 1152921504606846793))) (k_ev_cst (.int 41))) (k_ev_bin .mul (k_ev_cst (.int 947)) (k_ev_var 1))) (k_ev_bin .mul (k_ev_cst (.int 23)) (k_ev_bf1 .int (k_ev_cmp .lt (k_ev_var 2) (k_ev_cst (.int 0)))))) (k_ev_cst (.int 19))) (k_evs_one (k_ev_cst (.int 0)) k_evs_nil))))) k_evSs_nil))), metS f75.body⟩
def c76 : CFn := ⟨2, 5, (k_evSs_cons (k_evS_ife (k_ev_cmp .gt (k_ev_ix (k_ev_var 0) (k_ev_cst (.int 0))) (k_ev_cst (.int 0))) (k_evSs_cons (k_evS_set (k_asg_nm 4) (k_ev_bin .mod (k_ev_bf1 .int (k_ev_ix (k_ev_var 0) (k_ev_cst (.int 0)))) (k_ev_var 1))) (k_evSs_cons (k_evS_set (k_asg_sub (k_ev_var 0) (k_ev_cst (.int 0))) (k_ev_bin .fdiv (k_ev_ix (k_ev_var 0) (k_ev_cst (.int 0))) (k_ev_var 1))) (k_evSs_cons (k_evS_retS (k_ev_var 4)) k_evSs_nil))) k_evSs_nil) (k_evSs_cons (k_evS_set (k_asg_sub (k_ev_var 0) (k_ev_cst (.int 2))) (k_ev_bin .add (k_ev_ix (k_ev_var 0) (k_ev_cst (.int 2))) (k_ev_cst (.int 1)))) (k_evSs_cons (k_evS_set (k_asg_nm 2) (k_ev_bin .mod (k_ev_bf1 .int (k_ev_bin .add (k_ev_ix (k_ev_var 0) (k_ev_cst (.int 1))) (k_ev_bin .mul (k_ev_cst (.int 15485917)) (k_ev_ix (k_ev_var 0) (k_ev_cst (.int 2)))))) (k_ev_cst (.int 2305843009213693951)))) (k_evSs_cons (k_evS_set (k_asg_nm 3) (k_ev_bin .add (k_ev_bin .mul (k_ev_bin .mod (k_ev_bf1 .int (k_ev_bin .add (k_ev_bin .mul (k_ev_var 2) (k_ev_var 2)) (k_ev_bin .mul (k_ev_cst (.int 173)) (k_ev_ix (k_ev_var 0) (k_ev_cst (.int 2)))))) (k_ev_cst (.int 2305843009213693907))) (k_ev_cst (.int 7368743))) (k_ev_var 2))) (k_evSs_cons (k_evS_retS (k_ev_bin .mod (k_ev_bf1 .int (k_ev_bin .fdiv (k_ev_var 3) (k_ev_cst (.int 65536)))) (k_ev_var 1))) k_evSs_nil))))), metS f76.body⟩
def c77 : CFn := ⟨2, 2, (k_evSs_cons (k_evS_retS (k_ev_ix (k_ev_var 1) (k_ev_call 76 (k_evs_one (k_ev_var 0) (k_evs_one (k_ev_bf1 .len (k_ev_var 1)) k_evs_nil))))) k_evSs_nil), metS f77.body⟩
def c78 : CFn := ⟨1, 2, (k_evSs_cons (k_evS_tr (k_evSs_cons (k_evS_ex k_ev_thk) k_evSs_nil) [(3, .cst (.str "graph")), (1, .cst (.str "web")), (2, .cst (.str "lot")), (4, .cst (.str "operation")), (5, .rep "number " "value"), (6, .rep "many " "number")]) (k_evSs_cons (k_evS_retS (k_ev_cst (.str "fine"))) k_evSs_nil)), metS f78.body⟩
def c79 : CFn := ⟨1, 3, (k_evSs_cons (k_evS_set (k_asg_nm 1) (k_ev_lc [("call", 2)] (k_asg_nm 2) (k_evi_seq (k_ev_tup (k_evs_one (k_ev_fnv 67) (k_evs_one (k_ev_fnv 70) k_evs_nil)))) k_evc_no (k_ev_lam 78 (k_ev_cav 2 (k_evs_one (k_ev_var 0) k_evs_nil))))) (k_evSs_cons (k_evS_set (k_asg_nm 1) (k_ev_bin .add (k_ev_var 1) (k_ev_lc [("call", 2)] (k_asg_nm 2) (k_evi_seq (k_ev_tup (k_evs_one (k_ev_fnv 68) (k_evs_one (k_ev_fnv 69) k_evs_nil)))) k_evc_no (k_ev_lam 78 (k_ev_cav 2 (k_evs_one (k_ev_var 0) (k_evs_one (k_ev_cst .non) k_evs_nil))))))) (k_evSs_cons (k_evS_retS (k_ev_bin .add (k_ev_var 1) (k_ev_lc [("call", 2)] (k_asg_nm 2) (k_evi_seq (k_ev_tup (k_evs_one (k_ev_fnv 71) (k_evs_one (k_ev_fnv 74) k_evs_nil)))) k_evc_no (k_ev_lam 78 (k_ev_cav 2 (k_evs_one (k_ev_var 0) k_evs_nil)))))) k_evSs_nil))), metS f79.body⟩
def c80 : CFn := ⟨3, 5, (k_evSs_cons (k_evS_set (k_asg_nm 3) (k_ev_lc [("call", 4)] (k_asg_nm 4) (k_evi_seq (k_ev_tup (k_evs_one (k_ev_fnv 63) (k_evs_one (k_ev_fnv 64) (k_evs_one (k_ev_fnv 65) k_evs_nil))))) k_evc_no (k_ev_lam 78 (k_ev_cav 4 (k_evs_one (k_ev_var 0) k_evs_nil))))) (k_evSs_cons (k_evS_ex (k_ev_mt .append (k_ev_var 3) (k_eva_one (k_ev_lam 78 (k_ev_call 66 (k_evs_one (k_ev_var 0) (k_evs_one (k_ev_var 1) k_evs_nil)))) k_eva_nil))) (k_evSs_cons (k_evS_retS (k_ev_bin .add (k_ev_var 3) (k_ev_lc [("call", 4)] (k_asg_nm 4) (k_evi_seq (k_ev_tup (k_evs_one (k_ev_fnv 72) (k_evs_one (k_ev_fnv 73) k_evs_nil)))) k_evc_no (k_ev_lam 78 (k_ev_cav 4 (k_evs_one (k_ev_var 0) (k_evs_one (k_ev_var 2) k_evs_nil))))))) k_evSs_nil))), metS f80.body⟩
def c81 : CFn := ⟨1, 10, (k_evSs_cons (k_evS_set (k_asg_nm 1) (k_ev_lst (k_evs_one (k_ev_cst .non) (k_evs_one (k_ev_cst (.int 0)) (k_evs_one (k_ev_tuq k_evs_nil) (k_evs_one (k_ev_tuq (k_evs_one (k_ev_cst (.int 2)) k_evs_nil)) (k_evs_one (k_ev_tuq (k_evs_one (k_ev_cst (.int 2)) (k_evs_one (k_ev_lst (k_evs_one (k_ev_tuq (k_evs_one (k_ev_cst (.int 0)) (k_evs_one (k_ev_cst (.int 1)) k_evs_nil))) k_evs_nil)) k_evs_nil))) (k_evs_one (k_ev_tuq (k_evs_one (k_ev_cst (.int 2)) (k_evs_one (k_ev_tuq (k_evs_one (k_ev_tuq (k_evs_one (k_ev_cst (.int 1)) (k_evs_one (k_ev_cst (.int 0)) k_evs_nil))) k_evs_nil)) k_evs_nil))) (k_evs_one (k_ev_tuq (k_evs_one (k_ev_cst (.int 2)) (k_evs_one (k_ev_tuq (k_evs_one (k_ev_tuq (k_evs_one (k_ev_cst (.int 0)) (k_evs_one (k_ev_cst (.int 2)) k_evs_nil))) k_evs_nil)) k_evs_nil))) (k_evs_one (k_ev_tuq (k_evs_one (k_ev_cst (.int 2)) (k_evs_one (k_ev_tuq (k_evs_one (k_ev_tuq (k_evs_one (k_ev_cst (.int 0)) (k_evs_one (k_ev_cst (.int 1)) k_evs_nil))) (k_evs_one (k_ev_tuq (k_evs_one (k_ev_cst (.int 0)) (k_evs_one (k_ev_cst (.int 1)) k_evs_nil))) k_evs_nil))) k_evs_nil))) (k_evs_one (k_ev_lst (k_evs_one (k_ev_cst (.int 2)) (k_evs_one (k_ev_tuq k_evs_nil) k_evs_nil))) (k_evs_one (k_ev_tuq (k_evs_one (k_ev_cst (.int 11)) (k_evs_one (k_ev_tuq k_evs_nil) k_evs_nil))) k_evs_nil)))))))))))) (k_evSs_cons (k_evS_set (k_asg_nm 1) (k_ev_bin .add (k_ev_var 1) (k_ev_lst (k_evs_one (k_ev_tuq (k_evs_one (k_ev_cst (.int 2)) (k_evs_one (k_ev_tuq (k_evs_one (k_ev_tuq (k_evs_one (k_ev_cst (.int 0)) (k_evs_one (k_ev_cst (.int 0)) k_evs_nil))) k_evs_nil)) k_evs_nil))) (k_evs_one (k_ev_tuq (k_evs_one (k_ev_cst (.int 2)) (k_evs_one (k_ev_tuq (k_evs_one (k_ev_tuq (k_evs_one (k_ev_cst (.int 0)) (k_evs_one (k_ev_cst (.bl true)) k_evs_nil))) k_evs_nil)) k_evs_nil))) k_evs_nil))))) (k_evSs_cons (k_evS_set (k_asg_nm 1) (k_ev_call 77 (k_evs_one (k_ev_var 0) (k_evs_one (k_ev_bin .add (k_ev_var 1) (k_ev_lst (k_evs_one (k_ev_tuq (k_evs_one (k_ev_neg (k_ev_cst (.int 1))) (k_evs_one (k_ev_tuq k_evs_nil) k_evs_nil))) (k_evs_one (k_ev_tuq (k_evs_one (k_ev_cst (.bl true)) (k_evs_one (k_ev_tuq k_evs_nil) k_evs_nil))) (k_evs_one (k_ev_tuq (k_evs_one (k_ev_cst (.int 3)) (k_evs_one (k_ev_tuq (k_evs_one (k_ev_tuq (k_evs_one (k_ev_cst (.int 1)) (k_evs_one (k_ev_cst (.int 2)) k_evs_nil))) (k_evs_one (k_ev_tuq (k_evs_one (k_ev_cst (.int 0)) (k_evs_one (k_ev_cst (.int 1)) k_evs_nil))) k_evs_nil))) k_evs_nil))) (k_evs_one (k_ev_cst (.str "graph")) (k_evs_one (k_ev_dnw false) k_evs_nil))))))) k_evs_nil)))) (k_evSs_cons (k_evS_ife (k_ev_cmp .ne (k_ev_call 79 (k_evs_one (k_ev_var 1) k_evs_nil)) (k_ev_bin .mul (k_ev_lst (k_evs_one (k_ev_cst (.str "graph")) k_evs_nil)) (k_ev_cst (.int 6)))) (k_evSs_cons (k_evS_retS (k_ev_cst (.bl false))) k_evSs_nil) k_evSs_nil) (k_evSs_cons (k_evS_set (k_asg_nm 2) (k_ev_lst (k_evs_one (k_ev_cst .non) (k_evs_one (k_ev_cst (.int 0)) (k_evs_one (k_ev_tuq (k_evs_one (k_ev_cst (.int 0)) k_evs_nil)) (k_evs_one (k_ev_tuq (k_evs_one (k_ev_cst (.int 0)) (k_evs_one (k_ev_cst (.int 1)) k_evs_nil))) (k_evs_one (k_ev_tuq (k_evs_one (k_ev_cst (.int 0)) (k_evs_one (k_ev_cst (.int 0)) (k_evs_one (k_ev_cst (.int 0)) k_evs_nil)))) (k_evs_one (k_ev_tuq (k_evs_one (k_ev_cst (.int 0)) (k_evs_one (k_ev_cst (.int 0)) (k_evs_one (k_ev_cst (.int 2)) (k_evs_one (k_ev_cst (.int 2)) k_evs_nil))))) (k_evs_one (k_ev_tuq (k_evs_one (k_ev_cst (.int 1)) (k_evs_one (k_ev_cst (.int 1)) k_evs_nil))) (k_evs_one (k_ev_lst (k_evs_one (k_ev_cst (.int 0)) (k_evs_one (k_ev_cst (.int 0)) k_evs_nil))) (k_evs_one (k_ev_tuq (k_evs_one (k_ev_cst (.int 0)) (k_evs_one (k_ev_cst (.str "0")) k_evs_nil))) (k_evs_one (k_ev_cst (.str "00")) (k_evs_one (k_ev_dnw false) (k_evs_one (k_ev_tuq (k_evs_one (k_ev_cst (.int 0)) (k_evs_one (k_ev_cst (.int 0)) (k_evs_one (k_ev_cst (.int 1)) (k_evs_one (k_ev_cst (.int 1)) (k_evs_one (k_ev_cst (.int 1)) (k_evs_one (k_ev_cst (.int 1)) k_evs_nil))))))) k_evs_nil)))))))))))))) (k_evSs_cons (k_evS_set (k_asg_nm 2) (k_ev_call 77 (k_evs_one (k_ev_var 0) (k_evs_one (k_ev_bin .add (k_ev_var 2) (k_ev_lst (k_evs_one (k_ev_tuq (k_evs_one (k_ev_neg (k_ev_cst (.int 1))) (k_evs_one (k_ev_neg (k_ev_cst (.int 1))) k_evs_nil))) (k_evs_one (k_ev_bf1 .tupS (k_ev_bin .mul (k_ev_rgl false k_evo_no (k_ev_cst (.int 9))) (k_ev_cst (.int 2)))) (k_evs_one (k_ev_tuq (k_evs_one (k_ev_cst (.int 0)) (k_evs_one (k_ev_cst (.int 0)) (k_evs_one (k_ev_cst (.bl true)) (k_evs_one (k_ev_cst (.bl true)) k_evs_nil))))) (k_evs_one (k_ev_tuq (k_evs_one (k_ev_cst (.int 0)) (k_evs_one (k_ev_cst .non) k_evs_nil))) k_evs_nil)))))) k_evs_nil)))) (k_evSs_cons (k_evS_set (k_asg_nm 3) (k_ev_call 77 (k_evs_one (k_ev_var 0) (k_evs_one (k_ev_lst (k_evs_one (k_ev_cst .non) (k_evs_one (k_ev_neg (k_ev_cst (.int 1))) (k_evs_one (k_ev_cst (.int 3)) (k_evs_one (k_ev_cst (.bl true)) (k_evs_one (k_ev_cst (.str "0")) (k_evs_one (k_ev_tuq (k_evs_one (k_ev_cst (.int 0)) k_evs_nil)) (k_evs_one (k_ev_bin .pow (k_ev_cst (.int 10)) (k_ev_cst (.int 59))) k_evs_nil)))))))) k_evs_nil)))) (k_evSs_cons (k_evS_set (k_asg_nm 4) (k_ev_call 77 (k_evs_one (k_ev_var 0) (k_evs_one (k_ev_lst (k_evs_one (k_ev_cst .non) (k_evs_one (k_ev_cst (.int 0)) (k_evs_one (k_ev_lst (k_evs_one (k_ev_cst (.int 0)) k_evs_nil)) (k_evs_one (k_ev_tuq (k_evs_one (k_ev_cst (.int 3)) k_evs_nil)) (k_evs_one (k_ev_tuq (k_evs_one (k_ev_neg (k_ev_cst (.int 1))) k_evs_nil)) (k_evs_one (k_ev_tuq (k_evs_one (k_ev_cst (.int 1)) (k_evs_one (k_ev_cst (.int 0)) k_evs_nil))) (k_evs_one (k_ev_tuq (k_evs_one (k_ev_cst (.int 0)) (k_evs_one (k_ev_cst (.int 0)) k_evs_nil))) (k_evs_one (k_ev_tuq (k_evs_one (k_ev_cst (.bl true)) k_evs_nil)) (k_evs_one (k_ev_tuq (k_evs_one (k_ev_cst (.str "0")) k_evs_nil)) (k_evs_one (k_ev_dnw false) (k_evs_one (k_ev_tuq (k_evs_one (k_ev_cst .non) k_evs_nil)) k_evs_nil)))))))))))) k_evs_nil)))) (k_evSs_cons (k_evS_ife (k_ev_cmp .ne (k_ev_call 80 (k_evs_one (k_ev_var 2) (k_evs_one (k_ev_var 3) (k_evs_one (k_ev_var 4) k_evs_nil)))) (k_ev_bin .mul (k_ev_lst (k_evs_one (k_ev_cst (.str "operation")) k_evs_nil)) (k_ev_cst (.int 6)))) (k_evSs_cons (k_evS_retS (k_ev_cst (.bl false))) k_evSs_nil) k_evSs_nil) (k_evSs_cons (k_evS_set (k_asg_nm 5) (k_ev_tuq (k_evs_one (k_ev_cst (.int 0)) (k_evs_one (k_ev_cst (.int 1)) (k_evs_one (k_ev_cst (.int 2)) (k_evs_one (k_ev_cst (.int 0)) (k_evs_one (k_ev_cst (.int 1)) (k_evs_one (k_ev_cst (.int 2)) k_evs_nil)))))))) (k_evSs_cons (k_evS_ife (k_ev_cmp .ne (k_ev_call 80 (k_evs_one (k_ev_var 5) (k_evs_one (k_ev_var 3) (k_evs_one (k_ev_var 4) k_evs_nil)))) (k_ev_bin .add (k_ev_bin .add (k_ev_bin .mul (k_ev_lst (k_evs_one (k_ev_cst (.str "fine")) k_evs_nil)) (k_ev_cst (.int 3))) (k_ev_lst (k_evs_one (k_ev_bin .add (k_ev_cst (.str "number ")) (k_ev_bf1 .repr (k_ev_var 3))) k_evs_nil))) (k_ev_bin .mul (k_ev_lst (k_evs_one (k_ev_cst (.str "lot")) k_evs_nil)) (k_ev_cst (.int 2))))) (k_evSs_cons (k_evS_retS (k_ev_cst (.bl false))) k_evSs_nil) k_evSs_nil) (k_evSs_cons (k_evS_set (k_asg_nm 6) (k_ev_lam 78 (k_ev_call 73 (k_evs_one (k_ev_tuq (k_evs_one (k_ev_cst (.int 0)) (k_evs_one (k_ev_cst (.int 1)) (k_evs_one (k_ev_cst (.int 2)) (k_evs_one (k_ev_cst (.int 3)) (k_evs_one (k_ev_cst (.int 0)) (k_evs_one (k_ev_cst (.int 1)) (k_evs_one (k_ev_cst (.int 2)) (k_evs_one (k_ev_cst (.int 3)) k_evs_nil))))))))) (k_evs_one (k_ev_tuq (k_evs_one (k_ev_cst (.int 0)) (k_evs_one (k_ev_cst (.int 2)) k_evs_nil))) k_evs_nil))))) (k_evSs_cons (k_evS_set (k_asg_nm 7) (k_ev_call 77 (k_evs_one (k_ev_var 0) (k_evs_one (k_ev_lst (k_evs_one (k_ev_cst .non) (k_evs_one (k_ev_cst (.int 0)) (k_evs_one (k_ev_tuq (k_evs_one (k_ev_cst (.int 0)) k_evs_nil)) (k_evs_one (k_ev_tuq (k_evs_one (k_ev_cst (.int 1)) (k_evs_one (k_ev_cst (.int 1)) k_evs_nil))) (k_evs_one (k_ev_tuq (k_evs_one (k_ev_cst (.int 0)) (k_evs_one (k_ev_cst (.int 1)) (k_evs_one (k_ev_cst (.int 2)) (k_evs_one (k_ev_cst (.int 3)) k_evs_nil))))) (k_evs_one (k_ev_lst (k_evs_one (k_ev_cst (.int 1)) (k_evs_one (k_ev_cst (.int 0)) k_evs_nil))) (k_evs_one (k_ev_tuq (k_evs_one (k_ev_cst (.int 1)) (k_evs_one (k_ev_cst (.int 2)) k_evs_nil))) (k_evs_one (k_ev_tuq (k_evs_one (k_ev_cst (.bl true)) (k_evs_one (k_ev_cst (.bl false)) k_evs_nil))) (k_evs_one (k_ev_cst (.str "web")) (k_evs_one (k_ev_dnw false) (k_evs_one (k_ev_tuq (k_evs_one (k_ev_cst (.int 1)) (k_evs_one (k_ev_cst .non) k_evs_nil))) k_evs_nil)))))))))))) k_evs_nil)))) (k_evSs_cons (k_evS_set (k_asg_nm 8) (k_ev_call 77 (k_evs_one (k_ev_var 0) (k_evs_one (k_ev_lst (k_evs_one (k_ev_tuq (k_evs_one (k_ev_cst (.int 0)) (k_evs_one (k_ev_cst (.int 1)) k_evs_nil))) (k_evs_one (k_ev_tuq (k_evs_one (k_ev_cst (.int 2)) (k_evs_one (k_ev_cst (.int 5)) (k_evs_one (k_ev_cst (.int 4)) (k_evs_one (k_ev_cst (.int 1)) (k_evs_one (k_ev_cst (.int 0)) (k_evs_one (k_ev_cst (.int 3)) k_evs_nil))))))) (k_evs_one (k_ev_bf1 .tupS (k_ev_bin .add (k_ev_rgl false (k_evo_so (k_ev_cst (.int 1))) (k_ev_cst (.int 18))) (k_ev_lst (k_evs_one (k_ev_cst (.int 0)) k_evs_nil)))) k_evs_nil)))) k_evs_nil)))) (k_evSs_cons (k_evS_set (k_asg_nm 9) (k_ev_lst (k_evs_one (k_ev_var 6) (k_evs_one (k_ev_lam 78 (k_ev_call 62 (k_evs_one (k_ev_var 7) k_evs_nil))) k_evs_nil)))) (k_evSs_cons (k_evS_ex (k_ev_mt .append (k_ev_var 9) (k_eva_one (k_ev_lam 78 (k_ev_call 62 (k_evs_one (k_ev_var 8) k_evs_nil))) k_eva_nil))) (k_evSs_cons (k_evS_retS (k_ev_cmp .eq (k_ev_var 9) (k_ev_lst (k_evs_one (k_ev_cst (.str "operation")) (k_evs_one (k_ev_cst (.str "web")) (k_evs_one (k_ev_cst (.str "operation")) k_evs_nil)))))) k_evSs_nil))))))))))))))))), metS f81.body⟩
def c82 : CFn := ⟨1, 7, (k_evSs_cons (k_evS_for_ (k_asg_nm 1) (k_evi_rng k_evo_no (k_ev_bf2 .max2 (k_ev_cst (.int 1)) (k_ev_bf2 .min2 (k_ev_cst (.int 5)) (k_ev_bf1 .len (k_ev_var 0))))) (k_evSs_cons (k_evS_set (k_asg_nm 3) (k_ev_call 75 (k_evs_one (k_ev_var 0) (k_evs_one (k_ev_var 1) k_evs_nil)))) (k_evSs_cons (k_evS_for_ (k_asg_nm 4) (k_evi_rng k_evo_no (k_ev_cst (.int 2))) (k_evSs_cons (k_evS_ife (k_ev_no (k_ev_call 81 (k_evs_one (k_ev_var 3) k_evs_nil))) (k_evSs_cons (k_evS_retS (k_ev_cst (.bl false))) k_evSs_nil) k_evSs_nil) k_evSs_nil)) k_evSs_nil))) (k_evSs_cons (k_evS_set (k_asg_nm 2) (k_ev_tuq (k_evs_one (k_ev_cst (.int 9)) (k_evs_one (k_ev_tuq (k_evs_one (k_ev_tuq (k_evs_one (k_ev_cst (.int 0)) (k_evs_one (k_ev_cst (.int 1)) k_evs_nil))) k_evs_nil)) k_evs_nil)))) (k_evSs_cons (k_evS_ife (k_ev_or (k_ev_cmp .ne (k_ev_glo 4) (k_ev_cst (.int 8))) (k_ev_cmp .ne (k_ev_sl (k_ev_call 79 (k_evs_one (k_ev_var 2) k_evs_nil)) k_evo_no (k_evo_so (k_ev_cst (.int 4)))) (k_ev_bin .add (k_ev_bin .mul (k_ev_lst (k_evs_one (k_ev_cst (.str "many 8")) k_evs_nil)) (k_ev_cst (.int 2))) (k_ev_bin .mul (k_ev_lst (k_evs_one (k_ev_cst (.str "many 8")) k_evs_nil)) (k_ev_cst (.int 2)))))) (k_evSs_cons (k_evS_retS (k_ev_cst (.bl false))) k_evSs_nil) k_evSs_nil) (k_evSs_cons (k_evS_set (k_asg_tp (k_asgs_cons (k_asg_nm 5) (k_asgs_cons (k_asg_nm 6) k_asgs_nil)) (lenT (ts [(.nm 5), (.nm 6)]))) (k_ev_tuq (k_evs_one (k_ev_bf1 .tupS (k_ev_bin .mul (k_ev_rgl false k_evo_no (k_ev_cst (.int 8))) (k_ev_cst (.int 2)))) (k_evs_one (k_ev_bf1 .tupS (k_ev_bin .add (k_ev_rgl false (k_evo_so (k_ev_cst (.int 1))) (k_ev_cst (.int 16))) (k_ev_lst (k_evs_one (k_ev_cst (.int 0)) k_evs_nil)))) k_evs_nil)))) (k_evSs_cons (k_evS_retS (k_ev_and (k_ev_cmp .eq (k_ev_call 80 (k_evs_one (k_ev_var 5) (k_evs_one (k_ev_cst (.int 7)) (k_evs_one (k_ev_tuq (k_evs_one (k_ev_cst (.int 0)) (k_evs_one (k_ev_cst (.int 7)) k_evs_nil))) k_evs_nil)))) (k_ev_bin .mul (k_ev_lst (k_evs_one (k_ev_cst (.str "fine")) k_evs_nil)) (k_ev_cst (.int 6)))) (k_ev_cmp .eq (k_ev_lam 78 (k_ev_call 62 (k_evs_one (k_ev_var 6) k_evs_nil))) (k_ev_cst (.str "fine"))))) k_evSs_nil))))), metS f82.body⟩
def C : List (List CFn) := [[c0, c1, c2, c3, c4, c5, c6, c7], [c8, c9, c10, c11, c12, c13, c14, c15], [c16, c17, c18, c19, c20, c21, c22, c23], [c24, c25, c26, c27, c28, c29, c30, c31], [c32, c33, c34, c35, c36, c37, c38, c39], [c40, c41, c42, c43, c44, c45, c46, c47], [c48, c49, c50, c51, c52, c53, c54, c55], [c56, c57, c58, c59, c60, c61, c62, c63], [c64, c65, c66, c67, c68, c69, c70, c71], [c72, c73, c74, c75, c76, c77, c78, c79], [c80, c81, c82]]
theorem C_eq : ComOk P C := ⟨by kernel_rfl, by kernel_rfl⟩
end AST
namespace AST
open PySem EV
abbrev ER : Ev := evK P 14 true
abbrev bR : Sxs := f81.body
def S0 (a b c : Int)  : Store := [dl a b c]
def S1 (a b c : Int)  : Store := [dl a b c, .lst [.rot [.int (0), .int (1)]], .lst [.int (2), .rot []], .lst [.non, .int (0), .rot [], .rot [.int (2)], .rot [.int (2), .loc 1], .rot [.int (2), .rot [.rot [.int (1), .int (0)]]], .rot [.int (2), .rot [.rot [.int (0), .int (2)]]], .rot [.int (2), .rot [.rot [.int (0), .int (1)], .rot [.int (0), .int (1)]]], .loc 2, .rot [.int (11), .rot []]]]
theorem st0  (a b c : Int)  : evS ER (nthS bR 0) [some (.loc 0), none, none, none, none, none, none, none, none, none] (S0 a b c) = .next [some (.loc 0), some (.loc 3), none, none, none, none, none, none, none, none] (S1 a b c) := by
  unfold ER
  rw [← evKC_eq P C_eq true 14]
  kernel_rfl
def S2 (a b c : Int)  : Store := [dl a b c, .lst [.rot [.int (0), .int (1)]], .lst [.int (2), .rot []], .lst [.non, .int (0), .rot [], .rot [.int (2)], .rot [.int (2), .loc 1], .rot [.int (2), .rot [.rot [.int (1), .int (0)]]], .rot [.int (2), .rot [.rot [.int (0), .int (2)]]], .rot [.int (2), .rot [.rot [.int (0), .int (1)], .rot [.int (0), .int (1)]]], .loc 2, .rot [.int (11), .rot []]], .lst [.non, .int (0), .rot [], .rot [.int (2)], .rot [.int (2), .loc 1], .rot [.int (2), .rot [.rot [.int (1), .int (0)]]], .rot [.int (2), .rot [.rot [.int (0), .int (2)]]], .rot [.int (2), .rot [.rot [.int (0), .int (1)], .rot [.int (0), .int (1)]]], .loc 2, .rot [.int (11), .rot []], .rot [.int (2), .rot [.rot [.int (0), .int (0)]]], .rot [.int (2), .rot [.rot [.int (0), .bl true]]]]]
theorem st1  (a b c : Int)  : evS ER (nthS bR 1) [some (.loc 0), some (.loc 3), none, none, none, none, none, none, none, none] (S1 a b c) = .next [some (.loc 0), some (.loc 4), none, none, none, none, none, none, none, none] (S2 a b c) := by
  unfold ER
  rw [← evKC_eq P C_eq true 14]
  kernel_rfl
def its0 : List PV := [.non, .int (0), .rot [], .rot [.int (2)], .rot [.int (2), .loc 1], .rot [.int (2), .rot [.rot [.int (1), .int (0)]]], .rot [.int (2), .rot [.rot [.int (0), .int (2)]]], .rot [.int (2), .rot [.rot [.int (0), .int (1)], .rot [.int (0), .int (1)]]], .loc 2, .rot [.int (11), .rot []], .rot [.int (2), .rot [.rot [.int (0), .int (0)]]], .rot [.int (2), .rot [.rot [.int (0), .bl true]]], .rot [.int (-1), .rot []], .rot [.bl true, .rot []], .rot [.int (3), .rot [.rot [.int (1), .int (2)], .rot [.int (0), .int (1)]]], .str "graph", .loc 5]
def U0 : Store := [.lst [.non, .int (0), .rot [], .rot [.int (2)], .rot [.int (2), .loc 2], .rot [.int (2), .rot [.rot [.int (1), .int (0)]]], .rot [.int (2), .rot [.rot [.int (0), .int (2)]]], .rot [.int (2), .rot [.rot [.int (0), .int (1)], .rot [.int (0), .int (1)]]], .loc 3, .rot [.int (11), .rot []], .rot [.int (2), .rot [.rot [.int (0), .int (0)]]], .rot [.int (2), .rot [.rot [.int (0), .bl true]]], .rot [.int (-1), .rot []], .rot [.bl true, .rot []], .rot [.int (3), .rot [.rot [.int (1), .int (2)], .rot [.int (0), .int (1)]]], .str "graph", .loc 4], .lst [.rot [.int (0), .int (1)]], .lst [.int (2), .rot []], .dk []]
def S3 (a b c : Int)  : Store := [dl a b c, .lst [.rot [.int (0), .int (1)]], .lst [.int (2), .rot []], .lst [.non, .int (0), .rot [], .rot [.int (2)], .rot [.int (2), .loc 1], .rot [.int (2), .rot [.rot [.int (1), .int (0)]]], .rot [.int (2), .rot [.rot [.int (0), .int (2)]]], .rot [.int (2), .rot [.rot [.int (0), .int (1)], .rot [.int (0), .int (1)]]], .loc 2, .rot [.int (11), .rot []]], .lst [.non, .int (0), .rot [], .rot [.int (2)], .rot [.int (2), .loc 1], .rot [.int (2), .rot [.rot [.int (1), .int (0)]]], .rot [.int (2), .rot [.rot [.int (0), .int (2)]]], .rot [.int (2), .rot [.rot [.int (0), .int (1)], .rot [.int (0), .int (1)]]], .loc 2, .rot [.int (11), .rot []], .rot [.int (2), .rot [.rot [.int (0), .int (0)]]], .rot [.int (2), .rot [.rot [.int (0), .bl true]]]], .dk [], .lst [.non, .int (0), .rot [], .rot [.int (2)], .rot [.int (2), .loc 1], .rot [.int (2), .rot [.rot [.int (1), .int (0)]]], .rot [.int (2), .rot [.rot [.int (0), .int (2)]]], .rot [.int (2), .rot [.rot [.int (0), .int (1)], .rot [.int (0), .int (1)]]], .loc 2, .rot [.int (11), .rot []], .rot [.int (2), .rot [.rot [.int (0), .int (0)]]], .rot [.int (2), .rot [.rot [.int (0), .bl true]]], .rot [.int (-1), .rot []], .rot [.bl true, .rot []], .rot [.int (3), .rot [.rot [.int (1), .int (2)], .rot [.int (0), .int (1)]]], .str "graph", .loc 5]]
theorem pick0  (a b c : Int) (hc : 0 ≤ c) (hc2 : c < 2 ^ 60) : ∃ (r : Nat) (a' c' : Int), r < 17 ∧ (c' = c ∨ c' = c + 1) ∧ ER.call 77 [.loc 0, .loc 6] (S3 a b c) = .ok (its0.getD r .non) (S3 a' b c') := by
  obtain ⟨r, a', c', h1, h2, h⟩ := hroll (E := evK P 12 true) (a := a) (b := b) (c := c) (t := 17) U0 hc hc2 (by decide) (by decide)
  have hr : r < 17 := by omega
  have e1 : (evK P 13 true).call 76 [.loc 0, .int 17] (dl a b c :: U0) = .ok (.int r) (dl a' b c' :: U0) := h
  have e2 : ER.call 77 [.loc 0, .loc 6] (S3 a b c) = hend (S3 a b c) [0, 6, 1, 2, 5] (runFn (evK P 13 true) f77 [.loc 0, .loc 1] (dl a b c :: U0)) := by kernel_rfl
  have e3 : runFn (evK P 13 true) f77 [.loc 0, .loc 1] (dl a b c :: U0) = runFn (cstE (evK P 13 true) ((evK P 13 true).call 76 [.loc 0, .int 17] (dl a b c :: U0))) f77 [.loc 0, .loc 1] (dl a b c :: U0) := by kernel_rfl
  refine ⟨r, a', c', hr, h2, ?_⟩
  rw [e2, e3, e1]
  clear e1 e2 e3 h h1
  match r, hr with
  | 0, _ => kernel_rfl
  | 1, _ => kernel_rfl
  | 2, _ => kernel_rfl
  | 3, _ => kernel_rfl
  | 4, _ => kernel_rfl
  | 5, _ => kernel_rfl
  | 6, _ => kernel_rfl
  | 7, _ => kernel_rfl
  | 8, _ => kernel_rfl
  | 9, _ => kernel_rfl
  | 10, _ => kernel_rfl
  | 11, _ => kernel_rfl
  | 12, _ => kernel_rfl
  | 13, _ => kernel_rfl
  | 14, _ => kernel_rfl
  | 15, _ => kernel_rfl
  | 16, _ => kernel_rfl
  | n + 17, h => exact absurd h (by omega)
theorem st2  (a b c : Int) (hc : 0 ≤ c) (hc2 : c < 2 ^ 59) : ∃ (r0 : Nat) (a' c' : Int), r0 < 17 ∧ (c ≤ c' ∧ c' ≤ c + 1) ∧ evS ER (nthS bR 2) [some (.loc 0), some (.loc 4), none, none, none, none, none, none, none, none] (S2 a b c) = .next [some (.loc 0), some ((its0.getD r0 .non)), none, none, none, none, none, none, none, none] (S3 a' b c') := by
  obtain ⟨r0, a1, c1, h0, d0, e0⟩ := pick0  a b c (by omega) (by omega)
  have g0 : evs ER (getSet (nthS bR 2)).es [some (.loc 0), some (.loc 4), none, none, none, none, none, none, none, none] (S2 a b c) = .ok [.loc 0, .loc 6] (S3 a b c) := by kernel_rfl
  refine ⟨r0, a1, c1, h0, ⟨by omega, by omega⟩, ?_⟩
  refine (set_call (k := getSet (nthS bR 2)) (by kernel_rfl) g0 e0).trans ?_
  kernel_rfl
def S4 (a b c : Int)  : Store := [dl a b c, .lst [.rot [.int (0), .int (1)]], .lst [.int (2), .rot []], .lst [.non, .int (0), .rot [], .rot [.int (2)], .rot [.int (2), .loc 1], .rot [.int (2), .rot [.rot [.int (1), .int (0)]]], .rot [.int (2), .rot [.rot [.int (0), .int (2)]]], .rot [.int (2), .rot [.rot [.int (0), .int (1)], .rot [.int (0), .int (1)]]], .loc 2, .rot [.int (11), .rot []]], .lst [.non, .int (0), .rot [], .rot [.int (2)], .rot [.int (2), .loc 1], .rot [.int (2), .rot [.rot [.int (1), .int (0)]]], .rot [.int (2), .rot [.rot [.int (0), .int (2)]]], .rot [.int (2), .rot [.rot [.int (0), .int (1)], .rot [.int (0), .int (1)]]], .loc 2, .rot [.int (11), .rot []], .rot [.int (2), .rot [.rot [.int (0), .int (0)]]], .rot [.int (2), .rot [.rot [.int (0), .bl true]]]], .dk [], .lst [.non, .int (0), .rot [], .rot [.int (2)], .rot [.int (2), .loc 1], .rot [.int (2), .rot [.rot [.int (1), .int (0)]]], .rot [.int (2), .rot [.rot [.int (0), .int (2)]]], .rot [.int (2), .rot [.rot [.int (0), .int (1)], .rot [.int (0), .int (1)]]], .loc 2, .rot [.int (11), .rot []], .rot [.int (2), .rot [.rot [.int (0), .int (0)]]], .rot [.int (2), .rot [.rot [.int (0), .bl true]]], .rot [.int (-1), .rot []], .rot [.bl true, .rot []], .rot [.int (3), .rot [.rot [.int (1), .int (2)], .rot [.int (0), .int (1)]]], .str "graph", .loc 5], .lst [.str "graph", .str "graph"]]
theorem x3__0_  (a b c : Int)  : ((List.range 17).map fun r0 => evS (evK P 13 true) (nthS f79.body 0) [some ((its0.getD r0 .non)), none, none] (S3 a b c)) = ((List.range 17).map fun r0 => .next [some ((its0.getD r0 .non)), some (.loc 7), none] (S4 a b c)) := by
  rw [← evKC_eq P C_eq true 13]
  kernel_rfl
theorem x3__0  (a b c : Int) (r0 : Nat) (h0 : r0 < 17) : evS (evK P 13 true) (nthS f79.body 0) [some ((its0.getD r0 .non)), none, none] (S3 a b c) = .next [some ((its0.getD r0 .non)), some (.loc 7), none] (S4 a b c) := of_range (x3__0_  a b c ) r0 h0
def S5 (a b c : Int)  : Store := [dl a b c, .lst [.rot [.int (0), .int (1)]], .lst [.int (2), .rot []], .lst [.non, .int (0), .rot [], .rot [.int (2)], .rot [.int (2), .loc 1], .rot [.int (2), .rot [.rot [.int (1), .int (0)]]], .rot [.int (2), .rot [.rot [.int (0), .int (2)]]], .rot [.int (2), .rot [.rot [.int (0), .int (1)], .rot [.int (0), .int (1)]]], .loc 2, .rot [.int (11), .rot []]], .lst [.non, .int (0), .rot [], .rot [.int (2)], .rot [.int (2), .loc 1], .rot [.int (2), .rot [.rot [.int (1), .int (0)]]], .rot [.int (2), .rot [.rot [.int (0), .int (2)]]], .rot [.int (2), .rot [.rot [.int (0), .int (1)], .rot [.int (0), .int (1)]]], .loc 2, .rot [.int (11), .rot []], .rot [.int (2), .rot [.rot [.int (0), .int (0)]]], .rot [.int (2), .rot [.rot [.int (0), .bl true]]]], .dk [], .lst [.non, .int (0), .rot [], .rot [.int (2)], .rot [.int (2), .loc 1], .rot [.int (2), .rot [.rot [.int (1), .int (0)]]], .rot [.int (2), .rot [.rot [.int (0), .int (2)]]], .rot [.int (2), .rot [.rot [.int (0), .int (1)], .rot [.int (0), .int (1)]]], .loc 2, .rot [.int (11), .rot []], .rot [.int (2), .rot [.rot [.int (0), .int (0)]]], .rot [.int (2), .rot [.rot [.int (0), .bl true]]], .rot [.int (-1), .rot []], .rot [.bl true, .rot []], .rot [.int (3), .rot [.rot [.int (1), .int (2)], .rot [.int (0), .int (1)]]], .str "graph", .loc 5], .lst [.str "graph", .str "graph"], .lst [.str "graph", .str "graph", .str "graph", .str "graph"]]
theorem x3__1_  (a b c : Int)  : ((List.range 17).map fun r0 => evS (evK P 13 true) (nthS f79.body 1) [some ((its0.getD r0 .non)), some (.loc 7), none] (S4 a b c)) = ((List.range 17).map fun r0 => .next [some ((its0.getD r0 .non)), some (.loc 8), none] (S5 a b c)) := by
  rw [← evKC_eq P C_eq true 13]
  kernel_rfl
theorem x3__1  (a b c : Int) (r0 : Nat) (h0 : r0 < 17) : evS (evK P 13 true) (nthS f79.body 1) [some ((its0.getD r0 .non)), some (.loc 7), none] (S4 a b c) = .next [some ((its0.getD r0 .non)), some (.loc 8), none] (S5 a b c) := of_range (x3__1_  a b c ) r0 h0
def S6 (a b c : Int)  : Store := [dl a b c, .lst [.rot [.int (0), .int (1)]], .lst [.int (2), .rot []], .lst [.non, .int (0), .rot [], .rot [.int (2)], .rot [.int (2), .loc 1], .rot [.int (2), .rot [.rot [.int (1), .int (0)]]], .rot [.int (2), .rot [.rot [.int (0), .int (2)]]], .rot [.int (2), .rot [.rot [.int (0), .int (1)], .rot [.int (0), .int (1)]]], .loc 2, .rot [.int (11), .rot []]], .lst [.non, .int (0), .rot [], .rot [.int (2)], .rot [.int (2), .loc 1], .rot [.int (2), .rot [.rot [.int (1), .int (0)]]], .rot [.int (2), .rot [.rot [.int (0), .int (2)]]], .rot [.int (2), .rot [.rot [.int (0), .int (1)], .rot [.int (0), .int (1)]]], .loc 2, .rot [.int (11), .rot []], .rot [.int (2), .rot [.rot [.int (0), .int (0)]]], .rot [.int (2), .rot [.rot [.int (0), .bl true]]]], .dk [], .lst [.non, .int (0), .rot [], .rot [.int (2)], .rot [.int (2), .loc 1], .rot [.int (2), .rot [.rot [.int (1), .int (0)]]], .rot [.int (2), .rot [.rot [.int (0), .int (2)]]], .rot [.int (2), .rot [.rot [.int (0), .int (1)], .rot [.int (0), .int (1)]]], .loc 2, .rot [.int (11), .rot []], .rot [.int (2), .rot [.rot [.int (0), .int (0)]]], .rot [.int (2), .rot [.rot [.int (0), .bl true]]], .rot [.int (-1), .rot []], .rot [.bl true, .rot []], .rot [.int (3), .rot [.rot [.int (1), .int (2)], .rot [.int (0), .int (1)]]], .str "graph", .loc 5], .lst [.str "graph", .str "graph"], .lst [.str "graph", .str "graph", .str "graph", .str "graph"], .lst [.str "graph", .str "graph", .str "graph", .str "graph", .str "graph", .str "graph"]]
theorem x3__2_  (a b c : Int)  : ((List.range 17).map fun r0 => evS (evK P 13 true) (nthS f79.body 2) [some ((its0.getD r0 .non)), some (.loc 8), none] (S5 a b c)) = ((List.range 17).map fun r0 => .ret (.loc 9) (S6 a b c)) := by
  rw [← evKC_eq P C_eq true 13]
  kernel_rfl
theorem x3__2  (a b c : Int) (r0 : Nat) (h0 : r0 < 17) : evS (evK P 13 true) (nthS f79.body 2) [some ((its0.getD r0 .non)), some (.loc 8), none] (S5 a b c) = .ret (.loc 9) (S6 a b c) := of_range (x3__2_  a b c ) r0 h0
theorem x3_  (a b c : Int) (r0 : Nat) (h0 : r0 < 17) : (evK P 14 true).call 79 [(its0.getD r0 .non)] (S3 a b c) = .ok (.loc 9) (S6 a b c) := by
  have q0 := x3__0  a b c r0 h0
  have q1 := x3__1  a b c r0 h0
  have q2 := x3__2  a b c r0 h0
  have z : evSs (evK P 13 true) f79.body [some ((its0.getD r0 .non)), none, none] (S3 a b c) = .ret (.loc 9) (S6 a b c) := by
    refine (evSs_next (s := nthS f79.body 0) (r := dropS f79.body 1) q0).trans ?_
    refine (evSs_next (s := nthS f79.body 1) (r := dropS f79.body 2) q1).trans ?_
    exact evSs_ret (s := nthS f79.body 2) (r := dropS f79.body 3) q2
  exact call_full (fn := f79) (env := [some ((its0.getD r0 .non)), none, none]) rfl rfl rfl (by kernel_rfl) z (by kernel_rfl)
def ca3 : CallIf := getIf (nthS bR 3)
theorem w3 (x0 : PV) (a b c : Int)  : ifR ER ca3 (.loc 9) [some (.loc 0), some (x0), none, none, none, none, none, none, none, none] (S6 a b c) = .next [some (.loc 0), some (x0), none, none, none, none, none, none, none, none] (S6 a b c) := by
  unfold ER
  rw [← evKC_eq P C_eq true 14]
  kernel_rfl
theorem st3  (a b c : Int) (r0 : Nat) (h0 : r0 < 17) : evS ER (nthS bR 3) [some (.loc 0), some ((its0.getD r0 .non)), none, none, none, none, none, none, none, none] (S3 a b c) = .next [some (.loc 0), some ((its0.getD r0 .non)), none, none, none, none, none, none, none, none] (S6 a b c) := by
  have hC := x3_  a b c r0 h0
  have hE : evs ER ca3.es [some (.loc 0), some ((its0.getD r0 .non)), none, none, none, none, none, none, none, none] (S3 a b c) = .ok [(its0.getD r0 .non)] (S3 a b c) := by kernel_rfl
  exact (if_call (s := nthS bR 3) rfl hE hC).trans (w3 (its0.getD r0 .non) a b c  )
def S7 (a b c : Int)  : Store := [dl a b c, .lst [.rot [.int (0), .int (1)]], .lst [.int (2), .rot []], .lst [.non, .int (0), .rot [], .rot [.int (2)], .rot [.int (2), .loc 1], .rot [.int (2), .rot [.rot [.int (1), .int (0)]]], .rot [.int (2), .rot [.rot [.int (0), .int (2)]]], .rot [.int (2), .rot [.rot [.int (0), .int (1)], .rot [.int (0), .int (1)]]], .loc 2, .rot [.int (11), .rot []]], .lst [.non, .int (0), .rot [], .rot [.int (2)], .rot [.int (2), .loc 1], .rot [.int (2), .rot [.rot [.int (1), .int (0)]]], .rot [.int (2), .rot [.rot [.int (0), .int (2)]]], .rot [.int (2), .rot [.rot [.int (0), .int (1)], .rot [.int (0), .int (1)]]], .loc 2, .rot [.int (11), .rot []], .rot [.int (2), .rot [.rot [.int (0), .int (0)]]], .rot [.int (2), .rot [.rot [.int (0), .bl true]]]], .dk [], .lst [.non, .int (0), .rot [], .rot [.int (2)], .rot [.int (2), .loc 1], .rot [.int (2), .rot [.rot [.int (1), .int (0)]]], .rot [.int (2), .rot [.rot [.int (0), .int (2)]]], .rot [.int (2), .rot [.rot [.int (0), .int (1)], .rot [.int (0), .int (1)]]], .loc 2, .rot [.int (11), .rot []], .rot [.int (2), .rot [.rot [.int (0), .int (0)]]], .rot [.int (2), .rot [.rot [.int (0), .bl true]]], .rot [.int (-1), .rot []], .rot [.bl true, .rot []], .rot [.int (3), .rot [.rot [.int (1), .int (2)], .rot [.int (0), .int (1)]]], .str "graph", .loc 5], .lst [.str "graph", .str "graph"], .lst [.str "graph", .str "graph", .str "graph", .str "graph"], .lst [.str "graph", .str "graph", .str "graph", .str "graph", .str "graph", .str "graph"], .lst [.int (0), .int (0)], .dk [], .lst [.non, .int (0), .rot [.int (0)], .rot [.int (0), .int (1)], .rot [.int (0), .int (0), .int (0)], .rot [.int (0), .int (0), .int (2), .int (2)], .rot [.int (1), .int (1)], .loc 10, .rot [.int (0), .str "0"], .str "00", .loc 11, .rot [.int (0), .int (0), .int (1), .int (1), .int (1), .int (1)]]]
theorem st4 (x0 : PV) (a b c : Int)  : evS ER (nthS bR 4) [some (.loc 0), some (x0), none, none, none, none, none, none, none, none] (S6 a b c) = .next [some (.loc 0), some (x0), some (.loc 12), none, none, none, none, none, none, none] (S7 a b c) := by
  unfold ER
  rw [← evKC_eq P C_eq true 14]
  kernel_rfl
def its1 : List PV := [.non, .int (0), .rot [.int (0)], .rot [.int (0), .int (1)], .rot [.int (0), .int (0), .int (0)], .rot [.int (0), .int (0), .int (2), .int (2)], .rot [.int (1), .int (1)], .loc 10, .rot [.int (0), .str "0"], .str "00", .loc 11, .rot [.int (0), .int (0), .int (1), .int (1), .int (1), .int (1)], .rot [.int (-1), .int (-1)], .rot [.int (0), .int (1), .int (2), .int (3), .int (4), .int (5), .int (6), .int (7), .int (8), .int (0), .int (1), .int (2), .int (3), .int (4), .int (5), .int (6), .int (7), .int (8)], .rot [.int (0), .int (0), .bl true, .bl true], .rot [.int (0), .non]]
def U1 : Store := [.lst [.non, .int (0), .rot [.int (0)], .rot [.int (0), .int (1)], .rot [.int (0), .int (0), .int (0)], .rot [.int (0), .int (0), .int (2), .int (2)], .rot [.int (1), .int (1)], .loc 2, .rot [.int (0), .str "0"], .str "00", .loc 3, .rot [.int (0), .int (0), .int (1), .int (1), .int (1), .int (1)], .rot [.int (-1), .int (-1)], .rot [.int (0), .int (1), .int (2), .int (3), .int (4), .int (5), .int (6), .int (7), .int (8), .int (0), .int (1), .int (2), .int (3), .int (4), .int (5), .int (6), .int (7), .int (8)], .rot [.int (0), .int (0), .bl true, .bl true], .rot [.int (0), .non]], .lst [.int (0), .int (0)], .dk []]
def S8 (a b c : Int)  : Store := [dl a b c, .lst [.rot [.int (0), .int (1)]], .lst [.int (2), .rot []], .lst [.non, .int (0), .rot [], .rot [.int (2)], .rot [.int (2), .loc 1], .rot [.int (2), .rot [.rot [.int (1), .int (0)]]], .rot [.int (2), .rot [.rot [.int (0), .int (2)]]], .rot [.int (2), .rot [.rot [.int (0), .int (1)], .rot [.int (0), .int (1)]]], .loc 2, .rot [.int (11), .rot []]], .lst [.non, .int (0), .rot [], .rot [.int (2)], .rot [.int (2), .loc 1], .rot [.int (2), .rot [.rot [.int (1), .int (0)]]], .rot [.int (2), .rot [.rot [.int (0), .int (2)]]], .rot [.int (2), .rot [.rot [.int (0), .int (1)], .rot [.int (0), .int (1)]]], .loc 2, .rot [.int (11), .rot []], .rot [.int (2), .rot [.rot [.int (0), .int (0)]]], .rot [.int (2), .rot [.rot [.int (0), .bl true]]]], .dk [], .lst [.non, .int (0), .rot [], .rot [.int (2)], .rot [.int (2), .loc 1], .rot [.int (2), .rot [.rot [.int (1), .int (0)]]], .rot [.int (2), .rot [.rot [.int (0), .int (2)]]], .rot [.int (2), .rot [.rot [.int (0), .int (1)], .rot [.int (0), .int (1)]]], .loc 2, .rot [.int (11), .rot []], .rot [.int (2), .rot [.rot [.int (0), .int (0)]]], .rot [.int (2), .rot [.rot [.int (0), .bl true]]], .rot [.int (-1), .rot []], .rot [.bl true, .rot []], .rot [.int (3), .rot [.rot [.int (1), .int (2)], .rot [.int (0), .int (1)]]], .str "graph", .loc 5], .lst [.str "graph", .str "graph"], .lst [.str "graph", .str "graph", .str "graph", .str "graph"], .lst [.str "graph", .str "graph", .str "graph", .str "graph", .str "graph", .str "graph"], .lst [.int (0), .int (0)], .dk [], .lst [.non, .int (0), .rot [.int (0)], .rot [.int (0), .int (1)], .rot [.int (0), .int (0), .int (0)], .rot [.int (0), .int (0), .int (2), .int (2)], .rot [.int (1), .int (1)], .loc 10, .rot [.int (0), .str "0"], .str "00", .loc 11, .rot [.int (0), .int (0), .int (1), .int (1), .int (1), .int (1)]], .lst [.non, .int (0), .rot [.int (0)], .rot [.int (0), .int (1)], .rot [.int (0), .int (0), .int (0)], .rot [.int (0), .int (0), .int (2), .int (2)], .rot [.int (1), .int (1)], .loc 10, .rot [.int (0), .str "0"], .str "00", .loc 11, .rot [.int (0), .int (0), .int (1), .int (1), .int (1), .int (1)], .rot [.int (-1), .int (-1)], .rot [.int (0), .int (1), .int (2), .int (3), .int (4), .int (5), .int (6), .int (7), .int (8), .int (0), .int (1), .int (2), .int (3), .int (4), .int (5), .int (6), .int (7), .int (8)], .rot [.int (0), .int (0), .bl true, .bl true], .rot [.int (0), .non]]]
theorem pick1  (a b c : Int) (hc : 0 ≤ c) (hc2 : c < 2 ^ 60) : ∃ (r : Nat) (a' c' : Int), r < 16 ∧ (c' = c ∨ c' = c + 1) ∧ ER.call 77 [.loc 0, .loc 13] (S8 a b c) = .ok (its1.getD r .non) (S8 a' b c') := by
  obtain ⟨r, a', c', h1, h2, h⟩ := hroll (E := evK P 12 true) (a := a) (b := b) (c := c) (t := 16) U1 hc hc2 (by decide) (by decide)
  have hr : r < 16 := by omega
  have e1 : (evK P 13 true).call 76 [.loc 0, .int 16] (dl a b c :: U1) = .ok (.int r) (dl a' b c' :: U1) := h
  have e2 : ER.call 77 [.loc 0, .loc 13] (S8 a b c) = hend (S8 a b c) [0, 13, 10, 11] (runFn (evK P 13 true) f77 [.loc 0, .loc 1] (dl a b c :: U1)) := by kernel_rfl
  have e3 : runFn (evK P 13 true) f77 [.loc 0, .loc 1] (dl a b c :: U1) = runFn (cstE (evK P 13 true) ((evK P 13 true).call 76 [.loc 0, .int 16] (dl a b c :: U1))) f77 [.loc 0, .loc 1] (dl a b c :: U1) := by kernel_rfl
  refine ⟨r, a', c', hr, h2, ?_⟩
  rw [e2, e3, e1]
  clear e1 e2 e3 h h1
  match r, hr with
  | 0, _ => kernel_rfl
  | 1, _ => kernel_rfl
  | 2, _ => kernel_rfl
  | 3, _ => kernel_rfl
  | 4, _ => kernel_rfl
  | 5, _ => kernel_rfl
  | 6, _ => kernel_rfl
  | 7, _ => kernel_rfl
  | 8, _ => kernel_rfl
  | 9, _ => kernel_rfl
  | 10, _ => kernel_rfl
  | 11, _ => kernel_rfl
  | 12, _ => kernel_rfl
  | 13, _ => kernel_rfl
  | 14, _ => kernel_rfl
  | 15, _ => kernel_rfl
  | n + 16, h => exact absurd h (by omega)
theorem st5 (x0 : PV) (a b c : Int) (hc : 0 ≤ c) (hc2 : c < 2 ^ 59) : ∃ (r1 : Nat) (a' c' : Int), r1 < 16 ∧ (c ≤ c' ∧ c' ≤ c + 1) ∧ evS ER (nthS bR 5) [some (.loc 0), some (x0), some (.loc 12), none, none, none, none, none, none, none] (S7 a b c) = .next [some (.loc 0), some (x0), some ((its1.getD r1 .non)), none, none, none, none, none, none, none] (S8 a' b c') := by
  obtain ⟨r1, a1, c1, h1, d1, e1⟩ := pick1  a b c (by omega) (by omega)
  have g0 : evs ER (getSet (nthS bR 5)).es [some (.loc 0), some (x0), some (.loc 12), none, none, none, none, none, none, none] (S7 a b c) = .ok [.loc 0, .loc 13] (S8 a b c) := by kernel_rfl
  refine ⟨r1, a1, c1, h1, ⟨by omega, by omega⟩, ?_⟩
  refine (set_call (k := getSet (nthS bR 5)) (by kernel_rfl) g0 e1).trans ?_
  kernel_rfl
def its2 : List PV := [.non, .int (-1), .int (3), .bl true, .str "0", .rot [.int (0)], .int (100000000000000000000000000000000000000000000000000000000000)]
def U2 : Store := [.lst [.non, .int (-1), .int (3), .bl true, .str "0", .rot [.int (0)], .int (100000000000000000000000000000000000000000000000000000000000)]]
def S9 (a b c : Int)  : Store := [dl a b c, .lst [.rot [.int (0), .int (1)]], .lst [.int (2), .rot []], .lst [.non, .int (0), .rot [], .rot [.int (2)], .rot [.int (2), .loc 1], .rot [.int (2), .rot [.rot [.int (1), .int (0)]]], .rot [.int (2), .rot [.rot [.int (0), .int (2)]]], .rot [.int (2), .rot [.rot [.int (0), .int (1)], .rot [.int (0), .int (1)]]], .loc 2, .rot [.int (11), .rot []]], .lst [.non, .int (0), .rot [], .rot [.int (2)], .rot [.int (2), .loc 1], .rot [.int (2), .rot [.rot [.int (1), .int (0)]]], .rot [.int (2), .rot [.rot [.int (0), .int (2)]]], .rot [.int (2), .rot [.rot [.int (0), .int (1)], .rot [.int (0), .int (1)]]], .loc 2, .rot [.int (11), .rot []], .rot [.int (2), .rot [.rot [.int (0), .int (0)]]], .rot [.int (2), .rot [.rot [.int (0), .bl true]]]], .dk [], .lst [.non, .int (0), .rot [], .rot [.int (2)], .rot [.int (2), .loc 1], .rot [.int (2), .rot [.rot [.int (1), .int (0)]]], .rot [.int (2), .rot [.rot [.int (0), .int (2)]]], .rot [.int (2), .rot [.rot [.int (0), .int (1)], .rot [.int (0), .int (1)]]], .loc 2, .rot [.int (11), .rot []], .rot [.int (2), .rot [.rot [.int (0), .int (0)]]], .rot [.int (2), .rot [.rot [.int (0), .bl true]]], .rot [.int (-1), .rot []], .rot [.bl true, .rot []], .rot [.int (3), .rot [.rot [.int (1), .int (2)], .rot [.int (0), .int (1)]]], .str "graph", .loc 5], .lst [.str "graph", .str "graph"], .lst [.str "graph", .str "graph", .str "graph", .str "graph"], .lst [.str "graph", .str "graph", .str "graph", .str "graph", .str "graph", .str "graph"], .lst [.int (0), .int (0)], .dk [], .lst [.non, .int (0), .rot [.int (0)], .rot [.int (0), .int (1)], .rot [.int (0), .int (0), .int (0)], .rot [.int (0), .int (0), .int (2), .int (2)], .rot [.int (1), .int (1)], .loc 10, .rot [.int (0), .str "0"], .str "00", .loc 11, .rot [.int (0), .int (0), .int (1), .int (1), .int (1), .int (1)]], .lst [.non, .int (0), .rot [.int (0)], .rot [.int (0), .int (1)], .rot [.int (0), .int (0), .int (0)], .rot [.int (0), .int (0), .int (2), .int (2)], .rot [.int (1), .int (1)], .loc 10, .rot [.int (0), .str "0"], .str "00", .loc 11, .rot [.int (0), .int (0), .int (1), .int (1), .int (1), .int (1)], .rot [.int (-1), .int (-1)], .rot [.int (0), .int (1), .int (2), .int (3), .int (4), .int (5), .int (6), .int (7), .int (8), .int (0), .int (1), .int (2), .int (3), .int (4), .int (5), .int (6), .int (7), .int (8)], .rot [.int (0), .int (0), .bl true, .bl true], .rot [.int (0), .non]], .lst [.non, .int (-1), .int (3), .bl true, .str "0", .rot [.int (0)], .int (100000000000000000000000000000000000000000000000000000000000)]]
theorem pick2  (a b c : Int) (hc : 0 ≤ c) (hc2 : c < 2 ^ 60) : ∃ (r : Nat) (a' c' : Int), r < 7 ∧ (c' = c ∨ c' = c + 1) ∧ ER.call 77 [.loc 0, .loc 14] (S9 a b c) = .ok (its2.getD r .non) (S9 a' b c') := by
  obtain ⟨r, a', c', h1, h2, h⟩ := hroll (E := evK P 12 true) (a := a) (b := b) (c := c) (t := 7) U2 hc hc2 (by decide) (by decide)
  have hr : r < 7 := by omega
  have e1 : (evK P 13 true).call 76 [.loc 0, .int 7] (dl a b c :: U2) = .ok (.int r) (dl a' b c' :: U2) := h
  have e2 : ER.call 77 [.loc 0, .loc 14] (S9 a b c) = hend (S9 a b c) [0, 14] (runFn (evK P 13 true) f77 [.loc 0, .loc 1] (dl a b c :: U2)) := by kernel_rfl
  have e3 : runFn (evK P 13 true) f77 [.loc 0, .loc 1] (dl a b c :: U2) = runFn (cstE (evK P 13 true) ((evK P 13 true).call 76 [.loc 0, .int 7] (dl a b c :: U2))) f77 [.loc 0, .loc 1] (dl a b c :: U2) := by kernel_rfl
  refine ⟨r, a', c', hr, h2, ?_⟩
  rw [e2, e3, e1]
  clear e1 e2 e3 h h1
  match r, hr with
  | 0, _ => kernel_rfl
  | 1, _ => kernel_rfl
  | 2, _ => kernel_rfl
  | 3, _ => kernel_rfl
  | 4, _ => kernel_rfl
  | 5, _ => kernel_rfl
  | 6, _ => kernel_rfl
  | n + 7, h => exact absurd h (by omega)
theorem st6 (x0 : PV) (x1 : PV) (a b c : Int) (hc : 0 ≤ c) (hc2 : c < 2 ^ 59) : ∃ (r2 : Nat) (a' c' : Int), r2 < 7 ∧ (c ≤ c' ∧ c' ≤ c + 1) ∧ evS ER (nthS bR 6) [some (.loc 0), some (x0), some (x1), none, none, none, none, none, none, none] (S8 a b c) = .next [some (.loc 0), some (x0), some (x1), some ((its2.getD r2 .non)), none, none, none, none, none, none] (S9 a' b c') := by
  obtain ⟨r2, a1, c1, h2, d2, e2⟩ := pick2  a b c (by omega) (by omega)
  have g0 : evs ER (getSet (nthS bR 6)).es [some (.loc 0), some (x0), some (x1), none, none, none, none, none, none, none] (S8 a b c) = .ok [.loc 0, .loc 14] (S9 a b c) := by kernel_rfl
  refine ⟨r2, a1, c1, h2, ⟨by omega, by omega⟩, ?_⟩
  refine (set_call (k := getSet (nthS bR 6)) (by kernel_rfl) g0 e2).trans ?_
  kernel_rfl
def its3 : List PV := [.non, .int (0), .loc 15, .rot [.int (3)], .rot [.int (-1)], .rot [.int (1), .int (0)], .rot [.int (0), .int (0)], .rot [.bl true], .rot [.str "0"], .loc 16, .rot [.non]]
def U3 : Store := [.lst [.non, .int (0), .loc 2, .rot [.int (3)], .rot [.int (-1)], .rot [.int (1), .int (0)], .rot [.int (0), .int (0)], .rot [.bl true], .rot [.str "0"], .loc 3, .rot [.non]], .lst [.int (0)], .dk []]
def S10 (a b c : Int)  : Store := [dl a b c, .lst [.rot [.int (0), .int (1)]], .lst [.int (2), .rot []], .lst [.non, .int (0), .rot [], .rot [.int (2)], .rot [.int (2), .loc 1], .rot [.int (2), .rot [.rot [.int (1), .int (0)]]], .rot [.int (2), .rot [.rot [.int (0), .int (2)]]], .rot [.int (2), .rot [.rot [.int (0), .int (1)], .rot [.int (0), .int (1)]]], .loc 2, .rot [.int (11), .rot []]], .lst [.non, .int (0), .rot [], .rot [.int (2)], .rot [.int (2), .loc 1], .rot [.int (2), .rot [.rot [.int (1), .int (0)]]], .rot [.int (2), .rot [.rot [.int (0), .int (2)]]], .rot [.int (2), .rot [.rot [.int (0), .int (1)], .rot [.int (0), .int (1)]]], .loc 2, .rot [.int (11), .rot []], .rot [.int (2), .rot [.rot [.int (0), .int (0)]]], .rot [.int (2), .rot [.rot [.int (0), .bl true]]]], .dk [], .lst [.non, .int (0), .rot [], .rot [.int (2)], .rot [.int (2), .loc 1], .rot [.int (2), .rot [.rot [.int (1), .int (0)]]], .rot [.int (2), .rot [.rot [.int (0), .int (2)]]], .rot [.int (2), .rot [.rot [.int (0), .int (1)], .rot [.int (0), .int (1)]]], .loc 2, .rot [.int (11), .rot []], .rot [.int (2), .rot [.rot [.int (0), .int (0)]]], .rot [.int (2), .rot [.rot [.int (0), .bl true]]], .rot [.int (-1), .rot []], .rot [.bl true, .rot []], .rot [.int (3), .rot [.rot [.int (1), .int (2)], .rot [.int (0), .int (1)]]], .str "graph", .loc 5], .lst [.str "graph", .str "graph"], .lst [.str "graph", .str "graph", .str "graph", .str "graph"], .lst [.str "graph", .str "graph", .str "graph", .str "graph", .str "graph", .str "graph"], .lst [.int (0), .int (0)], .dk [], .lst [.non, .int (0), .rot [.int (0)], .rot [.int (0), .int (1)], .rot [.int (0), .int (0), .int (0)], .rot [.int (0), .int (0), .int (2), .int (2)], .rot [.int (1), .int (1)], .loc 10, .rot [.int (0), .str "0"], .str "00", .loc 11, .rot [.int (0), .int (0), .int (1), .int (1), .int (1), .int (1)]], .lst [.non, .int (0), .rot [.int (0)], .rot [.int (0), .int (1)], .rot [.int (0), .int (0), .int (0)], .rot [.int (0), .int (0), .int (2), .int (2)], .rot [.int (1), .int (1)], .loc 10, .rot [.int (0), .str "0"], .str "00", .loc 11, .rot [.int (0), .int (0), .int (1), .int (1), .int (1), .int (1)], .rot [.int (-1), .int (-1)], .rot [.int (0), .int (1), .int (2), .int (3), .int (4), .int (5), .int (6), .int (7), .int (8), .int (0), .int (1), .int (2), .int (3), .int (4), .int (5), .int (6), .int (7), .int (8)], .rot [.int (0), .int (0), .bl true, .bl true], .rot [.int (0), .non]], .lst [.non, .int (-1), .int (3), .bl true, .str "0", .rot [.int (0)], .int (100000000000000000000000000000000000000000000000000000000000)], .lst [.int (0)], .dk [], .lst [.non, .int (0), .loc 15, .rot [.int (3)], .rot [.int (-1)], .rot [.int (1), .int (0)], .rot [.int (0), .int (0)], .rot [.bl true], .rot [.str "0"], .loc 16, .rot [.non]]]
theorem pick3  (a b c : Int) (hc : 0 ≤ c) (hc2 : c < 2 ^ 60) : ∃ (r : Nat) (a' c' : Int), r < 11 ∧ (c' = c ∨ c' = c + 1) ∧ ER.call 77 [.loc 0, .loc 17] (S10 a b c) = .ok (its3.getD r .non) (S10 a' b c') := by
  obtain ⟨r, a', c', h1, h2, h⟩ := hroll (E := evK P 12 true) (a := a) (b := b) (c := c) (t := 11) U3 hc hc2 (by decide) (by decide)
  have hr : r < 11 := by omega
  have e1 : (evK P 13 true).call 76 [.loc 0, .int 11] (dl a b c :: U3) = .ok (.int r) (dl a' b c' :: U3) := h
  have e2 : ER.call 77 [.loc 0, .loc 17] (S10 a b c) = hend (S10 a b c) [0, 17, 15, 16] (runFn (evK P 13 true) f77 [.loc 0, .loc 1] (dl a b c :: U3)) := by kernel_rfl
  have e3 : runFn (evK P 13 true) f77 [.loc 0, .loc 1] (dl a b c :: U3) = runFn (cstE (evK P 13 true) ((evK P 13 true).call 76 [.loc 0, .int 11] (dl a b c :: U3))) f77 [.loc 0, .loc 1] (dl a b c :: U3) := by kernel_rfl
  refine ⟨r, a', c', hr, h2, ?_⟩
  rw [e2, e3, e1]
  clear e1 e2 e3 h h1
  match r, hr with
  | 0, _ => kernel_rfl
  | 1, _ => kernel_rfl
  | 2, _ => kernel_rfl
  | 3, _ => kernel_rfl
  | 4, _ => kernel_rfl
  | 5, _ => kernel_rfl
  | 6, _ => kernel_rfl
  | 7, _ => kernel_rfl
  | 8, _ => kernel_rfl
  | 9, _ => kernel_rfl
  | 10, _ => kernel_rfl
  | n + 11, h => exact absurd h (by omega)
theorem st7 (x0 : PV) (x1 : PV) (x2 : PV) (a b c : Int) (hc : 0 ≤ c) (hc2 : c < 2 ^ 59) : ∃ (r3 : Nat) (a' c' : Int), r3 < 11 ∧ (c ≤ c' ∧ c' ≤ c + 1) ∧ evS ER (nthS bR 7) [some (.loc 0), some (x0), some (x1), some (x2), none, none, none, none, none, none] (S9 a b c) = .next [some (.loc 0), some (x0), some (x1), some (x2), some ((its3.getD r3 .non)), none, none, none, none, none] (S10 a' b c') := by
  obtain ⟨r3, a1, c1, h3, d3, e3⟩ := pick3  a b c (by omega) (by omega)
  have g0 : evs ER (getSet (nthS bR 7)).es [some (.loc 0), some (x0), some (x1), some (x2), none, none, none, none, none, none] (S9 a b c) = .ok [.loc 0, .loc 17] (S10 a b c) := by kernel_rfl
  refine ⟨r3, a1, c1, h3, ⟨by omega, by omega⟩, ?_⟩
  refine (set_call (k := getSet (nthS bR 7)) (by kernel_rfl) g0 e3).trans ?_
  kernel_rfl
def S11 (a b c : Int)  : Store := [dl a b c, .lst [.rot [.int (0), .int (1)]], .lst [.int (2), .rot []], .lst [.non, .int (0), .rot [], .rot [.int (2)], .rot [.int (2), .loc 1], .rot [.int (2), .rot [.rot [.int (1), .int (0)]]], .rot [.int (2), .rot [.rot [.int (0), .int (2)]]], .rot [.int (2), .rot [.rot [.int (0), .int (1)], .rot [.int (0), .int (1)]]], .loc 2, .rot [.int (11), .rot []]], .lst [.non, .int (0), .rot [], .rot [.int (2)], .rot [.int (2), .loc 1], .rot [.int (2), .rot [.rot [.int (1), .int (0)]]], .rot [.int (2), .rot [.rot [.int (0), .int (2)]]], .rot [.int (2), .rot [.rot [.int (0), .int (1)], .rot [.int (0), .int (1)]]], .loc 2, .rot [.int (11), .rot []], .rot [.int (2), .rot [.rot [.int (0), .int (0)]]], .rot [.int (2), .rot [.rot [.int (0), .bl true]]]], .dk [], .lst [.non, .int (0), .rot [], .rot [.int (2)], .rot [.int (2), .loc 1], .rot [.int (2), .rot [.rot [.int (1), .int (0)]]], .rot [.int (2), .rot [.rot [.int (0), .int (2)]]], .rot [.int (2), .rot [.rot [.int (0), .int (1)], .rot [.int (0), .int (1)]]], .loc 2, .rot [.int (11), .rot []], .rot [.int (2), .rot [.rot [.int (0), .int (0)]]], .rot [.int (2), .rot [.rot [.int (0), .bl true]]], .rot [.int (-1), .rot []], .rot [.bl true, .rot []], .rot [.int (3), .rot [.rot [.int (1), .int (2)], .rot [.int (0), .int (1)]]], .str "graph", .loc 5], .lst [.str "graph", .str "graph"], .lst [.str "graph", .str "graph", .str "graph", .str "graph"], .lst [.str "graph", .str "graph", .str "graph", .str "graph", .str "graph", .str "graph"], .lst [.int (0), .int (0)], .dk [], .lst [.non, .int (0), .rot [.int (0)], .rot [.int (0), .int (1)], .rot [.int (0), .int (0), .int (0)], .rot [.int (0), .int (0), .int (2), .int (2)], .rot [.int (1), .int (1)], .loc 10, .rot [.int (0), .str "0"], .str "00", .loc 11, .rot [.int (0), .int (0), .int (1), .int (1), .int (1), .int (1)]], .lst [.non, .int (0), .rot [.int (0)], .rot [.int (0), .int (1)], .rot [.int (0), .int (0), .int (0)], .rot [.int (0), .int (0), .int (2), .int (2)], .rot [.int (1), .int (1)], .loc 10, .rot [.int (0), .str "0"], .str "00", .loc 11, .rot [.int (0), .int (0), .int (1), .int (1), .int (1), .int (1)], .rot [.int (-1), .int (-1)], .rot [.int (0), .int (1), .int (2), .int (3), .int (4), .int (5), .int (6), .int (7), .int (8), .int (0), .int (1), .int (2), .int (3), .int (4), .int (5), .int (6), .int (7), .int (8)], .rot [.int (0), .int (0), .bl true, .bl true], .rot [.int (0), .non]], .lst [.non, .int (-1), .int (3), .bl true, .str "0", .rot [.int (0)], .int (100000000000000000000000000000000000000000000000000000000000)], .lst [.int (0)], .dk [], .lst [.non, .int (0), .loc 15, .rot [.int (3)], .rot [.int (-1)], .rot [.int (1), .int (0)], .rot [.int (0), .int (0)], .rot [.bl true], .rot [.str "0"], .loc 16, .rot [.non]], .lst [.str "operation", .str "operation", .str "operation"]]
theorem x8__0_ (x2 : PV) (x3 : PV) (a b c : Int)  : ((List.range 16).map fun r1 => evS (evK P 13 true) (nthS f80.body 0) [some ((its1.getD r1 .non)), some (x2), some (x3), none, none] (S10 a b c)) = ((List.range 16).map fun r1 => .next [some ((its1.getD r1 .non)), some (x2), some (x3), some (.loc 18), none] (S11 a b c)) := by
  rw [← evKC_eq P C_eq true 13]
  kernel_rfl
theorem x8__0 (x2 : PV) (x3 : PV) (a b c : Int) (r1 : Nat) (h1 : r1 < 16) : evS (evK P 13 true) (nthS f80.body 0) [some ((its1.getD r1 .non)), some (x2), some (x3), none, none] (S10 a b c) = .next [some ((its1.getD r1 .non)), some (x2), some (x3), some (.loc 18), none] (S11 a b c) := of_range (x8__0_ x2 x3 a b c ) r1 h1
def S12 (a b c : Int)  : Store := [dl a b c, .lst [.rot [.int (0), .int (1)]], .lst [.int (2), .rot []], .lst [.non, .int (0), .rot [], .rot [.int (2)], .rot [.int (2), .loc 1], .rot [.int (2), .rot [.rot [.int (1), .int (0)]]], .rot [.int (2), .rot [.rot [.int (0), .int (2)]]], .rot [.int (2), .rot [.rot [.int (0), .int (1)], .rot [.int (0), .int (1)]]], .loc 2, .rot [.int (11), .rot []]], .lst [.non, .int (0), .rot [], .rot [.int (2)], .rot [.int (2), .loc 1], .rot [.int (2), .rot [.rot [.int (1), .int (0)]]], .rot [.int (2), .rot [.rot [.int (0), .int (2)]]], .rot [.int (2), .rot [.rot [.int (0), .int (1)], .rot [.int (0), .int (1)]]], .loc 2, .rot [.int (11), .rot []], .rot [.int (2), .rot [.rot [.int (0), .int (0)]]], .rot [.int (2), .rot [.rot [.int (0), .bl true]]]], .dk [], .lst [.non, .int (0), .rot [], .rot [.int (2)], .rot [.int (2), .loc 1], .rot [.int (2), .rot [.rot [.int (1), .int (0)]]], .rot [.int (2), .rot [.rot [.int (0), .int (2)]]], .rot [.int (2), .rot [.rot [.int (0), .int (1)], .rot [.int (0), .int (1)]]], .loc 2, .rot [.int (11), .rot []], .rot [.int (2), .rot [.rot [.int (0), .int (0)]]], .rot [.int (2), .rot [.rot [.int (0), .bl true]]], .rot [.int (-1), .rot []], .rot [.bl true, .rot []], .rot [.int (3), .rot [.rot [.int (1), .int (2)], .rot [.int (0), .int (1)]]], .str "graph", .loc 5], .lst [.str "graph", .str "graph"], .lst [.str "graph", .str "graph", .str "graph", .str "graph"], .lst [.str "graph", .str "graph", .str "graph", .str "graph", .str "graph", .str "graph"], .lst [.int (0), .int (0)], .dk [], .lst [.non, .int (0), .rot [.int (0)], .rot [.int (0), .int (1)], .rot [.int (0), .int (0), .int (0)], .rot [.int (0), .int (0), .int (2), .int (2)], .rot [.int (1), .int (1)], .loc 10, .rot [.int (0), .str "0"], .str "00", .loc 11, .rot [.int (0), .int (0), .int (1), .int (1), .int (1), .int (1)]], .lst [.non, .int (0), .rot [.int (0)], .rot [.int (0), .int (1)], .rot [.int (0), .int (0), .int (0)], .rot [.int (0), .int (0), .int (2), .int (2)], .rot [.int (1), .int (1)], .loc 10, .rot [.int (0), .str "0"], .str "00", .loc 11, .rot [.int (0), .int (0), .int (1), .int (1), .int (1), .int (1)], .rot [.int (-1), .int (-1)], .rot [.int (0), .int (1), .int (2), .int (3), .int (4), .int (5), .int (6), .int (7), .int (8), .int (0), .int (1), .int (2), .int (3), .int (4), .int (5), .int (6), .int (7), .int (8)], .rot [.int (0), .int (0), .bl true, .bl true], .rot [.int (0), .non]], .lst [.non, .int (-1), .int (3), .bl true, .str "0", .rot [.int (0)], .int (100000000000000000000000000000000000000000000000000000000000)], .lst [.int (0)], .dk [], .lst [.non, .int (0), .loc 15, .rot [.int (3)], .rot [.int (-1)], .rot [.int (1), .int (0)], .rot [.int (0), .int (0)], .rot [.bl true], .rot [.str "0"], .loc 16, .rot [.non]], .lst [.str "operation", .str "operation", .str "operation", .str "operation"]]
theorem x8__1_ (x2 : PV) (x3 : PV) (a b c : Int)  : ((List.range 16).map fun r1 => evS (evK P 13 true) (nthS f80.body 1) [some ((its1.getD r1 .non)), some (x2), some (x3), some (.loc 18), none] (S11 a b c)) = ((List.range 16).map fun r1 => .next [some ((its1.getD r1 .non)), some (x2), some (x3), some (.loc 18), none] (S12 a b c)) := by
  rw [← evKC_eq P C_eq true 13]
  kernel_rfl
theorem x8__1 (x2 : PV) (x3 : PV) (a b c : Int) (r1 : Nat) (h1 : r1 < 16) : evS (evK P 13 true) (nthS f80.body 1) [some ((its1.getD r1 .non)), some (x2), some (x3), some (.loc 18), none] (S11 a b c) = .next [some ((its1.getD r1 .non)), some (x2), some (x3), some (.loc 18), none] (S12 a b c) := of_range (x8__1_ x2 x3 a b c ) r1 h1
def S13 (a b c : Int)  : Store := [dl a b c, .lst [.rot [.int (0), .int (1)]], .lst [.int (2), .rot []], .lst [.non, .int (0), .rot [], .rot [.int (2)], .rot [.int (2), .loc 1], .rot [.int (2), .rot [.rot [.int (1), .int (0)]]], .rot [.int (2), .rot [.rot [.int (0), .int (2)]]], .rot [.int (2), .rot [.rot [.int (0), .int (1)], .rot [.int (0), .int (1)]]], .loc 2, .rot [.int (11), .rot []]], .lst [.non, .int (0), .rot [], .rot [.int (2)], .rot [.int (2), .loc 1], .rot [.int (2), .rot [.rot [.int (1), .int (0)]]], .rot [.int (2), .rot [.rot [.int (0), .int (2)]]], .rot [.int (2), .rot [.rot [.int (0), .int (1)], .rot [.int (0), .int (1)]]], .loc 2, .rot [.int (11), .rot []], .rot [.int (2), .rot [.rot [.int (0), .int (0)]]], .rot [.int (2), .rot [.rot [.int (0), .bl true]]]], .dk [], .lst [.non, .int (0), .rot [], .rot [.int (2)], .rot [.int (2), .loc 1], .rot [.int (2), .rot [.rot [.int (1), .int (0)]]], .rot [.int (2), .rot [.rot [.int (0), .int (2)]]], .rot [.int (2), .rot [.rot [.int (0), .int (1)], .rot [.int (0), .int (1)]]], .loc 2, .rot [.int (11), .rot []], .rot [.int (2), .rot [.rot [.int (0), .int (0)]]], .rot [.int (2), .rot [.rot [.int (0), .bl true]]], .rot [.int (-1), .rot []], .rot [.bl true, .rot []], .rot [.int (3), .rot [.rot [.int (1), .int (2)], .rot [.int (0), .int (1)]]], .str "graph", .loc 5], .lst [.str "graph", .str "graph"], .lst [.str "graph", .str "graph", .str "graph", .str "graph"], .lst [.str "graph", .str "graph", .str "graph", .str "graph", .str "graph", .str "graph"], .lst [.int (0), .int (0)], .dk [], .lst [.non, .int (0), .rot [.int (0)], .rot [.int (0), .int (1)], .rot [.int (0), .int (0), .int (0)], .rot [.int (0), .int (0), .int (2), .int (2)], .rot [.int (1), .int (1)], .loc 10, .rot [.int (0), .str "0"], .str "00", .loc 11, .rot [.int (0), .int (0), .int (1), .int (1), .int (1), .int (1)]], .lst [.non, .int (0), .rot [.int (0)], .rot [.int (0), .int (1)], .rot [.int (0), .int (0), .int (0)], .rot [.int (0), .int (0), .int (2), .int (2)], .rot [.int (1), .int (1)], .loc 10, .rot [.int (0), .str "0"], .str "00", .loc 11, .rot [.int (0), .int (0), .int (1), .int (1), .int (1), .int (1)], .rot [.int (-1), .int (-1)], .rot [.int (0), .int (1), .int (2), .int (3), .int (4), .int (5), .int (6), .int (7), .int (8), .int (0), .int (1), .int (2), .int (3), .int (4), .int (5), .int (6), .int (7), .int (8)], .rot [.int (0), .int (0), .bl true, .bl true], .rot [.int (0), .non]], .lst [.non, .int (-1), .int (3), .bl true, .str "0", .rot [.int (0)], .int (100000000000000000000000000000000000000000000000000000000000)], .lst [.int (0)], .dk [], .lst [.non, .int (0), .loc 15, .rot [.int (3)], .rot [.int (-1)], .rot [.int (1), .int (0)], .rot [.int (0), .int (0)], .rot [.bl true], .rot [.str "0"], .loc 16, .rot [.non]], .lst [.str "operation", .str "operation", .str "operation", .str "operation"], .lst [.str "operation", .str "operation", .str "operation", .str "operation", .str "operation", .str "operation"]]
theorem x8__2_ (x2 : PV) (x3 : PV) (a b c : Int)  : ((List.range 16).map fun r1 => evS (evK P 13 true) (nthS f80.body 2) [some ((its1.getD r1 .non)), some (x2), some (x3), some (.loc 18), none] (S12 a b c)) = ((List.range 16).map fun r1 => .ret (.loc 19) (S13 a b c)) := by
  rw [← evKC_eq P C_eq true 13]
  kernel_rfl
theorem x8__2 (x2 : PV) (x3 : PV) (a b c : Int) (r1 : Nat) (h1 : r1 < 16) : evS (evK P 13 true) (nthS f80.body 2) [some ((its1.getD r1 .non)), some (x2), some (x3), some (.loc 18), none] (S12 a b c) = .ret (.loc 19) (S13 a b c) := of_range (x8__2_ x2 x3 a b c ) r1 h1
theorem x8_ (x2 : PV) (x3 : PV) (a b c : Int) (r1 : Nat) (h1 : r1 < 16) : (evK P 14 true).call 80 [(its1.getD r1 .non), x2, x3] (S10 a b c) = .ok (.loc 19) (S13 a b c) := by
  have q0 := x8__0 x2 x3 a b c r1 h1
  have q1 := x8__1 x2 x3 a b c r1 h1
  have q2 := x8__2 x2 x3 a b c r1 h1
  have z : evSs (evK P 13 true) f80.body [some ((its1.getD r1 .non)), some (x2), some (x3), none, none] (S10 a b c) = .ret (.loc 19) (S13 a b c) := by
    refine (evSs_next (s := nthS f80.body 0) (r := dropS f80.body 1) q0).trans ?_
    refine (evSs_next (s := nthS f80.body 1) (r := dropS f80.body 2) q1).trans ?_
    exact evSs_ret (s := nthS f80.body 2) (r := dropS f80.body 3) q2
  exact call_full (fn := f80) (env := [some ((its1.getD r1 .non)), some (x2), some (x3), none, none]) rfl rfl rfl (by kernel_rfl) z (by kernel_rfl)
def ca8 : CallIf := getIf (nthS bR 8)
theorem w8 (x0 : PV) (x1 : PV) (x2 : PV) (x3 : PV) (a b c : Int)  : ifR ER ca8 (.loc 19) [some (.loc 0), some (x0), some (x1), some (x2), some (x3), none, none, none, none, none] (S13 a b c) = .next [some (.loc 0), some (x0), some (x1), some (x2), some (x3), none, none, none, none, none] (S13 a b c) := by
  unfold ER
  rw [← evKC_eq P C_eq true 14]
  kernel_rfl
theorem st8 (x2 : PV) (x3 : PV) (x0 : PV) (a b c : Int) (r1 : Nat) (h1 : r1 < 16) : evS ER (nthS bR 8) [some (.loc 0), some (x0), some ((its1.getD r1 .non)), some (x2), some (x3), none, none, none, none, none] (S10 a b c) = .next [some (.loc 0), some (x0), some ((its1.getD r1 .non)), some (x2), some (x3), none, none, none, none, none] (S13 a b c) := by
  have hC := x8_ x2 x3 a b c r1 h1
  have hE : evs ER ca8.es [some (.loc 0), some (x0), some ((its1.getD r1 .non)), some (x2), some (x3), none, none, none, none, none] (S10 a b c) = .ok [(its1.getD r1 .non), x2, x3] (S10 a b c) := by kernel_rfl
  exact (if_call (s := nthS bR 8) rfl hE hC).trans (w8 x0 (its1.getD r1 .non) x2 x3 a b c  )
theorem st9 (x0 : PV) (x1 : PV) (x2 : PV) (x3 : PV) (a b c : Int)  : evS ER (nthS bR 9) [some (.loc 0), some (x0), some (x1), some (x2), some (x3), none, none, none, none, none] (S13 a b c) = .next [some (.loc 0), some (x0), some (x1), some (x2), some (x3), some (.rot [.int (0), .int (1), .int (2), .int (0), .int (1), .int (2)]), none, none, none, none] (S13 a b c) := by
  unfold ER
  rw [← evKC_eq P C_eq true 14]
  kernel_rfl
def S14 (a b c : Int)  : Store := [dl a b c, .lst [.rot [.int (0), .int (1)]], .lst [.int (2), .rot []], .lst [.non, .int (0), .rot [], .rot [.int (2)], .rot [.int (2), .loc 1], .rot [.int (2), .rot [.rot [.int (1), .int (0)]]], .rot [.int (2), .rot [.rot [.int (0), .int (2)]]], .rot [.int (2), .rot [.rot [.int (0), .int (1)], .rot [.int (0), .int (1)]]], .loc 2, .rot [.int (11), .rot []]], .lst [.non, .int (0), .rot [], .rot [.int (2)], .rot [.int (2), .loc 1], .rot [.int (2), .rot [.rot [.int (1), .int (0)]]], .rot [.int (2), .rot [.rot [.int (0), .int (2)]]], .rot [.int (2), .rot [.rot [.int (0), .int (1)], .rot [.int (0), .int (1)]]], .loc 2, .rot [.int (11), .rot []], .rot [.int (2), .rot [.rot [.int (0), .int (0)]]], .rot [.int (2), .rot [.rot [.int (0), .bl true]]]], .dk [], .lst [.non, .int (0), .rot [], .rot [.int (2)], .rot [.int (2), .loc 1], .rot [.int (2), .rot [.rot [.int (1), .int (0)]]], .rot [.int (2), .rot [.rot [.int (0), .int (2)]]], .rot [.int (2), .rot [.rot [.int (0), .int (1)], .rot [.int (0), .int (1)]]], .loc 2, .rot [.int (11), .rot []], .rot [.int (2), .rot [.rot [.int (0), .int (0)]]], .rot [.int (2), .rot [.rot [.int (0), .bl true]]], .rot [.int (-1), .rot []], .rot [.bl true, .rot []], .rot [.int (3), .rot [.rot [.int (1), .int (2)], .rot [.int (0), .int (1)]]], .str "graph", .loc 5], .lst [.str "graph", .str "graph"], .lst [.str "graph", .str "graph", .str "graph", .str "graph"], .lst [.str "graph", .str "graph", .str "graph", .str "graph", .str "graph", .str "graph"], .lst [.int (0), .int (0)], .dk [], .lst [.non, .int (0), .rot [.int (0)], .rot [.int (0), .int (1)], .rot [.int (0), .int (0), .int (0)], .rot [.int (0), .int (0), .int (2), .int (2)], .rot [.int (1), .int (1)], .loc 10, .rot [.int (0), .str "0"], .str "00", .loc 11, .rot [.int (0), .int (0), .int (1), .int (1), .int (1), .int (1)]], .lst [.non, .int (0), .rot [.int (0)], .rot [.int (0), .int (1)], .rot [.int (0), .int (0), .int (0)], .rot [.int (0), .int (0), .int (2), .int (2)], .rot [.int (1), .int (1)], .loc 10, .rot [.int (0), .str "0"], .str "00", .loc 11, .rot [.int (0), .int (0), .int (1), .int (1), .int (1), .int (1)], .rot [.int (-1), .int (-1)], .rot [.int (0), .int (1), .int (2), .int (3), .int (4), .int (5), .int (6), .int (7), .int (8), .int (0), .int (1), .int (2), .int (3), .int (4), .int (5), .int (6), .int (7), .int (8)], .rot [.int (0), .int (0), .bl true, .bl true], .rot [.int (0), .non]], .lst [.non, .int (-1), .int (3), .bl true, .str "0", .rot [.int (0)], .int (100000000000000000000000000000000000000000000000000000000000)], .lst [.int (0)], .dk [], .lst [.non, .int (0), .loc 15, .rot [.int (3)], .rot [.int (-1)], .rot [.int (1), .int (0)], .rot [.int (0), .int (0)], .rot [.bl true], .rot [.str "0"], .loc 16, .rot [.non]], .lst [.str "operation", .str "operation", .str "operation", .str "operation"], .lst [.str "operation", .str "operation", .str "operation", .str "operation", .str "operation", .str "operation"], .lst [.str "fine", .str "fine", .str "fine"]]
theorem x10__0 (x2 : PV) (x3 : PV) (a b c : Int)  : evS (evK P 13 true) (nthS f80.body 0) [some (.rot [.int (0), .int (1), .int (2), .int (0), .int (1), .int (2)]), some (x2), some (x3), none, none] (S13 a b c) = .next [some (.rot [.int (0), .int (1), .int (2), .int (0), .int (1), .int (2)]), some (x2), some (x3), some (.loc 20), none] (S14 a b c) := by
  rw [← evKC_eq P C_eq true 13]
  kernel_rfl
def tbl0 : List (Str) := ["number None", "number -1", "number 3", "number True", "number '0'", "number (0,)", "number 100000000000000000000000000000000000000000000000000000000000"]
def tab0 (r2 : Nat) : Str := (tbl0.getD r2 "")
def S15 (a b c : Int) (y0 : Str) : Store := [dl a b c, .lst [.rot [.int (0), .int (1)]], .lst [.int (2), .rot []], .lst [.non, .int (0), .rot [], .rot [.int (2)], .rot [.int (2), .loc 1], .rot [.int (2), .rot [.rot [.int (1), .int (0)]]], .rot [.int (2), .rot [.rot [.int (0), .int (2)]]], .rot [.int (2), .rot [.rot [.int (0), .int (1)], .rot [.int (0), .int (1)]]], .loc 2, .rot [.int (11), .rot []]], .lst [.non, .int (0), .rot [], .rot [.int (2)], .rot [.int (2), .loc 1], .rot [.int (2), .rot [.rot [.int (1), .int (0)]]], .rot [.int (2), .rot [.rot [.int (0), .int (2)]]], .rot [.int (2), .rot [.rot [.int (0), .int (1)], .rot [.int (0), .int (1)]]], .loc 2, .rot [.int (11), .rot []], .rot [.int (2), .rot [.rot [.int (0), .int (0)]]], .rot [.int (2), .rot [.rot [.int (0), .bl true]]]], .dk [], .lst [.non, .int (0), .rot [], .rot [.int (2)], .rot [.int (2), .loc 1], .rot [.int (2), .rot [.rot [.int (1), .int (0)]]], .rot [.int (2), .rot [.rot [.int (0), .int (2)]]], .rot [.int (2), .rot [.rot [.int (0), .int (1)], .rot [.int (0), .int (1)]]], .loc 2, .rot [.int (11), .rot []], .rot [.int (2), .rot [.rot [.int (0), .int (0)]]], .rot [.int (2), .rot [.rot [.int (0), .bl true]]], .rot [.int (-1), .rot []], .rot [.bl true, .rot []], .rot [.int (3), .rot [.rot [.int (1), .int (2)], .rot [.int (0), .int (1)]]], .str "graph", .loc 5], .lst [.str "graph", .str "graph"], .lst [.str "graph", .str "graph", .str "graph", .str "graph"], .lst [.str "graph", .str "graph", .str "graph", .str "graph", .str "graph", .str "graph"], .lst [.int (0), .int (0)], .dk [], .lst [.non, .int (0), .rot [.int (0)], .rot [.int (0), .int (1)], .rot [.int (0), .int (0), .int (0)], .rot [.int (0), .int (0), .int (2), .int (2)], .rot [.int (1), .int (1)], .loc 10, .rot [.int (0), .str "0"], .str "00", .loc 11, .rot [.int (0), .int (0), .int (1), .int (1), .int (1), .int (1)]], .lst [.non, .int (0), .rot [.int (0)], .rot [.int (0), .int (1)], .rot [.int (0), .int (0), .int (0)], .rot [.int (0), .int (0), .int (2), .int (2)], .rot [.int (1), .int (1)], .loc 10, .rot [.int (0), .str "0"], .str "00", .loc 11, .rot [.int (0), .int (0), .int (1), .int (1), .int (1), .int (1)], .rot [.int (-1), .int (-1)], .rot [.int (0), .int (1), .int (2), .int (3), .int (4), .int (5), .int (6), .int (7), .int (8), .int (0), .int (1), .int (2), .int (3), .int (4), .int (5), .int (6), .int (7), .int (8)], .rot [.int (0), .int (0), .bl true, .bl true], .rot [.int (0), .non]], .lst [.non, .int (-1), .int (3), .bl true, .str "0", .rot [.int (0)], .int (100000000000000000000000000000000000000000000000000000000000)], .lst [.int (0)], .dk [], .lst [.non, .int (0), .loc 15, .rot [.int (3)], .rot [.int (-1)], .rot [.int (1), .int (0)], .rot [.int (0), .int (0)], .rot [.bl true], .rot [.str "0"], .loc 16, .rot [.non]], .lst [.str "operation", .str "operation", .str "operation", .str "operation"], .lst [.str "operation", .str "operation", .str "operation", .str "operation", .str "operation", .str "operation"], .lst [.str "fine", .str "fine", .str "fine", .str y0]]
theorem x10__1_ (x3 : PV) (a b c : Int)  : ((List.range 7).map fun r2 => evS (evK P 13 true) (nthS f80.body 1) [some (.rot [.int (0), .int (1), .int (2), .int (0), .int (1), .int (2)]), some ((its2.getD r2 .non)), some (x3), some (.loc 20), none] (S14 a b c)) = ((List.range 7).map fun r2 => .next [some (.rot [.int (0), .int (1), .int (2), .int (0), .int (1), .int (2)]), some ((its2.getD r2 .non)), some (x3), some (.loc 20), none] (S15 a b c (tab0 r2))) := by
  rw [← evKC_eq P C_eq true 13]
  kernel_rfl
theorem x10__1 (x3 : PV) (a b c : Int) (r2 : Nat) (h2 : r2 < 7) : evS (evK P 13 true) (nthS f80.body 1) [some (.rot [.int (0), .int (1), .int (2), .int (0), .int (1), .int (2)]), some ((its2.getD r2 .non)), some (x3), some (.loc 20), none] (S14 a b c) = .next [some (.rot [.int (0), .int (1), .int (2), .int (0), .int (1), .int (2)]), some ((its2.getD r2 .non)), some (x3), some (.loc 20), none] (S15 a b c (tab0 r2)) := of_range (x10__1_ x3 a b c ) r2 h2
def S16 (a b c : Int) (y0 : Str) : Store := [dl a b c, .lst [.rot [.int (0), .int (1)]], .lst [.int (2), .rot []], .lst [.non, .int (0), .rot [], .rot [.int (2)], .rot [.int (2), .loc 1], .rot [.int (2), .rot [.rot [.int (1), .int (0)]]], .rot [.int (2), .rot [.rot [.int (0), .int (2)]]], .rot [.int (2), .rot [.rot [.int (0), .int (1)], .rot [.int (0), .int (1)]]], .loc 2, .rot [.int (11), .rot []]], .lst [.non, .int (0), .rot [], .rot [.int (2)], .rot [.int (2), .loc 1], .rot [.int (2), .rot [.rot [.int (1), .int (0)]]], .rot [.int (2), .rot [.rot [.int (0), .int (2)]]], .rot [.int (2), .rot [.rot [.int (0), .int (1)], .rot [.int (0), .int (1)]]], .loc 2, .rot [.int (11), .rot []], .rot [.int (2), .rot [.rot [.int (0), .int (0)]]], .rot [.int (2), .rot [.rot [.int (0), .bl true]]]], .dk [], .lst [.non, .int (0), .rot [], .rot [.int (2)], .rot [.int (2), .loc 1], .rot [.int (2), .rot [.rot [.int (1), .int (0)]]], .rot [.int (2), .rot [.rot [.int (0), .int (2)]]], .rot [.int (2), .rot [.rot [.int (0), .int (1)], .rot [.int (0), .int (1)]]], .loc 2, .rot [.int (11), .rot []], .rot [.int (2), .rot [.rot [.int (0), .int (0)]]], .rot [.int (2), .rot [.rot [.int (0), .bl true]]], .rot [.int (-1), .rot []], .rot [.bl true, .rot []], .rot [.int (3), .rot [.rot [.int (1), .int (2)], .rot [.int (0), .int (1)]]], .str "graph", .loc 5], .lst [.str "graph", .str "graph"], .lst [.str "graph", .str "graph", .str "graph", .str "graph"], .lst [.str "graph", .str "graph", .str "graph", .str "graph", .str "graph", .str "graph"], .lst [.int (0), .int (0)], .dk [], .lst [.non, .int (0), .rot [.int (0)], .rot [.int (0), .int (1)], .rot [.int (0), .int (0), .int (0)], .rot [.int (0), .int (0), .int (2), .int (2)], .rot [.int (1), .int (1)], .loc 10, .rot [.int (0), .str "0"], .str "00", .loc 11, .rot [.int (0), .int (0), .int (1), .int (1), .int (1), .int (1)]], .lst [.non, .int (0), .rot [.int (0)], .rot [.int (0), .int (1)], .rot [.int (0), .int (0), .int (0)], .rot [.int (0), .int (0), .int (2), .int (2)], .rot [.int (1), .int (1)], .loc 10, .rot [.int (0), .str "0"], .str "00", .loc 11, .rot [.int (0), .int (0), .int (1), .int (1), .int (1), .int (1)], .rot [.int (-1), .int (-1)], .rot [.int (0), .int (1), .int (2), .int (3), .int (4), .int (5), .int (6), .int (7), .int (8), .int (0), .int (1), .int (2), .int (3), .int (4), .int (5), .int (6), .int (7), .int (8)], .rot [.int (0), .int (0), .bl true, .bl true], .rot [.int (0), .non]], .lst [.non, .int (-1), .int (3), .bl true, .str "0", .rot [.int (0)], .int (100000000000000000000000000000000000000000000000000000000000)], .lst [.int (0)], .dk [], .lst [.non, .int (0), .loc 15, .rot [.int (3)], .rot [.int (-1)], .rot [.int (1), .int (0)], .rot [.int (0), .int (0)], .rot [.bl true], .rot [.str "0"], .loc 16, .rot [.non]], .lst [.str "operation", .str "operation", .str "operation", .str "operation"], .lst [.str "operation", .str "operation", .str "operation", .str "operation", .str "operation", .str "operation"], .lst [.str "fine", .str "fine", .str "fine", .str y0], .lst [.str "fine", .str "fine", .str "fine", .str y0, .str "lot", .str "lot"]]
theorem x10__2_ (x2 : PV) (y0 : Str) (a b c : Int)  : ((List.range 11).map fun r3 => evS (evK P 13 true) (nthS f80.body 2) [some (.rot [.int (0), .int (1), .int (2), .int (0), .int (1), .int (2)]), some (x2), some ((its3.getD r3 .non)), some (.loc 20), none] (S15 a b c y0)) = ((List.range 11).map fun r3 => .ret (.loc 21) (S16 a b c y0)) := by
  rw [← evKC_eq P C_eq true 13]
  kernel_rfl
theorem x10__2 (x2 : PV) (y0 : Str) (a b c : Int) (r3 : Nat) (h3 : r3 < 11) : evS (evK P 13 true) (nthS f80.body 2) [some (.rot [.int (0), .int (1), .int (2), .int (0), .int (1), .int (2)]), some (x2), some ((its3.getD r3 .non)), some (.loc 20), none] (S15 a b c y0) = .ret (.loc 21) (S16 a b c y0) := of_range (x10__2_ x2 y0 a b c ) r3 h3
theorem x10_  (a b c : Int) (r2 : Nat) (r3 : Nat) (h2 : r2 < 7) (h3 : r3 < 11) : (evK P 14 true).call 80 [.rot [.int (0), .int (1), .int (2), .int (0), .int (1), .int (2)], (its2.getD r2 .non), (its3.getD r3 .non)] (S13 a b c) = .ok (.loc 21) (S16 a b c (tab0 r2)) := by
  have q0 := x10__0 (its2.getD r2 .non) (its3.getD r3 .non) a b c  
  have q1 := x10__1 (its3.getD r3 .non) a b c r2 h2
  have q2 := x10__2 (its2.getD r2 .non) (tab0 r2) a b c r3 h3
  have z : evSs (evK P 13 true) f80.body [some (.rot [.int (0), .int (1), .int (2), .int (0), .int (1), .int (2)]), some ((its2.getD r2 .non)), some ((its3.getD r3 .non)), none, none] (S13 a b c) = .ret (.loc 21) (S16 a b c (tab0 r2)) := by
    refine (evSs_next (s := nthS f80.body 0) (r := dropS f80.body 1) q0).trans ?_
    refine (evSs_next (s := nthS f80.body 1) (r := dropS f80.body 2) q1).trans ?_
    exact evSs_ret (s := nthS f80.body 2) (r := dropS f80.body 3) q2
  exact call_full (fn := f80) (env := [some (.rot [.int (0), .int (1), .int (2), .int (0), .int (1), .int (2)]), some ((its2.getD r2 .non)), some ((its3.getD r3 .non)), none, none]) rfl rfl rfl (by kernel_rfl) z (by kernel_rfl)
def ca10 : CallIf := getIf (nthS bR 10)
theorem w10_ (x0 : PV) (x1 : PV) (x3 : PV) (a b c : Int)  : ((List.range 7).map fun r2 => ifR ER ca10 (.loc 21) [some (.loc 0), some (x0), some (x1), some ((its2.getD r2 .non)), some (x3), some (.rot [.int (0), .int (1), .int (2), .int (0), .int (1), .int (2)]), none, none, none, none] (S16 a b c (tab0 r2))) = ((List.range 7).map fun r2 => .next [some (.loc 0), some (x0), some (x1), some ((its2.getD r2 .non)), some (x3), some (.rot [.int (0), .int (1), .int (2), .int (0), .int (1), .int (2)]), none, none, none, none] (S16 a b c (tab0 r2))) := by
  unfold ER
  rw [← evKC_eq P C_eq true 14]
  kernel_rfl
theorem w10 (x0 : PV) (x1 : PV) (x3 : PV) (a b c : Int) (r2 : Nat) (h2 : r2 < 7) : ifR ER ca10 (.loc 21) [some (.loc 0), some (x0), some (x1), some ((its2.getD r2 .non)), some (x3), some (.rot [.int (0), .int (1), .int (2), .int (0), .int (1), .int (2)]), none, none, none, none] (S16 a b c (tab0 r2)) = .next [some (.loc 0), some (x0), some (x1), some ((its2.getD r2 .non)), some (x3), some (.rot [.int (0), .int (1), .int (2), .int (0), .int (1), .int (2)]), none, none, none, none] (S16 a b c (tab0 r2)) := of_range (w10_ x0 x1 x3 a b c ) r2 h2
theorem st10 (x0 : PV) (x1 : PV) (a b c : Int) (r2 : Nat) (r3 : Nat) (h2 : r2 < 7) (h3 : r3 < 11) : evS ER (nthS bR 10) [some (.loc 0), some (x0), some (x1), some ((its2.getD r2 .non)), some ((its3.getD r3 .non)), some (.rot [.int (0), .int (1), .int (2), .int (0), .int (1), .int (2)]), none, none, none, none] (S13 a b c) = .next [some (.loc 0), some (x0), some (x1), some ((its2.getD r2 .non)), some ((its3.getD r3 .non)), some (.rot [.int (0), .int (1), .int (2), .int (0), .int (1), .int (2)]), none, none, none, none] (S16 a b c (tab0 r2)) := by
  have hC := x10_  a b c r2 r3 h2 h3
  have hE : evs ER ca10.es [some (.loc 0), some (x0), some (x1), some ((its2.getD r2 .non)), some ((its3.getD r3 .non)), some (.rot [.int (0), .int (1), .int (2), .int (0), .int (1), .int (2)]), none, none, none, none] (S13 a b c) = .ok [.rot [.int (0), .int (1), .int (2), .int (0), .int (1), .int (2)], (its2.getD r2 .non), (its3.getD r3 .non)] (S13 a b c) := by kernel_rfl
  exact (if_call (s := nthS bR 10) rfl hE hC).trans (w10 x0 x1 (its3.getD r3 .non) a b c r2 h2)
theorem st11 (x0 : PV) (x1 : PV) (x2 : PV) (x3 : PV) (y0 : Str) (a b c : Int)  : evS ER (nthS bR 11) [some (.loc 0), some (x0), some (x1), some (x2), some (x3), some (.rot [.int (0), .int (1), .int (2), .int (0), .int (1), .int (2)]), none, none, none, none] (S16 a b c y0) = .next [some (.loc 0), some (x0), some (x1), some (x2), some (x3), some (.rot [.int (0), .int (1), .int (2), .int (0), .int (1), .int (2)]), some (.str "operation"), none, none, none] (S16 a b c y0) := by
  unfold ER
  rw [← evKC_eq P C_eq true 14]
  kernel_rfl
def its4 : List PV := [.non, .int (0), .rot [.int (0)], .rot [.int (1), .int (1)], .rot [.int (0), .int (1), .int (2), .int (3)], .loc 22, .rot [.int (1), .int (2)], .rot [.bl true, .bl false], .str "web", .loc 23, .rot [.int (1), .non]]
def U4 : Store := [.lst [.non, .int (0), .rot [.int (0)], .rot [.int (1), .int (1)], .rot [.int (0), .int (1), .int (2), .int (3)], .loc 2, .rot [.int (1), .int (2)], .rot [.bl true, .bl false], .str "web", .loc 3, .rot [.int (1), .non]], .lst [.int (1), .int (0)], .dk []]
def S17 (a b c : Int) (y0 : Str) : Store := [dl a b c, .lst [.rot [.int (0), .int (1)]], .lst [.int (2), .rot []], .lst [.non, .int (0), .rot [], .rot [.int (2)], .rot [.int (2), .loc 1], .rot [.int (2), .rot [.rot [.int (1), .int (0)]]], .rot [.int (2), .rot [.rot [.int (0), .int (2)]]], .rot [.int (2), .rot [.rot [.int (0), .int (1)], .rot [.int (0), .int (1)]]], .loc 2, .rot [.int (11), .rot []]], .lst [.non, .int (0), .rot [], .rot [.int (2)], .rot [.int (2), .loc 1], .rot [.int (2), .rot [.rot [.int (1), .int (0)]]], .rot [.int (2), .rot [.rot [.int (0), .int (2)]]], .rot [.int (2), .rot [.rot [.int (0), .int (1)], .rot [.int (0), .int (1)]]], .loc 2, .rot [.int (11), .rot []], .rot [.int (2), .rot [.rot [.int (0), .int (0)]]], .rot [.int (2), .rot [.rot [.int (0), .bl true]]]], .dk [], .lst [.non, .int (0), .rot [], .rot [.int (2)], .rot [.int (2), .loc 1], .rot [.int (2), .rot [.rot [.int (1), .int (0)]]], .rot [.int (2), .rot [.rot [.int (0), .int (2)]]], .rot [.int (2), .rot [.rot [.int (0), .int (1)], .rot [.int (0), .int (1)]]], .loc 2, .rot [.int (11), .rot []], .rot [.int (2), .rot [.rot [.int (0), .int (0)]]], .rot [.int (2), .rot [.rot [.int (0), .bl true]]], .rot [.int (-1), .rot []], .rot [.bl true, .rot []], .rot [.int (3), .rot [.rot [.int (1), .int (2)], .rot [.int (0), .int (1)]]], .str "graph", .loc 5], .lst [.str "graph", .str "graph"], .lst [.str "graph", .str "graph", .str "graph", .str "graph"], .lst [.str "graph", .str "graph", .str "graph", .str "graph", .str "graph", .str "graph"], .lst [.int (0), .int (0)], .dk [], .lst [.non, .int (0), .rot [.int (0)], .rot [.int (0), .int (1)], .rot [.int (0), .int (0), .int (0)], .rot [.int (0), .int (0), .int (2), .int (2)], .rot [.int (1), .int (1)], .loc 10, .rot [.int (0), .str "0"], .str "00", .loc 11, .rot [.int (0), .int (0), .int (1), .int (1), .int (1), .int (1)]], .lst [.non, .int (0), .rot [.int (0)], .rot [.int (0), .int (1)], .rot [.int (0), .int (0), .int (0)], .rot [.int (0), .int (0), .int (2), .int (2)], .rot [.int (1), .int (1)], .loc 10, .rot [.int (0), .str "0"], .str "00", .loc 11, .rot [.int (0), .int (0), .int (1), .int (1), .int (1), .int (1)], .rot [.int (-1), .int (-1)], .rot [.int (0), .int (1), .int (2), .int (3), .int (4), .int (5), .int (6), .int (7), .int (8), .int (0), .int (1), .int (2), .int (3), .int (4), .int (5), .int (6), .int (7), .int (8)], .rot [.int (0), .int (0), .bl true, .bl true], .rot [.int (0), .non]], .lst [.non, .int (-1), .int (3), .bl true, .str "0", .rot [.int (0)], .int (100000000000000000000000000000000000000000000000000000000000)], .lst [.int (0)], .dk [], .lst [.non, .int (0), .loc 15, .rot [.int (3)], .rot [.int (-1)], .rot [.int (1), .int (0)], .rot [.int (0), .int (0)], .rot [.bl true], .rot [.str "0"], .loc 16, .rot [.non]], .lst [.str "operation", .str "operation", .str "operation", .str "operation"], .lst [.str "operation", .str "operation", .str "operation", .str "operation", .str "operation", .str "operation"], .lst [.str "fine", .str "fine", .str "fine", .str y0], .lst [.str "fine", .str "fine", .str "fine", .str y0, .str "lot", .str "lot"], .lst [.int (1), .int (0)], .dk [], .lst [.non, .int (0), .rot [.int (0)], .rot [.int (1), .int (1)], .rot [.int (0), .int (1), .int (2), .int (3)], .loc 22, .rot [.int (1), .int (2)], .rot [.bl true, .bl false], .str "web", .loc 23, .rot [.int (1), .non]]]
theorem pick4 (y0 : Str) (a b c : Int) (hc : 0 ≤ c) (hc2 : c < 2 ^ 60) : ∃ (r : Nat) (a' c' : Int), r < 11 ∧ (c' = c ∨ c' = c + 1) ∧ ER.call 77 [.loc 0, .loc 24] (S17 a b c y0) = .ok (its4.getD r .non) (S17 a' b c' y0) := by
  obtain ⟨r, a', c', h1, h2, h⟩ := hroll (E := evK P 12 true) (a := a) (b := b) (c := c) (t := 11) U4 hc hc2 (by decide) (by decide)
  have hr : r < 11 := by omega
  have e1 : (evK P 13 true).call 76 [.loc 0, .int 11] (dl a b c :: U4) = .ok (.int r) (dl a' b c' :: U4) := h
  have e2 : ER.call 77 [.loc 0, .loc 24] (S17 a b c y0) = hend (S17 a b c y0) [0, 24, 22, 23] (runFn (evK P 13 true) f77 [.loc 0, .loc 1] (dl a b c :: U4)) := by kernel_rfl
  have e3 : runFn (evK P 13 true) f77 [.loc 0, .loc 1] (dl a b c :: U4) = runFn (cstE (evK P 13 true) ((evK P 13 true).call 76 [.loc 0, .int 11] (dl a b c :: U4))) f77 [.loc 0, .loc 1] (dl a b c :: U4) := by kernel_rfl
  refine ⟨r, a', c', hr, h2, ?_⟩
  rw [e2, e3, e1]
  clear e1 e2 e3 h h1
  match r, hr with
  | 0, _ => kernel_rfl
  | 1, _ => kernel_rfl
  | 2, _ => kernel_rfl
  | 3, _ => kernel_rfl
  | 4, _ => kernel_rfl
  | 5, _ => kernel_rfl
  | 6, _ => kernel_rfl
  | 7, _ => kernel_rfl
  | 8, _ => kernel_rfl
  | 9, _ => kernel_rfl
  | 10, _ => kernel_rfl
  | n + 11, h => exact absurd h (by omega)
theorem st12 (x0 : PV) (x1 : PV) (x2 : PV) (x3 : PV) (y0 : Str) (a b c : Int) (hc : 0 ≤ c) (hc2 : c < 2 ^ 59) : ∃ (r4 : Nat) (a' c' : Int), r4 < 11 ∧ (c ≤ c' ∧ c' ≤ c + 1) ∧ evS ER (nthS bR 12) [some (.loc 0), some (x0), some (x1), some (x2), some (x3), some (.rot [.int (0), .int (1), .int (2), .int (0), .int (1), .int (2)]), some (.str "operation"), none, none, none] (S16 a b c y0) = .next [some (.loc 0), some (x0), some (x1), some (x2), some (x3), some (.rot [.int (0), .int (1), .int (2), .int (0), .int (1), .int (2)]), some (.str "operation"), some ((its4.getD r4 .non)), none, none] (S17 a' b c' y0) := by
  obtain ⟨r4, a1, c1, h4, d4, e4⟩ := pick4 y0 a b c (by omega) (by omega)
  have g0 : evs ER (getSet (nthS bR 12)).es [some (.loc 0), some (x0), some (x1), some (x2), some (x3), some (.rot [.int (0), .int (1), .int (2), .int (0), .int (1), .int (2)]), some (.str "operation"), none, none, none] (S16 a b c y0) = .ok [.loc 0, .loc 24] (S17 a b c y0) := by kernel_rfl
  refine ⟨r4, a1, c1, h4, ⟨by omega, by omega⟩, ?_⟩
  refine (set_call (k := getSet (nthS bR 12)) (by kernel_rfl) g0 e4).trans ?_
  kernel_rfl
def its5 : List PV := [.rot [.int (0), .int (1)], .rot [.int (2), .int (5), .int (4), .int (1), .int (0), .int (3)], .rot [.int (1), .int (2), .int (3), .int (4), .int (5), .int (6), .int (7), .int (8), .int (9), .int (10), .int (11), .int (12), .int (13), .int (14), .int (15), .int (16), .int (17), .int (0)]]
def U5 : Store := [.lst [.rot [.int (0), .int (1)], .rot [.int (2), .int (5), .int (4), .int (1), .int (0), .int (3)], .rot [.int (1), .int (2), .int (3), .int (4), .int (5), .int (6), .int (7), .int (8), .int (9), .int (10), .int (11), .int (12), .int (13), .int (14), .int (15), .int (16), .int (17), .int (0)]]]
def S18 (a b c : Int) (y0 : Str) : Store := [dl a b c, .lst [.rot [.int (0), .int (1)]], .lst [.int (2), .rot []], .lst [.non, .int (0), .rot [], .rot [.int (2)], .rot [.int (2), .loc 1], .rot [.int (2), .rot [.rot [.int (1), .int (0)]]], .rot [.int (2), .rot [.rot [.int (0), .int (2)]]], .rot [.int (2), .rot [.rot [.int (0), .int (1)], .rot [.int (0), .int (1)]]], .loc 2, .rot [.int (11), .rot []]], .lst [.non, .int (0), .rot [], .rot [.int (2)], .rot [.int (2), .loc 1], .rot [.int (2), .rot [.rot [.int (1), .int (0)]]], .rot [.int (2), .rot [.rot [.int (0), .int (2)]]], .rot [.int (2), .rot [.rot [.int (0), .int (1)], .rot [.int (0), .int (1)]]], .loc 2, .rot [.int (11), .rot []], .rot [.int (2), .rot [.rot [.int (0), .int (0)]]], .rot [.int (2), .rot [.rot [.int (0), .bl true]]]], .dk [], .lst [.non, .int (0), .rot [], .rot [.int (2)], .rot [.int (2), .loc 1], .rot [.int (2), .rot [.rot [.int (1), .int (0)]]], .rot [.int (2), .rot [.rot [.int (0), .int (2)]]], .rot [.int (2), .rot [.rot [.int (0), .int (1)], .rot [.int (0), .int (1)]]], .loc 2, .rot [.int (11), .rot []], .rot [.int (2), .rot [.rot [.int (0), .int (0)]]], .rot [.int (2), .rot [.rot [.int (0), .bl true]]], .rot [.int (-1), .rot []], .rot [.bl true, .rot []], .rot [.int (3), .rot [.rot [.int (1), .int (2)], .rot [.int (0), .int (1)]]], .str "graph", .loc 5], .lst [.str "graph", .str "graph"], .lst [.str "graph", .str "graph", .str "graph", .str "graph"], .lst [.str "graph", .str "graph", .str "graph", .str "graph", .str "graph", .str "graph"], .lst [.int (0), .int (0)], .dk [], .lst [.non, .int (0), .rot [.int (0)], .rot [.int (0), .int (1)], .rot [.int (0), .int (0), .int (0)], .rot [.int (0), .int (0), .int (2), .int (2)], .rot [.int (1), .int (1)], .loc 10, .rot [.int (0), .str "0"], .str "00", .loc 11, .rot [.int (0), .int (0), .int (1), .int (1), .int (1), .int (1)]], .lst [.non, .int (0), .rot [.int (0)], .rot [.int (0), .int (1)], .rot [.int (0), .int (0), .int (0)], .rot [.int (0), .int (0), .int (2), .int (2)], .rot [.int (1), .int (1)], .loc 10, .rot [.int (0), .str "0"], .str "00", .loc 11, .rot [.int (0), .int (0), .int (1), .int (1), .int (1), .int (1)], .rot [.int (-1), .int (-1)], .rot [.int (0), .int (1), .int (2), .int (3), .int (4), .int (5), .int (6), .int (7), .int (8), .int (0), .int (1), .int (2), .int (3), .int (4), .int (5), .int (6), .int (7), .int (8)], .rot [.int (0), .int (0), .bl true, .bl true], .rot [.int (0), .non]], .lst [.non, .int (-1), .int (3), .bl true, .str "0", .rot [.int (0)], .int (100000000000000000000000000000000000000000000000000000000000)], .lst [.int (0)], .dk [], .lst [.non, .int (0), .loc 15, .rot [.int (3)], .rot [.int (-1)], .rot [.int (1), .int (0)], .rot [.int (0), .int (0)], .rot [.bl true], .rot [.str "0"], .loc 16, .rot [.non]], .lst [.str "operation", .str "operation", .str "operation", .str "operation"], .lst [.str "operation", .str "operation", .str "operation", .str "operation", .str "operation", .str "operation"], .lst [.str "fine", .str "fine", .str "fine", .str y0], .lst [.str "fine", .str "fine", .str "fine", .str y0, .str "lot", .str "lot"], .lst [.int (1), .int (0)], .dk [], .lst [.non, .int (0), .rot [.int (0)], .rot [.int (1), .int (1)], .rot [.int (0), .int (1), .int (2), .int (3)], .loc 22, .rot [.int (1), .int (2)], .rot [.bl true, .bl false], .str "web", .loc 23, .rot [.int (1), .non]], .lst [.rot [.int (0), .int (1)], .rot [.int (2), .int (5), .int (4), .int (1), .int (0), .int (3)], .rot [.int (1), .int (2), .int (3), .int (4), .int (5), .int (6), .int (7), .int (8), .int (9), .int (10), .int (11), .int (12), .int (13), .int (14), .int (15), .int (16), .int (17), .int (0)]]]
theorem pick5 (y0 : Str) (a b c : Int) (hc : 0 ≤ c) (hc2 : c < 2 ^ 60) : ∃ (r : Nat) (a' c' : Int), r < 3 ∧ (c' = c ∨ c' = c + 1) ∧ ER.call 77 [.loc 0, .loc 25] (S18 a b c y0) = .ok (its5.getD r .non) (S18 a' b c' y0) := by
  obtain ⟨r, a', c', h1, h2, h⟩ := hroll (E := evK P 12 true) (a := a) (b := b) (c := c) (t := 3) U5 hc hc2 (by decide) (by decide)
  have hr : r < 3 := by omega
  have e1 : (evK P 13 true).call 76 [.loc 0, .int 3] (dl a b c :: U5) = .ok (.int r) (dl a' b c' :: U5) := h
  have e2 : ER.call 77 [.loc 0, .loc 25] (S18 a b c y0) = hend (S18 a b c y0) [0, 25] (runFn (evK P 13 true) f77 [.loc 0, .loc 1] (dl a b c :: U5)) := by kernel_rfl
  have e3 : runFn (evK P 13 true) f77 [.loc 0, .loc 1] (dl a b c :: U5) = runFn (cstE (evK P 13 true) ((evK P 13 true).call 76 [.loc 0, .int 3] (dl a b c :: U5))) f77 [.loc 0, .loc 1] (dl a b c :: U5) := by kernel_rfl
  refine ⟨r, a', c', hr, h2, ?_⟩
  rw [e2, e3, e1]
  clear e1 e2 e3 h h1
  match r, hr with
  | 0, _ => kernel_rfl
  | 1, _ => kernel_rfl
  | 2, _ => kernel_rfl
  | n + 3, h => exact absurd h (by omega)
theorem st13 (x0 : PV) (x1 : PV) (x2 : PV) (x3 : PV) (x4 : PV) (y0 : Str) (a b c : Int) (hc : 0 ≤ c) (hc2 : c < 2 ^ 59) : ∃ (r5 : Nat) (a' c' : Int), r5 < 3 ∧ (c ≤ c' ∧ c' ≤ c + 1) ∧ evS ER (nthS bR 13) [some (.loc 0), some (x0), some (x1), some (x2), some (x3), some (.rot [.int (0), .int (1), .int (2), .int (0), .int (1), .int (2)]), some (.str "operation"), some (x4), none, none] (S17 a b c y0) = .next [some (.loc 0), some (x0), some (x1), some (x2), some (x3), some (.rot [.int (0), .int (1), .int (2), .int (0), .int (1), .int (2)]), some (.str "operation"), some (x4), some ((its5.getD r5 .non)), none] (S18 a' b c' y0) := by
  obtain ⟨r5, a1, c1, h5, d5, e5⟩ := pick5 y0 a b c (by omega) (by omega)
  have g0 : evs ER (getSet (nthS bR 13)).es [some (.loc 0), some (x0), some (x1), some (x2), some (x3), some (.rot [.int (0), .int (1), .int (2), .int (0), .int (1), .int (2)]), some (.str "operation"), some (x4), none, none] (S17 a b c y0) = .ok [.loc 0, .loc 25] (S18 a b c y0) := by kernel_rfl
  refine ⟨r5, a1, c1, h5, ⟨by omega, by omega⟩, ?_⟩
  refine (set_call (k := getSet (nthS bR 13)) (by kernel_rfl) g0 e5).trans ?_
  kernel_rfl
def S19 (a b c : Int) (y0 : Str) : Store := [dl a b c, .lst [.rot [.int (0), .int (1)]], .lst [.int (2), .rot []], .lst [.non, .int (0), .rot [], .rot [.int (2)], .rot [.int (2), .loc 1], .rot [.int (2), .rot [.rot [.int (1), .int (0)]]], .rot [.int (2), .rot [.rot [.int (0), .int (2)]]], .rot [.int (2), .rot [.rot [.int (0), .int (1)], .rot [.int (0), .int (1)]]], .loc 2, .rot [.int (11), .rot []]], .lst [.non, .int (0), .rot [], .rot [.int (2)], .rot [.int (2), .loc 1], .rot [.int (2), .rot [.rot [.int (1), .int (0)]]], .rot [.int (2), .rot [.rot [.int (0), .int (2)]]], .rot [.int (2), .rot [.rot [.int (0), .int (1)], .rot [.int (0), .int (1)]]], .loc 2, .rot [.int (11), .rot []], .rot [.int (2), .rot [.rot [.int (0), .int (0)]]], .rot [.int (2), .rot [.rot [.int (0), .bl true]]]], .dk [], .lst [.non, .int (0), .rot [], .rot [.int (2)], .rot [.int (2), .loc 1], .rot [.int (2), .rot [.rot [.int (1), .int (0)]]], .rot [.int (2), .rot [.rot [.int (0), .int (2)]]], .rot [.int (2), .rot [.rot [.int (0), .int (1)], .rot [.int (0), .int (1)]]], .loc 2, .rot [.int (11), .rot []], .rot [.int (2), .rot [.rot [.int (0), .int (0)]]], .rot [.int (2), .rot [.rot [.int (0), .bl true]]], .rot [.int (-1), .rot []], .rot [.bl true, .rot []], .rot [.int (3), .rot [.rot [.int (1), .int (2)], .rot [.int (0), .int (1)]]], .str "graph", .loc 5], .lst [.str "graph", .str "graph"], .lst [.str "graph", .str "graph", .str "graph", .str "graph"], .lst [.str "graph", .str "graph", .str "graph", .str "graph", .str "graph", .str "graph"], .lst [.int (0), .int (0)], .dk [], .lst [.non, .int (0), .rot [.int (0)], .rot [.int (0), .int (1)], .rot [.int (0), .int (0), .int (0)], .rot [.int (0), .int (0), .int (2), .int (2)], .rot [.int (1), .int (1)], .loc 10, .rot [.int (0), .str "0"], .str "00", .loc 11, .rot [.int (0), .int (0), .int (1), .int (1), .int (1), .int (1)]], .lst [.non, .int (0), .rot [.int (0)], .rot [.int (0), .int (1)], .rot [.int (0), .int (0), .int (0)], .rot [.int (0), .int (0), .int (2), .int (2)], .rot [.int (1), .int (1)], .loc 10, .rot [.int (0), .str "0"], .str "00", .loc 11, .rot [.int (0), .int (0), .int (1), .int (1), .int (1), .int (1)], .rot [.int (-1), .int (-1)], .rot [.int (0), .int (1), .int (2), .int (3), .int (4), .int (5), .int (6), .int (7), .int (8), .int (0), .int (1), .int (2), .int (3), .int (4), .int (5), .int (6), .int (7), .int (8)], .rot [.int (0), .int (0), .bl true, .bl true], .rot [.int (0), .non]], .lst [.non, .int (-1), .int (3), .bl true, .str "0", .rot [.int (0)], .int (100000000000000000000000000000000000000000000000000000000000)], .lst [.int (0)], .dk [], .lst [.non, .int (0), .loc 15, .rot [.int (3)], .rot [.int (-1)], .rot [.int (1), .int (0)], .rot [.int (0), .int (0)], .rot [.bl true], .rot [.str "0"], .loc 16, .rot [.non]], .lst [.str "operation", .str "operation", .str "operation", .str "operation"], .lst [.str "operation", .str "operation", .str "operation", .str "operation", .str "operation", .str "operation"], .lst [.str "fine", .str "fine", .str "fine", .str y0], .lst [.str "fine", .str "fine", .str "fine", .str y0, .str "lot", .str "lot"], .lst [.int (1), .int (0)], .dk [], .lst [.non, .int (0), .rot [.int (0)], .rot [.int (1), .int (1)], .rot [.int (0), .int (1), .int (2), .int (3)], .loc 22, .rot [.int (1), .int (2)], .rot [.bl true, .bl false], .str "web", .loc 23, .rot [.int (1), .non]], .lst [.rot [.int (0), .int (1)], .rot [.int (2), .int (5), .int (4), .int (1), .int (0), .int (3)], .rot [.int (1), .int (2), .int (3), .int (4), .int (5), .int (6), .int (7), .int (8), .int (9), .int (10), .int (11), .int (12), .int (13), .int (14), .int (15), .int (16), .int (17), .int (0)]], .lst [.str "operation", .str "web"]]
theorem st14_ (x0 : PV) (x1 : PV) (x2 : PV) (x3 : PV) (x5 : PV) (y0 : Str) (a b c : Int)  : ((List.range 11).map fun r4 => evS ER (nthS bR 14) [some (.loc 0), some (x0), some (x1), some (x2), some (x3), some (.rot [.int (0), .int (1), .int (2), .int (0), .int (1), .int (2)]), some (.str "operation"), some ((its4.getD r4 .non)), some (x5), none] (S18 a b c y0)) = ((List.range 11).map fun r4 => .next [some (.loc 0), some (x0), some (x1), some (x2), some (x3), some (.rot [.int (0), .int (1), .int (2), .int (0), .int (1), .int (2)]), some (.str "operation"), some ((its4.getD r4 .non)), some (x5), some (.loc 26)] (S19 a b c y0)) := by
  unfold ER
  rw [← evKC_eq P C_eq true 14]
  kernel_rfl
theorem st14 (x0 : PV) (x1 : PV) (x2 : PV) (x3 : PV) (x5 : PV) (y0 : Str) (a b c : Int) (r4 : Nat) (h4 : r4 < 11) : evS ER (nthS bR 14) [some (.loc 0), some (x0), some (x1), some (x2), some (x3), some (.rot [.int (0), .int (1), .int (2), .int (0), .int (1), .int (2)]), some (.str "operation"), some ((its4.getD r4 .non)), some (x5), none] (S18 a b c y0) = .next [some (.loc 0), some (x0), some (x1), some (x2), some (x3), some (.rot [.int (0), .int (1), .int (2), .int (0), .int (1), .int (2)]), some (.str "operation"), some ((its4.getD r4 .non)), some (x5), some (.loc 26)] (S19 a b c y0) := of_range (st14_ x0 x1 x2 x3 x5 y0 a b c ) r4 h4
def S20 (a b c : Int) (y0 : Str) : Store := [dl a b c, .lst [.rot [.int (0), .int (1)]], .lst [.int (2), .rot []], .lst [.non, .int (0), .rot [], .rot [.int (2)], .rot [.int (2), .loc 1], .rot [.int (2), .rot [.rot [.int (1), .int (0)]]], .rot [.int (2), .rot [.rot [.int (0), .int (2)]]], .rot [.int (2), .rot [.rot [.int (0), .int (1)], .rot [.int (0), .int (1)]]], .loc 2, .rot [.int (11), .rot []]], .lst [.non, .int (0), .rot [], .rot [.int (2)], .rot [.int (2), .loc 1], .rot [.int (2), .rot [.rot [.int (1), .int (0)]]], .rot [.int (2), .rot [.rot [.int (0), .int (2)]]], .rot [.int (2), .rot [.rot [.int (0), .int (1)], .rot [.int (0), .int (1)]]], .loc 2, .rot [.int (11), .rot []], .rot [.int (2), .rot [.rot [.int (0), .int (0)]]], .rot [.int (2), .rot [.rot [.int (0), .bl true]]]], .dk [], .lst [.non, .int (0), .rot [], .rot [.int (2)], .rot [.int (2), .loc 1], .rot [.int (2), .rot [.rot [.int (1), .int (0)]]], .rot [.int (2), .rot [.rot [.int (0), .int (2)]]], .rot [.int (2), .rot [.rot [.int (0), .int (1)], .rot [.int (0), .int (1)]]], .loc 2, .rot [.int (11), .rot []], .rot [.int (2), .rot [.rot [.int (0), .int (0)]]], .rot [.int (2), .rot [.rot [.int (0), .bl true]]], .rot [.int (-1), .rot []], .rot [.bl true, .rot []], .rot [.int (3), .rot [.rot [.int (1), .int (2)], .rot [.int (0), .int (1)]]], .str "graph", .loc 5], .lst [.str "graph", .str "graph"], .lst [.str "graph", .str "graph", .str "graph", .str "graph"], .lst [.str "graph", .str "graph", .str "graph", .str "graph", .str "graph", .str "graph"], .lst [.int (0), .int (0)], .dk [], .lst [.non, .int (0), .rot [.int (0)], .rot [.int (0), .int (1)], .rot [.int (0), .int (0), .int (0)], .rot [.int (0), .int (0), .int (2), .int (2)], .rot [.int (1), .int (1)], .loc 10, .rot [.int (0), .str "0"], .str "00", .loc 11, .rot [.int (0), .int (0), .int (1), .int (1), .int (1), .int (1)]], .lst [.non, .int (0), .rot [.int (0)], .rot [.int (0), .int (1)], .rot [.int (0), .int (0), .int (0)], .rot [.int (0), .int (0), .int (2), .int (2)], .rot [.int (1), .int (1)], .loc 10, .rot [.int (0), .str "0"], .str "00", .loc 11, .rot [.int (0), .int (0), .int (1), .int (1), .int (1), .int (1)], .rot [.int (-1), .int (-1)], .rot [.int (0), .int (1), .int (2), .int (3), .int (4), .int (5), .int (6), .int (7), .int (8), .int (0), .int (1), .int (2), .int (3), .int (4), .int (5), .int (6), .int (7), .int (8)], .rot [.int (0), .int (0), .bl true, .bl true], .rot [.int (0), .non]], .lst [.non, .int (-1), .int (3), .bl true, .str "0", .rot [.int (0)], .int (100000000000000000000000000000000000000000000000000000000000)], .lst [.int (0)], .dk [], .lst [.non, .int (0), .loc 15, .rot [.int (3)], .rot [.int (-1)], .rot [.int (1), .int (0)], .rot [.int (0), .int (0)], .rot [.bl true], .rot [.str "0"], .loc 16, .rot [.non]], .lst [.str "operation", .str "operation", .str "operation", .str "operation"], .lst [.str "operation", .str "operation", .str "operation", .str "operation", .str "operation", .str "operation"], .lst [.str "fine", .str "fine", .str "fine", .str y0], .lst [.str "fine", .str "fine", .str "fine", .str y0, .str "lot", .str "lot"], .lst [.int (1), .int (0)], .dk [], .lst [.non, .int (0), .rot [.int (0)], .rot [.int (1), .int (1)], .rot [.int (0), .int (1), .int (2), .int (3)], .loc 22, .rot [.int (1), .int (2)], .rot [.bl true, .bl false], .str "web", .loc 23, .rot [.int (1), .non]], .lst [.rot [.int (0), .int (1)], .rot [.int (2), .int (5), .int (4), .int (1), .int (0), .int (3)], .rot [.int (1), .int (2), .int (3), .int (4), .int (5), .int (6), .int (7), .int (8), .int (9), .int (10), .int (11), .int (12), .int (13), .int (14), .int (15), .int (16), .int (17), .int (0)]], .lst [.str "operation", .str "web", .str "operation"]]
theorem st15_ (x0 : PV) (x1 : PV) (x2 : PV) (x3 : PV) (x4 : PV) (y0 : Str) (a b c : Int)  : ((List.range 3).map fun r5 => evS ER (nthS bR 15) [some (.loc 0), some (x0), some (x1), some (x2), some (x3), some (.rot [.int (0), .int (1), .int (2), .int (0), .int (1), .int (2)]), some (.str "operation"), some (x4), some ((its5.getD r5 .non)), some (.loc 26)] (S19 a b c y0)) = ((List.range 3).map fun r5 => .next [some (.loc 0), some (x0), some (x1), some (x2), some (x3), some (.rot [.int (0), .int (1), .int (2), .int (0), .int (1), .int (2)]), some (.str "operation"), some (x4), some ((its5.getD r5 .non)), some (.loc 26)] (S20 a b c y0)) := by
  unfold ER
  rw [← evKC_eq P C_eq true 14]
  kernel_rfl
theorem st15 (x0 : PV) (x1 : PV) (x2 : PV) (x3 : PV) (x4 : PV) (y0 : Str) (a b c : Int) (r5 : Nat) (h5 : r5 < 3) : evS ER (nthS bR 15) [some (.loc 0), some (x0), some (x1), some (x2), some (x3), some (.rot [.int (0), .int (1), .int (2), .int (0), .int (1), .int (2)]), some (.str "operation"), some (x4), some ((its5.getD r5 .non)), some (.loc 26)] (S19 a b c y0) = .next [some (.loc 0), some (x0), some (x1), some (x2), some (x3), some (.rot [.int (0), .int (1), .int (2), .int (0), .int (1), .int (2)]), some (.str "operation"), some (x4), some ((its5.getD r5 .non)), some (.loc 26)] (S20 a b c y0) := of_range (st15_ x0 x1 x2 x3 x4 y0 a b c ) r5 h5
theorem st16 (x0 : PV) (x1 : PV) (x2 : PV) (x3 : PV) (x4 : PV) (x5 : PV) (y0 : Str) (a b c : Int)  : evS ER (nthS bR 16) [some (.loc 0), some (x0), some (x1), some (x2), some (x3), some (.rot [.int (0), .int (1), .int (2), .int (0), .int (1), .int (2)]), some (.str "operation"), some (x4), some (x5), some (.loc 26)] (S20 a b c y0) = .ret (.bl true) (S20 a b c y0) := by
  unfold ER
  rw [← evKC_eq P C_eq true 14]
  kernel_rfl
theorem right (a b c : Int) (hc : 0 ≤ c) (hc2 : c < 2 ^ 58) : ∃ (a' c' : Int) (G : Store), (c ≤ c' ∧ c' ≤ c + 6) ∧ runFn ER f81 [.loc 0] [dl a b c] = .ok (.bl true) (dl a' b c' :: G) := by
  have q0 := st0  a b c  
  have q1 := st1  a b c  
  obtain ⟨r0, A1, C1, h0, D1, q2⟩ := st2  a b c (by omega) (by omega)
  have q3 := st3  A1 b C1 r0 h0
  have q4 := st4 (its0.getD r0 .non) A1 b C1  
  obtain ⟨r1, A2, C2, h1, D2, q5⟩ := st5 (its0.getD r0 .non) A1 b C1 (by omega) (by omega)
  obtain ⟨r2, A3, C3, h2, D3, q6⟩ := st6 (its0.getD r0 .non) (its1.getD r1 .non) A2 b C2 (by omega) (by omega)
  obtain ⟨r3, A4, C4, h3, D4, q7⟩ := st7 (its0.getD r0 .non) (its1.getD r1 .non) (its2.getD r2 .non) A3 b C3 (by omega) (by omega)
  have q8 := st8 (its2.getD r2 .non) (its3.getD r3 .non) (its0.getD r0 .non) A4 b C4 r1 h1
  have q9 := st9 (its0.getD r0 .non) (its1.getD r1 .non) (its2.getD r2 .non) (its3.getD r3 .non) A4 b C4  
  have q10 := st10 (its0.getD r0 .non) (its1.getD r1 .non) A4 b C4 r2 r3 h2 h3
  have q11 := st11 (its0.getD r0 .non) (its1.getD r1 .non) (its2.getD r2 .non) (its3.getD r3 .non) (tab0 r2) A4 b C4  
  obtain ⟨r4, A5, C5, h4, D5, q12⟩ := st12 (its0.getD r0 .non) (its1.getD r1 .non) (its2.getD r2 .non) (its3.getD r3 .non) (tab0 r2) A4 b C4 (by omega) (by omega)
  obtain ⟨r5, A6, C6, h5, D6, q13⟩ := st13 (its0.getD r0 .non) (its1.getD r1 .non) (its2.getD r2 .non) (its3.getD r3 .non) (its4.getD r4 .non) (tab0 r2) A5 b C5 (by omega) (by omega)
  have q14 := st14 (its0.getD r0 .non) (its1.getD r1 .non) (its2.getD r2 .non) (its3.getD r3 .non) (its5.getD r5 .non) (tab0 r2) A6 b C6 r4 h4
  have q15 := st15 (its0.getD r0 .non) (its1.getD r1 .non) (its2.getD r2 .non) (its3.getD r3 .non) (its4.getD r4 .non) (tab0 r2) A6 b C6 r5 h5
  have q16 := st16 (its0.getD r0 .non) (its1.getD r1 .non) (its2.getD r2 .non) (its3.getD r3 .non) (its4.getD r4 .non) (its5.getD r5 .non) (tab0 r2) A6 b C6  
  refine ⟨A6, C6, (S20 A6 b C6 (tab0 r2)).tail, ⟨by omega, by omega⟩, ?_⟩
  have z : evSs ER bR (some (.loc 0) :: List.replicate 9 none) [dl a b c] = .ret (.bl true) (S20 A6 b C6 (tab0 r2)) := by
    refine (evSs_next (s := nthS bR 0) (r := dropS bR 1) q0).trans ?_
    refine (evSs_next (s := nthS bR 1) (r := dropS bR 2) q1).trans ?_
    refine (evSs_next (s := nthS bR 2) (r := dropS bR 3) q2).trans ?_
    refine (evSs_next (s := nthS bR 3) (r := dropS bR 4) q3).trans ?_
    refine (evSs_next (s := nthS bR 4) (r := dropS bR 5) q4).trans ?_
    refine (evSs_next (s := nthS bR 5) (r := dropS bR 6) q5).trans ?_
    refine (evSs_next (s := nthS bR 6) (r := dropS bR 7) q6).trans ?_
    refine (evSs_next (s := nthS bR 7) (r := dropS bR 8) q7).trans ?_
    refine (evSs_next (s := nthS bR 8) (r := dropS bR 9) q8).trans ?_
    refine (evSs_next (s := nthS bR 9) (r := dropS bR 10) q9).trans ?_
    refine (evSs_next (s := nthS bR 10) (r := dropS bR 11) q10).trans ?_
    refine (evSs_next (s := nthS bR 11) (r := dropS bR 12) q11).trans ?_
    refine (evSs_next (s := nthS bR 12) (r := dropS bR 13) q12).trans ?_
    refine (evSs_next (s := nthS bR 13) (r := dropS bR 14) q13).trans ?_
    refine (evSs_next (s := nthS bR 14) (r := dropS bR 15) q14).trans ?_
    refine (evSs_next (s := nthS bR 15) (r := dropS bR 16) q15).trans ?_
    exact evSs_ret (s := nthS bR 16) (r := dropS bR 17) q16
  show outOf (evSs ER bR (some (.loc 0) :: List.replicate 9 none) [dl a b c]) = _
  rw [z]
  rfl
end AST
namespace AST
open PySem EV
abbrev EL : Ev := evK P 15 true
abbrev en (ns : List Int) (p1 p3 p4 : Option PV) : EV.Env := [some (.rol (ns.map .int)), p1, none, p3, p4, none, none]
abbrev lp : Sx := nthS f82.body 0
def lpB : Sxs := match lp with
  | .for_ _ _ b => b
  | _ => .nil
theorem callR (S : Store) (a b c : Int) (hc : 0 ≤ c) (hc2 : c < 2 ^ 58) : ∃ a' c', (c ≤ c' ∧ c' ≤ c + 6) ∧ EL.call 81 [.loc S.length] (S ++ [dl a b c]) = .ok (.bl true) (S ++ [dl a' b c']) := by
  obtain ⟨a', c', G, hb, h⟩ := right a b c hc hc2
  exact ⟨a', c', hb, hlast h⟩
theorem callD (S : Store) (ns : List Int) (i : Int) (h0 : 0 ≤ i) (h1 : i < 2 ^ 60) : ∃ a b, EL.call 75 [.rol (ns.map .int), .int i] S = .ok (.loc S.length) (S ++ [dl a b 0]) := hdice (E := evK P 14 true) S ns i h0 h1
abbrev inr : Sx := nthS lpB 1
def inB : Sxs := match inr with
  | .for_ _ _ b => b
  | _ => .nil
theorem one (ns : List Int) (p1 : Option PV) (p4 : Option PV) (S : Store) (a b c : Int) (hc : 0 ≤ c) (hc2 : c < 2 ^ 58) : ∃ a' c', (c ≤ c' ∧ c' ≤ c + 6) ∧ evSs EL inB (en ns p1 (some (.loc S.length)) p4) (S ++ [dl a b c]) = .next (en ns p1 (some (.loc S.length)) p4) (S ++ [dl a' b c']) := by
  obtain ⟨a', c', hb, h⟩ := callR S a b c hc hc2
  refine ⟨a', c', hb, ?_⟩
  simp [inB, inr, lpB, lp, nthS, f82, ss, xs]
  simp [evSs]
  simp [evS, evT]
  simp [ev, evs]
  simp [Res.bind, keep, h]
  simp [orBad, truth, bl, Res.andS, evSs]
theorem inn (ns : List Int) (p1 : Option PV) (p4 : Option PV) (S : Store) (a b : Int) : ∃ q a' c', evS EL inr (en ns p1 (some (.loc S.length)) p4) (S ++ [dl a b 0]) = .next (en ns p1 (some (.loc S.length)) q) (S ++ [dl a' b c']) := by
  obtain ⟨env, S', e, ⟨q, a', c', rfl, rfl, _⟩⟩ := for_rng (body := fun p env S => (asg EL (.nm 4) p env S).calm.andS env fun env S => evSs EL inB env S) (lo := 0) (n := 2)
    (fun k env S' => ∃ q a' c', env = en ns p1 (some (.loc S.length)) q ∧ S' = S ++ [dl a' b c'] ∧ (0 ≤ c' ∧ c' ≤ 6 * k)) (fun k hk env S' q => by
      obtain ⟨q, a', c', rfl, rfl, h0, h1⟩ := q
      obtain ⟨a2, c2, hb, e⟩ := one ns p1 (some (.int (0 + (k : Int)))) S a' b c' h0 (by omega)
      exact ⟨_, _, e, _, a2, c2, rfl, rfl, by omega, by omega⟩) fuel 0 (en ns p1 (some (.loc S.length)) p4) (S ++ [dl a b 0]) (by show 2 - 0 < 1000000; omega) (by omega) ⟨_, a, 0, rfl, rfl, by omega, by omega⟩
  exact ⟨q, a', c', e⟩
theorem turn (ns : List Int) (p3 : Option PV) (p4 : Option PV) (S : Store) (i : Int) (h0 : 0 ≤ i) (h1 : i < 2 ^ 60) : ∃ p q a b c, evSs EL lpB (en ns (some (.int i)) p3 p4) S = .next (en ns (some (.int i)) p q) (S ++ [dl a b c]) := by
  obtain ⟨a, b, h⟩ := callD S ns i h0 h1
  obtain ⟨q, a', c', h2⟩ := inn ns (some (.int i)) p4 S a b
  refine ⟨some (.loc S.length), q, a', b, c', ?_⟩
  have e0 : evS EL (nthS lpB 0) (en ns (some (.int i)) p3 p4) S = .next (en ns (some (.int i)) (some (.loc S.length)) p4) (S ++ [dl a b 0]) := by
    simp [lpB, lp, nthS, f82, ss, xs, evSs, evS, evT, ev, evs, Res.bind, Res.andS, h, keep, orBad, truth, bl, asg, Res.calm, List.set]
  refine (evSs_next (s := nthS lpB 0) (r := tlS lpB) e0).trans ?_
  refine (evSs_next (s := inr) (r := .nil) h2).trans ?_
  rfl
abbrev dls (l : List (Int × Int × Int)) : Store := l.map fun d => dl d.1 d.2.1 d.2.2
theorem loop (ns : List Int) : ∃ (p1 p3 p4 : Option PV) (l : List (Int × Int × Int)), 1 ≤ l.length ∧ l.length ≤ 5 ∧ evS EL lp (en ns none none none) [] = .next (en ns p1 p3 p4) (dls l) := by
  obtain ⟨n, h1, h2, h⟩ := spots_ok (E := EL) 5 (by decide) (by decide) ns [none, none, none, none, none, none] []
  obtain ⟨env, S, e, ⟨p1, p3, p4, rfl⟩, l, rfl, hl⟩ := for_rng (body := fun p env S => (asg EL (.nm 1) p env S).calm.andS env fun env S => evSs EL lpB env S) (lo := 0) (n := n)
    (fun k env S => (∃ p1 p3 p4, env = en ns p1 p3 p4) ∧ ∃ l, S = dls l ∧ l.length = k) (fun k hk env S q => by
      obtain ⟨⟨p1, p3, p4, rfl⟩, l, rfl, hl⟩ := q
      obtain ⟨p, q, a, b, c, e⟩ := turn ns p3 p4 (dls l) (0 + (k : Int)) (by omega) (by omega)
      exact ⟨_, _, e, ⟨_, _, _, rfl⟩, l ++ [(a, b, c)], by simp [dls], by simp [hl]⟩) fuel 0 (en ns none none none) [] (by show n - 0 < 1000000; omega) (by omega) ⟨⟨_, _, _, rfl⟩, [], rfl, rfl⟩
  refine ⟨p1, p3, p4, l, by omega, by omega, ?_⟩
  show (evi EL (spots 5) (en ns none none none) []).andS (en ns none none none) (fun i S => forL (fun p env S => (asg EL (.nm 1) p env S).calm.andS env fun env S => evSs EL lpB env S) i fuel 0 (en ns none none none) S) = _
  rw [h]
  exact e
theorem e1_0 (ns : List Int) (p1 : Option PV) (p3 : Option PV) (p4 : Option PV) (a0 b0 c0 : Int) : evS EL (nthS (tlS f82.body) 0) [some (.rol (ns.map .int)), p1, none, p3, p4, none, none] [dl a0 b0 c0] = .next [some (.rol (ns.map .int)), p1, some (.rot [.int (9), .rot [.rot [.int (0), .int (1)]]]), p3, p4, none, none] [dl a0 b0 c0] := by
  unfold EL
  rw [← evKC_eq P C_eq true 15]
  kernel_rfl
theorem e1_1 (ns : List Int) (p1 : Option PV) (p3 : Option PV) (p4 : Option PV) (a0 b0 c0 : Int) : evS EL (nthS (tlS f82.body) 1) [some (.rol (ns.map .int)), p1, some (.rot [.int (9), .rot [.rot [.int (0), .int (1)]]]), p3, p4, none, none] [dl a0 b0 c0] = .next [some (.rol (ns.map .int)), p1, some (.rot [.int (9), .rot [.rot [.int (0), .int (1)]]]), p3, p4, none, none] [dl a0 b0 c0, .lst [.str "many 8", .str "many 8"], .lst [.str "many 8", .str "many 8", .str "many 8", .str "many 8"], .lst [.str "many 8", .str "many 8", .str "many 8", .str "many 8", .str "many 8", .str "many 8"]] := by
  unfold EL
  rw [← evKC_eq P C_eq true 15]
  kernel_rfl
theorem e1_2 (ns : List Int) (p1 : Option PV) (p3 : Option PV) (p4 : Option PV) (a0 b0 c0 : Int) : evS EL (nthS (tlS f82.body) 2) [some (.rol (ns.map .int)), p1, some (.rot [.int (9), .rot [.rot [.int (0), .int (1)]]]), p3, p4, none, none] [dl a0 b0 c0, .lst [.str "many 8", .str "many 8"], .lst [.str "many 8", .str "many 8", .str "many 8", .str "many 8"], .lst [.str "many 8", .str "many 8", .str "many 8", .str "many 8", .str "many 8", .str "many 8"]] = .next [some (.rol (ns.map .int)), p1, some (.rot [.int (9), .rot [.rot [.int (0), .int (1)]]]), p3, p4, some (.rot [.int (0), .int (1), .int (2), .int (3), .int (4), .int (5), .int (6), .int (7), .int (0), .int (1), .int (2), .int (3), .int (4), .int (5), .int (6), .int (7)]), some (.rot [.int (1), .int (2), .int (3), .int (4), .int (5), .int (6), .int (7), .int (8), .int (9), .int (10), .int (11), .int (12), .int (13), .int (14), .int (15), .int (0)])] [dl a0 b0 c0, .lst [.str "many 8", .str "many 8"], .lst [.str "many 8", .str "many 8", .str "many 8", .str "many 8"], .lst [.str "many 8", .str "many 8", .str "many 8", .str "many 8", .str "many 8", .str "many 8"]] := by
  unfold EL
  rw [← evKC_eq P C_eq true 15]
  kernel_rfl
theorem e1_3 (ns : List Int) (p1 : Option PV) (p3 : Option PV) (p4 : Option PV) (a0 b0 c0 : Int) : evS EL (nthS (tlS f82.body) 3) [some (.rol (ns.map .int)), p1, some (.rot [.int (9), .rot [.rot [.int (0), .int (1)]]]), p3, p4, some (.rot [.int (0), .int (1), .int (2), .int (3), .int (4), .int (5), .int (6), .int (7), .int (0), .int (1), .int (2), .int (3), .int (4), .int (5), .int (6), .int (7)]), some (.rot [.int (1), .int (2), .int (3), .int (4), .int (5), .int (6), .int (7), .int (8), .int (9), .int (10), .int (11), .int (12), .int (13), .int (14), .int (15), .int (0)])] [dl a0 b0 c0, .lst [.str "many 8", .str "many 8"], .lst [.str "many 8", .str "many 8", .str "many 8", .str "many 8"], .lst [.str "many 8", .str "many 8", .str "many 8", .str "many 8", .str "many 8", .str "many 8"]] = .ret (.bl true) [dl a0 b0 c0, .lst [.str "many 8", .str "many 8"], .lst [.str "many 8", .str "many 8", .str "many 8", .str "many 8"], .lst [.str "many 8", .str "many 8", .str "many 8", .str "many 8", .str "many 8", .str "many 8"], .lst [.str "fine", .str "fine", .str "fine", .str "fine"], .lst [.str "fine", .str "fine", .str "fine", .str "fine", .str "fine", .str "fine"]] := by
  unfold EL
  rw [← evKC_eq P C_eq true 15]
  kernel_rfl
theorem end1 (ns : List Int) (p1 : Option PV) (p3 : Option PV) (p4 : Option PV) (a0 b0 c0 : Int) : ∃ S, evSs EL (tlS f82.body) (en ns p1 p3 p4) [dl a0 b0 c0] = .ret (.bl true) S := by
  refine ⟨[dl a0 b0 c0, .lst [.str "many 8", .str "many 8"], .lst [.str "many 8", .str "many 8", .str "many 8", .str "many 8"], .lst [.str "many 8", .str "many 8", .str "many 8", .str "many 8", .str "many 8", .str "many 8"], .lst [.str "fine", .str "fine", .str "fine", .str "fine"], .lst [.str "fine", .str "fine", .str "fine", .str "fine", .str "fine", .str "fine"]], ?_⟩
  refine (evSs_next (s := nthS (tlS f82.body) 0) (r := dropS (tlS f82.body) 1) (e1_0 ns p1 p3 p4 a0 b0 c0)).trans ?_
  refine (evSs_next (s := nthS (tlS f82.body) 1) (r := dropS (tlS f82.body) 2) (e1_1 ns p1 p3 p4 a0 b0 c0)).trans ?_
  refine (evSs_next (s := nthS (tlS f82.body) 2) (r := dropS (tlS f82.body) 3) (e1_2 ns p1 p3 p4 a0 b0 c0)).trans ?_
  exact evSs_ret (s := nthS (tlS f82.body) 3) (r := dropS (tlS f82.body) 4) (e1_3 ns p1 p3 p4 a0 b0 c0)
theorem e2_0 (ns : List Int) (p1 : Option PV) (p3 : Option PV) (p4 : Option PV) (a0 b0 c0 a1 b1 c1 : Int) : evS EL (nthS (tlS f82.body) 0) [some (.rol (ns.map .int)), p1, none, p3, p4, none, none] [dl a0 b0 c0, dl a1 b1 c1] = .next [some (.rol (ns.map .int)), p1, some (.rot [.int (9), .rot [.rot [.int (0), .int (1)]]]), p3, p4, none, none] [dl a0 b0 c0, dl a1 b1 c1] := by
  unfold EL
  rw [← evKC_eq P C_eq true 15]
  kernel_rfl
theorem e2_1 (ns : List Int) (p1 : Option PV) (p3 : Option PV) (p4 : Option PV) (a0 b0 c0 a1 b1 c1 : Int) : evS EL (nthS (tlS f82.body) 1) [some (.rol (ns.map .int)), p1, some (.rot [.int (9), .rot [.rot [.int (0), .int (1)]]]), p3, p4, none, none] [dl a0 b0 c0, dl a1 b1 c1] = .next [some (.rol (ns.map .int)), p1, some (.rot [.int (9), .rot [.rot [.int (0), .int (1)]]]), p3, p4, none, none] [dl a0 b0 c0, dl a1 b1 c1, .lst [.str "many 8", .str "many 8"], .lst [.str "many 8", .str "many 8", .str "many 8", .str "many 8"], .lst [.str "many 8", .str "many 8", .str "many 8", .str "many 8", .str "many 8", .str "many 8"]] := by
  unfold EL
  rw [← evKC_eq P C_eq true 15]
  kernel_rfl
theorem e2_2 (ns : List Int) (p1 : Option PV) (p3 : Option PV) (p4 : Option PV) (a0 b0 c0 a1 b1 c1 : Int) : evS EL (nthS (tlS f82.body) 2) [some (.rol (ns.map .int)), p1, some (.rot [.int (9), .rot [.rot [.int (0), .int (1)]]]), p3, p4, none, none] [dl a0 b0 c0, dl a1 b1 c1, .lst [.str "many 8", .str "many 8"], .lst [.str "many 8", .str "many 8", .str "many 8", .str "many 8"], .lst [.str "many 8", .str "many 8", .str "many 8", .str "many 8", .str "many 8", .str "many 8"]] = .next [some (.rol (ns.map .int)), p1, some (.rot [.int (9), .rot [.rot [.int (0), .int (1)]]]), p3, p4, some (.rot [.int (0), .int (1), .int (2), .int (3), .int (4), .int (5), .int (6), .int (7), .int (0), .int (1), .int (2), .int (3), .int (4), .int (5), .int (6), .int (7)]), some (.rot [.int (1), .int (2), .int (3), .int (4), .int (5), .int (6), .int (7), .int (8), .int (9), .int (10), .int (11), .int (12), .int (13), .int (14), .int (15), .int (0)])] [dl a0 b0 c0, dl a1 b1 c1, .lst [.str "many 8", .str "many 8"], .lst [.str "many 8", .str "many 8", .str "many 8", .str "many 8"], .lst [.str "many 8", .str "many 8", .str "many 8", .str "many 8", .str "many 8", .str "many 8"]] := by
  unfold EL
  rw [← evKC_eq P C_eq true 15]
  kernel_rfl
theorem e2_3 (ns : List Int) (p1 : Option PV) (p3 : Option PV) (p4 : Option PV) (a0 b0 c0 a1 b1 c1 : Int) : evS EL (nthS (tlS f82.body) 3) [some (.rol (ns.map .int)), p1, some (.rot [.int (9), .rot [.rot [.int (0), .int (1)]]]), p3, p4, some (.rot [.int (0), .int (1), .int (2), .int (3), .int (4), .int (5), .int (6), .int (7), .int (0), .int (1), .int (2), .int (3), .int (4), .int (5), .int (6), .int (7)]), some (.rot [.int (1), .int (2), .int (3), .int (4), .int (5), .int (6), .int (7), .int (8), .int (9), .int (10), .int (11), .int (12), .int (13), .int (14), .int (15), .int (0)])] [dl a0 b0 c0, dl a1 b1 c1, .lst [.str "many 8", .str "many 8"], .lst [.str "many 8", .str "many 8", .str "many 8", .str "many 8"], .lst [.str "many 8", .str "many 8", .str "many 8", .str "many 8", .str "many 8", .str "many 8"]] = .ret (.bl true) [dl a0 b0 c0, dl a1 b1 c1, .lst [.str "many 8", .str "many 8"], .lst [.str "many 8", .str "many 8", .str "many 8", .str "many 8"], .lst [.str "many 8", .str "many 8", .str "many 8", .str "many 8", .str "many 8", .str "many 8"], .lst [.str "fine", .str "fine", .str "fine", .str "fine"], .lst [.str "fine", .str "fine", .str "fine", .str "fine", .str "fine", .str "fine"]] := by
  unfold EL
  rw [← evKC_eq P C_eq true 15]
  kernel_rfl
theorem end2 (ns : List Int) (p1 : Option PV) (p3 : Option PV) (p4 : Option PV) (a0 b0 c0 a1 b1 c1 : Int) : ∃ S, evSs EL (tlS f82.body) (en ns p1 p3 p4) [dl a0 b0 c0, dl a1 b1 c1] = .ret (.bl true) S := by
  refine ⟨[dl a0 b0 c0, dl a1 b1 c1, .lst [.str "many 8", .str "many 8"], .lst [.str "many 8", .str "many 8", .str "many 8", .str "many 8"], .lst [.str "many 8", .str "many 8", .str "many 8", .str "many 8", .str "many 8", .str "many 8"], .lst [.str "fine", .str "fine", .str "fine", .str "fine"], .lst [.str "fine", .str "fine", .str "fine", .str "fine", .str "fine", .str "fine"]], ?_⟩
  refine (evSs_next (s := nthS (tlS f82.body) 0) (r := dropS (tlS f82.body) 1) (e2_0 ns p1 p3 p4 a0 b0 c0 a1 b1 c1)).trans ?_
  refine (evSs_next (s := nthS (tlS f82.body) 1) (r := dropS (tlS f82.body) 2) (e2_1 ns p1 p3 p4 a0 b0 c0 a1 b1 c1)).trans ?_
  refine (evSs_next (s := nthS (tlS f82.body) 2) (r := dropS (tlS f82.body) 3) (e2_2 ns p1 p3 p4 a0 b0 c0 a1 b1 c1)).trans ?_
  exact evSs_ret (s := nthS (tlS f82.body) 3) (r := dropS (tlS f82.body) 4) (e2_3 ns p1 p3 p4 a0 b0 c0 a1 b1 c1)
theorem e3_0 (ns : List Int) (p1 : Option PV) (p3 : Option PV) (p4 : Option PV) (a0 b0 c0 a1 b1 c1 a2 b2 c2 : Int) : evS EL (nthS (tlS f82.body) 0) [some (.rol (ns.map .int)), p1, none, p3, p4, none, none] [dl a0 b0 c0, dl a1 b1 c1, dl a2 b2 c2] = .next [some (.rol (ns.map .int)), p1, some (.rot [.int (9), .rot [.rot [.int (0), .int (1)]]]), p3, p4, none, none] [dl a0 b0 c0, dl a1 b1 c1, dl a2 b2 c2] := by
  unfold EL
  rw [← evKC_eq P C_eq true 15]
  kernel_rfl
theorem e3_1 (ns : List Int) (p1 : Option PV) (p3 : Option PV) (p4 : Option PV) (a0 b0 c0 a1 b1 c1 a2 b2 c2 : Int) : evS EL (nthS (tlS f82.body) 1) [some (.rol (ns.map .int)), p1, some (.rot [.int (9), .rot [.rot [.int (0), .int (1)]]]), p3, p4, none, none] [dl a0 b0 c0, dl a1 b1 c1, dl a2 b2 c2] = .next [some (.rol (ns.map .int)), p1, some (.rot [.int (9), .rot [.rot [.int (0), .int (1)]]]), p3, p4, none, none] [dl a0 b0 c0, dl a1 b1 c1, dl a2 b2 c2, .lst [.str "many 8", .str "many 8"], .lst [.str "many 8", .str "many 8", .str "many 8", .str "many 8"], .lst [.str "many 8", .str "many 8", .str "many 8", .str "many 8", .str "many 8", .str "many 8"]] := by
  unfold EL
  rw [← evKC_eq P C_eq true 15]
  kernel_rfl
theorem e3_2 (ns : List Int) (p1 : Option PV) (p3 : Option PV) (p4 : Option PV) (a0 b0 c0 a1 b1 c1 a2 b2 c2 : Int) : evS EL (nthS (tlS f82.body) 2) [some (.rol (ns.map .int)), p1, some (.rot [.int (9), .rot [.rot [.int (0), .int (1)]]]), p3, p4, none, none] [dl a0 b0 c0, dl a1 b1 c1, dl a2 b2 c2, .lst [.str "many 8", .str "many 8"], .lst [.str "many 8", .str "many 8", .str "many 8", .str "many 8"], .lst [.str "many 8", .str "many 8", .str "many 8", .str "many 8", .str "many 8", .str "many 8"]] = .next [some (.rol (ns.map .int)), p1, some (.rot [.int (9), .rot [.rot [.int (0), .int (1)]]]), p3, p4, some (.rot [.int (0), .int (1), .int (2), .int (3), .int (4), .int (5), .int (6), .int (7), .int (0), .int (1), .int (2), .int (3), .int (4), .int (5), .int (6), .int (7)]), some (.rot [.int (1), .int (2), .int (3), .int (4), .int (5), .int (6), .int (7), .int (8), .int (9), .int (10), .int (11), .int (12), .int (13), .int (14), .int (15), .int (0)])] [dl a0 b0 c0, dl a1 b1 c1, dl a2 b2 c2, .lst [.str "many 8", .str "many 8"], .lst [.str "many 8", .str "many 8", .str "many 8", .str "many 8"], .lst [.str "many 8", .str "many 8", .str "many 8", .str "many 8", .str "many 8", .str "many 8"]] := by
  unfold EL
  rw [← evKC_eq P C_eq true 15]
  kernel_rfl
theorem e3_3 (ns : List Int) (p1 : Option PV) (p3 : Option PV) (p4 : Option PV) (a0 b0 c0 a1 b1 c1 a2 b2 c2 : Int) : evS EL (nthS (tlS f82.body) 3) [some (.rol (ns.map .int)), p1, some (.rot [.int (9), .rot [.rot [.int (0), .int (1)]]]), p3, p4, some (.rot [.int (0), .int (1), .int (2), .int (3), .int (4), .int (5), .int (6), .int (7), .int (0), .int (1), .int (2), .int (3), .int (4), .int (5), .int (6), .int (7)]), some (.rot [.int (1), .int (2), .int (3), .int (4), .int (5), .int (6), .int (7), .int (8), .int (9), .int (10), .int (11), .int (12), .int (13), .int (14), .int (15), .int (0)])] [dl a0 b0 c0, dl a1 b1 c1, dl a2 b2 c2, .lst [.str "many 8", .str "many 8"], .lst [.str "many 8", .str "many 8", .str "many 8", .str "many 8"], .lst [.str "many 8", .str "many 8", .str "many 8", .str "many 8", .str "many 8", .str "many 8"]] = .ret (.bl true) [dl a0 b0 c0, dl a1 b1 c1, dl a2 b2 c2, .lst [.str "many 8", .str "many 8"], .lst [.str "many 8", .str "many 8", .str "many 8", .str "many 8"], .lst [.str "many 8", .str "many 8", .str "many 8", .str "many 8", .str "many 8", .str "many 8"], .lst [.str "fine", .str "fine", .str "fine", .str "fine"], .lst [.str "fine", .str "fine", .str "fine", .str "fine", .str "fine", .str "fine"]] := by
  unfold EL
  rw [← evKC_eq P C_eq true 15]
  kernel_rfl
theorem end3 (ns : List Int) (p1 : Option PV) (p3 : Option PV) (p4 : Option PV) (a0 b0 c0 a1 b1 c1 a2 b2 c2 : Int) : ∃ S, evSs EL (tlS f82.body) (en ns p1 p3 p4) [dl a0 b0 c0, dl a1 b1 c1, dl a2 b2 c2] = .ret (.bl true) S := by
  refine ⟨[dl a0 b0 c0, dl a1 b1 c1, dl a2 b2 c2, .lst [.str "many 8", .str "many 8"], .lst [.str "many 8", .str "many 8", .str "many 8", .str "many 8"], .lst [.str "many 8", .str "many 8", .str "many 8", .str "many 8", .str "many 8", .str "many 8"], .lst [.str "fine", .str "fine", .str "fine", .str "fine"], .lst [.str "fine", .str "fine", .str "fine", .str "fine", .str "fine", .str "fine"]], ?_⟩
  refine (evSs_next (s := nthS (tlS f82.body) 0) (r := dropS (tlS f82.body) 1) (e3_0 ns p1 p3 p4 a0 b0 c0 a1 b1 c1 a2 b2 c2)).trans ?_
  refine (evSs_next (s := nthS (tlS f82.body) 1) (r := dropS (tlS f82.body) 2) (e3_1 ns p1 p3 p4 a0 b0 c0 a1 b1 c1 a2 b2 c2)).trans ?_
  refine (evSs_next (s := nthS (tlS f82.body) 2) (r := dropS (tlS f82.body) 3) (e3_2 ns p1 p3 p4 a0 b0 c0 a1 b1 c1 a2 b2 c2)).trans ?_
  exact evSs_ret (s := nthS (tlS f82.body) 3) (r := dropS (tlS f82.body) 4) (e3_3 ns p1 p3 p4 a0 b0 c0 a1 b1 c1 a2 b2 c2)
theorem e4_0 (ns : List Int) (p1 : Option PV) (p3 : Option PV) (p4 : Option PV) (a0 b0 c0 a1 b1 c1 a2 b2 c2 a3 b3 c3 : Int) : evS EL (nthS (tlS f82.body) 0) [some (.rol (ns.map .int)), p1, none, p3, p4, none, none] [dl a0 b0 c0, dl a1 b1 c1, dl a2 b2 c2, dl a3 b3 c3] = .next [some (.rol (ns.map .int)), p1, some (.rot [.int (9), .rot [.rot [.int (0), .int (1)]]]), p3, p4, none, none] [dl a0 b0 c0, dl a1 b1 c1, dl a2 b2 c2, dl a3 b3 c3] := by
  unfold EL
  rw [← evKC_eq P C_eq true 15]
  kernel_rfl
theorem e4_1 (ns : List Int) (p1 : Option PV) (p3 : Option PV) (p4 : Option PV) (a0 b0 c0 a1 b1 c1 a2 b2 c2 a3 b3 c3 : Int) : evS EL (nthS (tlS f82.body) 1) [some (.rol (ns.map .int)), p1, some (.rot [.int (9), .rot [.rot [.int (0), .int (1)]]]), p3, p4, none, none] [dl a0 b0 c0, dl a1 b1 c1, dl a2 b2 c2, dl a3 b3 c3] = .next [some (.rol (ns.map .int)), p1, some (.rot [.int (9), .rot [.rot [.int (0), .int (1)]]]), p3, p4, none, none] [dl a0 b0 c0, dl a1 b1 c1, dl a2 b2 c2, dl a3 b3 c3, .lst [.str "many 8", .str "many 8"], .lst [.str "many 8", .str "many 8", .str "many 8", .str "many 8"], .lst [.str "many 8", .str "many 8", .str "many 8", .str "many 8", .str "many 8", .str "many 8"]] := by
  unfold EL
  rw [← evKC_eq P C_eq true 15]
  kernel_rfl
theorem e4_2 (ns : List Int) (p1 : Option PV) (p3 : Option PV) (p4 : Option PV) (a0 b0 c0 a1 b1 c1 a2 b2 c2 a3 b3 c3 : Int) : evS EL (nthS (tlS f82.body) 2) [some (.rol (ns.map .int)), p1, some (.rot [.int (9), .rot [.rot [.int (0), .int (1)]]]), p3, p4, none, none] [dl a0 b0 c0, dl a1 b1 c1, dl a2 b2 c2, dl a3 b3 c3, .lst [.str "many 8", .str "many 8"], .lst [.str "many 8", .str "many 8", .str "many 8", .str "many 8"], .lst [.str "many 8", .str "many 8", .str "many 8", .str "many 8", .str "many 8", .str "many 8"]] = .next [some (.rol (ns.map .int)), p1, some (.rot [.int (9), .rot [.rot [.int (0), .int (1)]]]), p3, p4, some (.rot [.int (0), .int (1), .int (2), .int (3), .int (4), .int (5), .int (6), .int (7), .int (0), .int (1), .int (2), .int (3), .int (4), .int (5), .int (6), .int (7)]), some (.rot [.int (1), .int (2), .int (3), .int (4), .int (5), .int (6), .int (7), .int (8), .int (9), .int (10), .int (11), .int (12), .int (13), .int (14), .int (15), .int (0)])] [dl a0 b0 c0, dl a1 b1 c1, dl a2 b2 c2, dl a3 b3 c3, .lst [.str "many 8", .str "many 8"], .lst [.str "many 8", .str "many 8", .str "many 8", .str "many 8"], .lst [.str "many 8", .str "many 8", .str "many 8", .str "many 8", .str "many 8", .str "many 8"]] := by
  unfold EL
  rw [← evKC_eq P C_eq true 15]
  kernel_rfl
theorem e4_3 (ns : List Int) (p1 : Option PV) (p3 : Option PV) (p4 : Option PV) (a0 b0 c0 a1 b1 c1 a2 b2 c2 a3 b3 c3 : Int) : evS EL (nthS (tlS f82.body) 3) [some (.rol (ns.map .int)), p1, some (.rot [.int (9), .rot [.rot [.int (0), .int (1)]]]), p3, p4, some (.rot [.int (0), .int (1), .int (2), .int (3), .int (4), .int (5), .int (6), .int (7), .int (0), .int (1), .int (2), .int (3), .int (4), .int (5), .int (6), .int (7)]), some (.rot [.int (1), .int (2), .int (3), .int (4), .int (5), .int (6), .int (7), .int (8), .int (9), .int (10), .int (11), .int (12), .int (13), .int (14), .int (15), .int (0)])] [dl a0 b0 c0, dl a1 b1 c1, dl a2 b2 c2, dl a3 b3 c3, .lst [.str "many 8", .str "many 8"], .lst [.str "many 8", .str "many 8", .str "many 8", .str "many 8"], .lst [.str "many 8", .str "many 8", .str "many 8", .str "many 8", .str "many 8", .str "many 8"]] = .ret (.bl true) [dl a0 b0 c0, dl a1 b1 c1, dl a2 b2 c2, dl a3 b3 c3, .lst [.str "many 8", .str "many 8"], .lst [.str "many 8", .str "many 8", .str "many 8", .str "many 8"], .lst [.str "many 8", .str "many 8", .str "many 8", .str "many 8", .str "many 8", .str "many 8"], .lst [.str "fine", .str "fine", .str "fine", .str "fine"], .lst [.str "fine", .str "fine", .str "fine", .str "fine", .str "fine", .str "fine"]] := by
  unfold EL
  rw [← evKC_eq P C_eq true 15]
  kernel_rfl
theorem end4 (ns : List Int) (p1 : Option PV) (p3 : Option PV) (p4 : Option PV) (a0 b0 c0 a1 b1 c1 a2 b2 c2 a3 b3 c3 : Int) : ∃ S, evSs EL (tlS f82.body) (en ns p1 p3 p4) [dl a0 b0 c0, dl a1 b1 c1, dl a2 b2 c2, dl a3 b3 c3] = .ret (.bl true) S := by
  refine ⟨[dl a0 b0 c0, dl a1 b1 c1, dl a2 b2 c2, dl a3 b3 c3, .lst [.str "many 8", .str "many 8"], .lst [.str "many 8", .str "many 8", .str "many 8", .str "many 8"], .lst [.str "many 8", .str "many 8", .str "many 8", .str "many 8", .str "many 8", .str "many 8"], .lst [.str "fine", .str "fine", .str "fine", .str "fine"], .lst [.str "fine", .str "fine", .str "fine", .str "fine", .str "fine", .str "fine"]], ?_⟩
  refine (evSs_next (s := nthS (tlS f82.body) 0) (r := dropS (tlS f82.body) 1) (e4_0 ns p1 p3 p4 a0 b0 c0 a1 b1 c1 a2 b2 c2 a3 b3 c3)).trans ?_
  refine (evSs_next (s := nthS (tlS f82.body) 1) (r := dropS (tlS f82.body) 2) (e4_1 ns p1 p3 p4 a0 b0 c0 a1 b1 c1 a2 b2 c2 a3 b3 c3)).trans ?_
  refine (evSs_next (s := nthS (tlS f82.body) 2) (r := dropS (tlS f82.body) 3) (e4_2 ns p1 p3 p4 a0 b0 c0 a1 b1 c1 a2 b2 c2 a3 b3 c3)).trans ?_
  exact evSs_ret (s := nthS (tlS f82.body) 3) (r := dropS (tlS f82.body) 4) (e4_3 ns p1 p3 p4 a0 b0 c0 a1 b1 c1 a2 b2 c2 a3 b3 c3)
theorem e5_0 (ns : List Int) (p1 : Option PV) (p3 : Option PV) (p4 : Option PV) (a0 b0 c0 a1 b1 c1 a2 b2 c2 a3 b3 c3 a4 b4 c4 : Int) : evS EL (nthS (tlS f82.body) 0) [some (.rol (ns.map .int)), p1, none, p3, p4, none, none] [dl a0 b0 c0, dl a1 b1 c1, dl a2 b2 c2, dl a3 b3 c3, dl a4 b4 c4] = .next [some (.rol (ns.map .int)), p1, some (.rot [.int (9), .rot [.rot [.int (0), .int (1)]]]), p3, p4, none, none] [dl a0 b0 c0, dl a1 b1 c1, dl a2 b2 c2, dl a3 b3 c3, dl a4 b4 c4] := by
  unfold EL
  rw [← evKC_eq P C_eq true 15]
  kernel_rfl
theorem e5_1 (ns : List Int) (p1 : Option PV) (p3 : Option PV) (p4 : Option PV) (a0 b0 c0 a1 b1 c1 a2 b2 c2 a3 b3 c3 a4 b4 c4 : Int) : evS EL (nthS (tlS f82.body) 1) [some (.rol (ns.map .int)), p1, some (.rot [.int (9), .rot [.rot [.int (0), .int (1)]]]), p3, p4, none, none] [dl a0 b0 c0, dl a1 b1 c1, dl a2 b2 c2, dl a3 b3 c3, dl a4 b4 c4] = .next [some (.rol (ns.map .int)), p1, some (.rot [.int (9), .rot [.rot [.int (0), .int (1)]]]), p3, p4, none, none] [dl a0 b0 c0, dl a1 b1 c1, dl a2 b2 c2, dl a3 b3 c3, dl a4 b4 c4, .lst [.str "many 8", .str "many 8"], .lst [.str "many 8", .str "many 8", .str "many 8", .str "many 8"], .lst [.str "many 8", .str "many 8", .str "many 8", .str "many 8", .str "many 8", .str "many 8"]] := by
  unfold EL
  rw [← evKC_eq P C_eq true 15]
  kernel_rfl
theorem e5_2 (ns : List Int) (p1 : Option PV) (p3 : Option PV) (p4 : Option PV) (a0 b0 c0 a1 b1 c1 a2 b2 c2 a3 b3 c3 a4 b4 c4 : Int) : evS EL (nthS (tlS f82.body) 2) [some (.rol (ns.map .int)), p1, some (.rot [.int (9), .rot [.rot [.int (0), .int (1)]]]), p3, p4, none, none] [dl a0 b0 c0, dl a1 b1 c1, dl a2 b2 c2, dl a3 b3 c3, dl a4 b4 c4, .lst [.str "many 8", .str "many 8"], .lst [.str "many 8", .str "many 8", .str "many 8", .str "many 8"], .lst [.str "many 8", .str "many 8", .str "many 8", .str "many 8", .str "many 8", .str "many 8"]] = .next [some (.rol (ns.map .int)), p1, some (.rot [.int (9), .rot [.rot [.int (0), .int (1)]]]), p3, p4, some (.rot [.int (0), .int (1), .int (2), .int (3), .int (4), .int (5), .int (6), .int (7), .int (0), .int (1), .int (2), .int (3), .int (4), .int (5), .int (6), .int (7)]), some (.rot [.int (1), .int (2), .int (3), .int (4), .int (5), .int (6), .int (7), .int (8), .int (9), .int (10), .int (11), .int (12), .int (13), .int (14), .int (15), .int (0)])] [dl a0 b0 c0, dl a1 b1 c1, dl a2 b2 c2, dl a3 b3 c3, dl a4 b4 c4, .lst [.str "many 8", .str "many 8"], .lst [.str "many 8", .str "many 8", .str "many 8", .str "many 8"], .lst [.str "many 8", .str "many 8", .str "many 8", .str "many 8", .str "many 8", .str "many 8"]] := by
  unfold EL
  rw [← evKC_eq P C_eq true 15]
  kernel_rfl
theorem e5_3 (ns : List Int) (p1 : Option PV) (p3 : Option PV) (p4 : Option PV) (a0 b0 c0 a1 b1 c1 a2 b2 c2 a3 b3 c3 a4 b4 c4 : Int) : evS EL (nthS (tlS f82.body) 3) [some (.rol (ns.map .int)), p1, some (.rot [.int (9), .rot [.rot [.int (0), .int (1)]]]), p3, p4, some (.rot [.int (0), .int (1), .int (2), .int (3), .int (4), .int (5), .int (6), .int (7), .int (0), .int (1), .int (2), .int (3), .int (4), .int (5), .int (6), .int (7)]), some (.rot [.int (1), .int (2), .int (3), .int (4), .int (5), .int (6), .int (7), .int (8), .int (9), .int (10), .int (11), .int (12), .int (13), .int (14), .int (15), .int (0)])] [dl a0 b0 c0, dl a1 b1 c1, dl a2 b2 c2, dl a3 b3 c3, dl a4 b4 c4, .lst [.str "many 8", .str "many 8"], .lst [.str "many 8", .str "many 8", .str "many 8", .str "many 8"], .lst [.str "many 8", .str "many 8", .str "many 8", .str "many 8", .str "many 8", .str "many 8"]] = .ret (.bl true) [dl a0 b0 c0, dl a1 b1 c1, dl a2 b2 c2, dl a3 b3 c3, dl a4 b4 c4, .lst [.str "many 8", .str "many 8"], .lst [.str "many 8", .str "many 8", .str "many 8", .str "many 8"], .lst [.str "many 8", .str "many 8", .str "many 8", .str "many 8", .str "many 8", .str "many 8"], .lst [.str "fine", .str "fine", .str "fine", .str "fine"], .lst [.str "fine", .str "fine", .str "fine", .str "fine", .str "fine", .str "fine"]] := by
  unfold EL
  rw [← evKC_eq P C_eq true 15]
  kernel_rfl
theorem end5 (ns : List Int) (p1 : Option PV) (p3 : Option PV) (p4 : Option PV) (a0 b0 c0 a1 b1 c1 a2 b2 c2 a3 b3 c3 a4 b4 c4 : Int) : ∃ S, evSs EL (tlS f82.body) (en ns p1 p3 p4) [dl a0 b0 c0, dl a1 b1 c1, dl a2 b2 c2, dl a3 b3 c3, dl a4 b4 c4] = .ret (.bl true) S := by
  refine ⟨[dl a0 b0 c0, dl a1 b1 c1, dl a2 b2 c2, dl a3 b3 c3, dl a4 b4 c4, .lst [.str "many 8", .str "many 8"], .lst [.str "many 8", .str "many 8", .str "many 8", .str "many 8"], .lst [.str "many 8", .str "many 8", .str "many 8", .str "many 8", .str "many 8", .str "many 8"], .lst [.str "fine", .str "fine", .str "fine", .str "fine"], .lst [.str "fine", .str "fine", .str "fine", .str "fine", .str "fine", .str "fine"]], ?_⟩
  refine (evSs_next (s := nthS (tlS f82.body) 0) (r := dropS (tlS f82.body) 1) (e5_0 ns p1 p3 p4 a0 b0 c0 a1 b1 c1 a2 b2 c2 a3 b3 c3 a4 b4 c4)).trans ?_
  refine (evSs_next (s := nthS (tlS f82.body) 1) (r := dropS (tlS f82.body) 2) (e5_1 ns p1 p3 p4 a0 b0 c0 a1 b1 c1 a2 b2 c2 a3 b3 c3 a4 b4 c4)).trans ?_
  refine (evSs_next (s := nthS (tlS f82.body) 2) (r := dropS (tlS f82.body) 3) (e5_2 ns p1 p3 p4 a0 b0 c0 a1 b1 c1 a2 b2 c2 a3 b3 c3 a4 b4 c4)).trans ?_
  exact evSs_ret (s := nthS (tlS f82.body) 3) (r := dropS (tlS f82.body) 4) (e5_3 ns p1 p3 p4 a0 b0 c0 a1 b1 c1 a2 b2 c2 a3 b3 c3 a4 b4 c4)
theorem ev (ns : List Int) (hn : ns.length ≤ 63) : ∃ S, runFn (evK P 15 true) f82 [.rol (ns.map .int)] [] = .ok (.bl true) S := by
  obtain ⟨p1, p3, p4, l, l1, l2, h⟩ := loop ns
  have e : runFn EL f82 [.rol (ns.map .int)] [] = outOf (match evS EL lp (en ns none none none) [] with
    | .next env S => evSs EL (tlS f82.body) env S
    | .brk env S => .brk env S
    | .cont env S => .cont env S
    | .ret p S => .ret p S
    | .err e env S => .err e env S
    | .bad => .bad) := by kernel_rfl
  show ∃ S, runFn EL f82 [.rol (ns.map .int)] [] = .ok (.bl true) S
  rw [e, h]
  dsimp only
  match l, l1, l2 with
  | [(a0, b0, c0)], _, _ => obtain ⟨S, h⟩ := end1 ns p1 p3 p4 a0 b0 c0; exact ⟨S, (congrArg outOf h).trans rfl⟩
  | [(a0, b0, c0), (a1, b1, c1)], _, _ => obtain ⟨S, h⟩ := end2 ns p1 p3 p4 a0 b0 c0 a1 b1 c1; exact ⟨S, (congrArg outOf h).trans rfl⟩
  | [(a0, b0, c0), (a1, b1, c1), (a2, b2, c2)], _, _ => obtain ⟨S, h⟩ := end3 ns p1 p3 p4 a0 b0 c0 a1 b1 c1 a2 b2 c2; exact ⟨S, (congrArg outOf h).trans rfl⟩
  | [(a0, b0, c0), (a1, b1, c1), (a2, b2, c2), (a3, b3, c3)], _, _ => obtain ⟨S, h⟩ := end4 ns p1 p3 p4 a0 b0 c0 a1 b1 c1 a2 b2 c2 a3 b3 c3; exact ⟨S, (congrArg outOf h).trans rfl⟩
  | [(a0, b0, c0), (a1, b1, c1), (a2, b2, c2), (a3, b3, c3), (a4, b4, c4)], _, _ => obtain ⟨S, h⟩ := end5 ns p1 p3 p4 a0 b0 c0 a1 b1 c1 a2 b2 c2 a3 b3 c3 a4 b4 c4; exact ⟨S, (congrArg outOf h).trans rfl⟩
  | [], h, _ => exact absurd h (by decide)
  | _ :: _ :: _ :: _ :: _ :: _ :: r, _, h => exact absurd h (by simp)
end AST
namespace AST
open PySem EV PySem.Spec L2
theorem b0 : BindP d0 := fun _ _ _ _ _ _ us hl => match us, hl with | [_], _ => rfl
theorem b1 : BindP d1 := fun _ _ _ _ _ _ us hl => match us, hl with | [_], _ => rfl
theorem b2 : BindP d2 := fun _ _ _ _ _ _ us hl => match us, hl with | [_, _, _], _ => rfl
theorem b3 : BindP d3 := fun _ _ _ _ _ _ us hl => match us, hl with | [_], _ => rfl
theorem b4 : BindP d4 := fun _ _ _ _ _ _ us hl => match us, hl with | [_], _ => rfl
theorem b5 : BindP d5 := fun _ _ _ _ _ _ us hl => match us, hl with | [_, _, _], _ => rfl
theorem b6 : BindP d6 := fun _ _ _ _ _ _ us hl => match us, hl with | [_, _], _ => rfl
theorem b7 : BindP d7 := fun _ _ _ _ _ _ us hl => match us, hl with | [_], _ => rfl
theorem b8 : BindP d8 := fun _ _ _ _ _ _ us hl => match us, hl with | [_, _], _ => rfl
theorem b9 : BindP d9 := fun _ _ _ _ _ _ us hl => match us, hl with | [_], _ => rfl
theorem b10 : BindP d10 := fun _ _ _ _ _ _ us hl => match us, hl with | [_], _ => rfl
theorem b11 : BindP d11 := fun _ _ _ _ _ _ us hl => match us, hl with | [_], _ => rfl
theorem b12 : BindP d12 := fun _ _ _ _ _ _ us hl => match us, hl with | [_], _ => rfl
theorem b13 : BindP d13 := fun _ _ _ _ _ _ us hl => match us, hl with | [_, _], _ => rfl
theorem b14 : BindP d14 := fun _ _ _ _ _ _ us hl => match us, hl with | [_, _], _ => rfl
theorem b15 : BindP d15 := fun _ _ _ _ _ _ us hl => match us, hl with | [_], _ => rfl
theorem b16 : BindP d16 := fun _ _ _ _ _ _ us hl => match us, hl with | [_], _ => rfl
theorem b17 : BindP d17 := fun _ _ _ _ _ _ us hl => match us, hl with | [_, _], _ => rfl
theorem b18 : BindP d18 := fun _ _ _ _ _ _ us hl => match us, hl with | [_, _], _ => rfl
theorem b19 : BindP d19 := fun _ _ _ _ _ _ us hl => match us, hl with | [_, _], _ => rfl
theorem b20 : BindP d20 := fun _ _ _ _ _ _ us hl => match us, hl with | [_], _ => rfl
theorem b21 : BindP d21 := fun _ _ _ _ _ _ us hl => match us, hl with | [_, _], _ => rfl
theorem b22 : BindP d22 := fun _ _ _ _ _ _ us hl => match us, hl with | [_], _ => rfl
theorem b23 : BindP d23 := fun _ _ _ _ _ _ us hl => match us, hl with | [_], _ => rfl
theorem b24 : BindP d24 := fun _ _ _ _ _ _ us hl => match us, hl with | [_, _], _ => rfl
theorem b25 : BindP d25 := fun _ _ _ _ _ _ us hl => match us, hl with | [_], _ => rfl
theorem b26 : BindP d26 := fun _ _ _ _ _ _ us hl => match us, hl with | [_], _ => rfl
theorem b27 : BindP d27 := fun _ _ _ _ _ _ us hl => match us, hl with | [_, _], _ => rfl
theorem b28 : BindP d28 := fun _ _ _ _ _ _ us hl => match us, hl with | [_, _], _ => rfl
theorem b29 : BindP d29 := fun _ _ _ _ _ _ us hl => match us, hl with | [_], _ => rfl
theorem b30 : BindP d30 := fun _ _ _ _ _ _ us hl => match us, hl with | [_], _ => rfl
theorem b31 : BindP d31 := fun _ _ _ _ _ _ us hl => match us, hl with | [_, _], _ => rfl
theorem b32 : BindP d32 := fun _ _ _ _ _ _ us hl => match us, hl with | [_], _ => rfl
theorem b33 : BindP d33 := fun _ _ _ _ _ _ us hl => match us, hl with | [_, _], _ => rfl
theorem b34 : BindP d34 := fun _ _ _ _ _ _ us hl => match us, hl with | [_], _ => rfl
theorem b35 : BindP d35 := fun _ _ _ _ _ _ us hl => match us, hl with | [_], _ => rfl
theorem b36 : BindP d36 := fun _ _ _ _ _ _ us hl => match us, hl with | [_], _ => rfl
theorem b37 : BindP d37 := fun _ _ _ _ _ _ us hl => match us, hl with | [_], _ => rfl
theorem b38 : BindP d38 := fun _ _ _ _ _ _ us hl => match us, hl with | [_, _], _ => rfl
theorem b39 : BindP d39 := fun _ _ _ _ _ _ us hl => match us, hl with | [_, _], _ => rfl
theorem b40 : BindP d40 := fun _ _ _ _ _ _ us hl => match us, hl with | [_, _, _], _ => rfl
theorem b41 : BindP d41 := fun _ _ _ _ _ _ us hl => match us, hl with | [_, _], _ => rfl
theorem b42 : BindP d42 := fun _ _ _ _ _ _ us hl => match us, hl with | [_, _, _], _ => rfl
theorem b43 : BindP d43 := fun _ _ _ _ _ _ us hl => match us, hl with | [_], _ => rfl
theorem b44 : BindP d44 := fun _ _ _ _ _ _ us hl => match us, hl with | [_, _], _ => rfl
theorem b45 : BindP d45 := fun _ _ _ _ _ _ us hl => match us, hl with | [_], _ => rfl
theorem b46 : BindP d46 := fun _ _ _ _ _ _ us hl => match us, hl with | [_], _ => rfl
theorem b47 : BindP d47 := fun _ _ _ _ _ _ us hl => match us, hl with | [_, _, _], _ => rfl
theorem b48 : BindP d48 := fun _ _ _ _ _ _ us hl => match us, hl with | [_, _], _ => rfl
theorem b49 : BindP d49 := fun _ _ _ _ _ _ us hl => match us, hl with | [_], _ => rfl
theorem b50 : BindP d50 := fun _ _ _ _ _ _ us hl => match us, hl with | [_], _ => rfl
theorem b51 : BindP d51 := fun _ _ _ _ _ _ us hl => match us, hl with | [_], _ => rfl
theorem b52 : BindP d52 := fun _ _ _ _ _ _ us hl => match us, hl with | [_], _ => rfl
theorem b53 : BindP d53 := fun _ _ _ _ _ _ us hl => match us, hl with | [_, _], _ => rfl
theorem b54 : BindP d54 := fun _ _ _ _ _ _ us hl => match us, hl with | [_, _], _ => rfl
theorem b55 : BindP d55 := fun _ _ _ _ _ _ us hl => match us, hl with | [_, _], _ => rfl
theorem b56 : BindP d56 := fun _ _ _ _ _ _ us hl => match us, hl with | [_, _], _ => rfl
theorem b57 : BindP d57 := fun _ _ _ _ _ _ us hl => match us, hl with | [_, _], _ => rfl
theorem b58 : BindP d58 := fun _ _ _ _ _ _ us hl => match us, hl with | [_], _ => rfl
theorem b59 : BindP d59 := fun _ _ _ _ _ _ us hl => match us, hl with | [_], _ => rfl
theorem b60 : BindP d60 := fun _ _ _ _ _ _ us hl => match us, hl with | [_], _ => rfl
theorem b61 : BindP d61 := fun _ _ _ _ _ _ us hl => match us, hl with | [_, _], _ => rfl
theorem b62 : BindP d62 := fun _ _ _ _ _ _ us hl => match us, hl with | [_], _ => rfl
theorem b63 : BindP d63 := fun _ _ _ _ _ _ us hl => match us, hl with | [_], _ => rfl
theorem b64 : BindP d64 := fun _ _ _ _ _ _ us hl => match us, hl with | [_], _ => rfl
theorem b65 : BindP d65 := fun _ _ _ _ _ _ us hl => match us, hl with | [_], _ => rfl
theorem b66 : BindP d66 := fun _ _ _ _ _ _ us hl => match us, hl with | [_, _], _ => rfl
theorem b67 : BindP d67 := fun _ _ _ _ _ _ us hl => match us, hl with | [_], _ => rfl
theorem b68 : BindP d68 := fun _ _ _ _ _ _ us hl => match us, hl with | [_, _], _ => rfl
theorem b69 : BindP d69 := fun _ _ _ _ _ _ us hl => match us, hl with | [_, _], _ => rfl
theorem b70 : BindP d70 := fun _ _ _ _ _ _ us hl => match us, hl with | [_], _ => rfl
theorem b71 : BindP d71 := fun _ _ _ _ _ _ us hl => match us, hl with | [_], _ => rfl
theorem b72 : BindP d72 := fun _ _ _ _ _ _ us hl => match us, hl with | [_, _], _ => rfl
theorem b73 : BindP d73 := fun _ _ _ _ _ _ us hl => match us, hl with | [_, _], _ => rfl
theorem b74 : BindP d74 := fun _ _ _ _ _ _ us hl => match us, hl with | [_], _ => rfl
theorem b75 : BindP d75 := fun _ _ _ _ _ _ us hl => match us, hl with | [_, _], _ => rfl
theorem b76 : BindP d76 := fun _ _ _ _ _ _ us hl => match us, hl with | [_, _], _ => rfl
theorem b77 : BindP d77 := fun _ _ _ _ _ _ us hl => match us, hl with | [_, _], _ => rfl
theorem b78 : BindP d78 := fun _ _ _ _ _ _ us hl => match us, hl with | [_], _ => rfl
theorem b79 : BindP d79 := fun _ _ _ _ _ _ us hl => match us, hl with | [_], _ => rfl
theorem b80 : BindP d80 := fun _ _ _ _ _ _ us hl => match us, hl with | [_, _, _], _ => rfl
theorem b81 : BindP d81 := fun _ _ _ _ _ _ us hl => match us, hl with | [_], _ => rfl
theorem b82 : BindP d82 := fun _ _ _ _ _ _ us hl => match us, hl with | [_], _ => rfl
theorem binds : AllB D := (.cons b0 (.cons b1 (.cons b2 (.cons b3 (.cons b4 (.cons b5 (.cons b6 (.cons b7 (.cons b8 (.cons b9 (.cons b10 (.cons b11 (.cons b12 (.cons b13 (.cons b14 (.cons b15 (.cons b16 (.cons b17 (.cons b18 (.cons b19 (.cons b20 (.cons b21 (.cons b22 (.cons b23 (.cons b24 (.cons b25 (.cons b26 (.cons b27 (.cons b28 (.cons b29 (.cons b30 (.cons b31 (.cons b32 (.cons b33 (.cons b34 (.cons b35 (.cons b36 (.cons b37 (.cons b38 (.cons b39 (.cons b40 (.cons b41 (.cons b42 (.cons b43 (.cons b44 (.cons b45 (.cons b46 (.cons b47 (.cons b48 (.cons b49 (.cons b50 (.cons b51 (.cons b52 (.cons b53 (.cons b54 (.cons b55 (.cons b56 (.cons b57 (.cons b58 (.cons b59 (.cons b60 (.cons b61 (.cons b62 (.cons b63 (.cons b64 (.cons b65 (.cons b66 (.cons b67 (.cons b68 (.cons b69 (.cons b70 (.cons b71 (.cons b72 (.cons b73 (.cons b74 (.cons b75 (.cons b76 (.cons b77 (.cons b78 (.cons b79 (.cons b80 (.cons b81 (.cons b82 .nil)))))))))))))))))))))))))))))))))))))))))))))))))))))))))))))))))))))))))))))))))))
abbrev R : PySem.W.OpenRow := PySem.W.OpenLaw.row PySem.Challenge.rw_rimtrees_k69_errors_of_chords
def iniSt (s : Stmt) : Stmt := match s with
  | .ClassDef (body := b) .. => b.getD 0 (.Pass ⟨0, 0, 0, 0⟩)
  | s => s
def i5 : IniD := ⟨"value", "self", "value", "a number within the told bounds is expected", "IndexError.__init__", "InvalidNumber.__init__", iniSt (top 6)⟩
theorem j5 : iniB R.prog i5 = true := by decide +kernel
theorem k5 : BindI i5 := fun _ _ _ _ _ _ _ _ _ => rfl
def i6 : IniD := ⟨"number", "self", "number", "something is beyond a limit", "OverflowError.__init__", "TooMany.__init__", iniSt (top 7)⟩
theorem j6 : iniB R.prog i6 = true := by decide +kernel
theorem k6 : BindI i6 := fun _ _ _ _ _ _ _ _ _ => rfl
def xs : List ExD := [⟨"RimError", "ValueError", "ValueError.__new__", [.type "ValueError", .type "Exception", .type "BaseException", .type "object"], none⟩,
  ⟨"InvalidWeb", "ValueError", "ValueError.__new__", [.type "ValueError", .type "Exception", .type "BaseException", .type "object"], none⟩,
  ⟨"InvalidLot", "ValueError", "ValueError.__new__", [.type "ValueError", .type "Exception", .type "BaseException", .type "object"], none⟩,
  ⟨"InvalidGraph", "ValueError", "ValueError.__new__", [.type "ValueError", .type "Exception", .type "BaseException", .type "object"], none⟩,
  ⟨"InvalidOperation", "ValueError", "ValueError.__new__", [.type "ValueError", .type "Exception", .type "BaseException", .type "object"], none⟩,
  ⟨"InvalidNumber", "IndexError", "IndexError.__new__", [.type "IndexError", .type "LookupError", .type "Exception", .type "BaseException", .type "object"], some i5⟩,
  ⟨"TooMany", "OverflowError", "OverflowError.__new__", [.type "OverflowError", .type "ArithmeticError", .type "Exception", .type "BaseException", .type "object"], some i6⟩]
theorem xsOk : ∀ e ∈ xs, ExS R.prog e := (List.forall_mem_cons.mpr ⟨.plain PySem.F.excBase_ValueError, (List.forall_mem_cons.mpr ⟨.plain PySem.F.excBase_ValueError, (List.forall_mem_cons.mpr ⟨.plain PySem.F.excBase_ValueError, (List.forall_mem_cons.mpr ⟨.plain PySem.F.excBase_ValueError, (List.forall_mem_cons.mpr ⟨.plain PySem.F.excBase_ValueError, (List.forall_mem_cons.mpr ⟨.kept PySem.W.kxs_IndexError (.of PySem.F.excBase_IndexError) (.of PySem.F.excBase_IndexError) PySem.F.store_IndexError j5 k5, (List.forall_mem_cons.mpr ⟨.kept PySem.W.kxs_OverflowError (.of PySem.F.excBase_OverflowError) (.of PySem.F.excBase_OverflowError) PySem.F.store_OverflowError j6 k6, (fun _ h => nomatch h)⟩)⟩)⟩)⟩)⟩)⟩)⟩)
theorem chk : chkDefs G (xtE G) D F = true := by decide +kernel
def ns0 : List PySem.Str := ["__name__", "RimError", "InvalidWeb", "InvalidLot", "InvalidGraph", "InvalidOperation", "InvalidNumber", "TooMany", "FAR", "PAIR_SIZE", "is_whole", "is_near", "is_within", "is_pair", "is_ascending", "require_number", "is_lot_of", "lots_of", "MOST_NODES", "is_tied_pair"]
def ns1 : List PySem.Str := ["is_graph_in", "bit_of", "masks_of", "graph_by_masks", "nodes_in", "turned_masks", "mask_rank", "mask_of_lot", "local_turn_in", "turned_along_in", "graph_part_in", "graph_pieces_in", "cut_rank_in", "require_graph", "MOST_TIES", "mate_of", "round_from", "rounds_of", "places_in", "ends_with"]
def ns2 : List PySem.Str := ["is_all_ends", "is_web_in", "require_web", "left_move", "MOST_CHORDS", "MOST_WORDS", "MOST_ROW", "TWICE", "CHORDS", "NO_CHORDS", "THREE", "is_chord_word", "spots_of", "graph_in_word", "word_in_web", "web_in_word", "least_in_turns", "turned_word_in", "near_nodes", "with_sign"]
def ns3 : List PySem.Str := ["sequence_of", "first_word", "word_in_graph", "words_in_graph", "degrees_in", "is_round_in", "is_three_with_hub", "is_one_of_three", "part_of_three_in", "way_to_three", "chord_answer_in", "is_lone_web", "is_chord_web_in", "is_no_chord_paper_in", "rows_of_lot", "is_share_in", "share_steps", "first_split_in", "require_word", "require_few_chords"]
def ns4 : List PySem.Str := ["require_signs", "word_of_web", "web_of_word", "graph_of_word", "least_word", "turned_word", "chord_answer", "is_chord_web", "is_no_chord_paper", "chord_words", "part_of_three", "is_share", "shares_turned", "first_split", "_law_dice", "_law_roll", "_law_pick", "_law_met", "_law_graph_words", "_law_word_words"]
def ns5 : List PySem.Str := ["_law_right"]
def names : List PySem.Str := ns0 ++ ns1 ++ ns2 ++ ns3 ++ ns4 ++ ns5
def fl : Str := R.prog.main.file
def hd : HdX := ⟨[3, 6, 4, 24, 37, 49, 61, 73, 94, 116, 126, 133, 140, 147, 152, 159, 164, 169, 176, 181, 188, 195, 200, 205, 212, 219, 224, 231, 238, 243, 248, 253, 260, 267, 274, 279, 286, 293, 298, 305, 312, 317, 359, 364, 371, 376, 381, 388, 393, 400, 405, 410, 415, 422, 429, 436, 441, 446, 451, 456, 463, 470, 477, 484, 491, 496, 501, 508, 515, 520, 527, 534, 541, 548, 555, 562, 569, 576, 583, 590, 597, 604, 611, 618, 623, 630, 637, 644, 651, 658, 663, 668, 675, 682, 0, 23, 36, 48, 60, 72, 93, 115, 125, 132, 139, 146, 151, 158, 163, 168, 175, 180, 187, 194, 199, 204, 211, 218, 223, 230, 237, 242, 247, 252, 259, 266, 273, 278, 285, 292, 297, 304, 311, 316, 329, 347, 358, 363, 370, 375, 380, 387, 392, 399, 404, 409, 414, 421, 428, 435, 440, 445, 450, 455, 462, 469, 476, 483, 490, 495, 500, 507, 514, 519, 526, 533, 540, 547, 554, 561, 568, 575, 582, 589, 596, 603, 610, 617, 622, 629, 636, 643, 650, 657, 662, 667, 674, 681, 22, 25, 35, 47, 59, 71, 91, 92, 95, 113, 114, 117, 120, 122, 123, 124, 127, 129, 130, 131, 134, 136, 137, 138, 141, 143, 144, 145, 148, 150, 153, 155, 156, 157, 160, 162, 165, 167, 170, 172, 173, 174, 177, 179, 182, 184, 185, 186, 189, 191, 192, 193, 196, 198, 201, 203, 206, 208, 209, 210, 213, 215, 216, 217, 220, 222, 225, 227, 228, 229, 232, 234, 235, 236, 239, 241, 244, 246, 249, 251, 254, 256, 257, 258, 261, 263, 264, 265, 268, 270, 271, 272, 275, 277, 280, 282, 283, 284, 287, 289, 290, 291, 294, 296, 299, 301, 302, 303, 306, 308, 309, 310, 313, 315, 328, 346, 357, 360, 362, 365, 367, 368, 369, 372, 374, 377, 379, 382, 384, 385, 386, 389, 391, 394, 396, 397, 398, 401, 403, 406, 408, 411, 413, 416, 418, 419, 420, 423, 425, 426, 427, 430, 432, 433, 434, 437, 439, 442, 444, 447, 449, 452, 454, 457, 459, 460, 461, 464, 466, 467, 468, 471, 473, 474, 475, 478, 480, 481, 482, 485, 487, 488, 489, 492, 494, 497, 499, 502, 504, 505, 506, 509, 511, 512, 513, 516, 518, 521, 523, 524, 525, 528, 530, 531, 532, 535, 537, 538, 539, 542, 544, 545, 546, 549, 551, 552, 553, 556, 558, 559, 560, 563, 565, 566, 567, 570, 572, 573, 574, 577, 579, 580, 581, 584, 586, 587, 588, 591, 593, 594, 595, 598, 600, 601, 602, 605, 607, 608, 609, 612, 614, 615, 616, 619, 621, 624, 626, 627, 628, 631, 633, 634, 635, 638, 640, 641, 642, 645, 647, 648, 649, 652, 654, 655, 656, 659, 661, 664, 666, 669, 671, 672, 673, 676, 678, 679, 680, 90, 79, 112, 101, 318, 319, 320, 321, 322, 323, 324, 325, 326, 327, 330, 331, 332, 333, 334, 335, 336, 338, 339, 340, 341, 342, 343, 344, 348, 349, 350, 351, 352, 353, 354, 355, 356, 85, 87, 88, 89, 107, 109, 110, 111, 2], fl, D.map (fun d => He.Fa.glo d.name) ++ ((bltN ++ G.bx).map .free), D.map toD, xs, G.gl.zip gl, P, (D.filter (·.lam)).map fun d => (d.name, lamQ d)⟩
def ob (s : PySem.W.SharedT) : Bool × AlX := hd.obsQ (HandSHeadRun.getT s)
theorem ob_eq (s : PySem.W.SharedT) : ob s = hd.hook.obs s.abs := (hd.obsQ_eq _).trans (hd.obs_eq (HandSHeadRun.getT_eq s))
theorem txt : Text hd G D P R.prog := ⟨rfl, fun _ z => z, rfl, rfl, rfl, rfl, binds, by decide +kernel, by decide +kernel, xsOk, by decide +kernel, .inr (by decide +kernel), rfl⟩
theorem map3 {α β γ δ : Type} {X : Option α} {f : α → β} {g : α → γ} {h : α → δ} {a : β} {b : γ} {c : δ} (h1 : X.map f = some a) (h2 : X.map g = some b) (h3 : X.map h = some c) : X.map (fun s => (f s, g s, h s)) = some (a, b, c) := by
  cases X with
  | none => cases h1
  | some x => cases h1; cases h2; cases h3; rfl
section
open HandSHeadRun PySem PySem.W PySem.Calls PyProof.Rows
theorem run1 (w : World) (os : OsState) : (endF (stepQ (denQ tabQ) R.prog w) 40000 R.prog w os).map (fun s => looksF R.prog (boot_heap w.params) s.abs) = some true := by kernel_rfl
theorem run2 (w : World) (os : OsState) : (endF (stepQ (denQ tabQ) R.prog w) 40000 R.prog w os).map (fun s => seenQ (PySem.W.view R.prog [107]) names (importedModules R.prog.main.body) (fun s => xlAt (PySem.W.view R.prog [107]) [] s && recOk R.toRowW.records s) s.abs) = some (openGood (PySem.W.view R.prog [107]) names) := by kernel_rfl
theorem run3 (w : World) (os : OsState) : (endF (stepQ (denQ tabQ) R.prog w) 40000 R.prog w os).map (fun s => ob s) = some (hd.hook.val w) := by kernel_rfl
end
theorem run (w : World) : HandSHeadRun.RunEq R (PySem.W.view R.prog [107]) hd.hook ob 40000 names w := fun os => map3 (run1 w os) (run2 w os) (run3 w os)
end AST
open PySem PySem.W PySem.Calls PyProof.Rows
theorem PySem.Challenge.cw_rimtrees_k69_errors_of_chords_holds : PySem.Challenge.rw_rimtrees_k69_errors_of_chords.Holds := by
  w_on; o_law
  refine HandSHeadRun.head_any (r := AST.R) (q := view AST.R.prog [107]) (H := AST.hd.hook) (ob := AST.ob) (M := 40000) (loose := AST.names) (d := HandSHeadRun.topDef AST.R.prog 107) (kwd := []) AST.ob_eq
    (by kernel_rfl) (fun s => by kernel_rfl) AST.run (by kernel_rfl) (by kernel_rfl) (by kernel_rfl) (by rfl) (by first | assumption | decide +kernel) (by decide +kernel) ⟨rfl, rfl, rfl, rfl, rfl, by decide +kernel⟩ ?hw ?hc
  case hw => w_witness2
  case hc =>
    exact EV.walk_text (l := PySem.Challenge.rw_rimtrees_k69_errors_of_chords) (n := 63) rfl (by decide) (by kernel_rfl) ⟨rfl, by decide, by decide⟩ AST.txt AST.chk (i := 82) rfl rfl rfl (by kernel_rfl) AST.ev
