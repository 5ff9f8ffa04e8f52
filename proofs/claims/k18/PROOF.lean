import PyProof.Rows.All
import Wide.All
import OpenK.AllK
import Wide.FinOn
import HandS.ForMost
import HandS.Exc
import KE.SortData
import KE.LtData
import PyProof.ReprReads
import PyProof.P3In
import HandS.HeadHook2
import HandS.TupAny
import HandS.TupMul
import HandS.Wide
import HandS.Style
import HandS.Zip
import HandS.Small
import HandS.IsInst
import HandS.Conv
import HandS.TupLen
import HandS.More
import HandS.WordsDict
import KE.KDictZip
import KE.KDictPairs
import KE.GoesEnum
import HandS.Sort
import HandS.HeadEnd
import HandS.Set
import HandS.SetTxt0
import HandS.TupSets
import HandS.HeadHook4
import PyProof.ReprLen
import KE.KStateDown
import Lean
import HandS.Base
import HandS.Call
import HandS.Ends
import HandS.Words
import HandS.WordsExc
import HandS.Defaults
import HandS.Head0
import HandS.Head1
import HandS.Head2
import HandS.HeadHook1
import PySem.Challenge.RW_causeloops_k18_whole_counts_of_writes_by
set_option Elab.async false
set_option linter.all false
set_option maxRecDepth 100000
set_option maxHeartbeats 4000000
/-! MP0: a small language of its own: data, store, terms, what they do. -/
namespace MP
open PySem L2

/-- data: numbers, texts, tuples by value; lst: a list that nobody changes any more; ref: a place of the store; scr: the script -/
inductive D where
  | non | bl (b : Bool) | int (i : Int) | str (s : Str) | tup (xs : List D) | lst (xs : List D) | ref (l : Nat) | scr (ns : List Int) | rng (lo hi : Int)
  deriving Inhabited

inductive Ob where
  | lst (xs : List D) | dK (kvs : List (Key × D)) | dT (kvs : List (List Key × D)) | ins (C : Str) (fs : List (Str × D))
  deriving Inhabited

abbrev Sto := List Ob
abbrev Env := List (Option D)
/-- an exception: its class, what it carries -/
structure Exn where
  cls : Str
  car : Option (Str × D)

inductive R (α : Type) where
  | ok (a : α) (S : Sto)
  | ex (x : Exn) (S : Sto)
  | no

def R.bind {α β : Type} (r : R α) (k : α → Sto → R β) : R β := match r with
  | .ok a S => k a S
  | .ex x S => .ex x S
  | .no => .no
@[simp] theorem R.bind_ok {α β : Type} (a : α) (S : Sto) (k : α → Sto → R β) : (R.ok a S).bind k = k a S := rfl
@[simp] theorem R.bind_ex {α β : Type} (x : Exn) (S : Sto) (k : α → Sto → R β) : (R.ex x S : R α).bind k = .ex x S := rfl
@[simp] theorem R.bind_no {α β : Type} (k : α → Sto → R β) : (R.no : R α).bind k = .no := rfl
/-- a pure answer -/
def R.of {α : Type} (o : Option α) (S : Sto) : R α := match o with
  | some a => .ok a S
  | none => .no
@[simp] theorem R.of_some {α : Type} (a : α) (S : Sto) : R.of (some a) S = .ok a S := rfl
@[simp] theorem R.of_none {α : Type} (S : Sto) : (R.of none S : R α) = .no := rfl

/-! ### data -/
def optMap {α β : Type} (f : α → Option β) : List α → Option (List β)
  | [] => some []
  | x :: xs => match f x with
    | some y => (match optMap f xs with
      | some ys => some (y :: ys)
      | none => none)
    | none => none
/-- what a sequence holds: a tuple, a list -/
def seqOf (S : Sto) : D → Option (List D)
  | .tup xs => some xs
  | .lst xs => some xs
  | .ref l => (match S[l]? with
    | some (.lst xs) => some xs
    | _ => none)
  | _ => none
/-- as data of the library, lists read; n: its depth at most -/
def pdN (S : Sto) : Nat → D → Option PyData
  | 0, _ => none
  | n + 1, d => match d with
    | .non => some .none
    | .bl b => some (.bool b)
    | .int i => some (.int i)
    | .str s => if PySem.PyData.strOk s then some (.str s) else none
    | .tup xs => (optMap (pdN S n) xs).map .tuple
    | .lst xs => (optMap (pdN S n) xs).map .list
    | .ref l => (match S[l]? with
      | some (.lst xs) => (optMap (pdN S n) xs).map .list
      | _ => none)
    | _ => none
abbrev pd (S : Sto) (d : D) : Option PyData := pdN S 20 d

/-- a dict's key: an int or a text; a tuple of these -/
def keyK : D → Option Key
  | .int i => some (.inl i)
  | .str s => some (.inr s)
  | _ => none
def keyT : D → Option (List Key)
  | .tup xs => optMap keyK xs
  | _ => none
def dK : Key → D
  | .inl i => .int i
  | .inr s => .str s
def dT (k : List Key) : D := .tup (k.map dK)

section
variable {κ : Type} [DecidableEq κ]
def getA (kvs : List (κ × D)) (k : κ) : Option D := (kvs.find? fun kv => decide (kv.1 = k)).map (·.2)
def putA (kvs : List (κ × D)) (k : κ) (v : D) : List (κ × D) :=
  if kvs.any fun kv => decide (kv.1 = k) then kvs.map fun kv => if kv.1 = k then (kv.1, v) else kv else kvs ++ [(k, v)]
def dropA (kvs : List (κ × D)) (k : κ) : List (κ × D) := kvs.filter fun kv => decide (kv.1 ≠ k)
def putFd (f : Str) (d : D) : List (Str × D) → List (Str × D)
  | [] => [(f, d)]
  | (h, e) :: q => if h = f then (h, d) :: q else (h, e) :: putFd f d q
def mergeA (kvs more : List (κ × D)) : List (κ × D) := more.foldl (fun acc kv => putA acc kv.1 kv.2) kvs
end
/-- d.get(k): some none: it is not there -/
def dicGet (S : Sto) (d k : D) : Option (Option D) := match d with
  | .ref l => (match S[l]? with
    | some (.dK kvs) => (keyK k).map fun k => getA kvs k
    | some (.dT kvs) => (keyT k).map fun k => getA kvs k
    | _ => none)
  | _ => none
def dicPut (S : Sto) (l : Nat) (k v : D) : Option Sto := match S[l]? with
  | some (.dK kvs) => (match keyK k with
    | some k => if kvs.length < 1000000 then some (S.set l (.dK (putA kvs k v))) else none
    | none => none)
  | some (.dT kvs) => (match keyT k with
    | some k => if kvs.length < 1000000 then some (S.set l (.dT (putA kvs k v))) else none
    | none => none)
  | _ => none

/-! ### operators -/
def big : Nat := 1000000
def mulOk (i j : Int) : Bool := decide (i.natAbs < 2 ^ 600) && decide (j.natAbs < 2 ^ 600)
def binop (o : Operator) (S : Sto) (a b : D) : Option D := match o, a, b with
  | .Add, .int i, .int j => some (.int (i + j))
  | .Add, .str x, .str y => if x.length + y.length ≤ big then some (.str (x ++ y)) else none
  | .Add, .tup x, .tup y => if x.length + y.length ≤ big then some (.tup (x ++ y)) else none
  | .Sub, .int i, .int j => some (.int (i - j))
  | .Mult, .int i, .int j => if mulOk i j then some (.int (i * j)) else none
  | .Mult, .tup x, .int j => if 0 ≤ j ∧ j ≤ 1000 ∧ x.length ≤ 1000 ∧ 0 < x.length then some (.tup (List.replicate j.toNat x).flatten) else none
  | .Mult, .str x, .int j => if x.length = 1 ∧ j = 9 then some (.str ⟨(List.replicate 9 x.cps).foldl (· ++ ·) #[]⟩) else none
  | .FloorDiv, .int i, .int j => if 0 < j ∧ j.natAbs < 2 ^ 8000 then some (.int (i / j)) else none
  | .Mod, .int i, .int j => if 0 < j then some (.int (i % j)) else none
  | .Pow, .int i, .int j => if 0 ≤ j ∧ j ≤ 1000 ∧ i.natAbs < 2 ^ 64 then some (.int (i ^ j.toNat)) else none
  | .BitAnd, .int i, .int j => some (.int (Builtin.bitAnd i j))
  | .Add, x, y => (match x, y with
    | .tup _, _ => none
    | _, .tup _ => none
    | x, y => (match seqOf S x, seqOf S y with
      | some xs, some ys => if xs.length + ys.length ≤ big then some (.lst (xs ++ ys)) else none
      | _, _ => none))
  | .Mult, x, .int j => (match seqOf S x with
    | some xs => if 0 ≤ j ∧ j ≤ 1000 ∧ xs.length ≤ 1000 then some (.lst (List.replicate j.toNat xs).flatten) else none
    | none => none)
  | _, _, _ => none

def augop (o : Operator) (a b : D) : Option D := match o, a, b with
  | .Add, .int i, .int j => some (.int (i + j))
  | .Sub, .int i, .int j => some (.int (i - j))
  | _, _, _ => none
def notNone : PyData → Bool
  | .none => false
  | _ => true
def isIn (S : Sto) (x c : D) : Option Bool := match c with
  | .str z => (match x with
    | .str y => some (!(Builtin.Str.occurrences z y 0 z.length 1).isEmpty)
    | _ => none)
  | .ref l => (match S[l]? with
    | some (.lst ys) => (match pd S x, optMap (pd S) ys with
      | some d, some es => some (es.any fun e => PyData.eqv e d)
      | _, _ => none)
    | _ => (dicGet S c x).map Option.isSome)
  | c => (match seqOf S c with
    | some ys => (match pd S x, optMap (pd S) ys with
      | some d, some es => some (es.any fun e => PyData.eqv e d)
      | _, _ => none)
    | none => none)

def eqop (S : Sto) (a b : D) : Option Bool := match a, b with
  | .str x, .str y => some (decide (x = y))
  | a, b => (match pd S a, pd S b with
    | some d, some e => some (PyData.eqv d e)
    | _, _ => none)
def cmpop (o : CmpOp) (S : Sto) (a b : D) : Option Bool := match o with
  | .Eq => eqop S a b
  | .NotEq => (eqop S a b).map not
  | .Lt => (match a, b with
    | .int i, .int j => some (decide (i < j))
    | a, b => (match pd S a, pd S b with
      | some d, some e => if PySem.W.alike d e && notNone d then some (PySem.W.dataLt d e) else none
      | _, _ => none))
  | .LtE => (match a, b with
    | .int i, .int j => some (decide (i ≤ j))
    | _, _ => none)
  | .Gt => (match a, b with
    | .int i, .int j => some (decide (j < i))
    | _, _ => none)
  | .GtE => (match a, b with
    | .int i, .int j => some (decide (j ≤ i))
    | _, _ => none)
  | .In => isIn S a b
  | .NotIn => (isIn S a b).map not
  | .Is => (match b with
    | .non => (match a with
      | .non => some true
      | _ => some false)
    | .bl true => (match a with
      | .bl c => some c
      | _ => none)
    | _ => none)
  | .IsNot => (match b with
    | .non => (match a with
      | .non => some false
      | _ => some true)
    | .bl true => (match a with
      | .bl c => some (!c)
      | _ => none)
    | _ => none)

/-! ### items, slices -/
def index (S : Sto) (a i : D) : Option D := match i with
  | .int j => (match seqOf S a with
    | some xs => atI xs j
    | none => (dicGet S a i).join)
  | i => (dicGet S a i).join
def part (h : Bool) (d : D) : Option (Option Int) := match h, d with
  | false, _ => some none
  | true, .int i => some (some i)
  | _, _ => none
def cutD (xs : List D) (lo hi : Option Int) : List D := (xs.drop (HT.sIx xs.length 0 lo)).take (HT.sIx xs.length xs.length hi - HT.sIx xs.length 0 lo)
def slice (S : Sto) (a : D) (hl hh : Bool) (lo hi : D) : Option D := match part hl lo, part hh hi with
  | some lo, some hi => (match a with
    | .tup xs => some (.tup (cutD xs lo hi))
    | .lst xs => some (.lst (cutD xs lo hi))
    | .ref l => (match S[l]? with
      | some (.lst xs) => some (.lst (cutD xs lo hi))
      | _ => none)
    | .scr ns => some (.lst (cutD (ns.map .int) lo hi))
    | _ => none)
  | _, _ => none
def revOf (S : Sto) (a : D) : Option D := match a with
  | .lst xs => some (.lst xs.reverse)
  | .ref l => (match S[l]? with
    | some (.lst xs) => some (.lst xs.reverse)
    | _ => none)
  | _ => none

/-! ### built-in functions whose answer is data -/
inductive Bi where
  | all | any | len | int | list | tuple | max | min | repr | sorted | sset
  deriving DecidableEq
def blOf : D → Option Bool
  | .bl b => some b
  | _ => none
def rangeL (a b : Int) : List D := (List.range (b - a).toNat).map fun i => .int (a + (i : Nat))
/-- sorting, by the order of data -/
def sortP (xs : List (D × PyData)) : List (D × PyData) := xs.mergeSort (PySem.W.dataLe false Prod.snd)
def allAlike (ds : List PyData) : Bool := ds.all fun d => ds.all fun e => PySem.W.alike d e
def sortable (ds : List PyData) : Bool := (ds.all fun d => match d with
  | .tuple (_ :: _) => true
  | _ => false) || ds.all fun d => match d with
  | .none => false
  | .tuple _ => false
  | _ => true
def sortD (S : Sto) (xs : List D) : Option (List D) := match optMap (pd S) xs with
  | some ds => if allAlike ds = true ∧ sortable ds = true ∧ xs.length ≤ big then some ((sortP (xs.zip ds)).map Prod.fst) else none
  | none => none
def strOf : D → Option Str
  | .str s => some s
  | _ => none
def one : List D → Option D
  | [a] => some a
  | _ => none
def two : List D → Option (D × D)
  | [a, b] => some (a, b)
  | _ => none
/-- the items of a list -/
def lstOf (S : Sto) : D → Option (List D)
  | .lst xs => some xs
  | .ref l => (match S[l]? with
    | some (.lst xs) => some xs
    | _ => none)
  | _ => none
def lenOf (S : Sto) : D → Option Nat
  | .str s => if s.length ≤ big then some s.length else none
  | .tup xs => some xs.length
  | .lst xs => some xs.length
  | .ref l => (match S[l]? with
    | some (.lst xs) => some xs.length
    | some (.dK kvs) => some kvs.length
    | some (.dT kvs) => some kvs.length
    | _ => none)
  | _ => none
def max2 : D × D → Option D
  | (.int i, .int j) => some (.int (if j > i then j else i))
  | _ => none
def min2 : D × D → Option D
  | (.int i, .int j) => some (.int (if j < i then j else i))
  | _ => none
def intOf : D → Option Int
  | .int i => some i
  | _ => none
def listOf (S : Sto) : D → Option (List D)
  | .ref l => (match S[l]? with
    | some (.lst xs) => some xs
    | some (.dK kvs) => some (kvs.map fun kv => MP.dK kv.1)
    | some (.dT kvs) => some (kvs.map fun kv => MP.dT kv.1)
    | _ => none)
  | .str s => if s.length ≤ big then some (s.cps.toList.map fun c => .str ⟨#[c]⟩) else none
  | .rng i j => some (rangeL i j)
  | .tup xs => some xs
  | .lst xs => some xs
  | _ => none
def reprOf (S : Sto) (a : D) : Option D := (pd S a).bind fun d => if d.showable = true ∧ d.shown.length ≤ big then some (.str d.shown) else none
/-- a built-in function whose answer is one thing -/
def biop (b : Bi) (S : Sto) (as : List D) : Option D := match b with
  | .all => (one as).bind fun a => (lstOf S a).bind fun xs => (optMap blOf xs).map fun bs => .bl (bs.all id)
  | .any => (one as).bind fun a => (lstOf S a).bind fun xs => (optMap blOf xs).map fun bs => .bl (bs.any id)
  | .len => (one as).bind fun a => (lenOf S a).map fun n => .int n
  | .int => (one as).bind fun a => (intOf a).map fun i => .int i
  | .max => (two as).bind max2
  | .min => (two as).bind min2
  | .tuple => (one as).bind fun a => (seqOf S a).map fun xs => .tup xs
  | .list => (one as).bind fun a => (listOf S a).map fun xs => .lst xs
  | .repr => (one as).bind (reprOf S)
  | .sorted => (one as).bind fun a => (lstOf S a).bind fun xs => (sortD S xs).map .lst
  | .sset => none
/-- the order of texts -/
def leS (a b : Str) : Bool := decide (a.cps.toList ≤ b.cps.toList)
/-- sorted(set(xs)), texts -/
def sortSet (S : Sto) (a : D) : Option D := (lstOf S a).bind fun xs => (optMap strOf xs).bind fun ss => if ss.length < 64 then some (.lst ((ss.eraseDups.mergeSort leS).map .str)) else none
/-- kinds of values -/
inductive TN where
  | non | bool | int | str | tuple | list | dict
  deriving DecidableEq
def TN.nm : TN → String
  | .non => "NoneType"
  | .bool => "bool"
  | .int => "int"
  | .str => "str"
  | .tuple => "tuple"
  | .list => "list"
  | .dict => "dict"
inductive Ty where
  | bt (t : TN) | cls (C : Str)
  deriving DecidableEq
inductive Kd where
  | bt (t : TN) | ins (C : Str)
def kindOf (S : Sto) : D → Option Kd
  | .non => some (.bt .non)
  | .bl _ => some (.bt .bool)
  | .int _ => some (.bt .int)
  | .str _ => some (.bt .str)
  | .tup _ => some (.bt .tuple)
  | .lst _ => some (.bt .list)
  | .ref l => (match S[l]? with
    | some (.lst _) => some (.bt .list)
    | some (.dK _) => some (.bt .dict)
    | some (.dT _) => some (.bt .dict)
    | some (.ins C _) => some (.ins C)
    | none => none)
  | _ => none
def isB (a b : TN) : Bool := decide (a = b) || (decide (a = .bool) && decide (b = .int))
def isTy (S : Sto) (d : D) (T : Ty) : Option Bool := match kindOf S d, T with
  | some (.bt a), .bt b => some (isB a b)
  | some (.bt _), .cls _ => some false
  | some (.ins B), .cls C => if B = C then some true else none
  | _, _ => none

/-! ### terms -/
inductive Tg where
  | nm (i : Nat) | tp (is : List Nat)
  deriving DecidableEq
inductive Bm where
  | append | pop0 | popAt | popKey | extend | get2 | update
  deriving DecidableEq
mutual
inductive Tm where
  | var (i : Nat)
  | cst (d : D)
  | bin (o : Operator) (a b : Tm)
  | neg (a : Tm)
  | cmp (o : CmpOp) (a b : Tm)
  | cmp2 (o o' : CmpOp) (a b c : Tm)
  | and (a b : Tm) | or (a b : Tm) | not (a : Tm)
  | ite (c a b : Tm)
  | ix (a i : Tm) | sl (a : Tm) (hl hh : Bool) (lo hi : Tm) | rev (m : Bool) (a : Tm)
  | tup (es : Tms) | lst (m : Bool) (es : Tms)
  /-- a dict written out: keys and values in turn -/
  | dct (kvs : Tms) | dnew (t : Bool)
  | comp (m : Bool) (t : Tg) (it : Src) (c e : Tm) (w : List Nat)
  | comp2 (t : Tg) (it : Src) (t2 : Tg) (it2 : Src) (c e : Tm) (w w2 : List Nat)
  | dcomp (t : Tg) (it : Src) (k v : Tm) (w : List Nat)
  | call (f : Str) (as : Tms) (p : Option (List Nat))
  | mk (C : Str) (as : Tms)
  | mth (m : Str) (o : Tm) (as : Tms) (p : Option (List Nat))
  | bi (b : Bi) (m : Bool) (as : Tms)
  | srt (m : Bool) (a : Tm)
  | dicz (a b : Tm) | dicl (a : Tm) | dicd (a : Tm)
  | bm (b : Bm) (o : Tm) (as : Tms)
  | att (o : Tm) (f : Str)
  | isa (a : Tm) (T : Ty)
  | rngv (a b : Tm)
inductive Tms where
  | nil | cons (e : Tm) (es : Tms)
inductive Src where
  | seq (e : Tm) | rng1 (a : Tm) | rng2 (a b : Tm) | rng3 (a b c : Tm) | enm (e : Tm) | zip (a b : Tm) | dic (e : Tm)
end
/-- a target of an assignment -/
inductive Ta where
  | nm (i : Nat) | tp (ts : List Nat) | sub (o i : Tm) | fld (o : Tm) (f : Str) | two (a b : Ta)
mutual
inductive Sm where
  | asg (t : Ta) (e : Tm)
  /-- a, b = e1, e2 with names: stored from the values -/
  | par (is : List Nat) (es : Tms)
  | aug (o : Operator) (a i e : Tm)
  | expr (e : Tm)
  | ife (c : Tm) (a b : Sms)
  | for (t : Tg) (it : Src) (b : Sms)
  | whl (c : Tm) (b : Sms)
  | ret (e : Tm)
  | retN
  | brk | cont | pass
  | raise (C : Str) (as : Tms)
inductive Sms where
  | nil | cons (s : Sm) (ss : Sms)
end
inductive Fl where
  | nx (η : Env) | rt (d : D) | bk (η : Env) | ct (η : Env)

/-! ### what they do -/
abbrev Fns := Str → List D → Sto → R D
def setN (η : Env) (i : Nat) (d : D) : Env := η.set i (some d)
def setNs : Env → List Nat → List D → Option Env
  | η, [], [] => some η
  | η, i :: is, d :: ds => setNs (setN η i d) is ds
  | _, _, _ => none
def setTg (S : Sto) (t : Tg) (d : D) (η : Env) : Option Env := match t with
  | .nm i => some (setN η i d)
  | .tp is => (match d with
    | .tup xs => setNs η is xs
    | _ => none)
def wipeE (η : Env) : List Nat → Env
  | [] => η
  | v :: vs => (wipeE η vs).set v none
/-- what is walked: the items; the place of the list that is walked -/
structure Wk where
  its : List D
  src : Option (Nat × List D)
def Wk.ok (k : Wk) (S : Sto) : Prop := match k.src with
  | none => True
  | some p => S[p.1]? = some (.lst p.2)
open Classical in
noncomputable def compL (k : Wk) (t : Tg) (c e : Env → Sto → R D) (η : Env) : List D → List D → Sto → R (List D)
  | [], acc, S => if k.ok S then .ok acc S else .no
  | x :: xs, acc, S => if k.ok S then
      (match setTg S t x η with
      | some η' => (c η' S).bind fun b S1 => (match b with
        | .bl true => (e η' S1).bind fun y S2 => if acc.length < big then compL k t c e η xs (acc ++ [y]) S2 else .no
        | .bl false => compL k t c e η xs acc S1
        | _ => .no)
      | none => .no) else .no
open Classical in
noncomputable def comp2L (k : Wk) (t t2 : Tg) (sr : Env → Sto → R Wk) (c e : Env → Sto → R D) (η : Env) (w2 : List Nat) : List D → List D → Sto → R (List D)
  | [], acc, S => if k.ok S then .ok acc S else .no
  | x :: xs, acc, S => if k.ok S then
      (match setTg S t x η with
      | some η' => (sr η' S).bind fun k2 S1 => (comp1L k2 t2 c e (wipeE η' w2) k2.its acc S1).bind fun acc2 S2 => comp2L k t t2 sr c e η w2 xs acc2 S2
      | none => .no) else .no
where
  comp1L (k : Wk) (t : Tg) (c e : Env → Sto → R D) (η : Env) : List D → List D → Sto → R (List D) := compL k t c e η
open Classical in
noncomputable def dcompL (q : Wk) (t : Tg) (k v : Env → Sto → R D) (η : Env) : List D → List (D × D) → Sto → R (List (D × D))
  | [], acc, S => if q.ok S then .ok acc S else .no
  | x :: xs, acc, S => if q.ok S then
      (match setTg S t x η with
      | some η' => (k η' S).bind fun a S1 => (v η' S1).bind fun b S2 => dcompL q t k v η xs (acc ++ [(a, b)]) S2
      | none => .no) else .no
open Classical in
noncomputable def forL (k : Wk) (t : Tg) (b : Env → Sto → R Fl) : List D → Env → Sto → R Fl
  | [], η, S => if k.ok S then .ok (.nx η) S else .no
  | x :: xs, η, S => if k.ok S then
      (match setTg S t x η with
      | some η' => (b η' S).bind fun f S1 => (match f with
        | .nx η2 => forL k t b xs η2 S1
        | .ct η2 => forL k t b xs η2 S1
        | .bk η2 => .ok (.nx η2) S1
        | .rt d => .ok (.rt d) S1)
      | none => .no) else .no
/-- a while, so many turns at most -/
def whileN (c : Env → Sto → R D) (b : Env → Sto → R Fl) : Nat → Env → Sto → Option (R Fl)
  | 0, _, _ => none
  | n + 1, η, S => match c η S with
    | .ok (.bl false) S1 => some (.ok (.nx η) S1)
    | .ok (.bl true) S1 => (match b η S1 with
      | .ok (.nx η2) S2 => whileN c b n η2 S2
      | .ok (.ct η2) S2 => whileN c b n η2 S2
      | .ok (.bk η2) S2 => some (.ok (.nx η2) S2)
      | .ok (.rt d) S2 => some (.ok (.rt d) S2)
      | .ex x S2 => some (.ex x S2)
      | .no => some .no)
    | .ok _ _ => some .no
    | .ex x S1 => some (.ex x S1)
    | .no => some .no
open Classical in
noncomputable def whileL (c : Env → Sto → R D) (b : Env → Sto → R Fl) (η : Env) (S : Sto) : R Fl :=
  if h : ∃ n r, whileN c b n η S = some r then (Classical.choose_spec h).choose else .no
/-- a new object -/
def alloc (o : Ob) (S : Sto) : R D := .ok (.ref S.length) (S ++ [o])
/-- a list just made: for the store, or as data -/
def mkL (m : Bool) (xs : List D) (S : Sto) : R D := if m then alloc (.lst xs) S else .ok (.lst xs) S
def mkLd (m : Bool) (d : D) (S : Sto) : R D := if m then (match d with
  | .lst xs => alloc (.lst xs) S
  | _ => .no) else .ok d S
def permute (p : Option (List Nat)) (ds : List D) : Option (List D) := match p with
  | none => some ds
  | some is => if is.length = ds.length then optMap (fun i => ds[i]?) is else none
def pairsOf : List D → Option (List (D × D))
  | [] => some []
  | k :: v :: r => (match pairsOf r with
    | some ps => some ((k, v) :: ps)
    | none => none)
  | _ => none
def keyed {κ : Type} (f : D → Option κ) : List (D × D) → Option (List (κ × D)) := optMap fun p => (f p.1).map fun k => (k, p.2)
/-- a dict of pairs -/
def dicOf (ps : List (D × D)) : Option Ob := if ps.length ≤ 1000 then (match keyed keyT ps with
  | some kvs => some (.dT (mergeA [] kvs))
  | none => none) else none
def dicOfK (ps : List (D × D)) : Option Ob := if ps.length ≤ 15 then (match keyed keyK ps with
  | some kvs => some (.dK (mergeA [] kvs))
  | none => none) else none
def pair2 : D → Option (D × D)
  | .tup [a, b] => some (a, b)
  | _ => none
def bmop (b : Bm) (S : Sto) (o : D) (as : List D) : R D := match b, o, as with
  | .append, .ref l, [d] => (match S[l]? with
    | some (.lst xs) => if xs.length < big then .ok .non (S.set l (.lst (xs ++ [d]))) else .no
    | _ => .no)
  | .pop0, .ref l, [] => (match S[l]? with
    | some (.lst xs) => (match xs[xs.length - 1]? with
      | some d => .ok d (S.set l (.lst xs.dropLast))
      | none => .no)
    | _ => .no)
  | .popAt, .ref l, [k] => (match S[l]? with
    | some (.lst xs) => (match k with
      | .int i => if 0 ≤ i ∧ i < 1000 then (match xs[i.toNat]? with
        | some d => .ok d (S.set l (.lst (xs.eraseIdx i.toNat)))
        | none => .no) else .no
      | _ => .no)
    | _ => .no)
  | .popKey, .ref l, [k] => (match S[l]? with
    | some (.dT kvs) => (match keyT k with
      | some k => (match getA kvs k with
        | some d => .ok d (S.set l (.dT (dropA kvs k)))
        | none => .no)
      | none => .no)
    | _ => .no)
  | .extend, .ref l, [d] => (match S[l]? with
    | some (.lst xs) => (match d with
      | .lst ys => if xs.length + ys.length ≤ big then .ok .non (S.set l (.lst (xs ++ ys))) else .no
      | _ => .no)
    | _ => .no)
  | .get2, o, [k, d] => (match dicGet S o k with
    | some r => .ok (r.getD d) S
    | none => .no)
  | .update, .ref l, [.ref l2] => (match S[l]?, S[l2]? with
    | some (.dK kvs), some (.dK more) => if l ≠ l2 ∧ kvs.length + more.length ≤ 100000 then .ok .non (S.set l (.dK (mergeA kvs more))) else .no
    | _, _ => .no)
  | _, _, _ => .no
/-- the kind of thing that has the method -/
def tyBm (b : Bm) (S : Sto) (o : D) : Bool := match b, o with
  | .get2, .ref l => (match S[l]? with
    | some (.dK _) => true
    | some (.dT _) => true
    | _ => false)
  | .popKey, .ref l => (match S[l]? with
    | some (.dT _) => true
    | _ => false)
  | .update, .ref l => (match S[l]? with
    | some (.dK _) => true
    | _ => false)
  | _, .ref l => (match S[l]? with
    | some (.lst _) => true
    | _ => false)
  | _, _ => false
/-- the signs of a text -/
def signsOf (s : Str) : List D := s.cps.toList.map fun c => .str ⟨#[c]⟩
def srcDic (S : Sto) (d : D) : Option (List D) := match d with
  | .ref l => (match S[l]? with
    | some (.dK kvs) => some (kvs.map fun kv => MP.dK kv.1)
    | some (.dT kvs) => some (kvs.map fun kv => MP.dT kv.1)
    | _ => none)
  | _ => none
def refOf? (d : D) (xs : List D) : Option (Nat × List D) := match d with
  | .ref l => some (l, xs)
  | _ => none
def numbered (xs : List D) : List D := xs.zipIdx.map fun p => .tup [.int p.2, p.1]
def rngOk (i j : Int) : Prop := -1000000 ≤ i ∧ i ≤ 1000000 ∧ -1000000 ≤ j ∧ j ≤ 1000000
instance (i j : Int) : Decidable (rngOk i j) := by unfold rngOk; infer_instance

section
variable (Φ : Fns) (fields : Str → Str → Bool)
mutual
noncomputable def ev : Tm → Env → Sto → R D
  | .var i, η, S => R.of (η[i]?).join S
  | .cst d, _, S => .ok d S
  | .bin o a b, η, S => (ev a η S).bind fun x S1 => (ev b η S1).bind fun y S2 => R.of (binop o S2 x y) S2
  | .neg a, η, S => (ev a η S).bind fun x S1 => (match x with
    | .int i => .ok (.int (-i)) S1
    | _ => .no)
  | .cmp o a b, η, S => (ev a η S).bind fun x S1 => (ev b η S1).bind fun y S2 => R.of ((cmpop o S2 x y).map .bl) S2
  | .cmp2 o o' a b c, η, S => (ev a η S).bind fun x S1 => (ev b η S1).bind fun y S2 => (match cmpop o S2 x y with
    | some true => (ev c η S2).bind fun z S3 => R.of ((cmpop o' S3 y z).map .bl) S3
    | some false => .ok (.bl false) S2
    | none => .no)
  | .and a b, η, S => (ev a η S).bind fun x S1 => (match x with
    | .bl true => ev b η S1
    | .bl false => .ok (.bl false) S1
    | _ => .no)
  | .or a b, η, S => (ev a η S).bind fun x S1 => (match x with
    | .bl true => .ok (.bl true) S1
    | .bl false => ev b η S1
    | _ => .no)
  | .not a, η, S => (ev a η S).bind fun x S1 => (match x with
    | .bl c => .ok (.bl (!c)) S1
    | _ => .no)
  | .ite c a b, η, S => (ev c η S).bind fun x S1 => (match x with
    | .bl true => ev a η S1
    | .bl false => ev b η S1
    | _ => .no)
  | .ix a i, η, S => (ev a η S).bind fun x S1 => (ev i η S1).bind fun y S2 => R.of (index S2 x y) S2
  | .sl a hl hh lo hi, η, S => (ev a η S).bind fun x S1 => (ev lo η S1).bind fun y S2 => (ev hi η S2).bind fun z S3 => R.of (slice S3 x hl hh y z) S3
  | .rev m a, η, S => (ev a η S).bind fun x S1 => (match revOf S1 x with
    | some d => mkLd m d S1
    | none => .no)
  | .tup es, η, S => (evs es η S).bind fun xs S1 => if xs.length ≤ big then .ok (.tup xs) S1 else .no
  | .lst m es, η, S => (evs es η S).bind fun xs S1 => if xs.length ≤ big then mkL m xs S1 else .no
  | .dct kvs, η, S => (evs kvs η S).bind fun xs S1 => (match pairsOf xs with
    | some ps => (match dicOfK ps with
      | some o => alloc o S1
      | none => .no)
    | none => .no)
  | .dnew t, _, S => alloc (if t then .dT [] else .dK []) S
  | .comp m t it c e w, η, S => (src it η S).bind fun k S1 => (compL k t (ev c) (ev e) (wipeE η w) k.its [] S1).bind fun xs S2 => mkL m xs S2
  | .comp2 t it t2 it2 c e w w2, η, S => (src it η S).bind fun k S1 =>
      (comp2L k t t2 (src it2) (ev c) (ev e) (wipeE η w) w2 k.its [] S1).bind fun xs S2 => .ok (.lst xs) S2
  | .dcomp t it k v w, η, S => (src it η S).bind fun q S1 => (dcompL q t (ev k) (ev v) (wipeE η w) q.its [] S1).bind fun ps S2 => (match dicOf ps with
    | some o => alloc o S2
    | none => .no)
  | .call f as p, η, S => (evs as η S).bind fun xs S1 => (match permute p xs with
    | some ys => Φ f ys S1
    | none => .no)
  | .mk C as, η, S => (evs as η S).bind fun xs S1 => (Φ (C ++ ".__init__") (.ref S1.length :: xs) (S1 ++ [.ins C []])).bind fun r S2 => (match r with
    | .non => .ok (.ref S1.length) S2
    | _ => .no)
  | .mth m o as p, η, S => (ev o η S).bind fun x S1 => (match x with
    | .ref l => (match S1[l]? with
      | some (.ins C fs) => if (fs.lookup m).isNone then (evs as η S1).bind fun xs S2 => (match permute p xs with
        | some ys => Φ (C ++ "." ++ m) (.ref l :: ys) S2
        | none => .no) else .no
      | _ => .no)
    | _ => .no)
  | .bi b m as, η, S => (evs as η S).bind fun xs S1 => (match biop b S1 xs with
    | some d => mkLd m d S1
    | none => .no)
  | .srt m a, η, S => (ev a η S).bind fun x S1 => (match sortSet S1 x with
    | some d => mkLd m d S1
    | none => .no)
  | .dicz a b, η, S => (ev a η S).bind fun x S1 => (ev b η S1).bind fun y S2 => (match x, y with
    | .tup xs, .tup ys => (match dicOf (xs.zip ys) with
      | some o => alloc o S2
      | none => .no)
    | _, _ => .no)
  | .dicl a, η, S => (ev a η S).bind fun x S1 => (match seqOf S1 x with
    | some xs => (match optMap pair2 xs with
      | some ps => (match dicOf ps with
        | some o => alloc o S1
        | none => .no)
      | none => .no)
    | none => .no)
  | .dicd a, η, S => (ev a η S).bind fun x S1 => (match x with
    | .ref l => (match S1[l]? with
      | some (.dK kvs) => alloc (.dK kvs) S1
      | some (.dT kvs) => alloc (.dT kvs) S1
      | _ => .no)
    | _ => .no)
  | .bm b o as, η, S => (ev o η S).bind fun x S1 => if tyBm b S1 x = true then (evs as η S1).bind fun xs S2 => bmop b S2 x xs else .no
  | .att o f, η, S => (ev o η S).bind fun x S1 => (match x with
    | .ref l => (match S1[l]? with
      | some (.ins C fs) => if fields C f then R.of (fs.lookup f) S1 else .no
      | _ => .no)
    | _ => .no)
  | .rngv a b, η, S => (ev a η S).bind fun x S1 => (ev b η S1).bind fun y S2 => (match x, y with
    | .int i, .int j => if rngOk i j then .ok (.rng i j) S2 else .no
    | _, _ => .no)
  | .isa a T, η, S => (ev a η S).bind fun x S1 => R.of ((isTy S1 x T).map .bl) S1
noncomputable def evs : Tms → Env → Sto → R (List D)
  | .nil, _, S => .ok [] S
  | .cons e es, η, S => (ev e η S).bind fun x S1 => (evs es η S1).bind fun xs S2 => .ok (x :: xs) S2
noncomputable def src : Src → Env → Sto → R Wk
  | .seq e, η, S => (ev e η S).bind fun x S1 => (match x with
    | .rng i j => .ok ⟨rangeL i j, none⟩ S1
    | .str s => .ok ⟨signsOf s, none⟩ S1
    | x => (match seqOf S1 x with
      | some xs => .ok ⟨xs, refOf? x xs⟩ S1
      | none => .no))
  | .rng1 a, η, S => (ev a η S).bind fun x S1 => (match x with
    | .int j => if rngOk 0 j then .ok ⟨rangeL 0 j, none⟩ S1 else .no
    | _ => .no)
  | .rng2 a b, η, S => (ev a η S).bind fun x S1 => (ev b η S1).bind fun y S2 => (match x, y with
    | .int i, .int j => if rngOk i j then .ok ⟨rangeL i j, none⟩ S2 else .no
    | _, _ => .no)
  | .rng3 a b c, η, S => .no
  | .enm e, η, S => (ev e η S).bind fun x S1 => (match x with
    | .tup xs => .ok ⟨numbered xs, none⟩ S1
    | x => (match lstOf S1 x with
      | some xs => .ok ⟨numbered xs, refOf? x xs⟩ S1
      | none => .no))
  | .zip a b, η, S => (ev a η S).bind fun x S1 => (ev b η S1).bind fun y S2 => (match x, y with
    | .tup xs, .tup ys => .ok ⟨(xs.zip ys).map fun p => .tup [p.1, p.2], none⟩ S2
    | _, _ => .no)
  | .dic e, η, S => (ev e η S).bind fun x S1 => (match srcDic S1 x with
    | some xs => .ok ⟨xs, none⟩ S1
    | none => .no)
end

def setItem (S : Sto) (o i d : D) : R Unit := match o with
  | .ref l => (match S[l]? with
    | some (.lst xs) => (match i with
      | .int j => (match ixN xs.length j with
        | some n => .ok () (S.set l (.lst (xs.set n d)))
        | none => .no)
      | _ => .no)
    | _ => (match dicPut S l i d with
      | some S' => .ok () S'
      | none => .no))
  | _ => .no
def setFld (S : Sto) (o : D) (f : Str) (d : D) : R Unit := match o with
  | .ref l => (match S[l]? with
    | some (.ins C fs) => if fields C f ∧ fs.length < 500 then .ok () (S.set l (.ins C (putFd f d fs))) else .no
    | _ => .no)
  | _ => .no
noncomputable def assignT : Ta → D → Env → Sto → R Env
  | .nm i, d, η, S => .ok (setN η i d) S
  | .tp is, d, η, S => (match d with
    | .tup xs => R.of (setNs η is xs) S
    | _ => .no)
  | .sub o i, d, η, S => (ev Φ fields o η S).bind fun x S1 => (ev Φ fields i η S1).bind fun y S2 => (setItem S2 x y d).bind fun _ S3 => .ok η S3
  | .fld o f, d, η, S => (ev Φ fields o η S).bind fun x S1 => (setFld fields S1 x f d).bind fun _ S2 => .ok η S2
  | .two a b, d, η, S => (match d with
    | .tup [x, y] => (assignT a x η S).bind fun η1 S1 => assignT b y η1 S1
    | _ => .no)
mutual
noncomputable def ex : Sm → Env → Sto → R Fl
  | .asg t e, η, S => (ev Φ fields e η S).bind fun d S1 => (assignT Φ fields t d η S1).bind fun η' S2 => .ok (.nx η') S2
  | .par is es, η, S => (evs Φ fields es η S).bind fun xs S1 => (match setNs η is xs with
    | some η' => .ok (.nx η') S1
    | none => .no)
  | .aug o a i e, η, S => (ev Φ fields a η S).bind fun x S1 => (ev Φ fields i η S1).bind fun y S2 => (match dicGet S2 x y with
    | some (some v) => (ev Φ fields e η S2).bind fun z S3 => (match augop o v z with
      | some u => (setItem S3 x y u).bind fun _ S4 => .ok (.nx η) S4
      | none => .no)
    | _ => .no)
  | .expr e, η, S => (ev Φ fields e η S).bind fun _ S1 => .ok (.nx η) S1
  | .ife c a b, η, S => (ev Φ fields c η S).bind fun x S1 => (match x with
    | .bl true => exs a η S1
    | .bl false => exs b η S1
    | _ => .no)
  | .for t it b, η, S => (src Φ fields it η S).bind fun k S1 => forL k t (exs b) k.its η S1
  | .whl c b, η, S => whileL (ev Φ fields c) (exs b) η S
  | .ret e, η, S => (ev Φ fields e η S).bind fun d S1 => .ok (.rt d) S1
  | .retN, _, S => .ok (.rt .non) S
  | .brk, η, S => .ok (.bk η) S
  | .cont, η, S => .ok (.ct η) S
  | .pass, η, S => .ok (.nx η) S
  | .raise C as, η, S => (evs Φ fields as η S).bind fun xs S1 => (match xs with
    | [] => .ex ⟨C, none⟩ S1
    | [x] => .ex ⟨C, some ("", x)⟩ S1
    | _ => .no)
noncomputable def exs : Sms → Env → Sto → R Fl
  | .nil, η, S => .ok (.nx η) S
  | .cons s ss, η, S => (ex s η S).bind fun f S1 => (match f with
    | .nx η' => exs ss η' S1
    | f => .ok f S1)
end
end

/-! ### defs -/
structure Fn where
  /-- parameters -/
  ps : Nat
  /-- names in all -/
  ns : Nat
  body : Sms
  /-- what it makes is thrown away but for its answer, which names nothing new -/
  own : Bool
mutual
/-- all places that are named lie below n -/
def D.low (n : Nat) : D → Bool
  | .ref l => decide (l < n)
  | .tup xs => lowAll n xs
  | .lst xs => lowAll n xs
  | _ => true
def lowAll (n : Nat) : List D → Bool
  | [] => true
  | x :: xs => x.low n && lowAll n xs
end
open Classical in
/-- behind a def that throws away what it has made -/
noncomputable def trunc (S : Sto) (r : R D) : R D := match r with
  | .ok d S' => if S'.take S.length = S ∧ d.low S.length = true then .ok d S else .no
  | .ex x S' => .no
  | .no => .no
noncomputable def body (fields : Str → Str → Bool) (Φ : Fns) (f : Fn) (as : List D) (S : Sto) : R D :=
  if as.length = f.ps then ((exs Φ fields f.body (as.map some ++ List.replicate (f.ns - f.ps) none) S).bind fun fl S1 => (match fl with
    | .rt d => .ok d S1
    | .nx _ => .ok .non S1
    | _ => .no)) else .no
noncomputable def callF (fields : Str → Str → Bool) (Φ : Fns) (f : Fn) (as : List D) (S : Sto) : R D :=
  if f.own then trunc S (body fields Φ f as S) else body fields Φ f as S
/-- so many calls deep -/
noncomputable def run (fields : Str → Str → Bool) (T : Str → Option Fn) : Nat → Fns
  | 0 => fun _ _ _ => .no
  | n + 1 => fun f as S => match T f with
    | some fn => callF fields (run fields T n) fn as S
    | none => .no
end MP

set_option Elab.async false
set_option linter.all false
set_option maxRecDepth 100000
set_option maxHeartbeats 4000000
/-! MP1: how data and store lie in the abstract heap; readings. -/
namespace MP
open PySem L2
open PySem.Spec PyProof.Rows

/-- where the store's objects stand; places that are hidden for a while (a list that is being made) -/
structure Mp where
  s : List Addr
  h : List Addr
def Mp.off (μ : Mp) (a : Addr) : Prop := a ∉ μ.s ∧ a ∉ μ.h
def Mp.add (μ : Mp) (p : Addr) : Mp := ⟨μ.s ++ [p], μ.h⟩
mutual
inductive RV (K : PySem.W.Frag) (μ : Mp) (H : Hp) : D → V → Prop
  | non : RV K μ H .non .non
  | bl (b : Bool) : RV K μ H (.bl b) (.bl b)
  | int (i : Int) : RV K μ H (.int i) (.int i)
  | str (s : Str) : RV K μ H (.str s) (.str s)
  | tup {a : Addr} {ds : List D} {vs : List V} : μ.off a → H a = some (.tup vs) → RVs K μ H ds vs → RV K μ H (.tup ds) (.ref a)
  | lst {a : Addr} {ds : List D} {vs : List V} : μ.off a → H a = some (.lst vs) → RVs K μ H ds vs → RV K μ H (.lst ds) (.ref a)
  | ref {l : Nat} {a : Addr} : μ.s[l]? = some a → RV K μ H (.ref l) (.ref a)
  | scr {a : Addr} {ns : List Int} : (μ.off a ∧ Rd H a (.lst (ns.map V.int))) ∨ (∀ H', SqL K H' a (ns.map V.int)) → RV K μ H (.scr ns) (.ref a)
  | rng {a : Addr} {lo hi : Int} : μ.off a → H a = some (.rng lo hi) → rngOk lo hi → RV K μ H (.rng lo hi) (.ref a)
inductive RVs (K : PySem.W.Frag) (μ : Mp) (H : Hp) : List D → List V → Prop
  | nil : RVs K μ H [] []
  | cons {d : D} {ds : List D} {v : V} {vs : List V} : RV K μ H d v → RVs K μ H ds vs → RVs K μ H (d :: ds) (v :: vs)
end
/-- what changed: on read-only ways nothing; else the store's own places alone -/
structure Ext (rw : Bool) (μ μ' : Mp) (H H' : Hp) : Prop where
  pre : ∃ ν, μ'.s = μ.s ++ ν
  hid : ∀ a, a ∈ μ'.h → a ∈ μ.h ∨ H a = none
  sub : ∀ a, a ∈ μ.h → a ∈ μ'.h
  keep : ∀ a o, (rw = true → a ∉ μ.s) → H a = some o → H' a = some o
  stay : ∀ a, H a ≠ none → H' a ≠ none
  new : ∀ a, a ∈ μ'.s → a ∉ μ.s → H a = none
section
variable {K : PySem.W.Frag} {rw : Bool} {μ μ' μ1 μ2 : Mp} {H H' H1 H2 : Hp}
theorem Ext.refl : Ext rw μ μ H H := ⟨⟨[], by simp⟩, fun _ h => .inl h, fun _ h => h, fun _ _ _ h => h, fun _ h => h, fun a h h' => absurd h h'⟩
theorem Ext.notin (x : Ext rw μ μ' H H') {a : Addr} {o : HO} (h : a ∉ μ.s) (e : H a = some o) : a ∉ μ'.s := fun z => by
  rw [x.new a z h] at e; cases e
theorem Ext.off (x : Ext rw μ μ' H H') {a : Addr} {o : HO} (h : μ.off a) (e : H a = some o) : μ'.off a := ⟨x.notin h.1 e, fun z => by
  rcases x.hid a z with q | q
  · exact h.2 q
  · rw [q] at e; cases e⟩
theorem Ext.at (x : Ext rw μ μ' H H') {l : Nat} {a : Addr} (h : μ.s[l]? = some a) : μ'.s[l]? = some a := by
  obtain ⟨ν, e⟩ := x.pre
  have hl : l < μ.s.length := (List.getElem?_eq_some_iff.mp h).1
  rw [e, List.getElem?_append_left hl]; exact h
theorem Ext.non0 (x : Ext rw μ μ' H H') {a : Addr} (h : H' a = none) : H a = none := Classical.byContradiction fun z => x.stay a z h
theorem Ext.trans (x : Ext rw μ μ1 H H1) (y : Ext rw μ1 μ2 H1 H2) : Ext rw μ μ2 H H2 where
  pre := by
    obtain ⟨ν, e⟩ := x.pre
    obtain ⟨ν', e'⟩ := y.pre
    exact ⟨ν ++ ν', by rw [e', e]; simp⟩
  hid := fun a h => by
    rcases y.hid a h with q | q
    · exact x.hid a q
    · exact .inr (x.non0 q)
  sub := fun a h => y.sub a (x.sub a h)
  keep := fun a o h e => y.keep a o (fun r => x.notin (h r) e) (x.keep a o h e)
  stay := fun a h => y.stay a (x.stay a h)
  new := fun a h h' => by
    by_cases q : a ∈ μ1.s
    · exact x.new a q h'
    · exact x.non0 (y.new a h q)
theorem Ext.up (x : Ext false μ μ' H H') : Ext true μ μ' H H' := ⟨x.pre, x.hid, x.sub, fun a o _ e => x.keep a o (fun q => nomatch q) e, x.stay, x.new⟩
end
/-- the same, but that hidden places may have changed -/
structure ExtW (rw : Bool) (μ μ' : Mp) (H H' : Hp) : Prop where
  pre : ∃ ν, μ'.s = μ.s ++ ν
  hid : ∀ a, a ∈ μ'.h → a ∈ μ.h ∨ H a = none
  sub : ∀ a, a ∈ μ.h → a ∈ μ'.h
  keepW : ∀ a o, (rw = true → a ∉ μ.s) → a ∉ μ.h → H a = some o → H' a = some o
  stay : ∀ a, H a ≠ none → H' a ≠ none
  new : ∀ a, a ∈ μ'.s → a ∉ μ.s → H a = none
section
variable {K : PySem.W.Frag} {rw : Bool} {μ μ' μ1 μ2 : Mp} {H H' H1 H2 : Hp}
theorem Ext.toW (x : Ext rw μ μ' H H') : ExtW rw μ μ' H H' := ⟨x.pre, x.hid, x.sub, fun a o h _ e => x.keep a o h e, x.stay, x.new⟩
theorem ExtW.keep (x : ExtW rw μ μ' H H') (a : Addr) (o : HO) (h : μ.off a) (e : H a = some o) : H' a = some o := x.keepW a o (fun _ => h.1) h.2 e
theorem ExtW.off (x : ExtW rw μ μ' H H') {a : Addr} {o : HO} (h : μ.off a) (e : H a = some o) : μ'.off a := by
  refine ⟨fun z => ?_, fun z => ?_⟩
  · have := x.new a z h.1
    rw [this] at e; cases e
  · rcases x.hid a z with q | q
    · exact h.2 q
    · rw [q] at e; cases e
theorem ExtW.at (x : ExtW rw μ μ' H H') {l : Nat} {a : Addr} (h : μ.s[l]? = some a) : μ'.s[l]? = some a := by
  obtain ⟨ν, e⟩ := x.pre
  have hl : l < μ.s.length := (List.getElem?_eq_some_iff.mp h).1
  rw [e, List.getElem?_append_left hl]; exact h
theorem ExtW.trans (x : ExtW rw μ μ1 H H1) (y : ExtW rw μ1 μ2 H1 H2) : ExtW rw μ μ2 H H2 where
  pre := by
    obtain ⟨ν, e⟩ := x.pre
    obtain ⟨ν', e'⟩ := y.pre
    exact ⟨ν ++ ν', by rw [e', e]; simp⟩
  hid := fun a h => by
    rcases y.hid a h with q | q
    · exact x.hid a q
    · exact .inr (Classical.byContradiction fun z => x.stay a z q)
  sub := fun a h => y.sub a (x.sub a h)
  keepW := fun a o h h2 e => y.keepW a o (fun r z => by
    have := x.new a z (h r)
    rw [this] at e; cases e) (fun z => by
    rcases x.hid a z with q | q
    · exact h2 q
    · rw [q] at e; cases e) (x.keepW a o h h2 e)
  stay := fun a h => y.stay a (x.stay a h)
  new := fun a h h' => by
    by_cases q : a ∈ μ1.s
    · exact x.new a q h'
    · exact Classical.byContradiction fun z => x.stay a z (y.new a h q)
theorem ExtW.updh {p : Addr} {u : HO} (x : ExtW rw μ μ' H H') (hp : p ∈ μ.h) : ExtW rw μ μ' H (upd H' p u) :=
  ⟨x.pre, x.hid, x.sub, fun a o h h2 e => by rw [upd_ne fun z => h2 (by rw [z]; exact hp)]; exact x.keepW a o h h2 e, fun a h => by
    by_cases z : a = p
    · subst z; rw [upd_same]; exact Option.some_ne_none _
    · rw [upd_ne z]; exact x.stay a h, x.new⟩
end
mutual
theorem RV.extW {K : PySem.W.Frag} {rw : Bool} {μ μ' : Mp} {H H' : Hp} (x : ExtW rw μ μ' H H') : ∀ (d : D) (v : V), RV K μ H d v → RV K μ' H' d v
  | .non, _, h => by cases h; exact .non
  | .bl b, _, h => by cases h; exact .bl b
  | .int i, _, h => by cases h; exact .int i
  | .str s, _, h => by cases h; exact .str s
  | .tup ds, _, h => by
    cases h with
    | tup h1 h2 h3 => exact .tup (x.off h1 h2) (x.keep _ _ h1 h2) (RVs.extW x _ _ h3)
  | .lst ds, _, h => by
    cases h with
    | lst h1 h2 h3 => exact .lst (x.off h1 h2) (x.keep _ _ h1 h2) (RVs.extW x _ _ h3)
  | .ref l, _, h => by
    cases h with
    | ref h1 => exact .ref (x.at h1)
  | .scr ns, _, h => by
    cases h with
    | scr h =>
      rcases h with ⟨h1, h2 | ⟨o, h2⟩⟩ | h
      · exact .scr (.inl ⟨x.off h1 h2, .inl (x.keep _ _ h1 h2)⟩)
      · exact .scr (.inl ⟨x.off h1 h2, .inr ⟨o, x.keep _ _ h1 h2⟩⟩)
      · exact .scr (.inr h)
  | .rng lo hi, _, h => by
    cases h with
    | rng h1 h2 h3 => exact .rng (x.off h1 h2) (x.keep _ _ h1 h2) h3
theorem RVs.extW {K : PySem.W.Frag} {rw : Bool} {μ μ' : Mp} {H H' : Hp} (x : ExtW rw μ μ' H H') : ∀ (ds : List D) (vs : List V), RVs K μ H ds vs → RVs K μ' H' ds vs
  | [], _, h => by cases h; exact .nil
  | d :: ds, _, h => by
    cases h with
    | cons h1 h2 => exact .cons (RV.extW x _ _ h1) (RVs.extW x _ _ h2)
end
theorem RV.ext {K : PySem.W.Frag} {rw : Bool} {μ μ' : Mp} {H H' : Hp} (x : Ext rw μ μ' H H') (d : D) (v : V) (h : RV K μ H d v) : RV K μ' H' d v := RV.extW x.toW d v h
theorem RVs.ext {K : PySem.W.Frag} {rw : Bool} {μ μ' : Mp} {H H' : Hp} (x : Ext rw μ μ' H H') (ds : List D) (vs : List V) (h : RVs K μ H ds vs) : RVs K μ' H' ds vs := RVs.extW x.toW ds vs h
theorem RVs.length {K : PySem.W.Frag} {μ : Mp} {H : Hp} : ∀ {ds : List D} {vs : List V}, RVs K μ H ds vs → ds.length = vs.length
  | _, _, .nil => rfl
  | _, _, .cons _ t => by simp [RVs.length t]
theorem RVs.get {K : PySem.W.Frag} {μ : Mp} {H : Hp} : ∀ {ds : List D} {vs : List V} {i : Nat} {d : D}, RVs K μ H ds vs → ds[i]? = some d → ∃ v, vs[i]? = some v ∧ RV K μ H d v
  | _, _, _, _, .nil, e => by simp at e
  | _, _, 0, _, .cons r _, e => by simp at e; subst e; exact ⟨_, rfl, r⟩
  | _, _, i + 1, d, .cons _ t, e => by
    obtain ⟨v, h1, h2⟩ := RVs.get (i := i) (d := d) t (by simpa using e)
    exact ⟨v, by simpa using h1, h2⟩
theorem RVs.append {K : PySem.W.Frag} {μ : Mp} {H : Hp} : ∀ {ds es : List D} {vs ws : List V}, RVs K μ H ds vs → RVs K μ H es ws → RVs K μ H (ds ++ es) (vs ++ ws)
  | _, _, _, _, .nil, s => s
  | _, _, _, _, .cons r t, s => .cons r (RVs.append t s)
theorem RVs.drop {K : PySem.W.Frag} {μ : Mp} {H : Hp} : ∀ {ds : List D} {vs : List V} (n : Nat), RVs K μ H ds vs → RVs K μ H (ds.drop n) (vs.drop n)
  | _, _, 0, r => r
  | _, _, _ + 1, .nil => .nil
  | _, _, n + 1, .cons _ t => RVs.drop n t
theorem RVs.take {K : PySem.W.Frag} {μ : Mp} {H : Hp} : ∀ {ds : List D} {vs : List V} (n : Nat), RVs K μ H ds vs → RVs K μ H (ds.take n) (vs.take n)
  | _, _, 0, _ => .nil
  | _, _, _ + 1, .nil => .nil
  | _, _, n + 1, .cons r t => .cons r (RVs.take n t)
theorem RVs.set {K : PySem.W.Frag} {μ : Mp} {H : Hp} {d : D} {v : V} (r : RV K μ H d v) : ∀ {ds : List D} {vs : List V} (i : Nat), RVs K μ H ds vs → RVs K μ H (ds.set i d) (vs.set i v)
  | _, _, _, .nil => .nil
  | _, _, 0, .cons _ t => .cons r t
  | _, _, i + 1, .cons q t => .cons q (RVs.set r i t)
theorem RVs.reverse {K : PySem.W.Frag} {μ : Mp} {H : Hp} : ∀ {ds : List D} {vs : List V}, RVs K μ H ds vs → RVs K μ H ds.reverse vs.reverse
  | _, _, .nil => .nil
  | _, _, .cons r t => by simp only [List.reverse_cons]; exact (RVs.reverse t).append (.cons r .nil)
theorem RVs.dropLast {K : PySem.W.Frag} {μ : Mp} {H : Hp} {ds : List D} {vs : List V} (h : RVs K μ H ds vs) : RVs K μ H ds.dropLast vs.dropLast := by
  rw [List.dropLast_eq_take, List.dropLast_eq_take, h.length]; exact h.take _
theorem RVs.eraseIdx {K : PySem.W.Frag} {μ : Mp} {H : Hp} : ∀ {ds : List D} {vs : List V} (i : Nat), RVs K μ H ds vs → RVs K μ H (ds.eraseIdx i) (vs.eraseIdx i)
  | _, _, _, .nil => .nil
  | _, _, 0, .cons _ t => t
  | _, _, i + 1, .cons q t => .cons q (RVs.eraseIdx i t)

/-- pairs with the same key -/
inductive RK {κ : Type} (K : PySem.W.Frag) (μ : Mp) (H : Hp) : List (κ × D) → List (κ × V) → Prop
  | nil : RK K μ H [] []
  | cons {k : κ} {d : D} {v : V} {r : List (κ × D)} {q : List (κ × V)} : RV K μ H d v → RK K μ H r q → RK K μ H ((k, d) :: r) ((k, v) :: q)
inductive RO (K : PySem.W.Frag) (μ : Mp) (H : Hp) : Ob → HO → Prop
  | lst {ds : List D} {vs : List V} : RVs K μ H ds vs → RO K μ H (.lst ds) (.lst vs)
  | dK {kvs : List (Key × D)} {q : List (Key × V)} : RK K μ H kvs q → RO K μ H (.dK kvs) (.dK q)
  | dT {kvs : List (List Key × D)} {q : List (List Key × V)} : RK K μ H kvs q → RO K μ H (.dT kvs) (.dT q)
  | ins {C : Str} {dx : Addr} {fs : List (Str × D)} {gs : List (Str × V)} : RK K μ H fs gs → RO K μ H (.ins C fs) (.ins (He.ga K C) dx gs)
/-- an object stands at a; on read-only ways it may be locked -/
def At (rw : Bool) (H : Hp) (a : Addr) (o : HO) : Prop := H a = some o ∨ (rw = false ∧ ∃ b, H a = some (.frz b o))
theorem mut_ne {o : Option HO} (h : Mut o) : o ≠ none := fun e => by rw [e] at h; exact h
structure SRep (K : PySem.W.Frag) (rw : Bool) (μ : Mp) (S : Sto) (H : Hp) : Prop where
  len : μ.s.length = S.length
  nd : μ.s.Nodup
  hid : ∀ a ∈ μ.h, Mut (H a) ∧ a ∉ μ.s
  ob : ∀ (l : Nat) (o : Ob), S[l]? = some o → ∃ a ho, μ.s[l]? = some a ∧ At rw H a ho ∧ RO K μ H o ho
structure ERep (K : PySem.W.Frag) (μ : Mp) (H : Hp) (η : Env) (σ : L2.St) : Prop where
  len : η.length = σ.length
  get : ∀ (i : Nat) (d : D), η[i]? = some (some d) → ∃ v, σ[i]? = some (some v) ∧ RV K μ H d v
section
variable {K : PySem.W.Frag} {rw : Bool} {μ μ' : Mp} {H H' : Hp} {S S' : Sto} {η : Env} {σ : L2.St}
theorem RK.ext {κ : Type} (x : Ext rw μ μ' H H') : ∀ {kvs : List (κ × D)} {q : List (κ × V)}, RK K μ H kvs q → RK K μ' H' kvs q
  | _, _, .nil => .nil
  | _, _, .cons r t => .cons (RV.ext x _ _ r) (RK.ext x t)
theorem RO.ext (x : Ext rw μ μ' H H') : ∀ {o : Ob} {ho : HO}, RO K μ H o ho → RO K μ' H' o ho
  | _, _, .lst r => .lst (RVs.ext x _ _ r)
  | _, _, .dK r => .dK (r.ext x)
  | _, _, .dT r => .dT (r.ext x)
  | _, _, .ins r => .ins (r.ext x)
theorem ERep.ext (x : Ext rw μ μ' H H') (e : ERep K μ H η σ) : ERep K μ' H' η σ :=
  ⟨e.len, fun i d h => let ⟨v, h1, h2⟩ := e.get i d h; ⟨v, h1, RV.ext x _ _ h2⟩⟩
theorem ERep.extW (x : ExtW rw μ μ' H H') (e : ERep K μ H η σ) : ERep K μ' H' η σ :=
  ⟨e.len, fun i d h => let ⟨v, h1, h2⟩ := e.get i d h; ⟨v, h1, RV.extW x _ _ h2⟩⟩
theorem ERep.set (e : ERep K μ H η σ) (i : Nat) {d : D} {v : V} (r : RV K μ H d v) : ERep K μ H (setN η i d) (σ.set i (some v)) where
  len := by unfold setN; rw [List.length_set, List.length_set]; exact e.len
  get := fun j d' h => by
    unfold setN at h
    by_cases hj : i = j
    · subst hj
      have hl : i < η.length := by
        have := (List.getElem?_eq_some_iff.mp h).1
        simpa using this
      rw [List.getElem?_set_self hl] at h
      cases h
      exact ⟨v, by rw [List.getElem?_set_self (by rw [← e.len]; exact hl)], r⟩
    · rw [List.getElem?_set_ne hj] at h
      obtain ⟨w, h1, h2⟩ := e.get j d' h
      exact ⟨w, by rw [List.getElem?_set_ne hj]; exact h1, h2⟩
theorem ERep.wipe (e : ERep K μ H η σ) : ∀ w : List Nat, ERep K μ H (wipeE η w) (L2.wipe σ w)
  | [] => e
  | v :: vs => by
    have ih := ERep.wipe e vs
    refine ⟨by unfold wipeE L2.wipe; rw [List.length_set, List.length_set]; exact ih.len, fun j d h => ?_⟩
    unfold wipeE at h
    unfold L2.wipe
    by_cases hj : v = j
    · subst hj
      have hl : v < (wipeE η vs).length := by
        have := (List.getElem?_eq_some_iff.mp h).1
        simpa using this
      rw [List.getElem?_set_self hl] at h
      cases h
    · rw [List.getElem?_set_ne hj] at h
      obtain ⟨x, h1, h2⟩ := ih.get j d h
      exact ⟨x, by rw [List.getElem?_set_ne hj]; exact h1, h2⟩
theorem At.get {a : Addr} {o : HO} (h : At true H a o) : H a = some o := by
  rcases h with h | ⟨h, _⟩
  · exact h
  · cases h
theorem At.rd {a : Addr} {o : HO} (h : At rw H a o) : Rd H a o := by
  rcases h with h | ⟨_, b, h⟩
  · exact .inl h
  · exact .inr ⟨b, h⟩
theorem At.some {a : Addr} {o : HO} (h : At rw H a o) : H a ≠ none := by
  rcases h with h | ⟨_, b, h⟩ <;> rw [h] <;> simp
theorem SRep.low (s : SRep K rw μ S H) {a : Addr} (h : a ∈ μ.s) : H a ≠ none := by
  obtain ⟨l, hl, e⟩ := List.mem_iff_getElem.mp h
  have hl' : l < S.length := by rw [← s.len]; exact hl
  obtain ⟨a', ho, h1, h2, _⟩ := s.ob l S[l] (by simp [hl'])
  have : a' = a := by
    rw [List.getElem?_eq_getElem hl] at h1
    rw [← e]; exact (Option.some.inj h1).symm
  rw [← this]; exact h2.some
theorem SRep.at (s : SRep K rw μ S H) {l : Nat} {o : Ob} {a : Addr} (h : S[l]? = some o) (e : μ.s[l]? = some a) : ∃ ho, At rw H a ho ∧ RO K μ H o ho := by
  obtain ⟨a', ho, h1, h2, h3⟩ := s.ob l o h
  rw [e] at h1; cases h1
  exact ⟨ho, h2, h3⟩
theorem SRep.notmem (s : SRep K rw μ S H) {p : Addr} (hp : H p = none) : μ.off p := ⟨fun z => s.low z hp, fun z => mut_ne (s.hid p z).1 hp⟩
/-- a new tracked object that is not the store's -/
theorem Ext.fresh {p : Addr} {o : HO} (hp : H p = none) : Ext rw μ μ H (upd H p o) :=
  ⟨⟨[], by simp⟩, fun _ h => .inl h, fun _ h => h, fun a u _ e => by rw [upd_ne (ne_of_none e hp)]; exact e, fun a h => by rw [upd_ne fun z => h (by rw [z]; exact hp)]; exact h, fun a h h' => absurd h h'⟩
theorem At.upd {a p : Addr} {o u : HO} (h : At rw H a o) (hne : a ≠ p) : At rw (L2.upd H p u) a o := by
  rcases h with h | ⟨q, b, h⟩
  · exact .inl (by rw [upd_ne hne]; exact h)
  · exact .inr ⟨q, b, by rw [upd_ne hne]; exact h⟩
theorem SRep.fresh {p : Addr} {o : HO} (s : SRep K rw μ S H) (hp : H p = none) : SRep K rw μ S (upd H p o) where
  len := s.len
  nd := s.nd
  hid := fun a ha => ⟨by rw [upd_ne (fun z => mut_ne (s.hid a ha).1 (by rw [z]; exact hp))]; exact (s.hid a ha).1, (s.hid a ha).2⟩
  ob := fun l u e => by
    obtain ⟨a, ho, h1, h2, h3⟩ := s.ob l u e
    exact ⟨a, ho, h1, h2.upd (fun z => h2.some (by rw [z]; exact hp)), h3.ext (Ext.fresh (rw := rw) hp)⟩
/-- a new object of the store -/
theorem Ext.alloc {p : Addr} {ho : HO} (hp : H p = none) : Ext rw μ (μ.add p) H (upd H p ho) :=
  ⟨⟨[p], rfl⟩, fun _ h => .inl h, fun _ h => h, fun a u _ e => by rw [upd_ne (ne_of_none e hp)]; exact e, fun a h => by rw [upd_ne fun z => h (by rw [z]; exact hp)]; exact h, fun a h h' => by
    rcases List.mem_append.mp h with h | h
    · exact absurd h h'
    · have : a = p := by simpa using h
      rw [this]; exact hp⟩
theorem SRep.alloc {p : Addr} {o : Ob} {ho : HO} (s : SRep K rw μ S H) (hp : H p = none) (r : RO K (μ.add p) (upd H p ho) o ho) : SRep K rw (μ.add p) (S ++ [o]) (upd H p ho) where
  len := by simp [Mp.add, s.len]
  nd := by
    unfold Mp.add
    rw [List.nodup_append]
    refine ⟨s.nd, by simp, fun a ha b hb e => ?_⟩
    have : b = p := by simpa using hb
    rw [e, this] at ha
    exact (s.notmem hp).1 ha
  hid := fun a ha => by
    have hne : a ≠ p := fun z => mut_ne (s.hid a ha).1 (by rw [z]; exact hp)
    refine ⟨by rw [upd_ne hne]; exact (s.hid a ha).1, fun h => ?_⟩
    rcases List.mem_append.mp h with h | h
    · exact (s.hid a ha).2 h
    · exact hne (by simpa using h)
  ob := fun l u e => by
    by_cases hl : l < S.length
    · rw [List.getElem?_append_left hl] at e
      obtain ⟨a, hu, h1, h2, h3⟩ := s.ob l u e
      exact ⟨a, hu, by unfold Mp.add; rw [List.getElem?_append_left (by rw [s.len]; exact hl)]; exact h1, h2.upd (fun z => h2.some (by rw [z]; exact hp)), h3.ext (Ext.alloc (rw := rw) hp)⟩
    · rw [List.getElem?_append_right (by omega)] at e
      have e0 : l - S.length = 0 := by
        have := (List.getElem?_eq_some_iff.mp e).1
        simp at this; omega
      rw [e0] at e
      have : u = o := by simpa using e.symm
      subst this
      refine ⟨p, ho, ?_, .inl upd_same, r⟩
      unfold Mp.add
      rw [List.getElem?_append_right (by rw [s.len]; omega), s.len, e0]; rfl
/-- an object of the store is written -/
theorem Ext.write {l : Nat} {a : Addr} {ho : HO} (h : μ.s[l]? = some a) : Ext true μ μ H (upd H a ho) :=
  ⟨⟨[], by simp⟩, fun _ h => .inl h, fun _ h => h, fun b u q e => by
    rw [upd_ne]
    · exact e
    · intro z; exact q rfl (by rw [z]; exact List.mem_of_getElem? h), fun b hb => by
    by_cases z : b = a
    · subst z; rw [upd_same]; exact Option.some_ne_none _
    · rw [upd_ne z]; exact hb, fun b h h' => absurd h h'⟩
theorem SRep.write {l : Nat} {a : Addr} {o : Ob} {ho : HO} (s : SRep K true μ S H) (h : μ.s[l]? = some a) (r : RO K μ (upd H a ho) o ho) : SRep K true μ (S.set l o) (upd H a ho) where
  len := by rw [List.length_set]; exact s.len
  nd := s.nd
  hid := fun b hb => by
    have hne : b ≠ a := fun z => (s.hid b hb).2 (by rw [z]; exact List.mem_of_getElem? h)
    exact ⟨by rw [upd_ne hne]; exact (s.hid b hb).1, (s.hid b hb).2⟩
  ob := fun j u e => by
    by_cases hj : l = j
    · subst hj
      have hl : l < S.length := by rw [← s.len]; exact (List.getElem?_eq_some_iff.mp h).1
      rw [List.getElem?_set_self hl] at e
      cases e
      exact ⟨a, ho, h, .inl upd_same, r⟩
    · rw [List.getElem?_set_ne hj] at e
      obtain ⟨b, hu, h1, h2, h3⟩ := s.ob j u e
      have hne : b ≠ a := fun z => by
        subst z
        obtain ⟨x1, y1⟩ := List.getElem?_eq_some_iff.mp h
        obtain ⟨x2, y2⟩ := List.getElem?_eq_some_iff.mp h1
        exact hj ((List.getElem_inj s.nd).mp (y1.trans y2.symm))
      exact ⟨b, hu, h1, h2.upd hne, h3.ext (Ext.write h)⟩
end

/-! ### readings -/
def Res {α β : Type} (K : PySem.W.Frag) (rw : Bool) (rep : Mp → Hp → α → β → Prop) (μ : Mp) (H : Hp) (r : R α) (Q : β → Hp → Prop) : Prop := match r with
  | .ok d S' => ∀ μ' H' v, Ext rw μ μ' H H' → SRep K rw μ' S' H' → rep μ' H' d v → Q v H'
  | _ => False
section
variable {K : PySem.W.Frag} {rw : Bool} {μ μ' μ1 : Mp} {H H' H1 : Hp} {S S' : Sto} {η : Env} {σ : L2.St} {α β γ δ : Type} {rep : Mp → Hp → α → β → Prop} {rep2 : Mp → Hp → γ → δ → Prop}
theorem Res.ext {r : R α} {Q : β → Hp → Prop} (h : Res K rw rep μ H r Q) (x : Ext rw μ μ1 H H1) : Res K rw rep μ1 H1 r Q := by
  cases r with
  | ok d S' => exact fun μ' H' v y s q => h μ' H' v (x.trans y) s q
  | ex _ _ => exact h
  | no => exact h
theorem res_bind {r : R α} {k : α → Sto → R γ} {Q : δ → Hp → Prop} {P : β → Hp → Prop} (h : Res K rw rep2 μ H (r.bind k) Q)
    (f : ∀ d S1 μ1 H1 v, Ext rw μ μ1 H H1 → SRep K rw μ1 S1 H1 → rep μ1 H1 d v → Res K rw rep2 μ1 H1 (k d S1) Q → P v H1) : Res K rw rep μ H r P := by
  cases r with
  | ok d S' => exact fun μ' H' v y s q => f d S' μ' H' v y s q (Res.ext (r := k d S') h y)
  | ex _ _ => exact h.elim
  | no => exact h.elim
theorem Res.ok {d : α} {v : β} {Q : β → Hp → Prop} (h : Res K rw rep μ H (.ok d S) Q) (s : SRep K rw μ S H) (r : rep μ H d v) : Q v H := h μ H v .refl s r
theorem Res.of {o : Option α} {Q : β → Hp → Prop} (h : Res K rw rep μ H (R.of o S) Q) : ∃ d, o = some d ∧ Res K rw rep μ H (.ok d S) Q := by
  cases o with
  | none => exact h.elim
  | some d => exact ⟨d, rfl, h⟩
end
/-- an expression's reading -/
def rdE (K : PySem.W.Frag) (rw : Bool) (m : Env → Sto → R D) : TE := fun σ H Q => ∃ μ S η, SRep K rw μ S H ∧ ERep K μ H η σ ∧ Res K rw (RV K) μ H (m η S) Q
def rdT (K : PySem.W.Frag) (rw : Bool) (m : Env → Sto → R D) : TT := tB (rdE K rw m)
def rdA (K : PySem.W.Frag) (rw : Bool) (m : Env → Sto → R (List D)) : TA := fun σ H Q => ∃ μ S η, SRep K rw μ S H ∧ ERep K μ H η σ ∧ Res K rw (RVs K) μ H (m η S) Q
theorem PEw {X : Cx} {e : Expr} {t t' : TE} (h : PE X e t) (w : ∀ σ H Q, t' σ H Q → t σ H Q) : PE X e t' := ⟨fun pins s σ H Q I q => h.run pins s σ H Q I (w σ H Q q)⟩
theorem PTw {X : Cx} {e : Expr} {t t' : TT} (h : PT X e t) (w : ∀ σ H Q, t' σ H Q → t σ H Q) : PT X e t' := ⟨fun pins s σ H Q I q => h.run pins s σ H Q I (w σ H Q q)⟩
theorem PAw {X : Cx} {e : List Expr} {t t' : TA} (h : PA X e t) (w : ∀ σ H Q, t' σ H Q → t σ H Q) : PA X e t' := ⟨fun ps pins s σ H Q I q => h.run ps pins s σ H Q I (w σ H Q q)⟩
theorem PSw {X : Cx} {e : Stmt} {t t' : TS} (h : PS X e t) (w : ∀ D σ H, t' D σ H → t D σ H) : PS X e t' := ⟨fun pins s σ H D I q => h.run pins s σ H D I (w D σ H q)⟩
theorem PSsw {X : Cx} {e : List Stmt} {t t' : TS} (h : PSs X e t) (w : ∀ D σ H, t' D σ H → t D σ H) : PSs X e t' := ⟨fun pins s σ H D I q => h.run pins s σ H D I (w D σ H q)⟩
theorem PIw {X : Cx} {tg e : Expr} {t t' : TI} (h : PI X tg e t) (w : ∀ σ H R, t' σ H R → t σ H R) : PI X tg e t' := ⟨fun pins s σ H R I q => h.run pins s σ H R I (w σ H R q)⟩
theorem PGw {X : Cx} {e : Expr} {t t' : TG} (h : PG X e t) (w : ∀ v σ H Q, t' v σ H Q → t v σ H Q) : PG X e t' := ⟨fun pins s σ H v u Q I r q => h.run pins s σ H v u Q I r (w v σ H Q q)⟩

/-! ### hidden places -/
def Mp.hide (μ : Mp) (p : Addr) : Mp := ⟨μ.s, μ.h ++ [p]⟩
theorem Ext.hide {rw : Bool} {μ μ' : Mp} {H H' : Hp} {p : Addr} (x : Ext rw μ μ' H H') (hp : H p = none) : Ext rw μ (μ'.hide p) H H' :=
  ⟨x.pre, fun a h => by
    rcases List.mem_append.mp h with h | h
    · exact x.hid a h
    · have : a = p := by simpa using h
      rw [this]; exact .inr hp, fun a h => List.mem_append_left _ (x.sub a h), x.keep, x.stay, x.new⟩
mutual
/-- a hidden place may change -/
theorem RV.updh {K : PySem.W.Frag} {μ : Mp} {H : Hp} {p : Addr} {u : HO} (hp : p ∈ μ.h) : ∀ (d : D) (v : V), RV K μ H d v → RV K μ (upd H p u) d v
  | .non, _, h => by cases h; exact .non
  | .bl b, _, h => by cases h; exact .bl b
  | .int i, _, h => by cases h; exact .int i
  | .str s, _, h => by cases h; exact .str s
  | .tup ds, _, h => by
    cases h with
    | tup h1 h2 h3 => exact .tup h1 (by rw [upd_ne fun z => h1.2 (by rw [z]; exact hp)]; exact h2) (RVs.updh hp _ _ h3)
  | .lst ds, _, h => by
    cases h with
    | lst h1 h2 h3 => exact .lst h1 (by rw [upd_ne fun z => h1.2 (by rw [z]; exact hp)]; exact h2) (RVs.updh hp _ _ h3)
  | .ref l, _, h => by
    cases h with
    | ref h1 => exact .ref h1
  | .scr ns, _, h => by
    cases h with
    | scr h =>
      rcases h with ⟨h1, h2 | ⟨o, h2⟩⟩ | h
      · exact .scr (.inl ⟨h1, .inl (by rw [upd_ne fun z => h1.2 (by rw [z]; exact hp)]; exact h2)⟩)
      · exact .scr (.inl ⟨h1, .inr ⟨o, by rw [upd_ne fun z => h1.2 (by rw [z]; exact hp)]; exact h2⟩⟩)
      · exact .scr (.inr h)
  | .rng lo hi, _, h => by
    cases h with
    | rng h1 h2 h3 => exact .rng h1 (by rw [upd_ne fun z => h1.2 (by rw [z]; exact hp)]; exact h2) h3
theorem RVs.updh {K : PySem.W.Frag} {μ : Mp} {H : Hp} {p : Addr} {u : HO} (hp : p ∈ μ.h) : ∀ (ds : List D) (vs : List V), RVs K μ H ds vs → RVs K μ (upd H p u) ds vs
  | [], _, h => by cases h; exact .nil
  | d :: ds, _, h => by
    cases h with
    | cons h1 h2 => exact .cons (RV.updh hp _ _ h1) (RVs.updh hp _ _ h2)
end
/-- other places hidden, fewer -/
structure Mp.Sub (μ μ' : Mp) : Prop where
  at_ : ∀ (l : Nat) (a : Addr), μ.s[l]? = some a → μ'.s[l]? = some a
  off : ∀ a, μ.off a → μ'.off a
mutual
/-- a place is shown again, given to the store -/
theorem RV.chg {K : PySem.W.Frag} {μ μ' : Mp} {H : Hp} (x : μ.Sub μ') : ∀ (d : D) (v : V), RV K μ H d v → RV K μ' H d v
  | .non, _, h => by cases h; exact .non
  | .bl b, _, h => by cases h; exact .bl b
  | .int i, _, h => by cases h; exact .int i
  | .str s, _, h => by cases h; exact .str s
  | .tup ds, _, h => by
    cases h with
    | tup h1 h2 h3 => exact .tup (x.off _ h1) h2 (RVs.chg x _ _ h3)
  | .lst ds, _, h => by
    cases h with
    | lst h1 h2 h3 => exact .lst (x.off _ h1) h2 (RVs.chg x _ _ h3)
  | .ref l, _, h => by
    cases h with
    | ref h1 => exact .ref (x.at_ _ _ h1)
  | .scr ns, _, h => by
    cases h with
    | scr h =>
      rcases h with ⟨h1, h2⟩ | h
      · exact .scr (.inl ⟨x.off _ h1, h2⟩)
      · exact .scr (.inr h)
  | .rng lo hi, _, h => by
    cases h with
    | rng h1 h2 h3 => exact .rng (x.off _ h1) h2 h3
theorem RVs.chg {K : PySem.W.Frag} {μ μ' : Mp} {H : Hp} (x : μ.Sub μ') : ∀ (ds : List D) (vs : List V), RVs K μ H ds vs → RVs K μ' H ds vs
  | [], _, h => by cases h; exact .nil
  | d :: ds, _, h => by
    cases h with
    | cons h1 h2 => exact .cons (RV.chg x _ _ h1) (RVs.chg x _ _ h2)
end
def Mp.unh (μ : Mp) (p : Addr) : Mp := ⟨μ.s, μ.h.filter (· ≠ p)⟩
def Mp.giv (μ : Mp) (p : Addr) : Mp := ⟨μ.s ++ [p], μ.h.filter (· ≠ p)⟩
theorem Mp.sub_unh {μ : Mp} {p : Addr} : μ.Sub (μ.unh p) := ⟨fun _ _ h => h, fun _ h => ⟨h.1, fun z => h.2 (List.mem_filter.mp z).1⟩⟩
theorem Mp.sub_giv {μ : Mp} {p : Addr} (hp : p ∈ μ.h) : μ.Sub (μ.giv p) := ⟨fun _ _ h => by unfold Mp.giv; rw [List.getElem?_append_left (List.getElem?_eq_some_iff.mp h).1]; exact h, fun a h => ⟨fun z => by
    rcases List.mem_append.mp z with z | z
    · exact h.1 z
    · have : a = p := by simpa using z
      rw [this] at h
      exact h.2 hp, fun z => h.2 (List.mem_filter.mp z).1⟩⟩
section
variable {K : PySem.W.Frag} {rw : Bool} {μ μ' : Mp} {H H' : Hp} {S : Sto} {p : Addr}
theorem RK.updh {κ : Type} {u : HO} (hp : p ∈ μ.h) : ∀ {kvs : List (κ × D)} {q : List (κ × V)}, RK K μ H kvs q → RK K μ (upd H p u) kvs q
  | _, _, .nil => .nil
  | _, _, .cons r t => .cons (RV.updh hp _ _ r) (RK.updh hp t)
theorem RO.updh {u : HO} (hp : p ∈ μ.h) : ∀ {o : Ob} {ho : HO}, RO K μ H o ho → RO K μ (upd H p u) o ho
  | _, _, .lst r => .lst (RVs.updh hp _ _ r)
  | _, _, .dK r => .dK (r.updh hp)
  | _, _, .dT r => .dT (r.updh hp)
  | _, _, .ins r => .ins (r.updh hp)
theorem RK.chg {κ : Type} (x : μ.Sub μ') : ∀ {kvs : List (κ × D)} {q : List (κ × V)}, RK K μ H kvs q → RK K μ' H kvs q
  | _, _, .nil => .nil
  | _, _, .cons r t => .cons (RV.chg x _ _ r) (RK.chg x t)
theorem RO.chg (x : μ.Sub μ') : ∀ {o : Ob} {ho : HO}, RO K μ H o ho → RO K μ' H o ho
  | _, _, .lst r => .lst (RVs.chg x _ _ r)
  | _, _, .dK r => .dK (r.chg x)
  | _, _, .dT r => .dT (r.chg x)
  | _, _, .ins r => .ins (r.chg x)
/-- a new place, hidden from here on -/
theorem SRep.hide {o : HO} (s : SRep K rw μ S H) (hp : H p = none) (mo : Mut (some o)) : SRep K rw (μ.hide p) S (upd H p o) where
  len := s.len
  nd := s.nd
  hid := fun a ha => by
    rcases List.mem_append.mp ha with ha | ha
    · exact ⟨by rw [upd_ne (fun z => mut_ne (s.hid a ha).1 (by rw [z]; exact hp))]; exact (s.hid a ha).1, (s.hid a ha).2⟩
    · have : a = p := by simpa using ha
      subst this
      exact ⟨by rw [upd_same]; exact mo, (s.notmem hp).1⟩
  ob := fun l u e => by
    obtain ⟨a, ho, h1, h2, h3⟩ := s.ob l u e
    exact ⟨a, ho, h1, h2.upd (fun z => h2.some (by rw [z]; exact hp)), h3.ext ((Ext.fresh (rw := rw) hp).hide hp)⟩
theorem SRep.updh {u : HO} (s : SRep K rw μ S H) (hp : p ∈ μ.h) (mo : Mut (some u)) : SRep K rw μ S (upd H p u) where
  len := s.len
  nd := s.nd
  hid := fun a ha => by
    by_cases e : a = p
    · subst e; exact ⟨by rw [upd_same]; exact mo, (s.hid a ha).2⟩
    · exact ⟨by rw [upd_ne e]; exact (s.hid a ha).1, (s.hid a ha).2⟩
  ob := fun l u e => by
    obtain ⟨a, ho, h1, h2, h3⟩ := s.ob l u e
    exact ⟨a, ho, h1, h2.upd (fun z => (s.hid p hp).2 (by rw [← z]; exact List.mem_of_getElem? h1)), h3.updh hp⟩
theorem SRep.show_ (s : SRep K rw μ S H) : SRep K rw (μ.unh p) S H where
  len := s.len
  nd := s.nd
  hid := fun a ha => s.hid a (List.mem_filter.mp ha).1
  ob := fun l u e => by
    obtain ⟨a, ho, h1, h2, h3⟩ := s.ob l u e
    exact ⟨a, ho, h1, h2, h3.chg Mp.sub_unh⟩
/-- .. and given to the store -/
theorem SRep.give {o : Ob} {ho : HO} (s : SRep K rw μ S H) (hp : p ∈ μ.h) (e : H p = some ho) (r : RO K (μ.giv p) H o ho) : SRep K rw (μ.giv p) (S ++ [o]) H where
  len := by simp [Mp.giv]; exact s.len
  nd := by
    unfold Mp.giv
    rw [List.nodup_append]
    refine ⟨s.nd, by simp, fun a ha b hb e => ?_⟩
    have : b = p := by simpa using hb
    rw [e, this] at ha
    exact (s.hid p hp).2 ha
  hid := fun a ha => by
    obtain ⟨h1, h2⟩ := List.mem_filter.mp ha
    refine ⟨(s.hid a h1).1, fun z => ?_⟩
    rcases List.mem_append.mp z with z | z
    · exact (s.hid a h1).2 z
    · have : a = p := by simpa using z
      simp [this] at h2
  ob := fun l u q => by
    have hlen : μ.s.length = S.length := s.len
    by_cases hl : l < S.length
    · rw [List.getElem?_append_left hl] at q
      obtain ⟨a, hu, h1, h2, h3⟩ := s.ob l u q
      exact ⟨a, hu, (Mp.sub_giv hp).at_ _ _ h1, h2, h3.chg (Mp.sub_giv hp)⟩
    · rw [List.getElem?_append_right (by omega)] at q
      have e0 : l - S.length = 0 := by
        have := (List.getElem?_eq_some_iff.mp q).1
        simp at this; omega
      rw [e0] at q
      have : u = o := by simpa using q.symm
      subst this
      refine ⟨p, ho, ?_, .inl e, r⟩
      unfold Mp.giv
      rw [List.getElem?_append_right (by rw [hlen]; omega), hlen, e0]; rfl
/-- at the end: the place that was hidden since H, shown, given -/
theorem Ext.unh {μ1 : Mp} {H1 : Hp} (x : Ext rw μ1 μ H1 H) (hp : H1 p = none) (h1 : p ∉ μ1.h) : Ext rw μ1 (μ.unh p) H1 H :=
  ⟨x.pre, fun a h => x.hid a (List.mem_filter.mp h).1, fun a h => List.mem_filter.mpr ⟨x.sub a h, by simpa using fun e => h1 (by rw [← e]; exact h)⟩, x.keep, x.stay, x.new⟩
theorem Ext.giv {μ1 : Mp} {H1 : Hp} (x : Ext rw μ1 μ H1 H) (hp : H1 p = none) (h1 : p ∉ μ1.h) : Ext rw μ1 (μ.giv p) H1 H :=
  ⟨let ⟨ν, e⟩ := x.pre; ⟨ν ++ [p], by unfold Mp.giv; rw [e]; simp⟩, fun a h => x.hid a (List.mem_filter.mp h).1, fun a h => List.mem_filter.mpr ⟨x.sub a h, by simpa using fun e => h1 (by rw [← e]; exact h)⟩, x.keep, x.stay, fun a h h' => by
    rcases List.mem_append.mp h with h | h
    · exact x.new a h h'
    · have : a = p := by simpa using h
      rw [this]; exact hp⟩
/-- a place that is new since H is written -/
theorem Ext.updh {μ1 : Mp} {H1 : Hp} {u : HO} (x : Ext rw μ1 μ H1 H) (hp : H1 p = none) : Ext rw μ1 μ H1 (upd H p u) :=
  ⟨x.pre, x.hid, x.sub, fun a o h e => by rw [upd_ne (ne_of_none e hp)]; exact x.keep a o h e, fun a h => by rw [upd_ne fun z => h (by rw [z]; exact hp)]; exact x.stay a h, x.new⟩
end
end MP

set_option Elab.async false
set_option linter.all false
set_option maxRecDepth 100000
set_option maxHeartbeats 4000000
/-! MP2: operators. -/
namespace MP
open PySem L2
open PySem.Spec PyProof.Rows
theorem big_le {n : Nat} (h : n ≤ big) : n ≤ sizeLine := by rw [sizeLine_eq]; unfold big at h; omega
theorem big_lt {n : Nat} (h : n < big) : n < sizeLine := by rw [sizeLine_eq]; unfold big at h; omega
section
variable {K : PySem.W.Frag} {rw : Bool} {μ : Mp} {S : Sto} {H : Hp} {Q : VK}
/-- a new list, tuple, as data -/
theorem new_lst {ds : List D} {vs : List V} (h : Res K rw (RV K) μ H (.ok (.lst ds) S) Q) (s : SRep K rw μ S H) (r : RVs K μ H ds vs) : ∀ p, H p = none → Q (.ref p) (upd H p (.lst vs)) := fun p hp =>
  h μ _ _ (Ext.fresh hp) (s.fresh hp) (.lst (s.notmem hp) upd_same (RVs.ext (rw := rw) (Ext.fresh hp) _ _ r))
theorem new_tup {ds : List D} {vs : List V} (h : Res K rw (RV K) μ H (.ok (.tup ds) S) Q) (s : SRep K rw μ S H) (r : RVs K μ H ds vs) : ∀ p, H p = none → Q (.ref p) (upd H p (.tup vs)) := fun p hp =>
  h μ _ _ (Ext.fresh hp) (s.fresh hp) (.tup (s.notmem hp) upd_same (RVs.ext (rw := rw) (Ext.fresh hp) _ _ r))
/-- a new object of the store -/
theorem new_ob {o : Ob} {ho : HO} (h : Res K rw (RV K) μ H (alloc o S) Q) (s : SRep K rw μ S H) (r : ∀ p, H p = none → RO K (μ.add p) (upd H p ho) o ho) : ∀ p, H p = none → Q (.ref p) (upd H p ho) := fun p hp =>
  h _ _ _ (Ext.alloc hp) (s.alloc hp (r p hp)) (.ref (by rw [← s.len]; simp [Mp.add]))
theorem new_mkL {m : Bool} {ds : List D} {vs : List V} (h : Res K rw (RV K) μ H (mkL m ds S) Q) (s : SRep K rw μ S H) (r : RVs K μ H ds vs) : ∀ p, H p = none → Q (.ref p) (upd H p (.lst vs)) := by
  unfold mkL at h
  cases m with
  | false => exact new_lst h s r
  | true => exact new_ob h s fun p hp => .lst (RVs.ext (rw := rw) (Ext.alloc hp) _ _ r)
/-- a sequence lies as a list or a tuple -/
theorem seq_rep {a : D} {v : V} {ds : List D} (s : SRep K rw μ S H) (r : RV K μ H a v) (e : seqOf S a = some ds) : ∃ p vs, v = .ref p ∧ RVs K μ H ds vs ∧ (Rd H p (.lst vs) ∨ Rd H p (.tup vs)) := by
  unfold seqOf at e
  split at e
  · cases e
    cases r with
    | tup h1 h2 h3 => exact ⟨_, _, rfl, h3, .inr (.inl h2)⟩
  · cases e
    cases r with
    | lst h1 h2 h3 => exact ⟨_, _, rfl, h3, .inl (.inl h2)⟩
  · rename_i l
    split at e
    · rename_i xs q
      cases e
      cases r with
      | ref h1 =>
        obtain ⟨ho, h2, h3⟩ := s.at q h1
        cases h3 with
        | lst h4 => exact ⟨_, _, rfl, h4, .inl h2.rd⟩
    · cases e
  · cases e
/-- .. tracked, where it may be written -/
theorem lst_rep {a : D} {v : V} {ds : List D} (s : SRep K true μ S H) (r : RV K μ H a v) (e : seqOf S a = some ds) (nt : ∀ xs, a ≠ .tup xs) : ∃ p vs, v = .ref p ∧ RVs K μ H ds vs ∧ H p = some (.lst vs) := by
  unfold seqOf at e
  split at e
  · rename_i xs; exact absurd rfl (nt xs)
  · cases e
    cases r with
    | lst h1 h2 h3 => exact ⟨_, _, rfl, h3, h2⟩
  · rename_i l
    split at e
    · rename_i xs q
      cases e
      cases r with
      | ref h1 =>
        obtain ⟨ho, h2, h3⟩ := s.at q h1
        cases h3 with
        | lst h4 => exact ⟨_, _, rfl, h4, h2.get⟩
    · cases e
  · cases e
theorem RVs.flatten {ds : List D} {vs : List V} (r : RVs K μ H ds vs) : ∀ k : Nat, RVs K μ H (List.replicate k ds).flatten (List.replicate k vs).flatten
  | 0 => by simp; exact .nil
  | k + 1 => by
    rw [List.replicate_succ, List.replicate_succ, List.flatten_cons, List.flatten_cons]
    exact r.append (RVs.flatten r k)
end
/-- an operator by values -/
def rB (K : PySem.W.Frag) (rw : Bool) (o : Operator) : R2 := fun x y H Q => ∃ μ S a b, SRep K rw μ S H ∧ RV K μ H a x ∧ RV K μ H b y ∧ Res K rw (RV K) μ H (R.of (binop o S a b) S) Q

/-! ### tuples times 1, 0 -/
theorem tuple_mul1 (l : Addr) (items : Array Value) (n : Nat) (dd : Option Addr) (sl : Array (Option Value)) (u : Tok) :
    Meets (Builtin.«tuple.__mul__» ⟨[.ref l, .int 1 u], []⟩) (fun _ R s => s.heap.get? l = some { cls := .type "tuple", dict := dd, data := .seq items n, slots := sl } ∧
      R (.ok (.ret (Value.ref l))) s) :=
  .of_wp fun prog w A R s h => by
    obtain ⟨hp, g, d, tk, os⟩ := s
    obtain ⟨hl, h⟩ := h
    have f1 := AutoSeq1.idx_int
    have c1 : (items.isEmpty || (1 : Int) == 1) = true := by simp
    wp_walk using wpAny_loadPart' hl
    repeat (first
      | (refine wpAny_ite_false (decide_eq_false (by decide)) ?_; wp_walk using wpAny_loadPart' hl)
      | (refine wpAny_ite_true (decide_eq_true c1) ?_; wp_walk using wpAny_loadPart' hl))
    all_goals exact ⟨_, rfl, h⟩
theorem tuple_mul0 (l : Addr) (items : Array Value) (n : Nat) (dd : Option Addr) (sl : Array (Option Value)) (u : Tok) (hne : items.isEmpty = false) :
    Meets (Builtin.«tuple.__mul__» ⟨[.ref l, .int 0 u], []⟩) (fun _ R s => s.heap.get? l = some { cls := .type "tuple", dict := dd, data := .seq items n, slots := sl } ∧
      R (.ok (.ret (Value.ref s.heap.objs.size))) { s with heap := s.heap.push { cls := Value.type "tuple", data := Data.seq #[] }, toks := s.toks }) :=
  .of_wp fun prog w A R s h => by
    obtain ⟨hp, g, d, tk, os⟩ := s
    obtain ⟨hl, h⟩ := h
    have f1 := AutoSeq1.idx_int
    have c1 : (items.isEmpty || (0 : Int) == 1) = false := by rw [hne]; rfl
    have c2 : (decide ((0 : Int) ≤ 0) || items.isEmpty) = true := by simp
    wp_walk using wpAny_loadPart' hl
    repeat (first
      | (refine wpAny_ite_false (decide_eq_false (by decide)) ?_; wp_walk using wpAny_loadPart' hl)
      | (refine wpAny_ite_false (decide_eq_false (by rw [c1]; exact Bool.false_ne_true)) ?_; wp_walk using wpAny_loadPart' hl)
      | (refine wpAny_ite_true (decide_eq_true c2) ?_; wp_walk using wpAny_loadPart' hl)
      | (refine wpAny_ite_false (decide_eq_false (Nat.not_lt.mpr (by show 0 ≤ sizeLine; exact Nat.zero_le _))) ?_; wp_walk using wpAny_loadPart' hl))
    all_goals exact ⟨_, rfl, h⟩
section
variable {X : Cx}
def rRep1 (K : PySem.W.Frag) : R2 := fun x y H Q => ∃ l xs, x = .ref l ∧ y = .int 1 ∧ SqT K H l xs ∧ Q (.ref l) H
theorem op_rep1 : OpR X (binaryOp .Mult) (rRep1 X.K) := by
  intro pins s σ H x y v u Q I rx ry h
  obtain ⟨l, xs, rfl, rfl, hT, q⟩ := h
  cases rx
  obtain ⟨t, rfl⟩ := ry
  obtain ⟨its, r, ⟨⟨cls, dd, data, sl⟩, ho, hc, n, hd⟩, hs⟩ := I.tuple hT
  simp only at hc hd
  subst hc hd
  refine wpAny_binaryOp_repeat_ref (T := "tuple") (U := "int") (by decide) ⟨_, ho, rfl⟩ (fun s' => typeIs_int s' 1 t) noFill_tuple_mul F.fills_int_mul F.slot_int_rmul repeat_tuple F.slot_int_index.lookup
    (call_meets F.slot_int_rmul (typeIs_int s 1 t) F.entry_int_rmul (F.args_int_rmul_2 _ _) (int_rmul_tuple 1 t l its.toArray n dd sl)
      ⟨ho, rfl, ⟨_, ho, rfl⟩, call_meets F.slot_tuple_mul ⟨_, ho, rfl⟩ F.entry_tuple_mul (F.args_tuple_mul_2 _ _) (tuple_mul1 l its.toArray n dd sl t) ⟨ho, ?_⟩⟩)
  exact ⟨.ref l, H, I, rfl, q⟩
def rRep0 (K : PySem.W.Frag) : R2 := fun x y H Q => ∃ l xs, x = .ref l ∧ y = .int 0 ∧ SqT K H l xs ∧ xs ≠ [] ∧ ∀ p, H p = none → Q (.ref p) (upd H p (.tup []))
theorem op_rep0 : OpR X (binaryOp .Mult) (rRep0 X.K) := by
  intro pins s σ H x y v u Q I rx ry h
  obtain ⟨l, xs, rfl, rfl, hT, hne, q⟩ := h
  cases rx
  obtain ⟨t, rfl⟩ := ry
  obtain ⟨its, r, ⟨⟨cls, dd, data, sl⟩, ho, hc, n, hd⟩, hs⟩ := I.tuple hT
  simp only at hc hd
  subst hc hd
  have hi : its.toArray.isEmpty = false := by
    cases its with
    | nil => cases r; exact absurd rfl hne
    | cons a b => rfl
  refine wpAny_binaryOp_repeat_ref (T := "tuple") (U := "int") (by decide) ⟨_, ho, rfl⟩ (fun s' => typeIs_int s' 0 t) noFill_tuple_mul F.fills_int_mul F.slot_int_rmul repeat_tuple F.slot_int_index.lookup
    (call_meets F.slot_int_rmul (typeIs_int s 0 t) F.entry_int_rmul (F.args_int_rmul_2 _ _) (int_rmul_tuple 0 t l its.toArray n dd sl)
      ⟨ho, rfl, ⟨_, ho, rfl⟩, call_meets F.slot_tuple_mul ⟨_, ho, rfl⟩ F.entry_tuple_mul (F.args_tuple_mul_2 _ _) (tuple_mul0 l its.toArray n dd sl t hi) ⟨ho, ?_⟩⟩)
  refine ⟨.ref s.heap.objs.size, _, I.laid (t' := s.toks) (o := .tup []) (fun b ob q => Heap.get?_push_of_some _ q) (Nat.le_refl _) ?_, rfl, q _ (I.hok.fresh (Nat.le_refl _))⟩
  exact ⟨Nat.zero_le _, [], .nil, IsTup.new _ _⟩
end

section
variable {X : Cx} {rw : Bool}
theorem log2_small {n b : Nat} (hb : 0 < b) (h : n < 2 ^ b) : n.log2 < b := PySem.Flt.log2_lt_of hb h
theorem op_Sub : OpR X (binaryOp .Sub) (rB X.K rw .Sub) := by
  intro pins s σ H x y v u Q I rx ry h
  obtain ⟨μ, S, a, b, hs, ra, rb, hr⟩ := h
  obtain ⟨d, e, hr⟩ := hr.of
  unfold binop at e
  split at e <;> try cases e
  all_goals try contradiction
  rename_i hO i j
  cases ra; cases rb
  exact op_sub pins s σ H _ _ v u Q I rx ry ⟨_, _, rfl, rfl, hr.ok hs (.int _)⟩
theorem op_Mod : OpR X (binaryOp .Mod) (rB X.K rw .Mod) := by
  intro pins s σ H x y v u Q I rx ry h
  obtain ⟨μ, S, a, b, hs, ra, rb, hr⟩ := h
  obtain ⟨d, e, hr⟩ := hr.of
  unfold binop at e
  split at e <;> try contradiction
  rename_i hO i j
  split at e
  · rename_i hj
    cases e
    cases ra; cases rb
    exact op_mod pins s σ H _ _ v u Q I rx ry ⟨_, _, rfl, rfl, hj, hr.ok hs (.int _)⟩
  · cases e
theorem op_FloorDiv : OpR X (binaryOp .FloorDiv) (rB X.K rw .FloorDiv) := by
  intro pins s σ H x y v u Q I rx ry h
  obtain ⟨μ, S, a, b, hs, ra, rb, hr⟩ := h
  obtain ⟨d, e, hr⟩ := hr.of
  unfold binop at e
  split at e <;> try contradiction
  rename_i hO i j
  split at e
  · rename_i hj
    cases e
    cases ra; cases rb
    exact op_fdivW pins s σ H _ _ v u Q I rx ry ⟨_, _, rfl, rfl, ⟨hj.1, Nat.lt_of_lt_of_le (log2_small (by decide) hj.2) (by decide)⟩, hr.ok hs (.int _)⟩
  · cases e
theorem op_Pow : OpR X (binaryOp .Pow) (rB X.K rw .Pow) := by
  intro pins s σ H x y v u Q I rx ry h
  obtain ⟨μ, S, a, b, hs, ra, rb, hr⟩ := h
  obtain ⟨d, e, hr⟩ := hr.of
  unfold binop at e
  split at e <;> try contradiction
  rename_i hO i j
  split at e
  · rename_i hj
    cases e
    cases ra; cases rb
    exact op_pow pins s σ H _ _ v u Q I rx ry ⟨_, _, rfl, rfl, ⟨hj.1, by omega, hj.2.2⟩, hr.ok hs (.int _)⟩
  · cases e
theorem op_BitAnd : OpR X (binaryOp .BitAnd) (rB X.K rw .BitAnd) := by
  intro pins s σ H x y v u Q I rx ry h
  obtain ⟨μ, S, a, b, hs, ra, rb, hr⟩ := h
  obtain ⟨d, e, hr⟩ := hr.of
  unfold binop at e
  split at e <;> try contradiction
  rename_i hO i j
  cases e
  cases ra; cases rb
  exact op_and pins s σ H _ _ v u Q I rx ry ⟨_, _, rfl, rfl, hr.ok hs (.int _)⟩
theorem op_Add : OpR X (binaryOp .Add) (rB X.K true .Add) := by
  intro pins s σ H x y v u Q I rx ry h
  obtain ⟨μ, S, a, b, hs, ra, rb, hr⟩ := h
  obtain ⟨d, e, hr⟩ := hr.of
  unfold binop at e
  split at e <;> try contradiction
  · cases e
    cases ra; cases rb
    exact op_add pins s σ H _ _ v u Q I rx ry ⟨_, _, rfl, rfl, hr.ok hs (.int _)⟩
  · split at e
    · rename_i hz
      cases e
      cases ra; cases rb
      exact op_add_str pins s σ H _ _ v u Q I rx ry ⟨_, _, rfl, rfl, big_le hz, hr.ok hs (.str _)⟩
    · cases e
  · split at e
    · rename_i hz
      cases e
      cases ra with
      | tup h1 h2 h3 =>
        cases rb with
        | tup g1 g2 g3 =>
          refine op_catA pins s σ H _ _ v u Q I rx ry ⟨_, _, _, _, rfl, rfl, .of h2, .of g2, ?_, fun e0 => ?_, fun _ e0 => ?_, fun _ _ => ?_⟩
          · rw [← h3.length, ← g3.length]; exact big_le hz
          · subst e0
            cases h3
            exact hr.ok hs (.tup g1 g2 g3)
          · subst e0
            cases g3
            rw [List.append_nil] at hr
            exact hr.ok hs (.tup h1 h2 h3)
          · exact new_tup hr hs (h3.append g3)
    · cases e
  · split at e <;> try contradiction
    rename_i nt1 nt2
    split at e <;> try contradiction
    rename_i xs ys e1 e2
    split at e
    · rename_i hz
      cases e
      obtain ⟨p, vs, rfl, h3, h2⟩ := lst_rep hs ra e1 (by intro zs z; exact nt1 zs z)
      obtain ⟨q, ws, rfl, g3, g2⟩ := lst_rep hs rb e2 (by intro zs z; exact nt2 zs z)
      exact op_cat pins s σ H _ _ v u Q I rx ry ⟨_, _, _, _, rfl, rfl, h2, g2, by rw [← h3.length, ← g3.length]; exact big_le hz, new_lst hr hs (h3.append g3)⟩
    · cases e

theorem op_Mult : OpR X (binaryOp .Mult) (rB X.K true .Mult) := by
  intro pins s σ H x y v u Q I rx ry h
  obtain ⟨μ, S, a, b, hs, ra, rb, hr⟩ := h
  obtain ⟨d, e, hr⟩ := hr.of
  unfold binop at e
  split at e <;> try contradiction
  · split at e
    · rename_i hz
      cases e
      cases ra; cases rb
      unfold mulOk at hz
      rw [Bool.and_eq_true] at hz
      exact op_mulW pins s σ H _ _ v u Q I rx ry ⟨_, _, rfl, rfl, wide_mul (of_decide_eq_true hz.1) (of_decide_eq_true hz.2) (by decide) (by decide) (by decide), hr.ok hs (.int _)⟩
    · cases e
  · rename_i xs j hO
    split at e
    · rename_i hz
      cases e
      cases rb
      cases ra with
      | tup h1 h2 h3 =>
        have hl := h3.length
        rename_i vs
        have hv : vs ≠ [] := fun z => by
          rw [z] at hl
          have hl0 : xs.length = 0 := hl
          omega
        by_cases j0 : j = 0
        · subst j0
          exact op_rep0 pins s σ H _ _ v u Q I rx ry ⟨_, _, rfl, rfl, .of h2, hv, new_tup hr hs .nil⟩
        · by_cases j1 : j = 1
          · subst j1
            have e1 : (List.replicate (1 : Int).toNat xs).flatten = xs := by simp
            rw [e1] at hr
            exact op_rep1 pins s σ H _ _ v u Q I rx ry ⟨_, _, rfl, rfl, .of h2, hr.ok hs (.tup h1 h2 h3)⟩
          · exact op_repT pins s σ H _ _ v u Q I rx ry ⟨_, _, _, rfl, rfl, .of h2, hv, by omega, hz.2.1, by rw [← hl]; exact hz.2.2.1, new_tup hr hs (h3.flatten _)⟩
    · cases e
  · rename_i z j hO
    split at e
    · rename_i hz
      obtain ⟨hz, rfl⟩ := hz
      cases e
      cases ra; cases rb
      obtain ⟨t, rfl⟩ := rx
      obtain ⟨t', rfl⟩ := ry
      refine PySem.P.mul_str (by decide) (fun _ _ => by rw [hz]; decide) (fun _ _ => by rw [hz]; decide) ?_
      have c1 : ((9 : Int) == 1 || z.length == 0) = false := by rw [hz]; rfl
      rw [if_neg (by decide), if_neg (by rw [c1]; exact Bool.false_ne_true)]
      refine ⟨?_, .str _, H, I.tok _, ⟨_, rfl⟩, hr.ok hs (.str _)⟩
      obtain ⟨⟨ys⟩⟩ := z
      match ys, hz with
      | [c], _ => show 9 ≤ sizeLine; decide
    · cases e
  · rename_i j hO n0 n1 n2
    split at e <;> try contradiction
    rename_i xs e1
    split at e
    · rename_i hz
      cases e
      obtain ⟨p, vs, rfl, h3, h2⟩ := lst_rep hs ra e1 (by intro zs z; subst z; exact n1 _ rfl)
      cases rb
      refine op_rep pins s σ H _ _ v u Q I rx ry ⟨_, _, _, rfl, rfl, h2, by omega, by omega, ?_, new_lst hr hs (h3.flatten _)⟩
      rw [← h3.length, sizeLine_eq]
      have a1 : xs.length * j.toNat ≤ 1000 * 1000 := Nat.mul_le_mul hz.2.2 (by omega)
      omega
    · cases e
end
end MP

set_option Elab.async false
set_option linter.all false
set_option maxRecDepth 100000
set_option maxHeartbeats 4000000
/-! MP3: data read by the library; comparisons. -/
namespace MP
open PySem L2
open PySem.Spec PyProof.Rows
section
variable {K : PySem.W.Frag} {rw : Bool} {μ : Mp} {S : Sto} {H : Hp}
theorem dpAll_of {f : D → Option PyData} : ∀ {ds : List D} {vs : List V} {es : List PyData}, RVs K μ H ds vs → optMap f ds = some es → (∀ d v e, RV K μ H d v → f d = some e → Dp K H v e) → DpAll K H vs es
  | _, _, _, .nil, e, _ => by cases e; exact .nil
  | d :: ds, _, _, .cons r t, e, g => by
    unfold optMap at e
    split at e <;> try contradiction
    rename_i y hy
    split at e <;> try contradiction
    rename_i ys hys
    cases e
    exact .cons (g _ _ _ r hy) (dpAll_of t hys g)
theorem map_some {α β : Type} {o : Option α} {f : α → β} {b : β} (h : o.map f = some b) : ∃ a, o = some a ∧ f a = b := by
  cases o with
  | none => cases h
  | some a => exact ⟨a, rfl, Option.some.inj h⟩
theorem pd_rep (s : SRep K rw μ S H) : ∀ (n : Nat) (d : D) (v : V) (e : PyData), RV K μ H d v → pdN S n d = some e → Dp K H v e
  | 0, _, _, _, _, h => by cases h
  | n + 1, d, v, e, r, h => by
    unfold pdN at h
    split at h <;> try contradiction
    · cases h; cases r; exact .non
    · cases h; cases r; exact .bl _
    · cases h; cases r; exact .int _
    · split at h <;> try contradiction
      cases h; cases r; exact .str _
    · obtain ⟨es, h1, rfl⟩ := map_some h
      cases r with
      | tup a1 a2 a3 => exact .tup (.of a2) (dpAll_of a3 h1 fun d v e q z => pd_rep s n d v e q z)
    · obtain ⟨es, h1, rfl⟩ := map_some h
      cases r with
      | lst a1 a2 a3 => exact .lst (.of a2) (dpAll_of a3 h1 fun d v e q z => pd_rep s n d v e q z)
    · split at h <;> try contradiction
      rename_i l xs q
      obtain ⟨es, h1, rfl⟩ := map_some h
      cases r with
      | ref a1 =>
        obtain ⟨ho, a2, a3⟩ := s.at q a1
        cases a3 with
        | lst a4 => exact .lst (.inl a2.rd) (dpAll_of a4 h1 fun d v e q z => pd_rep s n d v e q z)
theorem pd_can {n : Nat} {ds : List D} {es : List PyData} (h : optMap (pdN S n) ds = some es) (g : ∀ d e, pdN S n d = some e → e.canLay0 = true ∧ e.depth ≤ n) : PyData.canLayAll0 es = true ∧ PyData.depthAll es ≤ n := by
  induction ds generalizing es with
  | nil => cases h; exact ⟨by simp [PyData.canLayAll0], by simp [PyData.depthAll]⟩
  | cons d ds ih =>
    unfold optMap at h
    split at h <;> try contradiction
    rename_i y hy
    split at h <;> try contradiction
    rename_i ys hys
    cases h
    obtain ⟨a, b⟩ := g _ _ hy
    obtain ⟨a', b'⟩ := ih hys
    refine ⟨by simp [PyData.canLayAll0, a, a'], by simp only [PyData.depthAll]; omega⟩
theorem pd_shape : ∀ (n : Nat) (d : D) (e : PyData), pdN S n d = some e → e.canLay0 = true ∧ e.depth ≤ n
  | 0, _, _, h => by cases h
  | n + 1, d, e, h => by
    unfold pdN at h
    split at h <;> try contradiction
    · cases h; exact ⟨by simp [PyData.canLay0], by simp [PyData.depth]⟩
    · cases h; exact ⟨by simp [PyData.canLay0], by simp [PyData.depth]⟩
    · cases h; exact ⟨by simp [PyData.canLay0], by simp [PyData.depth]⟩
    · split at h <;> try contradiction
      rename_i q
      cases h; exact ⟨by simp [PyData.canLay0, q], by simp [PyData.depth]⟩
    · obtain ⟨es, h1, rfl⟩ := map_some h
      obtain ⟨a, b⟩ := pd_can h1 fun d e => pd_shape n d e
      exact ⟨by simp [PyData.canLay0, a], by simp only [PyData.depth]; omega⟩
    · obtain ⟨es, h1, rfl⟩ := map_some h
      obtain ⟨a, b⟩ := pd_can h1 fun d e => pd_shape n d e
      exact ⟨by simp [PyData.canLay0, a], by simp only [PyData.depth]; omega⟩
    · split at h <;> try contradiction
      obtain ⟨es, h1, rfl⟩ := map_some h
      obtain ⟨a, b⟩ := pd_can h1 fun d e => pd_shape n d e
      exact ⟨by simp [PyData.canLay0, a], by simp only [PyData.depth]; omega⟩
theorem pd_shaped {d : D} {e : PyData} (h : pd S d = some e) : SeqAt.shaped e = true := by
  obtain ⟨a, b⟩ := pd_shape _ _ _ h
  unfold SeqAt.shaped
  rw [a, Bool.true_and]
  exact decide_eq_true (by omega)
end
/-- what every context here has -/
structure Okx (X : Cx) : Prop where
  calm : X.calm = true
  nd : X.N.Nodup
  hd : X.A.handled = none
  un : X.A.units + 150 < cLine
  gu : X.A.guards = some []
section
variable {X : Cx} {rw : Bool}
def rCm (K : PySem.W.Frag) (rw : Bool) (o : CmpOp) : R2 := fun x y H Q => ∃ μ S a b, SRep K rw μ S H ∧ RV K μ H a x ∧ RV K μ H b y ∧ Res K rw (RV K) μ H (R.of ((cmpop o S a b).map .bl) S) Q
theorem of_bl {K : PySem.W.Frag} {μ : Mp} {S : Sto} {H : Hp} {Q : VK} {o : Option Bool} (s : SRep K rw μ S H) (h : Res K rw (RV K) μ H (R.of (o.map .bl) S) Q) : ∃ b, o = some b ∧ Q (.bl b) H := by
  obtain ⟨d, e, q⟩ := h.of
  obtain ⟨b, e1, rfl⟩ := map_some e
  exact ⟨b, e1, q.ok s (.bl b)⟩
theorem eqop_cases {S : Sto} {a b : D} {k : Bool} (e : eqop S a b = some k) : (∃ x y, a = .str x ∧ b = .str y ∧ k = decide (x = y)) ∨ ∃ d1 d2, pd S a = some d1 ∧ pd S b = some d2 ∧ k = PyData.eqv d1 d2 := by
  unfold eqop at e
  split at e
  · cases e; exact .inl ⟨_, _, rfl, rfl, rfl⟩
  · split at e <;> try contradiction
    rename_i d1 d2 e1 e2
    cases e
    exact .inr ⟨_, _, e1, e2, rfl⟩
theorem cm_Eq (O : Okx X) : OpR X (compareOp .Eq) (rCm X.K rw .Eq) := by
  intro pins s σ H x y v u Q I rx ry h
  obtain ⟨μ, S, a, b, hs, ra, rb, hr⟩ := h
  obtain ⟨k, e, q⟩ := of_bl hs hr
  simp only [cmpop] at e
  rcases eqop_cases e with ⟨x', y', rfl, rfl, rfl⟩ | ⟨d1, d2, e1, e2, rfl⟩
  · cases ra; cases rb
    refine op_eq pins s σ H _ _ v u Q I rx ry ⟨rfl, ?_⟩
    have e1 : decide (V.str x' = V.str y') = decide (x' = y') := by rw [Bool.eq_iff_iff]; simp
    rw [e1]; exact q
  · exact op_eqD (by have := O.un; omega) pins s σ H _ _ v u Q I rx ry ⟨_, _, pd_rep hs _ _ _ _ ra e1, pd_rep hs _ _ _ _ rb e2, pd_shaped e1, pd_shaped e2, q⟩
theorem cm_NotEq (O : Okx X) : OpR X (compareOp .NotEq) (rCm X.K rw .NotEq) := by
  intro pins s σ H x y v u Q I rx ry h
  obtain ⟨μ, S, a, b, hs, ra, rb, hr⟩ := h
  obtain ⟨k, e, q⟩ := of_bl hs hr
  simp only [cmpop] at e
  obtain ⟨k', e9, rfl⟩ := map_some e
  rcases eqop_cases e9 with ⟨x', y', rfl, rfl, rfl⟩ | ⟨d1, d2, e1, e2, rfl⟩
  · cases ra; cases rb
    refine op_ne pins s σ H _ _ v u Q I rx ry ⟨rfl, ?_⟩
    have e1 : (!decide (V.str x' = V.str y')) = !decide (x' = y') := by congr 1; rw [Bool.eq_iff_iff]; simp
    rw [e1]; exact q
  · exact op_neD (by have := O.un; omega) pins s σ H _ _ v u Q I rx ry ⟨_, _, pd_rep hs _ _ _ _ ra e1, pd_rep hs _ _ _ _ rb e2, pd_shaped e1, pd_shaped e2, q⟩
theorem cm_LtE : OpR X (compareOp .LtE) (rCm X.K rw .LtE) := by
  intro pins s σ H x y v u Q I rx ry h
  obtain ⟨μ, S, a, b, hs, ra, rb, hr⟩ := h
  obtain ⟨k, e, q⟩ := of_bl hs hr
  simp only [cmpop] at e
  split at e <;> try contradiction
  cases e; cases ra; cases rb
  exact op_le pins s σ H _ _ v u Q I rx ry ⟨_, _, rfl, rfl, q⟩
theorem cm_Gt : OpR X (compareOp .Gt) (rCm X.K rw .Gt) := by
  intro pins s σ H x y v u Q I rx ry h
  obtain ⟨μ, S, a, b, hs, ra, rb, hr⟩ := h
  obtain ⟨k, e, q⟩ := of_bl hs hr
  simp only [cmpop] at e
  split at e <;> try contradiction
  cases e; cases ra; cases rb
  exact op_gt pins s σ H _ _ v u Q I rx ry ⟨_, _, rfl, rfl, q⟩
theorem cm_GtE : OpR X (compareOp .GtE) (rCm X.K rw .GtE) := by
  intro pins s σ H x y v u Q I rx ry h
  obtain ⟨μ, S, a, b, hs, ra, rb, hr⟩ := h
  obtain ⟨k, e, q⟩ := of_bl hs hr
  simp only [cmpop] at e
  split at e <;> try contradiction
  cases e; cases ra; cases rb
  exact op_ge pins s σ H _ _ v u Q I rx ry ⟨_, _, rfl, rfl, q⟩
theorem cm_Lt (O : Okx X) : OpR X (compareOp .Lt) (rCm X.K rw .Lt) := by
  intro pins s σ H x y v u Q I rx ry h
  obtain ⟨μ, S, a, b, hs, ra, rb, hr⟩ := h
  obtain ⟨k, e, q⟩ := of_bl hs hr
  simp only [cmpop] at e
  split at e <;> try contradiction
  · cases e; cases ra; cases rb
    exact op_lt pins s σ H _ _ v u Q I rx ry ⟨_, _, rfl, rfl, q⟩
  · split at e <;> try contradiction
    rename_i d1 d2 e1 e2
    split at e <;> try contradiction
    rename_i c
    cases e
    rw [Bool.and_eq_true] at c
    obtain ⟨as, r1⟩ := Dp.reads I _ _ _ (pd_rep hs _ _ _ _ ra e1) rx
    obtain ⟨bs, r2⟩ := Dp.reads I _ _ _ (pd_rep hs _ _ _ _ rb e2) ry
    have hn : d1 ≠ .none := fun z => by rw [z] at c; exact Bool.false_ne_true c.2
    have dp := (pd_shape _ _ _ e1).2
    exact PySem.W.rcLt_alike d1 d2 X.A s v u as bs r1 r2 c.1 hn (by have := O.un; omega) _ _ _ _ ⟨.bl _, H, I, rfl, q⟩
theorem cm_Is : OpR X (compareOp .Is) (rCm X.K rw .Is) := by
  intro pins s σ H x y v u Q I rx ry h
  obtain ⟨μ, S, a, b, hs, ra, rb, hr⟩ := h
  obtain ⟨k, e, q⟩ := of_bl hs hr
  simp only [cmpop] at e
  split at e <;> try contradiction
  · cases rb
    refine op_isN pins s σ H _ _ v u Q I rx ry ⟨rfl, ?_⟩
    split at e
    · cases e; cases ra; simpa using q
    · rename_i nn
      cases e
      have hx : x ≠ .non := fun z => by
        subst z
        cases ra
        exact nn rfl
      rw [decide_eq_false hx]; exact q
  · split at e <;> try contradiction
    rename_i c
    cases e; cases ra; cases rb
    refine op_isBl pins s σ H _ _ v u Q I rx ry ⟨k, true, rfl, rfl, ?_⟩
    have e1 : decide (k = true) = k := by cases k <;> rfl
    rw [e1]; exact q
theorem cm_IsNot : OpR X (compareOp .IsNot) (rCm X.K rw .IsNot) := by
  intro pins s σ H x y v u Q I rx ry h
  obtain ⟨μ, S, a, b, hs, ra, rb, hr⟩ := h
  obtain ⟨k, e, q⟩ := of_bl hs hr
  simp only [cmpop] at e
  split at e <;> try contradiction
  · cases rb
    refine op_notN pins s σ H _ _ v u Q I rx ry ⟨rfl, ?_⟩
    split at e
    · cases e; cases ra; simpa using q
    · rename_i nn
      cases e
      have hx : x ≠ .non := fun z => by
        subst z
        cases ra
        exact nn rfl
      rw [decide_eq_false hx]; exact q
  · split at e <;> try contradiction
    rename_i c
    cases e; cases ra; cases rb
    refine op_notBl pins s σ H _ _ v u Q I rx ry ⟨c, true, rfl, rfl, ?_⟩
    have e1 : decide (c = true) = c := by cases c <;> rfl
    rw [e1]; exact q
end
end MP

set_option Elab.async false
set_option linter.all false
set_option maxRecDepth 100000
set_option maxHeartbeats 4000000
/-! MP4: dicts, items, in. -/
namespace MP
open PySem L2
open PySem.Spec PyProof.Rows
section
variable {K : PySem.W.Frag} {rw : Bool} {μ : Mp} {S : Sto} {H : Hp}
def RVo (K : PySem.W.Frag) (μ : Mp) (H : Hp) : Option D → Option V → Prop
  | none, none => True
  | some d, some v => RV K μ H d v
  | _, _ => False
section
variable {κ : Type} [DecidableEq κ]
theorem RK.get {kvs : List (κ × D)} {q : List (κ × V)} (r : RK K μ H kvs q) (k : κ) : RVo K μ H (getA kvs k) (valV q k) := by
  induction r with
  | nil => trivial
  | cons r t ih =>
    rename_i k' d v r' q'
    by_cases e : k' = k
    · have e1 : getA ((k', d) :: r') k = some d := by simp [getA, List.find?_cons, e]
      rw [e1, valV_pos (p := (k', v)) e]
      exact r
    · have e1 : getA ((k', d) :: r') k = getA r' k := by simp [getA, List.find?_cons, e]
      rw [e1, valV_neg (p := (k', v)) e]
      exact ih
theorem RK.any {kvs : List (κ × D)} {q : List (κ × V)} (r : RK K μ H kvs q) (k : κ) : (kvs.any fun kv => decide (kv.1 = k)) = q.any fun kv => decide (kv.1 = k) := by
  induction r with
  | nil => rfl
  | cons r t ih => simp only [List.any_cons, ih]
theorem RK.append {kvs kws : List (κ × D)} {q q' : List (κ × V)} (r : RK K μ H kvs q) (r' : RK K μ H kws q') : RK K μ H (kvs ++ kws) (q ++ q') := by
  induction r with
  | nil => exact r'
  | cons r t ih => exact .cons r ih
theorem RK.map {kvs : List (κ × D)} {q : List (κ × V)} (r : RK K μ H kvs q) (k : κ) {d : D} {v : V} (rv : RV K μ H d v) :
    RK K μ H (kvs.map fun kv => if kv.1 = k then (kv.1, d) else kv) (q.map fun kv => if kv.1 = k then (kv.1, v) else kv) := by
  induction r with
  | nil => exact .nil
  | cons r t ih =>
    simp only [List.map_cons]
    split
    · exact .cons rv ih
    · exact .cons r ih
theorem RK.put {kvs : List (κ × D)} {q : List (κ × V)} (r : RK K μ H kvs q) (k : κ) {d : D} {v : V} (rv : RV K μ H d v) : RK K μ H (putA kvs k d) (putK q k v) := by
  unfold putA putK
  rw [r.any k]
  split
  · exact r.map k rv
  · exact r.append (.cons rv .nil)
theorem RK.drop {kvs : List (κ × D)} {q : List (κ × V)} (r : RK K μ H kvs q) (k : κ) : RK K μ H (dropA kvs k) (dropK q k) := by
  unfold dropA dropK
  induction r with
  | nil => exact .nil
  | cons r t ih =>
    simp only [List.filter_cons]
    split
    · exact .cons r ih
    · exact ih
theorem RK.length {kvs : List (κ × D)} {q : List (κ × V)} (r : RK K μ H kvs q) : kvs.length = q.length := by
  induction r with
  | nil => rfl
  | cons _ _ ih => simp [ih]
end
theorem keyK_rep {d : D} {v : V} {k : Key} (r : RV K μ H d v) (e : keyK d = some k) : v = kV k := by
  unfold keyK at e
  split at e <;> try contradiction
  · cases e; cases r; rfl
  · cases e; cases r; rfl
theorem keyKs_rep : ∀ {ds : List D} {vs : List V} {ks : List Key}, RVs K μ H ds vs → optMap keyK ds = some ks → vs = ks.map kV
  | _, _, _, .nil, e => by cases e; rfl
  | d :: ds, _, _, .cons r t, e => by
    unfold optMap at e
    split at e <;> try contradiction
    rename_i y hy
    split at e <;> try contradiction
    rename_i ys hys
    cases e
    rw [keyK_rep r hy, keyKs_rep t hys]; rfl
theorem keyT_rep {d : D} {v : V} {k : List Key} (r : RV K μ H d v) (e : keyT d = some k) : ∃ b, v = .ref b ∧ H b = some (.tup (k.map kV)) := by
  unfold keyT at e
  split at e <;> try contradiction
  cases r with
  | tup h1 h2 h3 =>
    rw [keyKs_rep h3 e] at h2
    exact ⟨_, rfl, h2⟩
theorem dget_rep {o k : D} {x y : V} {r : Option D} (s : SRep K rw μ S H) (ro : RV K μ H o x) (rk : RV K μ H k y) (e : dicGet S o k = some r) :
    ∃ a ov, x = .ref a ∧ DGet H a y ov ∧ RVo K μ H r ov := by
  unfold dicGet at e
  split at e <;> try contradiction
  split at e <;> try contradiction
  · rename_i l kvs q
    obtain ⟨k', e1, rfl⟩ := map_some e
    cases ro with
    | ref h1 =>
      obtain ⟨ho, h2, h3⟩ := s.at q h1
      cases h3 with
      | dK h4 => exact ⟨_, _, rfl, .inl ⟨_, k', h2.rd, keyK_rep rk e1, rfl⟩, h4.get k'⟩
  · rename_i l kvs q
    obtain ⟨k', e1, rfl⟩ := map_some e
    cases ro with
    | ref h1 =>
      obtain ⟨ho, h2, h3⟩ := s.at q h1
      cases h3 with
      | dT h4 =>
        obtain ⟨b, hb, hb2⟩ := keyT_rep rk e1
        exact ⟨_, _, rfl, .inr ⟨_, k', b, h2.rd, hb, hb2, rfl⟩, h4.get k'⟩
theorem RVs.at {ds : List D} {vs : List V} {i : Int} {d : D} (r : RVs K μ H ds vs) (e : atI ds i = some d) : ∃ v, atI vs i = some v ∧ RV K μ H d v := by
  unfold atI at e ⊢
  rw [← r.length]
  cases h : ixN ds.length i with
  | none => rw [h] at e; cases e
  | some j =>
    rw [h] at e
    exact r.get e
end
section
variable {X : Cx} {rw : Bool}
theorem ix_dict (O : Okx X) : IxR X (fun x y H Q => ∃ a v, x = .ref a ∧ DGet H a y (some v) ∧ Q v H) := by
  intro value slice pins s σ H x y v u Q I rx ry h hs
  obtain ⟨a, z, rfl, g, q⟩ := h
  obtain rfl : v = Value.ref a := rx
  have hT := dict_typeIs I g
  unfold subscriptTail
  refine wpAny_bind ?_
  rw [getitemInPython_of_ne hT.not_modules]
  refine wpAny_bind (wpAny_specialOf hT PySem.F.slot_dict_getitem.lookup ?_)
  have fin : wpAny (model X.prog X.w) X.A (subscripted slice false (.ref a) u) (fun r s₃ => wpAny (model X.prog X.w) X.A (letTemporaryGo value (.ref a) r >>= fun _ => pure r) (EP X pins σ Q) X.xe s₃) X.xe s := by
    rw [hs]
    refine wpAny_operating (d_getItem (by have := O.un; omega) I g ry fun w' s3 I3 rw' => ?_)
    exact wpAny_bind (wpAny_letTemporaryGo (wpAny_pure ⟨z, H, I3, rw', q⟩))
  first
    | exact wpAny_pure (wpAny_bind fin)
    | exact wpAny_bind (wpAny_pure (wpAny_bind fin))
    | exact wpAny_bind fin
def rIxD (K : PySem.W.Frag) (rw : Bool) : R2 := fun x y H Q => ∃ μ S a b, SRep K rw μ S H ∧ RV K μ H a x ∧ RV K μ H b y ∧ Res K rw (RV K) μ H (R.of (index S a b) S) Q
theorem ix_any (O : Okx X) : IxR X (rIxD X.K rw) := by
  intro value slice pins s σ H x y v u Q I rx ry h hsub
  obtain ⟨μ, S, a, b, hs, ra, rb, hr⟩ := h
  obtain ⟨d, e, hq⟩ := hr.of
  clear hr
  have viaD : (dicGet S a b).join = some d → wpAny (model X.prog X.w) X.A (subscriptTail value slice v u) (EP X pins σ Q) X.xe s := fun e => by
    cases e1 : dicGet S a b with
    | none => rw [e1] at e; cases e
    | some r =>
      rw [e1] at e
      have e2 : r = some d := e
      subst e2
      obtain ⟨p, ov, rfl, g, rr⟩ := dget_rep hs ra rb e1
      cases ov with
      | none => exact rr.elim
      | some z => exact ix_dict O value slice pins s σ H _ _ v u Q I rx ry ⟨p, z, rfl, g, hq.ok hs rr⟩ hsub
  unfold index at e
  split at e
  · rename_i j
    split at e
    · rename_i xs e1
      obtain ⟨p, vs, rfl, rs, hp⟩ := seq_rep hs ra e1
      obtain ⟨z, hz, rz⟩ := rs.at e
      cases rb
      rcases hp with hp | hp
      · exact ix_list value slice pins s σ H _ _ v u Q I rx ry ⟨p, vs, j, z, rfl, rfl, .inl hp, hz, hq.ok hs rz⟩ hsub
      · exact ix_tup value slice pins s σ H _ _ v u Q I rx ry ⟨p, vs, j, z, rfl, rfl, .inl hp, hz, hq.ok hs rz⟩ hsub
    · exact viaD e
  · exact viaD e
/-! ### in -/
theorem in_data (O : Okx X) {pins : List (Addr × Obj)} {s : Shared} {σ : L2.St} {H : Hp} {μ : Mp} {S : Sto} {a : D} {x : V} {u v : Value} {ys : List D} {vs : List V} {p : Addr} {d : PyData} {es : List PyData} {Q : VK} (I : Inv X pins σ H s)
    (hs : SRep X.K rw μ S H) (ra : RV X.K μ H a x) (rx : RelV x u) (ry : RelV (.ref p) v) (rs : RVs X.K μ H ys vs) (hp : Rd H p (.lst vs) ∨ Rd H p (.tup vs)) (e1 : pd S a = some d) (e2 : optMap (pd S) ys = some es) :
    (Q (.bl (es.any fun e => PyData.eqv e d)) H → wpAny (model X.prog X.w) X.A (compareOp .In u v) (EP X pins σ Q) X.xe s) ∧
    (Q (.bl (!(es.any fun e => PyData.eqv e d))) H → wpAny (model X.prog X.w) X.A (compareOp .NotIn u v) (EP X pins σ Q) X.xe s) := by
  have D1 : Dp X.K H x d := pd_rep hs _ _ _ _ ra e1
  have D2 : DpAll X.K H vs es := dpAll_of rs e2 fun d v e q z => pd_rep hs _ d v e q z
  have c1 := pd_shape _ _ _ e1
  have c2 := pd_can e2 fun d e => pd_shape _ d e
  have hu := O.un
  obtain ⟨as, r1⟩ := Dp.reads I _ _ _ D1 rx
  rcases hp with hp | hp
  · obtain ⟨bs, r2⟩ := Dp.reads I _ _ _ (Dp.lst (.inl hp) D2) ry
    exact ⟨fun q => SeqAt.in_list_reads r2 r1 c2.1 c1.1 (by omega) ⟨.bl _, H, I, rfl, q⟩, fun q => SeqAt.notIn_list_reads r2 r1 c2.1 c1.1 (by omega) ⟨.bl _, H, I, rfl, q⟩⟩
  · obtain ⟨bs, r2⟩ := Dp.reads I _ _ _ (Dp.tup (.inl hp) D2) ry
    exact ⟨fun q => SeqAt.in_tuple_reads r2 r1 c2.1 c1.1 (by omega) ⟨.bl _, H, I, rfl, q⟩, fun q => SeqAt.notIn_tuple_reads r2 r1 c2.1 c1.1 (by omega) ⟨.bl _, H, I, rfl, q⟩⟩
theorem RVo.isSome {K : PySem.W.Frag} {μ : Mp} {H : Hp} {r : Option D} {o : Option V} (h : RVo K μ H r o) : o.isSome = r.isSome := by
  cases r <;> cases o <;> first | rfl | exact h.elim
theorem in_any (O : Okx X) {pins : List (Addr × Obj)} {s : Shared} {σ : L2.St} {H : Hp} {μ : Mp} {S : Sto} {a b : D} {x y : V} {u v : Value} {k : Bool} {Q : VK} (I : Inv X pins σ H s)
    (hs : SRep X.K rw μ S H) (ra : RV X.K μ H a x) (rb : RV X.K μ H b y) (rx : RelV x u) (ry : RelV y v) (e : isIn S a b = some k) :
    (Q (.bl k) H → wpAny (model X.prog X.w) X.A (compareOp .In u v) (EP X pins σ Q) X.xe s) ∧
    (Q (.bl (!k)) H → wpAny (model X.prog X.w) X.A (compareOp .NotIn u v) (EP X pins σ Q) X.xe s) := by
  have hu := O.un
  unfold isIn at e
  split at e
  · split at e <;> try contradiction
    cases e; cases ra; cases rb
    exact ⟨fun q => op_in_str pins s σ H _ _ u v Q I rx ry ⟨_, _, rfl, rfl, q⟩, fun q => op_notIn_str pins s σ H _ _ u v Q I rx ry ⟨_, _, rfl, rfl, q⟩⟩
  · rename_i l
    split at e
    · rename_i ys q
      split at e <;> try contradiction
      rename_i d es e1 e2
      cases e
      cases rb with
      | ref h1 =>
        obtain ⟨ho, h2, h3⟩ := hs.at q h1
        cases h3 with
        | lst h4 => exact in_data O I hs ra rx ry h4 (.inl h2.rd) e1 e2
    · obtain ⟨r, e1, rfl⟩ := map_some e
      obtain ⟨p, ov, rfl, g, rr⟩ := dget_rep hs rb ra e1
      cases ry
      rw [← rr.isSome]
      exact ⟨fun q => d_in (by omega) I g rx fun s3 I3 => ⟨.bl ov.isSome, H, I3, rfl, q⟩, fun q => d_notIn (by omega) I g rx fun s3 I3 => ⟨.bl (!ov.isSome), H, I3, rfl, q⟩⟩
  · split at e <;> try contradiction
    rename_i ys e0
    split at e <;> try contradiction
    rename_i d es e1 e2
    cases e
    obtain ⟨p, vs, rfl, rs, hp⟩ := seq_rep hs rb e0
    exact in_data O I hs ra rx ry rs hp e1 e2
theorem cm_In (O : Okx X) : OpR X (compareOp .In) (rCm X.K rw .In) := by
  intro pins s σ H x y v u Q I rx ry h
  obtain ⟨μ, S, a, b, hs, ra, rb, hr⟩ := h
  obtain ⟨k, e, q⟩ := of_bl hs hr
  exact (in_any O I hs ra rb rx ry e).1 q
theorem cm_NotIn (O : Okx X) : OpR X (compareOp .NotIn) (rCm X.K rw .NotIn) := by
  intro pins s σ H x y v u Q I rx ry h
  obtain ⟨μ, S, a, b, hs, ra, rb, hr⟩ := h
  obtain ⟨k, e, q⟩ := of_bl hs hr
  simp only [cmpop] at e
  obtain ⟨k', e1, rfl⟩ := map_some e
  exact (in_any O I hs ra rb rx ry e1).2 q
theorem cm_any (O : Okx X) (o : CmpOp) : OpR X (compareOp o) (rCm X.K rw o) := by
  cases o
  · exact cm_Eq O
  · exact cm_NotEq O
  · exact cm_Lt O
  · exact cm_LtE
  · exact cm_Gt
  · exact cm_GtE
  · exact cm_Is
  · exact cm_IsNot
  · exact cm_In O
  · exact cm_NotIn O
end
end MP

set_option Elab.async false
set_option linter.all false
set_option maxRecDepth 100000
set_option maxHeartbeats 4000000
/-! MP5: expressions put together. -/
namespace MP
open PySem L2
open PySem.Spec PyProof.Rows
section
variable {X : Cx} {rw : Bool} {Φ : Fns} {F : Str → Str → Bool} {a b c e : Expr} {ca cb cc ce : Tm} {pos : Pos}
abbrev PEd (X : Cx) (rw : Bool) (Φ : Fns) (F : Str → Str → Bool) (e : Expr) (c : Tm) : Prop := PE X e (rdE X.K rw (ev Φ F c))
abbrev PTd (X : Cx) (rw : Bool) (Φ : Fns) (F : Str → Str → Bool) (e : Expr) (c : Tm) : Prop := PT X e (rdT X.K rw (ev Φ F c))
abbrev PAd (X : Cx) (rw : Bool) (Φ : Fns) (F : Str → Str → Bool) (es : List Expr) (cs : Tms) : Prop := PA X es (rdA X.K rw (evs Φ F cs))
theorem d_var {i : Nat} {x : Str} (hN : X.N[i]? = some x) (hv : Vis X.env.scope x) (hd : (x == ("__debug__" : Str)) = false) (hcd : (x == ("__classdict__" : Str)) = false) : PEd X rw Φ F (.Name x pos) (.var i) := by
  refine PEw (pe_var hN hv hd hcd) fun σ H Q h => ?_
  obtain ⟨μ, S, η, hs, he, hr⟩ := h
  simp only [ev] at hr
  obtain ⟨d, e, hr⟩ := hr.of
  have e' : η[i]? = some (some d) := by
    cases q : η[i]? with
    | none => rw [q] at e; cases e
    | some o => rw [q] at e; have : o = some d := e; rw [this]
  obtain ⟨v, h1, h2⟩ := he.get i d e'
  exact ⟨v, h1, hr.ok hs h2⟩
theorem d_cst {d : D} {v : V} (h : PE X e (tC v)) (r : ∀ μ H, RV X.K μ H d v) : PEd X rw Φ F e (.cst d) := by
  refine PEw h fun σ H Q h => ?_
  obtain ⟨μ, S, η, hs, he, hr⟩ := h
  simp only [ev] at hr
  exact hr.ok hs (r μ H)
theorem rd_bin {m1 m2 : Env → Sto → R D} {k : D → D → Sto → R D} {σ : L2.St} {H : Hp} {Q : VK} {P : V → V → Hp → Prop}
    (h : rdE X.K rw (fun η S => (m1 η S).bind fun x S1 => (m2 η S1).bind fun y S2 => k x y S2) σ H Q)
    (f : ∀ μ S x y v u H, SRep X.K rw μ S H → RV X.K μ H x v → RV X.K μ H y u → Res X.K rw (RV X.K) μ H (k x y S) Q → P v u H) :
    rdE X.K rw m1 σ H fun v H1 => rdE X.K rw m2 σ H1 fun u H2 => P v u H2 := by
  obtain ⟨μ, S, η, hs, he, hr⟩ := h
  refine ⟨μ, S, η, hs, he, res_bind hr fun x S1 μ1 H1 v x1 s1 r1 q1 => ?_⟩
  refine ⟨μ1, S1, η, s1, he.ext x1, res_bind q1 fun y S2 μ2 H2 u x2 s2 r2 q2 => ?_⟩
  exact f μ2 S2 x y v u H2 s2 (RV.ext x2 _ _ r1) r2 q2
theorem rd_un {m1 : Env → Sto → R D} {k : D → Sto → R D} {σ : L2.St} {H : Hp} {Q : VK} {P : V → Hp → Prop}
    (h : rdE X.K rw (fun η S => (m1 η S).bind fun x S1 => k x S1) σ H Q)
    (f : ∀ μ S x v H, SRep X.K rw μ S H → RV X.K μ H x v → Res X.K rw (RV X.K) μ H (k x S) Q → P v H) : rdE X.K rw m1 σ H P := by
  obtain ⟨μ, S, η, hs, he, hr⟩ := h
  exact ⟨μ, S, η, hs, he, res_bind hr fun x S1 μ1 H1 v x1 s1 r1 q1 => f μ1 S1 x v H1 s1 r1 q1⟩
theorem d_bin {o : Operator} (ho : OpR X (binaryOp o) (rB X.K rw o)) (ha : PEd X rw Φ F a ca) (hb : PEd X rw Φ F b cb) : PEd X rw Φ F (.BinOp a o b pos) (.bin o ca cb) := by
  refine PEw (pe_op ho ha hb) fun σ H Q h => ?_
  exact rd_bin h fun μ S x y v u H hs r1 r2 q => ⟨μ, S, x, y, hs, r1, r2, q⟩
theorem d_neg (ha : PEd X rw Φ F a ca) : PEd X rw Φ F (.UnaryOp .USub a pos) (.neg ca) := by
  refine PEw (pe_un un_neg ha) fun σ H Q h => ?_
  refine rd_un (k := fun x S1 => (match x with
    | .int i => R.ok (.int (-i)) S1
    | _ => R.no)) h fun μ S x v H hs r1 q => ?_
  cases r1 <;> try exact q.elim
  exact ⟨_, rfl, q.ok hs (.int _)⟩
theorem d_cmp (O : Okx X) {o : CmpOp} (ha : PEd X rw Φ F a ca) (hb : PEd X rw Φ F b cb) (hm : behindInMarks o b = false) : PEd X rw Φ F (.Compare a [o] [b] pos) (.cmp o ca cb) := by
  refine PEw (pe_cmpR (cm_any (rw := rw) O o) ha hb hm) fun σ H Q h => ?_
  exact rd_bin h fun μ S x y v u H hs r1 r2 q => ⟨μ, S, x, y, hs, r1, r2, q⟩
theorem d_cmp2 (O : Okx X) {o o' : CmpOp} (ha : PEd X rw Φ F a ca) (hb : PEd X rw Φ F b cb) (hc : PEd X rw Φ F c cc) (hm : lastMarks [o, o'] [b, c] = false) : PEd X rw Φ F (.Compare a [o, o'] [b, c] pos) (.cmp2 o o' ca cb cc) := by
  refine PEw (pe_chain (cm_any (rw := rw) O o) (cm_any (rw := rw) O o') ha hb hc hm) fun σ H Q h => ?_
  obtain ⟨μ, S, η, hs, he, hr⟩ := h
  refine ⟨μ, S, η, hs, he, res_bind hr fun x S1 μ1 H1 v x1 s1 r1 q1 => ?_⟩
  refine ⟨μ1, S1, η, s1, he.ext x1, res_bind q1 fun y S2 μ2 H2 u x2 s2 r2 q2 => ?_⟩
  have r1' := RV.ext x2 _ _ r1
  cases e1 : cmpop o S2 x y with
  | none => rw [e1] at q2; exact q2.elim
  | some k =>
    rw [e1] at q2
    refine ⟨μ2, S2, x, y, s2, r1', r2, ?_⟩
    rw [e1]
    intro μ3 H3 z x3 s3 r3
    cases r3
    refine ⟨k, rfl, ?_⟩
    cases k with
    | false => exact (q2.ext x3).ok s3 (.bl false)
    | true =>
      refine ⟨μ3, S2, η, s3, he.ext (x1.trans (x2.trans x3)), res_bind (q2.ext x3) fun w S4 μ4 H4 t x4 s4 r4 q4 => ?_⟩
      exact ⟨μ4, S4, y, w, s4, RV.ext x4 _ _ (RV.ext x3 _ _ r2), r4, q4⟩
/-! ### and, or, not, if -/
/-- behind a truth value -/
theorem rd_tst {m1 : Env → Sto → R D} {kt' kf' : Env → Sto → R D} {σ : L2.St} {H : Hp} {Q : VK} {P : Bool → Hp → Prop}
    (h : rdE X.K rw (fun η S => (m1 η S).bind fun x S1 => (match x with
      | .bl true => kt' η S1
      | .bl false => kf' η S1
      | _ => R.no)) σ H Q)
    (f : ∀ μ S η k H, SRep X.K rw μ S H → ERep X.K μ H η σ → Res X.K rw (RV X.K) μ H (if k = true then kt' η S else kf' η S) Q → P k H) : rdT X.K rw m1 σ H P := by
  obtain ⟨μ, S, η, hs, he, hr⟩ := h
  refine ⟨μ, S, η, hs, he, res_bind hr fun x S1 μ1 H1 v x1 s1 r1 q1 => ?_⟩
  cases r1 <;> try exact q1.elim
  rename_i k
  refine ⟨k, rfl, f μ1 S1 η k H1 s1 (he.ext x1) ?_⟩
  cases k <;> exact q1
theorem d_and {rest : List Expr} (ha : PEd X rw Φ F a ca) (hb : PEd X rw Φ F (.BoolOp .And (b :: rest) pos) cb) : PEd X rw Φ F (.BoolOp .And (a :: b :: rest) pos) (.and ca cb) := by
  refine PEw (pe_and ha hb) fun σ H Q h => ?_
  refine rd_tst (kt' := ev Φ F cb) (kf' := fun _ S => .ok (.bl false) S) h fun μ S η k H hs he q => ?_
  cases k with
  | true => exact ⟨μ, S, η, hs, he, q⟩
  | false => exact q.ok hs (.bl false)
theorem d_or {rest : List Expr} (ha : PEd X rw Φ F a ca) (hb : PEd X rw Φ F (.BoolOp .Or (b :: rest) pos) cb) : PEd X rw Φ F (.BoolOp .Or (a :: b :: rest) pos) (.or ca cb) := by
  refine PEw (pe_or ha hb) fun σ H Q h => ?_
  refine rd_tst (kf' := ev Φ F cb) (kt' := fun _ S => .ok (.bl true) S) h fun μ S η k H hs he q => ?_
  cases k with
  | true => exact q.ok hs (.bl true)
  | false => exact ⟨μ, S, η, hs, he, q⟩
theorem d_one {op : BoolOp} (ha : PEd X rw Φ F a ca) : PEd X rw Φ F (.BoolOp op [a] pos) ca := pe_one ha
theorem d_not (ha : PEd X rw Φ F a ca) : PEd X rw Φ F (.UnaryOp .Not a pos) (.not ca) := by
  refine PEw (pe_not ha) fun σ H Q h => ?_
  refine rd_un (k := fun x S1 => (match x with
    | .bl c => R.ok (.bl (!c)) S1
    | _ => R.no)) h fun μ S x v H hs r1 q => ?_
  cases r1 <;> try exact q.elim
  exact ⟨_, rfl, q.ok hs (.bl _)⟩
theorem d_ite (hc : PTd X rw Φ F c cc) (ha : PEd X rw Φ F a ca) (hb : PEd X rw Φ F b cb) : PEd X rw Φ F (.IfExp c a b pos) (.ite cc ca cb) := by
  refine PEw (pe_ifExp hc ha hb) fun σ H Q h => ?_
  refine rd_tst (kt' := ev Φ F ca) (kf' := ev Φ F cb) h fun μ S η k H hs he q => ?_
  cases k with
  | true => exact ⟨μ, S, η, hs, he, q⟩
  | false => exact ⟨μ, S, η, hs, he, q⟩
/-! ### the same as tests -/
theorem t_val (ha : PEd X rw Φ F a ca) (he : ∀ whole, isTrue a X.env whole = (do let v ← whole; standAt a.pos; holding [v] (truthy v))) : PTd X rw Φ F a ca := pt_val ha he
theorem t_cmp (O : Okx X) {o : CmpOp} (ha : PEd X rw Φ F a ca) (hb : PEd X rw Φ F b cb) (hm : behindInMarks o b = false) : PTd X rw Φ F (.Compare a [o] [b] pos) (.cmp o ca cb) := by
  refine PTw (pt_cmpR (cm_any (rw := rw) O o) ha hb hm) fun σ H Q h => ?_
  exact rd_bin h fun μ S x y v u H hs r1 r2 q => ⟨μ, S, x, y, hs, r1, r2, q⟩
theorem t_cmp2 (O : Okx X) {o o' : CmpOp} (ha : PEd X rw Φ F a ca) (hb : PEd X rw Φ F b cb) (hc : PEd X rw Φ F c cc) (hm : lastMarks [o, o'] [b, c] = false) : PTd X rw Φ F (.Compare a [o, o'] [b, c] pos) (.cmp2 o o' ca cb cc) := by
  refine PTw (pt_chain (cm_any (rw := rw) O o) (cm_any (rw := rw) O o') ha hb hc hm) fun σ H Q h => ?_
  obtain ⟨μ, S, η, hs, he, hr⟩ := h
  refine ⟨μ, S, η, hs, he, res_bind hr fun x S1 μ1 H1 v x1 s1 r1 q1 => ?_⟩
  refine ⟨μ1, S1, η, s1, he.ext x1, res_bind q1 fun y S2 μ2 H2 u x2 s2 r2 q2 => ?_⟩
  have r1' := RV.ext x2 _ _ r1
  cases e1 : cmpop o S2 x y with
  | none => rw [e1] at q2; exact q2.elim
  | some k =>
    rw [e1] at q2
    refine ⟨μ2, S2, x, y, s2, r1', r2, ?_⟩
    rw [e1]
    intro μ3 H3 z x3 s3 r3
    cases r3
    refine ⟨k, rfl, ?_⟩
    cases k with
    | false => exact (q2.ext x3).ok s3 (.bl false)
    | true =>
      refine ⟨μ3, S2, η, s3, he.ext (x1.trans (x2.trans x3)), res_bind (q2.ext x3) fun w S4 μ4 H4 t x4 s4 r4 q4 => ?_⟩
      exact ⟨μ4, S4, y, w, s4, RV.ext x4 _ _ (RV.ext x3 _ _ r2), r4, q4⟩
theorem rdT_iff {m : Env → Sto → R D} {σ : L2.St} {H : Hp} {Q : Bool → Hp → Prop} (h : rdT X.K rw m σ H Q) : rdE X.K rw m σ H fun x H1 => ∃ k, x = .bl k ∧ Q k H1 := h
abbrev PWd (X : Cx) (rw : Bool) (Φ : Fns) (F : Str → Str → Bool) (e : Expr) (c : Tm) : Prop := PW X e (rdT X.K rw (ev Φ F c))
theorem PWw {e : Expr} {t t' : TT} (h : PW X e t) (w : ∀ σ H Q, t' σ H Q → t σ H Q) : PW X e t' := ⟨fun wh pins s σ H Q I q => h.run wh pins s σ H Q I (w σ H Q q)⟩
theorem w_and1 (ha : PTd X rw Φ F a ca) : PWd X rw Φ F (.BoolOp .And [a] pos) ca := pw_and1 ha
theorem w_or1 (ha : PTd X rw Φ F a ca) : PWd X rw Φ F (.BoolOp .Or [a] pos) ca := pw_or1 ha
theorem w_and {rest : List Expr} (ha : PTd X rw Φ F a ca) (hb : PWd X rw Φ F (.BoolOp .And (b :: rest) pos) cb) : PWd X rw Φ F (.BoolOp .And (a :: b :: rest) pos) (.and ca cb) := by
  refine PWw (pw_and ha hb) fun σ H Q h => ?_
  refine rd_tst (kt' := ev Φ F cb) (kf' := fun _ S => .ok (.bl false) S) h fun μ S η k H hs he q => ?_
  cases k with
  | true => exact ⟨μ, S, η, hs, he, q⟩
  | false =>
    obtain ⟨k, e, q⟩ := q.ok hs (.bl false)
    cases e; exact q
theorem w_or {rest : List Expr} (ha : PTd X rw Φ F a ca) (hb : PWd X rw Φ F (.BoolOp .Or (b :: rest) pos) cb) : PWd X rw Φ F (.BoolOp .Or (a :: b :: rest) pos) (.or ca cb) := by
  refine PWw (pw_or ha hb) fun σ H Q h => ?_
  refine rd_tst (kf' := ev Φ F cb) (kt' := fun _ S => .ok (.bl true) S) h fun μ S η k H hs he q => ?_
  cases k with
  | true =>
    obtain ⟨k, e, q⟩ := q.ok hs (.bl true)
    cases e; exact q
  | false => exact ⟨μ, S, η, hs, he, q⟩
theorem t_not (ha : PTd X rw Φ F a ca) : PTd X rw Φ F (.UnaryOp .Not a pos) (.not ca) := by
  refine PTw (pt_not ha) fun σ H Q h => ?_
  refine rd_un (k := fun x S1 => (match x with
    | .bl c => R.ok (.bl (!c)) S1
    | _ => R.no)) h fun μ S x v H hs r1 q => ?_
  cases r1 <;> try exact q.elim
  rename_i k
  obtain ⟨k', e, q⟩ := q.ok hs (.bl (!k))
  cases e
  exact ⟨k, rfl, q⟩
/-! ### items, slices, displays -/
theorem d_ix (O : Okx X) (ha : PEd X rw Φ F a ca) (hb : PEd X rw Φ F b cb) (hp : PlainIx b) : PEd X rw Φ F (.Subscript a b pos) (.ix ca cb) := by
  refine PEw (pe_ix (ix_any (rw := rw) O) ha hb hp) fun σ H Q h => ?_
  exact rd_bin h fun μ S x y v u H hs r1 r2 q => ⟨μ, S, x, y, hs, r1, r2, q⟩
def rSlD (K : PySem.W.Frag) : V → Option Int → Option Int → Hp → VK → Prop := fun x lo hi H Q => ∃ μ S a, SRep K true μ S H ∧ RV K μ H a x ∧ ∃ d, (match a with
    | .tup xs => some (.tup (cutD xs lo hi))
    | .lst xs => some (.lst (cutD xs lo hi))
    | .ref l => (match S[l]? with
      | some (.lst xs) => some (.lst (cutD xs lo hi))
      | _ => none)
    | .scr ns => some (.lst (cutD (ns.map .int) lo hi))
    | _ => none) = some d ∧ Res K true (RV K) μ H (.ok d S) Q
theorem cut_rep {K : PySem.W.Frag} {μ : Mp} {H : Hp} {xs : List D} {vs : List V} (r : RVs K μ H xs vs) (lo hi : Option Int) : RVs K μ H (cutD xs lo hi) (cutV vs lo hi) := by
  unfold cutD cutV
  rw [r.length]
  exact (r.drop _).take _
theorem ints_rep {K : PySem.W.Frag} {μ : Mp} {H : Hp} : ∀ ns : List Int, RVs K μ H (ns.map D.int) (ns.map V.int)
  | [] => .nil
  | _ :: r => .cons (.int _) (ints_rep r)
theorem sl_any : SlR X (rSlD X.K) := by
  intro pins s σ H x v vl vu lo hi sl Q I rx hsl pl pu h
  obtain ⟨μ, S, a, hs, ra, d, e, hr⟩ := h
  split at e
  · cases e
    cases ra with
    | tup h1 h2 h3 =>
      rename_i xs _ vs
      have r := cut_rep h3 lo hi
      refine sl_tupA pins s σ H _ v vl vu lo hi sl Q I rx hsl pl pu ⟨_, _, rfl, .of h2, fun hw => ?_, fun _ => new_tup hr hs r⟩
      have e1 : cutD xs lo hi = xs := by
        rw [← h3.length] at hw
        unfold cutD
        rw [hw.1, hw.2]
        simp
      rw [e1] at hr
      exact hr.ok hs (.tup h1 h2 h3)
  · cases e
    cases ra with
    | lst h1 h2 h3 => exact sl_list pins s σ H _ v vl vu lo hi sl Q I rx hsl pl pu ⟨_, _, rfl, .of h2, new_lst hr hs (cut_rep h3 lo hi)⟩
  · split at e <;> try contradiction
    rename_i l xs q
    cases e
    cases ra with
    | ref h1 =>
      obtain ⟨ho, h2, h3⟩ := hs.at q h1
      cases h3 with
      | lst h4 => exact sl_list pins s σ H _ v vl vu lo hi sl Q I rx hsl pl pu ⟨_, _, rfl, .inl h2.rd, new_lst hr hs (cut_rep h4 lo hi)⟩
  · cases e
    cases ra with
    | scr h1 =>
      rename_i ns a
      have hq : SqL X.K H a (ns.map V.int) := by
        rcases h1 with ⟨_, h1⟩ | h1
        · exact .inl h1
        · exact h1 H
      exact sl_list pins s σ H _ v vl vu lo hi sl Q I rx hsl pl pu ⟨_, _, rfl, hq, new_lst hr hs (cut_rep (ints_rep ns) lo hi)⟩
  · cases e
/-- a slice's part -/
inductive POd (X : Cx) (Φ : Fns) (F : Str → Str → Bool) : Option Expr → Bool → Tm → Prop
  | none : POd X Φ F none false (.cst .non)
  | some {e : Expr} {c : Tm} : PEd X true Φ F e c → POd X Φ F (some e) true c
def rdO (K : PySem.W.Frag) (b : Bool) (m : Env → Sto → R D) : TO := fun σ H Q => if b = true then rdE K true m σ H fun x H1 => ∃ i, x = .int i ∧ Q (some i) H1 else Q none H
theorem POd.po {e : Option Expr} {k : Bool} (h : POd X Φ F e k ce) : PO X e (rdO X.K k (ev Φ F ce)) := by
  cases h with
  | none => exact ⟨fun pins s σ H Q I q => po_none.run pins s σ H Q I (by unfold rdO at q; rw [if_neg (by decide)] at q; exact q)⟩
  | some h => exact ⟨fun pins s σ H Q I q => (po_some h).run pins s σ H Q I (by unfold rdO at q; rw [if_pos rfl] at q; exact q)⟩
theorem res_never {K : PySem.W.Frag} {rw : Bool} {α γ δ : Type} {rep2 : Mp → Hp → γ → δ → Prop} {μ : Mp} {H : Hp} {r : R α} {k : α → Sto → R γ} {Q : δ → Hp → Prop} (h : ∀ a S, k a S = .no) : ¬ Res K rw rep2 μ H (r.bind k) Q := fun q => by
  cases r with
  | ok a S =>
    have q : Res K rw rep2 μ H (k a S) Q := q
    rw [h a S] at q; exact q
  | ex _ _ => exact q
  | no => exact q
theorem rdO_go {eo : Option Expr} {hl : Bool} {lo : Tm} {μ : Mp} {S : Sto} {η : Env} {σ : L2.St} {H : Hp} {k : D → Sto → R D} {Q : VK} {P : Option Int → Hp → Prop} (h : POd X Φ F eo hl lo) (hs : SRep X.K true μ S H) (he : ERep X.K μ H η σ)
    (hr : Res X.K true (RV X.K) μ H ((ev Φ F lo η S).bind k) Q)
    (bad : ∀ y S μ H, part hl y = none → ¬ Res X.K true (RV X.K) μ H (k y S) Q)
    (f : ∀ y S1 μ1 H1 o, Ext true μ μ1 H H1 → SRep X.K true μ1 S1 H1 → part hl y = some o → Res X.K true (RV X.K) μ1 H1 (k y S1) Q → P o H1) : rdO X.K hl (ev Φ F lo) σ H P := by
  cases h with
  | none =>
    unfold rdO
    rw [if_neg (by decide)]
    simp only [ev, R.bind_ok] at hr
    exact f _ S μ H none .refl hs rfl hr
  | some h =>
    unfold rdO
    rw [if_pos rfl]
    refine ⟨μ, S, η, hs, he, res_bind hr fun y S1 μ1 H1 v x1 s1 r1 q1 => ?_⟩
    cases y with
    | int i => cases r1; exact ⟨i, rfl, f _ S1 μ1 H1 (some i) x1 s1 rfl q1⟩
    | _ => exact absurd q1 (bad _ _ _ _ rfl)
theorem d_sl {lo hi : Option Expr} {hl hh : Bool} {cl ch : Tm} {p2 : Pos} (ha : PEd X true Φ F a ca) (hlo : POd X Φ F lo hl cl) (hhi : POd X Φ F hi hh ch) : PEd X true Φ F (.Subscript a (.Slice lo hi none p2) pos) (.sl ca hl hh cl ch) := by
  refine PEw (pe_slice sl_any ha hlo.po hhi.po) fun σ H Q h => ?_
  obtain ⟨μ, S, η, hs, he, hr⟩ := h
  refine ⟨μ, S, η, hs, he, res_bind hr fun x S1 μ1 H1 v x1 s1 r1 q1 => ?_⟩
  refine rdO_go hlo s1 (he.ext x1) q1 (fun y S μ H e q => ?_) fun y S2 μ2 H2 o x2 s2 e2 q2 => ?_
  · refine absurd q (res_never fun z S3 => ?_)
    unfold slice
    rw [e]; rfl
  refine rdO_go hhi s2 (he.ext (x1.trans x2)) q2 (fun z S μ H e q => ?_) fun z S3 μ3 H3 o3 x3 s3 e3 q3 => ?_
  · unfold slice at q
    rw [e2, e] at q; exact q
  obtain ⟨d, e, q⟩ := q3.of
  unfold slice at e
  rw [e2, e3] at e
  exact ⟨μ3, S3, x, s3, RV.ext (x2.trans x3) _ _ r1, d, e, q⟩
theorem new_mkLd {K : PySem.W.Frag} {rw : Bool} {μ : Mp} {S : Sto} {H : Hp} {Q : VK} {m : Bool} {ds : List D} {vs : List V} (h : Res K rw (RV K) μ H (mkLd m (.lst ds) S) Q) (s : SRep K rw μ S H) (r : RVs K μ H ds vs) : ∀ p, H p = none → Q (.ref p) (upd H p (.lst vs)) := by
  have e : mkLd m (.lst ds) S = mkL m ds S := by cases m <;> rfl
  rw [e] at h
  exact new_mkL h s r
theorem d_rev {m : Bool} {k : Nat} {p1 p2 p3 : Pos} (ha : PEd X true Φ F a ca) : PEd X true Φ F (.Subscript a (.Slice none none (some (.UnaryOp .USub (.Constant (.int 1) k p1) p2)) p3) pos) (.rev m ca) := by
  refine PEw (pe_revL ha) fun σ H Q h => ?_
  refine rd_un (k := fun x S1 => (match revOf S1 x with
    | some d => mkLd m d S1
    | none => .no)) h fun μ S x v H hs r1 q => ?_
  split at q
  · rename_i d e
    unfold revOf at e
    split at e
    · cases e
      cases r1 with
      | lst h1 h2 h3 => exact ⟨_, _, rfl, .of h2, new_mkLd q hs h3.reverse⟩
    · split at e <;> try contradiction
      rename_i l xs q0
      cases e
      cases r1 with
      | ref h1 =>
        obtain ⟨ho, h2, h3⟩ := hs.at q0 h1
        cases h3 with
        | lst h4 => exact ⟨_, _, rfl, .inl h2.rd, new_mkLd q hs h4.reverse⟩
    · cases e
  · exact q.elim
/-! ### displays -/
theorem a_nil : PAd X rw Φ F [] .nil := by
  refine PAw pa_nil fun σ H Q h => ?_
  obtain ⟨μ, S, η, hs, he, hr⟩ := h
  simp only [evs] at hr
  exact hr.ok hs .nil
theorem a_cons {es : List Expr} {cs : Tms} (ha : PEd X rw Φ F e ce) (hr : PAd X rw Φ F es cs) (hst : starEach (e :: es) X.env = (false, eval e X.env) :: starEach es X.env) : PAd X rw Φ F (e :: es) (.cons ce cs) := by
  refine PAw (pa_cons ha hr hst) fun σ H Q h => ?_
  obtain ⟨μ, S, η, hs, he, hr⟩ := h
  refine ⟨μ, S, η, hs, he, res_bind hr fun x S1 μ1 H1 v x1 s1 r1 q1 => ?_⟩
  refine ⟨μ1, S1, η, s1, he.ext x1, res_bind q1 fun xs S2 μ2 H2 vs x2 s2 r2 q2 => ?_⟩
  exact q2.ok s2 (.cons (RV.ext x2 _ _ r1) r2)
theorem rd_args {es : Env → Sto → R (List D)} {k : List D → Sto → R D} {σ : L2.St} {H : Hp} {Q : VK} {P : List V → Hp → Prop}
    (h : rdE X.K rw (fun η S => (es η S).bind fun x S1 => k x S1) σ H Q)
    (f : ∀ μ S xs vs H, SRep X.K rw μ S H → RVs X.K μ H xs vs → Res X.K rw (RV X.K) μ H (k xs S) Q → P vs H) : rdA X.K rw es σ H P := by
  obtain ⟨μ, S, η, hs, he, hr⟩ := h
  exact ⟨μ, S, η, hs, he, res_bind hr fun x S1 μ1 H1 v x1 s1 r1 q1 => f μ1 S1 x v H1 s1 r1 q1⟩
theorem d_tup {es : List Expr} {cs : Tms} {k : Nat} (h : PAd X rw Φ F es cs) : PEd X rw Φ F (.Tuple es k pos) (.tup cs) := by
  refine PEw (pe_tup h) fun σ H Q h => ?_
  refine rd_args (k := fun xs S1 => if xs.length ≤ big then .ok (.tup xs) S1 else .no) h fun μ S xs vs H hs r q => ?_
  split at q
  · rename_i hz
    exact ⟨by rw [← r.length]; exact big_le hz, new_tup q hs r⟩
  · exact q.elim
theorem d_lst {m : Bool} {es : List Expr} {cs : Tms} (h : PAd X rw Φ F es cs) : PEd X rw Φ F (.List es pos) (.lst m cs) := by
  refine PEw (pe_lst h) fun σ H Q h => ?_
  refine rd_args (k := fun xs S1 => if xs.length ≤ big then mkL m xs S1 else .no) h fun μ S xs vs H hs r q => ?_
  split at q
  · rename_i hz
    exact ⟨by rw [← r.length]; exact big_le hz, new_mkL q hs r⟩
  · exact q.elim
theorem d_dnewK : PEd X rw Φ F (.Dict [] [] pos) (.dnew false) := by
  refine PEw pe_dnewK fun σ H Q h => ?_
  obtain ⟨μ, S, η, hs, he, hr⟩ := h
  simp only [ev] at hr
  exact fun p hp => new_ob (o := .dK []) hr hs (fun p hp => .dK .nil) p hp
theorem d_dnewT : PEd X rw Φ F (.Dict [] [] pos) (.dnew true) := by
  refine PEw pe_dnewT fun σ H Q h => ?_
  obtain ⟨μ, S, η, hs, he, hr⟩ := h
  simp only [ev] at hr
  exact fun p hp => new_ob (o := .dT []) hr hs (fun p hp => .dT .nil) p hp
end
end MP

set_option Elab.async false
set_option linter.all false
set_option maxRecDepth 100000
set_option maxHeartbeats 4000000
/-! MP6: what is walked; list comprehensions. -/
namespace MP
open PySem L2
open PySem.Spec PyProof.Rows
/-- an iterator J walks the items of k, as long as the place that is walked stands -/
def WalkOk (K : PySem.W.Frag) (rw : Bool) (J : It) (k : Wk) (μ0 : Mp) (H0 : Hp) : Prop := ∀ μ S H, ExtW rw μ0 μ H0 H → SRep K rw μ S H → k.ok S →
  (∀ (i : Nat) (x : D), k.its[i]? = some x → J.go i H ∧ ∀ v H', J.yld i H v H' → Ext rw μ μ H H' ∧ SRep K rw μ S H' ∧ RV K μ H' x v) ∧
  ∀ i : Nat, k.its.length ≤ i → J.stop i H
def rdI (K : PySem.W.Frag) (rw : Bool) (m : Env → Sto → R Wk) : TI := fun σ H R => ∃ μ S η, SRep K rw μ S H ∧ ERep K μ H η σ ∧ (match m η S with
  | .ok k S1 => ∀ μ1 H1 J, Ext rw μ μ1 H H1 → SRep K rw μ1 S1 H1 → WalkOk K rw J k μ1 H1 → R J H1
  | _ => False)
section
variable {K : PySem.W.Frag} {rw : Bool} {μ : Mp} {S : Sto} {H : Hp}
theorem seq_inj_l {a : Addr} {xs ys : List V} (h : Rd H a (.lst xs)) (h' : H a = some (.lst ys) ∨ ∃ o, H a = some (.frz o (.lst ys))) : xs = ys := by
  rcases h with h | ⟨o, h⟩ <;> rcases h' with h' | ⟨o', h'⟩ <;> rw [h] at h' <;> cases h' <;> rfl
/-- a list that is walked -/
theorem walk_lst {a : Addr} {ds : List D} {src : Option (Nat × List D)} (h : ∀ μ' S' H', ExtW rw μ μ' H H' → SRep K rw μ' S' H' → (Wk.mk ds src).ok S' → ∃ vs, RVs K μ' H' ds vs ∧ SqL K H' a vs) : WalkOk K rw (Itl K a) ⟨ds, src⟩ μ H := by
  intro μ' S' H' x s ok
  obtain ⟨vs, r, q⟩ := h μ' S' H' x s ok
  refine ⟨fun i d e => ?_, fun i hi => ⟨vs, q, by rw [← r.length]; exact hi⟩⟩
  obtain ⟨v, hv, rv⟩ := r.get e
  refine ⟨⟨vs, v, q, hv⟩, fun v' H'' y => ?_⟩
  obtain ⟨rfl, hy⟩ := y
  have e2 := hy vs q
  rw [hv] at e2; cases e2
  exact ⟨.refl, s, rv⟩
theorem walk_tup {a : Addr} {ds : List D} {vs : List V} (h0 : μ.off a) (h1 : H a = some (.tup vs)) (r : RVs K μ H ds vs) : WalkOk K rw (Itt K a) ⟨ds, none⟩ μ H := by
  intro μ' S' H' x s ok
  have q : SqT K H' a vs := .of (x.keep _ _ h0 h1)
  have r' := RVs.extW x _ _ r
  refine ⟨fun i d e => ?_, fun i hi => ⟨vs, q, by rw [← r.length]; exact hi⟩⟩
  obtain ⟨v, hv, rv⟩ := r'.get e
  refine ⟨⟨vs, v, q, hv⟩, fun v' H'' y => ?_⟩
  obtain ⟨rfl, hy⟩ := y
  have e2 := hy vs q
  rw [hv] at e2; cases e2
  exact ⟨.refl, s, rv⟩
theorem rangeL_get {lo hi : Int} {i : Nat} {x : D} (e : (rangeL lo hi)[i]? = some x) : i < (hi - lo).toNat ∧ x = .int (lo + (i : Nat)) := by
  unfold rangeL at e
  rw [List.getElem?_map] at e
  cases q : (List.range (hi - lo).toNat)[i]? with
  | none => rw [q] at e; cases e
  | some j =>
    rw [q] at e
    have hl := (List.getElem?_eq_some_iff.mp q).1
    rw [List.length_range] at hl
    rw [List.getElem?_range hl] at q
    cases q; cases e
    exact ⟨hl, rfl⟩
theorem rangeL_length (lo hi : Int) : (rangeL lo hi).length = (hi - lo).toNat := by unfold rangeL; rw [List.length_map, List.length_range]
theorem walk_rng {lo hi : Int} : WalkOk K rw (Itr lo (hi - lo).toNat) ⟨rangeL lo hi, none⟩ μ H := by
  intro μ' S' H' x s ok
  refine ⟨fun i d e => ?_, fun i hi => ?_⟩
  · obtain ⟨h1, rfl⟩ := rangeL_get e
    refine ⟨h1, fun v H'' y => ?_⟩
    obtain ⟨rfl, rfl⟩ := y
    exact ⟨.refl, s, .int _⟩
  · have hi : (rangeL lo _).length ≤ i := hi
    rw [rangeL_length] at hi; exact hi
theorem walk_str {x : Str} : WalkOk K rw (Its x) ⟨signsOf x, none⟩ μ H := by
  intro μ' S' H' z s ok
  refine ⟨fun i d e => ?_, fun i hi => ?_⟩
  · have e : (signsOf x)[i]? = some d := e
    unfold signsOf at e
    rw [List.getElem?_map, Array.getElem?_toList] at e
    cases q : x.cps[i]? with
    | none => rw [q] at e; cases e
    | some c =>
      rw [q] at e
      cases e
      refine ⟨(Array.getElem?_eq_some_iff.mp q).1, fun v H'' y => ?_⟩
      obtain ⟨rfl, c', hc, rfl⟩ := y
      rw [q] at hc; cases hc
      exact ⟨.refl, s, .str _⟩
  · have hi : (signsOf x).length ≤ i := hi
    unfold signsOf at hi
    rw [List.length_map, Array.length_toList] at hi
    exact hi
theorem walk_zipT {a b : Addr} {ds es : List D} {vs ws : List V} (h0 : μ.off a) (h1 : H a = some (.tup vs)) (r : RVs K μ H ds vs) (g0 : μ.off b) (g1 : H b = some (.tup ws)) (t : RVs K μ H es ws) :
    WalkOk K rw (RZ.ItzT K a b) ⟨(ds.zip es).map fun p => .tup [p.1, p.2], none⟩ μ H := by
  intro μ' S' H' x s ok
  have q1 : SqT K H' a vs := .of (x.keep _ _ h0 h1)
  have q2 : SqT K H' b ws := .of (x.keep _ _ g0 g1)
  have r' := RVs.extW x _ _ r
  have t' := RVs.extW x _ _ t
  refine ⟨fun i d e => ?_, fun i hi => ?_⟩
  · obtain ⟨p, e1, rfl⟩ := map_some (o := (ds.zip es)[i]?) (by rw [← List.getElem?_map]; exact e)
    rw [List.getElem?_zip_eq_some] at e1
    obtain ⟨v, hv, rv⟩ := r'.get e1.1
    obtain ⟨u, hu, ru⟩ := t'.get e1.2
    refine ⟨⟨vs, ws, v, u, q1, q2, hv, hu⟩, fun z H'' y => ?_⟩
    obtain ⟨T, x1, y1, rfl, hT, rfl, hx, hy⟩ := y
    have e3 := hx vs q1
    have e4 := hy ws q2
    rw [hv] at e3; rw [hu] at e4
    cases e3; cases e4
    have X1 : Ext rw μ' μ' H' (upd H' T (.tup [v, u])) := Ext.fresh hT
    exact ⟨X1, s.fresh hT, .tup (s.notmem hT) upd_same (.cons (RV.ext X1 _ _ rv) (.cons (RV.ext X1 _ _ ru) .nil))⟩
  · have hi : ((ds.zip es).map fun p => D.tup [p.1, p.2]).length ≤ i := hi
    rw [List.length_map, List.length_zip, r.length, t.length] at hi
    exact ⟨vs, ws, q1, q2, by omega⟩
end
section
variable {X : Cx} {rw : Bool} {Φ : Fns} {F : Str → Str → Bool} {a b c e tg : Expr} {ca cb cc ce : Tm} {pos : Pos}
theorem WalkOk.ext {K : PySem.W.Frag} {rw : Bool} {J : It} {k : Wk} {μ μ1 : Mp} {H H1 : Hp} (w : WalkOk K rw J k μ H) (x : ExtW rw μ μ1 H H1) : WalkOk K rw J k μ1 H1 := fun μ2 S2 H2 y s ok => w μ2 S2 H2 (x.trans y) s ok
abbrev PId (X : Cx) (rw : Bool) (Φ : Fns) (F : Str → Str → Bool) (tg it : Expr) (k : Src) : Prop := PI X tg it (rdI X.K rw (src Φ F k))
/-- an expression that is a list, a tuple, a range -/
theorem i_seq (he : PEd X rw Φ F e ce) : PId X rw Φ F tg e (.seq ce) := by
  refine ⟨fun pins s σ H R I h => ?_⟩
  obtain ⟨μ, S, η, hs, hη, hr⟩ := h
  have h1 : rdE X.K rw (ev Φ F ce) σ H fun x H1 => (∃ a, x = .ref a ∧ (∃ xs, SqL X.K H1 a xs) ∧ R (Itl X.K a) H1) ∨ (∃ a, x = .ref a ∧ (∃ xs, SqT X.K H1 a xs) ∧ R (Itt X.K a) H1) ∨ (∃ a lo hi, x = .ref a ∧ H1 a = some (.rng lo hi) ∧ rngOk lo hi ∧ R (Itr lo (hi - lo).toNat) H1) ∨ ∃ x', x = .str x' ∧ R (Its x') H1 := by
    refine ⟨μ, S, η, hs, hη, ?_⟩
    unfold src at hr
    cases hev : ev Φ F ce η S with
    | ex _ _ => rw [hev] at hr; exact hr
    | no => rw [hev] at hr; exact hr
    | ok d S1 =>
      intro μ1 H1 v x1 s1 r1
      rw [hev, MP.R.bind_ok] at hr
      have lstc : ∀ {p : Addr} {xs : List D} {vs : List V} (hl : ∀ μ' S' H', ExtW rw μ1 μ' H1 H' → SRep X.K rw μ' S' H' → (Wk.mk xs (refOf? d xs)).ok S' → ∃ vs, RVs X.K μ' H' xs vs ∧ SqL X.K H' p vs) (h0 : SqL X.K H1 p vs) (ev : v = .ref p)
          (hr : ∀ μ1 H1 J, Ext rw μ μ1 H H1 → SRep X.K rw μ1 S1 H1 → WalkOk X.K rw J ⟨xs, refOf? d xs⟩ μ1 H1 → R J H1), ∃ a, v = .ref a ∧ (∃ xs, SqL X.K H1 a xs) ∧ R (Itl X.K a) H1 :=
        fun hl h0 ev hr => ⟨_, ev, ⟨_, h0⟩, hr μ1 H1 _ x1 s1 (walk_lst hl)⟩
      cases r1 with
      | tup h1 h2 h3 => exact .inr (.inl ⟨_, rfl, ⟨_, .of h2⟩, hr μ1 H1 _ x1 s1 (walk_tup h1 h2 h3)⟩)
      | lst h1 h2 h3 => exact .inl (lstc (fun μ' S' H' y z ok => ⟨_, RVs.extW y _ _ h3, .of (y.keep _ _ h1 h2)⟩) (.of h2) rfl hr)
      | rng h1 h2 h3 => exact .inr (.inr (.inl ⟨_, _, _, rfl, h2, h3, hr μ1 H1 _ x1 s1 walk_rng⟩))
      | str x' => exact .inr (.inr (.inr ⟨_, rfl, hr μ1 H1 _ x1 s1 walk_str⟩))
      | ref h1 =>
        rename_i l p
        cases q : S1[l]? with
        | none => simp [seqOf, q] at hr
        | some o =>
          cases o with
          | lst xs =>
            simp only [seqOf, q] at hr
            obtain ⟨ho, h2, h3⟩ := s1.at q h1
            cases h3 with
            | lst h4 =>
              refine .inl (lstc (fun μ' S' H' y z ok => ?_) (.inl h2.rd) rfl hr)
              obtain ⟨ho', g2, g3⟩ := z.at (show S'[l]? = some (.lst xs) from ok) (y.at h1)
              cases g3 with
              | lst g4 => exact ⟨_, g4, .inl g2.rd⟩
          | _ => simp [seqOf, q] at hr
      | _ => simp [seqOf] at hr
  refine thn (he.run pins s σ H _ I h1) fun v s1 ⟨x, H1, I1, r1, q1⟩ => ?_
  have fr : ∀ b ∈ [s1.heap.objs.size], FpOk X pins H1 b := fun b hb => by
    have e : b = s1.heap.objs.size := by simpa using hb
    subst e
    exact I1.fpOk (Nat.le_refl _) (I1.hok.fresh (Nat.le_refl _))
  rcases q1 with ⟨p, rfl, ⟨xs, hq⟩, q⟩ | ⟨p, rfl, ⟨xs, hq⟩, q⟩ | ⟨p, lo, hi, rfl, hq, hb, q⟩ | ⟨x', rfl, q⟩
  · cases r1
    obtain ⟨its, rv, pl, hz⟩ := I1.list hq
    exact wpAny_pyIter_list pl.isList ⟨_, [_], _, _, H1, rfl, I1.kept (t' := s1.toks) fun b o e => Heap.get?_push_of_some _ e, turn_list p _, ⟨_, Heap.get?_push_size _ rfl, rfl, rfl⟩, fr, q⟩
  · cases r1
    obtain ⟨its, rv, pl, hz⟩ := I1.tuple hq
    exact wpAny_pyIter_tuple (show s1.heap.IsTuple p its.toArray from pl) ⟨_, [_], _, _, H1, rfl, I1.kept (t' := s1.toks) fun b o e => Heap.get?_push_of_some _ e, turn_tuple p _, ⟨_, Heap.get?_push_size _ rfl, rfl, rfl⟩, fr, q⟩
  · cases r1
    obtain ⟨t, u, v, ho⟩ : ∃ t u v, s1.heap.get? p = some { cls := .type "range", data := .fields #[.int lo t, .int hi u, .int 1 v] } := I1.hok p _ hq
    obtain ⟨b1, b2, b3, b4⟩ := hb
    refine wpAny_pyIter_range (t := t) (u := u) (v := v) ho (small_one (by omega) (by omega) (by omega) (by omega)) ?_
    refine ⟨_, [_], _, _, H1, rfl, I1.kept (t' := s1.toks) fun b o e => Heap.get?_push_of_some _ e, turn_range _ lo (hi - lo).toNat, ?_, fr, q⟩
    have e1 : lo + ((0 : Nat) : Int) * 1 = lo := by simp
    have e2 : (((hi - lo).toNat : Nat) : Int) - ((0 : Nat) : Int) = Builtin.Range.rangeSize lo hi 1 := by
      rw [rangeSize_one]
      split <;> omega
    rw [e1, e2]
    exact Heap.get?_push_size _ rfl
  · obtain ⟨t, rfl⟩ := r1
    cases ha : x'.cps.all (· < 128)
    · exact wpAny_pyIter_wide ha (pi_one (tk := s1.toks) I1 _ (turn_str _ x' t "str_iterator" (.inr rfl)) ⟨_, Heap.get?_push_size _ rfl, rfl, rfl⟩ q)
    · exact wpAny_pyIter_ascii ha (pi_one (tk := s1.toks) I1 _ (turn_str _ x' t "str_ascii_iterator" (.inl rfl)) ⟨_, Heap.get?_push_size _ rfl, rfl, rfl⟩ q)
theorem i_rng1 {p : Pos} (hg : Gl X "range") (hm : X.mg "range" = none) (ha : PAd X rw Φ F [a] (.cons ca .nil)) (hs : starEach [a] X.env = [(false, eval a X.env)]) : PId X rw Φ F tg (.Call (.Name "range" p) [a] [] pos) (.rng1 ca) := by
  refine PIw (pi_range1 hg hm ha hs) fun σ H R h => ?_
  obtain ⟨μ, S, η, hs, hη, hr⟩ := h
  refine ⟨μ, S, η, hs, hη, ?_⟩
  unfold src at hr
  simp only [evs]
  cases hev : ev Φ F ca η S with
  | ex _ _ => rw [hev] at hr; exact hr
  | no => rw [hev] at hr; exact hr
  | ok d S1 =>
    rw [hev, MP.R.bind_ok] at hr
    intro μ1 H1 vs x1 s1 r1
    cases r1 with
    | cons r1 r2 =>
      cases r2
      cases r1 with
      | int j =>
        by_cases hb : rngOk 0 j
        · simp only [if_pos hb] at hr
          obtain ⟨b1, b2, b3, b4⟩ := hb
          refine ⟨j, rfl, by omega, by omega, ?_⟩
          have e := hr μ1 H1 _ x1 s1 walk_rng
          have e0 : (j - 0).toNat = j.toNat := by rw [Int.sub_zero]
          rw [e0] at e
          exact e
        · simp only [if_neg hb] at hr
      | _ => exact hr.elim
theorem i_rng2 {p : Pos} (hg : Gl X "range") (hm : X.mg "range" = none) (ha : PAd X rw Φ F [a, b] (.cons ca (.cons cb .nil))) (hs : starEach [a, b] X.env = [(false, eval a X.env), (false, eval b X.env)]) (hs2 : starEach [b] X.env = [(false, eval b X.env)]) : PId X rw Φ F tg (.Call (.Name "range" p) [a, b] [] pos) (.rng2 ca cb) := by
  refine PIw (pi_range2 hg hm ha hs hs2) fun σ H R h => ?_
  obtain ⟨μ, S, η, hs, hη, hr⟩ := h
  refine ⟨μ, S, η, hs, hη, ?_⟩
  unfold src at hr
  simp only [evs]
  cases hev : ev Φ F ca η S with
  | ex _ _ => rw [hev] at hr; exact hr
  | no => rw [hev] at hr; exact hr
  | ok d S1 =>
    rw [hev, MP.R.bind_ok] at hr
    simp only [MP.R.bind_ok]
    cases hev2 : ev Φ F cb η S1 with
    | ex _ _ => rw [hev2] at hr; exact hr
    | no => rw [hev2] at hr; exact hr
    | ok d2 S2 =>
      rw [hev2, MP.R.bind_ok] at hr
      intro μ1 H1 vs x1 s1 r1
      cases r1 with
      | cons r1 r2 =>
        cases r2 with
        | cons r2 r3 =>
          cases r3
          cases r1 with
          | int i =>
            cases r2 with
            | int j =>
              by_cases hb : rngOk i j
              · simp only [if_pos hb] at hr
                have e := hr μ1 H1 _ x1 s1 walk_rng
                obtain ⟨b1, b2, b3, b4⟩ := hb
                exact ⟨i, j, rfl, ⟨by omega, by omega, by omega, by omega⟩, e⟩
              · simp only [if_neg hb] at hr
            | _ => exact hr.elim
          | _ => exact hr.elim
theorem i_zip {p tpos : Pos} {elts : List Expr} {kk : Nat} (hg : Gl X "zip") (hm : X.mg "zip" = none) (ha : PAd X rw Φ F [a, b] (.cons ca (.cons cb .nil))) (hs : starEach [a, b] X.env = (false, eval a X.env) :: starEach [b] X.env) (hpl : (backTo pos (starEach [b] X.env)).any (·.1) = false) :
    PId X rw Φ F (.Tuple elts kk tpos) (.Call (.Name "zip" p) [a, b] [] pos) (.zip ca cb) := by
  refine PIw (RZ.pi_zipA hg hm ha hs hpl) fun σ H R h => ?_
  obtain ⟨μ, S, η, hs, hη, hr⟩ := h
  refine ⟨μ, S, η, hs, hη, ?_⟩
  unfold src at hr
  simp only [evs]
  cases hev : ev Φ F ca η S with
  | ex _ _ => rw [hev] at hr; exact hr
  | no => rw [hev] at hr; exact hr
  | ok d S1 =>
    rw [hev, MP.R.bind_ok] at hr
    simp only [MP.R.bind_ok]
    cases hev2 : ev Φ F cb η S1 with
    | ex _ _ => rw [hev2] at hr; exact hr
    | no => rw [hev2] at hr; exact hr
    | ok d2 S2 =>
      rw [hev2, MP.R.bind_ok] at hr
      intro μ1 H1 vs x1 s1 r1
      cases r1 with
      | cons r1 r2 =>
        cases r2 with
        | cons r2 r3 =>
          cases r3
          cases r1 with
          | tup h1 h2 h3 =>
            cases r2 with
            | tup g1 g2 g3 => exact ⟨_, _, _, _, rfl, .inr ⟨.of h2, .of g2, hr μ1 H1 _ x1 s1 (walk_zipT h1 h2 h3 g1 g2 g3)⟩⟩
            | _ => exact hr.elim
          | _ => exact hr.elim
end
end MP

set_option Elab.async false
set_option linter.all false
set_option maxRecDepth 100000
set_option maxHeartbeats 4000000
/-! MP7: targets; list comprehensions. -/
namespace MP
open PySem L2
open PySem.Spec PyProof.Rows
def setVs : L2.St → List Nat → List V → L2.St
  | σ, i :: is, v :: vs => setVs (σ.set i (some v)) is vs
  | σ, _, _ => σ
def rdTg (K : PySem.W.Frag) : Tg → TG
  | .nm i => gName i
  | .tp is => fun v σ H Q => ∃ a xs, v = .ref a ∧ SqT K H a xs ∧ xs.length = is.length ∧ Q (setVs σ is xs) H
def Tg.is : Tg → List Nat
  | .nm i => [i]
  | .tp is => is
section
variable {X : Cx} {pos : Pos}
def gNames (is : List Nat) : TGs := fun vs σ H Q => vs.length = is.length ∧ Q (setVs σ is vs) H
theorem gs_nil : PGs X [] (gNames []) := by
  refine ⟨fun pins s σ H vs us Q I r h => ?_⟩
  obtain ⟨e, h⟩ := h
  have : vs = [] := List.length_eq_zero_iff.mp e
  subst this
  exact pgs_nil.run pins s σ H [] us Q I r ⟨rfl, h⟩
theorem gs_cons {i : Nat} {is : List Nat} {e : Expr} {es : List Expr} (h1 : PG X e (gName i)) (h2 : PGs X es (gNames is))
    (hs : (assignEach (e :: es) X.env).map (·.2) = assign e X.env :: (assignEach es X.env).map (·.2)) : PGs X (e :: es) (gNames (i :: is)) := by
  refine ⟨fun pins s σ H vs us Q I r h => ?_⟩
  obtain ⟨e, h⟩ := h
  cases vs with
  | nil => cases e
  | cons v vs => exact (pgs_cons h1 h2 hs).run pins s σ H (v :: vs) us Q I r ⟨v, vs, rfl, Nat.succ.inj e, h⟩
theorem g_tup {es : List Expr} {k n : Nat} {is : List Nat} (hc : X.calm = true) (h : PGs X es (gNames is)) (hn : (assignEach es X.env).length = n) (hl : is.length = n) (hst : (assignEach es X.env).findIdx? (·.1) = none) :
    PG X (.Tuple es k pos) (rdTg X.K (.tp is)) := by
  refine ⟨fun pins s σ H v u Q I r h' => ?_⟩
  obtain ⟨a, xs, e1, e2, e3, e4⟩ := h'
  exact (pg_tup hc h hn hst).run pins s σ H v u Q I r ⟨a, xs, e1, e2, by rw [e3, hl], e3, e4⟩
end
theorem wipe_set {i : Nat} {v : V} : ∀ {w : List Nat} {σ : L2.St}, i ∈ w → L2.wipe (σ.set i (some v)) w = L2.wipe σ w
  | [], _, h => nomatch h
  | j :: w, σ, h => by
    unfold L2.wipe
    by_cases hw : i ∈ w
    · rw [wipe_set hw]
    · have e : i = j := by
        rcases List.mem_cons.mp h with h | h
        · exact h
        · exact absurd h hw
      subst e
      have key : ∀ (w : List Nat) (τ : L2.St), i ∉ w → L2.wipe (τ.set i (some v)) w = (L2.wipe τ w).set i (some v) := fun w => by
        induction w with
        | nil => intro τ _; rfl
        | cons j w ih =>
          intro τ hj
          unfold L2.wipe
          rw [ih τ (fun z => hj (List.mem_cons_of_mem _ z)), List.set_comm _ _ (fun z => hj (by rw [z]; exact List.mem_cons_self))]
      rw [key w σ hw, List.set_set]
theorem wipe_setVs : ∀ {is : List Nat} {vs : List V} {σ : L2.St} {w : List Nat}, (∀ i ∈ is, i ∈ w) → L2.wipe (setVs σ is vs) w = L2.wipe σ w
  | [], _, _, _, _ => by unfold setVs; rfl
  | _ :: _, [], _, _, _ => by unfold setVs; rfl
  | i :: is, v :: vs, σ, w, h => by
    unfold setVs
    rw [wipe_setVs fun j hj => h j (List.mem_cons_of_mem _ hj), wipe_set (h i List.mem_cons_self)]
theorem setNs_rep {K : PySem.W.Frag} {μ : Mp} {H : Hp} : ∀ {is : List Nat} {xs : List D} {vs : List V} {η η' : Env} {σ : L2.St}, ERep K μ H η σ → RVs K μ H xs vs → setNs η is xs = some η' → xs.length = is.length ∧ ERep K μ H η' (setVs σ is vs)
  | [], [], _, _, _, _, he, r, e => by
    cases r
    unfold setNs at e
    cases e
    exact ⟨rfl, by unfold setVs; exact he⟩
  | i :: is, x :: xs, _, η, η', σ, he, r, e => by
    cases r with
    | cons r t =>
      unfold setNs at e
      obtain ⟨h1, h2⟩ := setNs_rep (he.set i r) t e
      exact ⟨by simp [h1], by unfold setVs; exact h2⟩
  | [], _ :: _, _, _, _, _, _, _, e => by simp [setNs] at e
  | _ :: _, [], _, _, _, _, _, _, e => by simp [setNs] at e
theorem tg_rep {K : PySem.W.Frag} {μ : Mp} {H : Hp} {S : Sto} {t : Tg} {d : D} {v : V} {η η' : Env} {σ : L2.St} {Q : L2.St → Hp → Prop} (he : ERep K μ H η σ) (r : RV K μ H d v) (e : setTg S t d η = some η')
    (h : ∀ σ', ERep K μ H η' σ' → (∀ w : List Nat, (∀ i ∈ t.is, i ∈ w) → L2.wipe σ' w = L2.wipe σ w) → Q σ' H) : rdTg K t v σ H Q := by
  cases t with
  | nm i =>
    cases e
    exact h _ (he.set i r) fun w hw => wipe_set (hw i (by simp [Tg.is]))
  | tp is =>
    cases r <;> try (cases e; done)
    rename_i a ds vs h1 h2 h3
    obtain ⟨e1, e2⟩ := setNs_rep he h3 e
    exact ⟨a, vs, rfl, .of h2, by rw [← h3.length]; exact e1, h _ e2 fun w hw => wipe_setVs hw⟩
section
variable {K : PySem.W.Frag} {rw : Bool} {Φ : Fns} {F : Str → Str → Bool}
/-- the tests of a comprehension -/
abbrev PTsd (X : Cx) (rw : Bool) (Φ : Fns) (F : Str → Str → Bool) (ifs : List Expr) (c : Tm) : Prop := PTs X ifs (rdT X.K rw (ev Φ F c))
theorem ts_nil {X : Cx} : PTsd X rw Φ F [] (.cst (.bl true)) := ⟨fun pins s σ H Q I h => pts_nil.run pins s σ H Q I (by
  obtain ⟨μ, S, η, hs, he, hr⟩ := h
  simp only [ev] at hr
  obtain ⟨k, e, q⟩ := hr.ok hs (.bl true)
  cases e; exact q)⟩
theorem ts_one {X : Cx} {c : Expr} {cc : Tm} (h : PTd X rw Φ F c cc) : PTsd X rw Φ F [c] cc := pts_one h
theorem bind_assoc {α β γ : Type} (r : R α) (f : α → Sto → R β) (g : β → Sto → R γ) : (r.bind f).bind g = r.bind fun a S => (f a S).bind g := by cases r <;> rfl
theorem wipe_idem (σ : L2.St) : ∀ w : List Nat, L2.wipe (L2.wipe σ w) w = L2.wipe σ w := fun w => by
  have key : ∀ (w u : List Nat), (∀ i ∈ w, i ∈ u) → ∀ σ, L2.wipe (L2.wipe σ u) w = L2.wipe σ u := fun w => by
    induction w with
    | nil => intros; rfl
    | cons j w ih =>
      intro u h σ
      show (L2.wipe (L2.wipe σ u) w).set j none = L2.wipe σ u
      rw [ih u (fun i hi => h i (List.mem_cons_of_mem _ hi))]
      have hj : j ∈ u := h j List.mem_cons_self
      have : ∀ (u : List Nat), j ∈ u → (L2.wipe σ u).set j none = L2.wipe σ u := fun u => by
        induction u with
        | nil => intro h; cases h
        | cons l u iu =>
          intro h
          unfold L2.wipe
          by_cases e : j = l
          · subst e; rw [List.set_set]
          · rcases List.mem_cons.mp h with h | h
            · exact absurd h e
            · rw [List.set_comm _ _ (fun z => e z.symm), iu h]
      exact this u hj
  exact key w w (fun _ h => h) σ
/-- res_bind, what comes behind as seen from the start -/
theorem res_bindB {α β γ δ : Type} {rep : Mp → Hp → α → β → Prop} {rep2 : Mp → Hp → γ → δ → Prop} {μ μ0 : Mp} {H H0 : Hp} {r : R α} {k : α → Sto → R γ} {Q : δ → Hp → Prop} {P : β → Hp → Prop} (h : Res K rw rep2 μ0 H0 (r.bind k) Q)
    (f : ∀ d S1 μ1 H1 v, Ext rw μ μ1 H H1 → SRep K rw μ1 S1 H1 → rep μ1 H1 d v → Res K rw rep2 μ0 H0 (k d S1) Q → P v H1) : Res K rw rep μ H r P := by
  cases r with
  | ok d S' => exact fun μ' H' v y s q => f d S' μ' H' v y s q h
  | ex _ _ => exact h.elim
  | no => exact h.elim
/-- a comprehension's loop: μ1, H1 before the list was made; μs, Hs where the loop begins -/
theorem comp_loop {J : It} {k : Wk} {t : Tg} {mc me : Env → Sto → R MP.D} {η : Env} {σ : L2.St} {w : List Nat} {μ1 μs : Mp} {H1 Hs : Hp} {Ss : Sto} {D : Addr} {acc0 : List MP.D} {accV0 : List V} {α β : Type} {rep : Mp → Hp → α → β → Prop} {kk : List MP.D → Sto → R α} {Q : β → Hp → Prop} {Fin : Hp → Prop}
    (wk : WalkOk K rw J k μs Hs) (xs : Ext rw μ1 μs H1 Hs) (ds : D ∈ μs.h) (ss : SRep K rw μs Ss Hs) (ls : Hs D = some (.lst accV0)) (rs : RVs K μs Hs acc0 accV0) (he : ERep K μs Hs η (L2.wipe σ w)) (htg : ∀ i ∈ t.is, i ∈ w)
    (hr : Res K rw rep μ1 H1 ((compL k t mc me η k.its acc0 Ss).bind kk) Q) (hD : H1 D = none)
    (fin : ∀ μ S H acc accV, Ext rw μ1 μ H1 H → ExtW rw μs μ Hs H → D ∈ μ.h → SRep K rw μ S H → H D = some (.lst accV) → RVs K μ H acc accV → Res K rw rep μ1 H1 (kk acc S) Q → Fin H) :
    ∃ W : Nat → Nat → Hp → Prop, (∃ m, W 0 m Hs) ∧ ∀ i m H, W i m H →
  (J.stop i H ∧ Fin H) ∨ (J.go i H ∧ ∃ Nx : Hp → Prop, (∀ H', Nx H' → ∃ m', m' < m ∧ W (i + 1) m' H') ∧ ∀ x H', J.yld i H x H' → rdTg K t x (L2.wipe σ w) H' fun σ2 H2 => L2.wipe σ2 w = L2.wipe σ w ∧ rdT K rw mc σ2 H2 fun b H3 =>
    if b = true then rdE K rw me σ2 H3 fun y H4 => ∃ acc, H4 D = some (.lst acc) ∧ acc.length < sizeLine ∧ Nx (upd H4 D (.lst (acc ++ [y]))) else Nx H3) := by
  refine ⟨fun i m H => i + m = k.its.length ∧ ∃ μ S acc accV, Ext rw μ1 μ H1 H ∧ ExtW rw μs μ Hs H ∧ D ∈ μ.h ∧ SRep K rw μ S H ∧ H D = some (.lst accV) ∧ RVs K μ H acc accV ∧ Res K rw rep μ1 H1 ((compL k t mc me η (k.its.drop i) acc S).bind kk) Q, ⟨k.its.length, by omega, μs, Ss, acc0, accV0, xs, Ext.refl.toW, ds, ss, ls, rs, hr⟩, ?_⟩
  rintro i m H ⟨em, μ, S, acc, accV, x1, y1, hd, hs, hl, ra, hr⟩
  by_cases hi : i < k.its.length
  · -- a turn
    have ed : k.its.drop i = k.its[i] :: k.its.drop (i + 1) := List.drop_eq_getElem_cons hi
    rw [ed] at hr
    unfold compL at hr
    split at hr
    · rename_i hok
      obtain ⟨hgo, hy⟩ := (wk μ S H y1 hs hok).1 i k.its[i] (by simp [hi])
      refine .inr ⟨hgo, fun H' => ∃ m', m' < m ∧ i + 1 + m' = k.its.length ∧ ∃ μ S acc accV, Ext rw μ1 μ H1 H' ∧ ExtW rw μs μ Hs H' ∧ D ∈ μ.h ∧ SRep K rw μ S H' ∧ H' D = some (.lst accV) ∧ RVs K μ H' acc accV ∧ Res K rw rep μ1 H1 ((compL k t mc me η (k.its.drop (i + 1)) acc S).bind kk) Q, fun H' h => h, fun x H' yl => ?_⟩
      obtain ⟨x2, s2, rx⟩ := hy x H' yl
      have hlive : H D ≠ none := by rw [hl]; simp
      have l2 : H' D = some (.lst accV) := x2.keep _ _ (fun _ => (hs.hid D hd).2) hl
      cases et : setTg S t k.its[i] η with
      | none => rw [et] at hr; exact hr.elim
      | some η' =>
        rw [et] at hr
        rw [bind_assoc] at hr
        refine tg_rep (S := S) ((he.extW y1).ext x2) rx et fun σ2 he2 hw2 => ⟨by rw [hw2 w htg, wipe_idem], ?_⟩
        refine ⟨μ, S, η', s2, he2, res_bindB hr fun b S3 μ3 H3 vb x3 s3 rb q3 => ?_⟩
        have d3 : D ∈ μ3.h := x3.sub D hd
        have l3 : H3 D = some (.lst accV) := x3.keep _ _ (fun _ => (hs.hid D hd).2) l2
        have X3 := (x1.trans x2).trans x3
        have Y3 := (y1.trans x2.toW).trans x3.toW
        cases rb <;> try exact q3.elim
        rename_i bb
        cases bb with
        | false => exact ⟨false, rfl, ⟨m - 1, by omega, by omega, μ3, S3, acc, accV, X3, Y3, d3, s3, l3, RVs.ext (x2.trans x3) _ _ ra, q3⟩⟩
        | true =>
          refine ⟨true, rfl, μ3, S3, η', s3, he2.ext x3, ?_⟩
          rw [bind_assoc] at q3
          refine res_bindB q3 fun y S4 μ4 H4 vy x4 s4 ry q4 => ?_
          have d4 : D ∈ μ4.h := x4.sub D d3
          have l4 : H4 D = some (.lst accV) := x4.keep _ _ (fun _ => (s3.hid D d3).2) l3
          split at q4
          · rename_i hb
            have r4 := RVs.ext ((x2.trans x3).trans x4) _ _ ra
            refine ⟨accV, l4, by rw [← ra.length]; exact Nat.lt_of_lt_of_le hb (by decide), m - 1, by omega, by omega, μ4, S4, acc ++ [y], accV ++ [vy], (X3.trans x4).updh hD, (Y3.trans x4.toW).updh ds, d4, s4.updh d4 trivial, upd_same, ?_, q4⟩
            exact (RVs.updh d4 _ _ r4).append (.cons (RV.updh d4 _ _ ry) .nil)
          · exact q4.elim
    · exact hr.elim
  · -- the end
    have ed : k.its.drop i = [] := List.drop_eq_nil_of_le (by omega)
    rw [ed] at hr
    unfold compL at hr
    split at hr
    · rename_i hok
      exact .inl ⟨(wk μ S H y1 hs hok).2 i (by omega), fin μ S H acc accV x1 y1 hd hs hl ra hr⟩
    · exact hr.elim
end
theorem SRep.hoff {K : PySem.W.Frag} {rw : Bool} {μ : Mp} {S : Sto} {H : Hp} (s : SRep K rw μ S H) {p : Addr} (hp : H p = none) : p ∉ μ.h := fun z => mut_ne (s.hid p z).1 hp
/-- the list that was made, at the end -/
theorem comp_fin {K : PySem.W.Frag} {rw : Bool} {m : Bool} {μ1 μ : Mp} {H1 H : Hp} {S1 S : Sto} {D : Addr} {acc : List MP.D} {accV : List V} {Q : VK} (s1 : SRep K rw μ1 S1 H1) (hD : H1 D = none) (x : Ext rw μ1 μ H1 H) (hd : D ∈ μ.h) (hs : SRep K rw μ S H)
    (hl : H D = some (.lst accV)) (ra : RVs K μ H acc accV) (hr : Res K rw (RV K) μ1 H1 (mkL m acc S) Q) : Q (.ref D) H := by
  unfold mkL alloc at hr
  cases m with
  | true =>
    have r2 := RVs.chg (Mp.sub_giv hd) _ _ ra
    have e : S.length = μ.s.length := hs.len.symm
    exact hr (μ.giv D) H _ (x.giv hD (s1.hoff hD)) (hs.give hd hl (.lst r2)) (.ref (by unfold Mp.giv; rw [e, List.getElem?_append_right (Nat.le_refl _), Nat.sub_self]; rfl))
  | false => exact hr (μ.unh D) H _ (x.unh hD (s1.hoff hD)) hs.show_ (.lst ⟨(hs.hid D hd).2, fun z => by simp [Mp.unh] at z⟩ hl (RVs.chg Mp.sub_unh _ _ ra))
section
variable {X : Cx} {rw : Bool} {Φ : Fns} {F : Str → Str → Bool} {elt tg iter : Expr} {ifs : List Expr} {scope : Scope} {own : List (Str × Nat)} {pos : Pos} {it : Src} {cc ce : Tm} {t : Tg} {m : Bool}
theorem rd_comp {w : List Nat} {σ : L2.St} {H : Hp} {Q : VK} (htg : ∀ i ∈ t.is, i ∈ w) (h : rdE X.K rw (ev Φ F (.comp m t it cc ce w)) σ H Q) :
    tLc (rdI X.K rw (src Φ F it)) (rdTg X.K t) (rdT X.K rw (ev Φ F cc)) (rdE X.K rw (ev Φ F ce)) w σ H Q := by
  obtain ⟨μ, S, η, hs, he, hr⟩ := h
  refine ⟨μ, S, η, hs, he, ?_⟩
  unfold ev at hr
  cases e : src Φ F it η S with
  | ex _ _ => rw [e] at hr; exact hr
  | no => rw [e] at hr; exact hr
  | ok k S1 =>
    rw [e] at hr
    intro μ1 H1 J x1 s1 wk D hD
    have x0 := (Ext.hide (rw := rw) (.refl (μ := μ1) (H := H1)) hD).updh (u := .lst []) hD
    exact comp_loop (Fin := Q (.ref D)) (wk.ext x0.toW) x0 (by simp [Mp.hide]) (s1.hide hD trivial) upd_same .nil (((he.ext x1).wipe w).ext x0) htg (Res.ext hr x1) hD fun μ2 S2 H2 acc accV x2 _ hd hs2 hl ra hr2 => comp_fin s1 hD x2 hd hs2 hl ra hr2
abbrev BlkP (X : Cx) (scope : Scope) (P : Cx → Prop) : Prop := ∀ (s : Shared) (H : Hp) (C : Addr) (cl : List (Str × Addr)) (fp : List Addr), P (X.blk s H scope (compEnvC scope cl C X.env) fp)
theorem d_comp (hc : X.calm = true) (hN : X.N.Nodup) (hi : PId X rw Φ F tg iter it) (ok : BlkOk X.N X.env.scope scope own) (htg : ∀ i ∈ t.is, i ∈ own.map (·.2))
    (hg : BlkP X scope fun Y => PG Y tg (rdTg X.K t)) (ht : BlkP X scope fun Y => PTsd Y rw Φ F ifs cc) (he : BlkP X scope fun Y => PEd Y rw Φ F elt ce) (hs : ∀ x, foldedSetIterable iter X.env x = pure x) :
    PEd X rw Φ F (.ListComp elt [⟨tg, iter, ifs, 0⟩] scope pos) (.comp m t it cc ce (own.map (·.2))) :=
  PEw (pe_lc hc hN hi ok hg ht he hs) fun σ H Q h => rd_comp htg h
/-- two clauses -/
theorem rd_comp2 {t2 : Tg} {it2 : Src} {w w2 : List Nat} {σ : L2.St} {H : Hp} {Q : VK} (htg : ∀ i ∈ t.is, i ∈ w) (htg2 : ∀ i ∈ t2.is, i ∈ w2) (h : rdE X.K rw (ev Φ F (.comp2 t it t2 it2 cc ce w w2)) σ H Q) :
    tLc2 (rdI X.K rw (src Φ F it)) (rdTg X.K t) tYes (rdI X.K rw (src Φ F it2)) (rdTg X.K t2) (rdT X.K rw (ev Φ F cc)) (rdE X.K rw (ev Φ F ce)) w w2 σ H Q := by
  obtain ⟨μ, S, η, hs, he, hr⟩ := h
  refine ⟨μ, S, η, hs, he, ?_⟩
  unfold ev at hr
  cases e : src Φ F it η S with
  | ex _ _ => rw [e] at hr; exact hr
  | no => rw [e] at hr; exact hr
  | ok k S1 =>
    rw [e] at hr
    intro μ1 H1 J x1 s1 wk D hD
    have x0 := (Ext.hide (rw := rw) (.refl (μ := μ1) (H := H1)) hD).updh (u := .lst []) hD
    have hr := Res.ext hr x1
    have wk := wk.ext x0.toW
    have he := ((he.ext x1).wipe w).ext x0
    refine ⟨fun i m H => i + m = k.its.length ∧ ∃ μ S acc accV, Ext rw μ1 μ H1 H ∧ ExtW rw (μ1.hide D) μ (upd H1 D (.lst [])) H ∧ D ∈ μ.h ∧ SRep X.K rw μ S H ∧ H D = some (.lst accV) ∧ RVs X.K μ H acc accV ∧
      Res X.K rw (RV X.K) μ1 H1 ((comp2L k t t2 (src Φ F it2) (ev Φ F cc) (ev Φ F ce) (wipeE η w) w2 (k.its.drop i) acc S).bind fun xs S2 => .ok (.lst xs) S2) Q, ⟨k.its.length, by omega, μ1.hide D, S1, [], [], x0, Ext.refl.toW, by simp [Mp.hide], s1.hide hD trivial, upd_same, .nil, hr⟩, ?_⟩
    rintro i m H ⟨em, μ, S, acc, accV, xb, y1, hd, hs, hl, ra, hr⟩
    by_cases hi : i < k.its.length
    · have ed : k.its.drop i = k.its[i] :: k.its.drop (i + 1) := List.drop_eq_getElem_cons hi
      rw [ed] at hr
      unfold comp2L at hr
      split at hr
      · rename_i hok
        obtain ⟨hgo, hy⟩ := (wk μ S H y1 hs hok).1 i k.its[i] (by simp [hi])
        refine .inr ⟨hgo, fun H' => ∃ m', m' < m ∧ i + 1 + m' = k.its.length ∧ ∃ μ S acc accV, Ext rw μ1 μ H1 H' ∧ ExtW rw (μ1.hide D) μ (upd H1 D (.lst [])) H' ∧ D ∈ μ.h ∧ SRep X.K rw μ S H' ∧ H' D = some (.lst accV) ∧ RVs X.K μ H' acc accV ∧
          Res X.K rw (RV X.K) μ1 H1 ((comp2L k t t2 (src Φ F it2) (ev Φ F cc) (ev Φ F ce) (wipeE η w) w2 (k.its.drop (i + 1)) acc S).bind fun xs S2 => .ok (.lst xs) S2) Q, fun H' h => h, fun x H' yl => ?_⟩
        obtain ⟨x2, s2, rx⟩ := hy x H' yl
        have l2 : H' D = some (.lst accV) := x2.keep _ _ (fun _ => (hs.hid D hd).2) hl
        cases et : setTg S t k.its[i] (wipeE η w) with
        | none => rw [et] at hr; exact hr.elim
        | some η' =>
          rw [et] at hr
          simp only [bind_assoc] at hr
          refine tg_rep (S := S) ((he.extW y1).ext x2) rx et fun σ2 he2 hw2 => ⟨by rw [hw2 w htg, wipe_idem], ?_⟩
          change rdI X.K rw (src Φ F it2) σ2 H' _
          refine ⟨μ, S, η', s2, he2, ?_⟩
          cases e2 : src Φ F it2 η' S with
          | ex _ _ => rw [e2] at hr; exact hr
          | no => rw [e2] at hr; exact hr
          | ok k2 S3 =>
            rw [e2] at hr
            intro μ3 H3 J3 x3 s3 wk3
            have X3 := (xb.trans x2).trans x3
            have Y3 := (y1.trans x2.toW).trans x3.toW
            refine comp_loop (Fin := fun H' => ∃ m', m' < m ∧ i + 1 + m' = k.its.length ∧ ∃ μ S acc accV, Ext rw μ1 μ H1 H' ∧ ExtW rw (μ1.hide D) μ (upd H1 D (.lst [])) H' ∧ D ∈ μ.h ∧ SRep X.K rw μ S H' ∧ H' D = some (.lst accV) ∧ RVs X.K μ H' acc accV ∧
                Res X.K rw (RV X.K) μ1 H1 ((comp2L k t t2 (src Φ F it2) (ev Φ F cc) (ev Φ F ce) (wipeE η w) w2 (k.its.drop (i + 1)) acc S).bind fun xs S2 => .ok (.lst xs) S2) Q)
              wk3 X3 (x3.sub D hd) s3 (x3.keep _ _ (fun _ => (s2.hid D hd).2) l2) (RVs.ext (x2.trans x3) _ _ ra) ((he2.ext x3).wipe w2) htg2 hr hD fun μ4 S4 H4 acc4 accV4 x4 y4 d4 s4 l4 r4 q4 => ?_
            exact ⟨m - 1, by omega, by omega, μ4, S4, acc4, accV4, x4, Y3.trans y4, d4, s4, l4, r4, q4⟩
      · exact hr.elim
    · have ed : k.its.drop i = [] := List.drop_eq_nil_of_le (by omega)
      rw [ed] at hr
      unfold comp2L at hr
      split at hr
      · rename_i hok
        refine .inl ⟨(wk μ S H y1 hs hok).2 i (by omega), ?_⟩
        exact comp_fin (m := false) s1 hD xb hd hs hl ra hr
      · exact hr.elim
theorem d_comp2 {tg2 iter2 : Expr} {it2 : Src} {t2 : Tg} {w2 : List Nat} (hc : X.calm = true) (hN : X.N.Nodup) (hi : PId X rw Φ F tg iter it) (ok : BlkOk X.N X.env.scope scope own) (htg : ∀ i ∈ t.is, i ∈ own.map (·.2)) (htg2 : ∀ i ∈ t2.is, i ∈ w2) (hv : ∀ i ∈ w2, i ∈ own.map (·.2))
    (hg : BlkP X scope fun Y => PG Y tg (rdTg X.K t)) (hi2 : BlkP X scope fun Y => PId Y rw Φ F tg2 iter2 it2) (hg2 : BlkP X scope fun Y => PG Y tg2 (rdTg X.K t2)) (ht : BlkP X scope fun Y => PTsd Y rw Φ F ifs cc) (he : BlkP X scope fun Y => PEd Y rw Φ F elt ce) (hs : ∀ x, foldedSetIterable iter X.env x = pure x) (hs1 : ∀ env x, foldedSetIterable iter2 env x = pure x) :
    PEd X rw Φ F (.ListComp elt [⟨tg, iter, [], 0⟩, ⟨tg2, iter2, ifs, 0⟩] scope pos) (.comp2 t it t2 it2 cc ce (own.map (·.2)) w2) :=
  PEw (pe_lc2 hc hN hi ok hv hg (fun _ _ _ _ _ => pts_nil) hi2 hg2 ht he hs hs1) fun σ H Q h => rd_comp2 htg htg2 h
end
end MP

set_option Elab.async false
set_option linter.all false
set_option maxRecDepth 100000
set_option maxHeartbeats 4000000
/-! MP8: terms that leave the store alone; comprehensions over a dict. -/
namespace MP
open PySem L2
open PySem.Spec PyProof.Rows
def PureT {α : Type} (m : Env → Sto → R α) : Prop := ∀ η S d S', m η S = .ok d S' → S' = S
theorem pure_bind {α β : Type} {r : R α} {k : α → Sto → R β} {S S' : Sto} {d : β} (h : r.bind k = .ok d S') (h1 : ∀ a S1, r = .ok a S1 → S1 = S) (h2 : ∀ a, k a S = .ok d S' → S' = S) : S' = S := by
  cases r with
  | ok a S1 =>
    have := h1 a S1 rfl
    subst this
    exact h2 a h
  | ex _ _ => cases h
  | no => cases h
theorem pure_of {α : Type} {o : Option α} {S S' : Sto} {d : α} (h : R.of o S = .ok d S') : S' = S := by
  cases o with
  | none => cases h
  | some a => cases h; rfl
mutual
def pureTm : Tm → Bool
  | .var _ => true
  | .cst _ => true
  | .bin _ a b => pureTm a && pureTm b
  | .neg a => pureTm a
  | .cmp _ a b => pureTm a && pureTm b
  | .cmp2 _ _ a b c => pureTm a && pureTm b && pureTm c
  | .and a b => pureTm a && pureTm b
  | .or a b => pureTm a && pureTm b
  | .not a => pureTm a
  | .ix a b => pureTm a && pureTm b
  | .att a _ => pureTm a
  | .tup es => pureTms es
  | _ => false
def pureTms : Tms → Bool
  | .nil => true
  | .cons e es => pureTm e && pureTms es
end
section
variable {Φ : Fns} {F : Str → Str → Bool}
mutual
theorem pure_ev : ∀ c : Tm, pureTm c = true → PureT (ev Φ F c)
  | .var i, _ => fun η S d S' h => by unfold ev at h; exact pure_of h
  | .cst v, _ => fun η S d S' h => by unfold ev at h; cases h; rfl
  | .bin o a b, p => fun η S d S' h => by
    simp only [pureTm, Bool.and_eq_true] at p
    unfold ev at h
    exact pure_bind h (fun x S1 e => pure_ev a p.1 η S x S1 e) fun x h => pure_bind h (fun y S1 e => pure_ev b p.2 η S y S1 e) fun y h => pure_of h
  | .neg a, p => fun η S d S' h => by
    unfold ev at h
    refine pure_bind h (fun x S1 e => pure_ev a p η S x S1 e) fun x h => ?_
    cases x <;> first | (cases h; rfl) | cases h
  | .cmp o a b, p => fun η S d S' h => by
    simp only [pureTm, Bool.and_eq_true] at p
    unfold ev at h
    exact pure_bind h (fun x S1 e => pure_ev a p.1 η S x S1 e) fun x h => pure_bind h (fun y S1 e => pure_ev b p.2 η S y S1 e) fun y h => pure_of h
  | .cmp2 o o' a b c, p => fun η S d S' h => by
    simp only [pureTm, Bool.and_eq_true] at p
    unfold ev at h
    refine pure_bind h (fun x S1 e => pure_ev a p.1.1 η S x S1 e) fun x h => pure_bind h (fun y S1 e => pure_ev b p.1.2 η S y S1 e) fun y h => ?_
    cases q : cmpop o S x y with
    | none => rw [q] at h; cases h
    | some k =>
      rw [q] at h
      cases k with
      | true => exact pure_bind h (fun z S1 e => pure_ev c p.2 η S z S1 e) fun z h => pure_of h
      | false => cases h; rfl
  | .and a b, p => fun η S d S' h => by
    simp only [pureTm, Bool.and_eq_true] at p
    unfold ev at h
    refine pure_bind h (fun x S1 e => pure_ev a p.1 η S x S1 e) fun x h => ?_
    split at h
    · exact pure_ev b p.2 η S d S' h
    · cases h; rfl
    · cases h
  | .or a b, p => fun η S d S' h => by
    simp only [pureTm, Bool.and_eq_true] at p
    unfold ev at h
    refine pure_bind h (fun x S1 e => pure_ev a p.1 η S x S1 e) fun x h => ?_
    split at h
    · cases h; rfl
    · exact pure_ev b p.2 η S d S' h
    · cases h
  | .not a, p => fun η S d S' h => by
    unfold ev at h
    refine pure_bind h (fun x S1 e => pure_ev a p η S x S1 e) fun x h => ?_
    cases x <;> first | (cases h; rfl) | cases h
  | .ix a b, p => fun η S d S' h => by
    simp only [pureTm, Bool.and_eq_true] at p
    unfold ev at h
    exact pure_bind h (fun x S1 e => pure_ev a p.1 η S x S1 e) fun x h => pure_bind h (fun y S1 e => pure_ev b p.2 η S y S1 e) fun y h => pure_of h
  | .att a f, p => fun η S d S' h => by
    unfold ev at h
    refine pure_bind h (fun x S1 e => pure_ev a p η S x S1 e) fun x h => ?_
    split at h
    · split at h
      · split at h
        · exact pure_of h
        · cases h
      · cases h
    · cases h
  | .tup es, p => fun η S d S' h => by
    unfold ev at h
    refine pure_bind h (fun x S1 e => pure_evs es p η S x S1 e) fun x h => ?_
    split at h
    · cases h; rfl
    · cases h
theorem pure_evs : ∀ c : Tms, pureTms c = true → PureT (evs Φ F c)
  | .nil, _ => fun η S d S' h => by unfold evs at h; cases h; rfl
  | .cons e es, p => fun η S d S' h => by
    simp only [pureTms, Bool.and_eq_true] at p
    unfold evs at h
    exact pure_bind h (fun x S1 e' => pure_ev e p.1 η S x S1 e') fun x h => pure_bind h (fun y S1 e' => pure_evs es p.2 η S y S1 e') fun y h => by cases h; rfl
end
end
theorem pure_compL {k : Wk} {t : Tg} {mc me : Env → Sto → R D} (hc : PureT mc) (he : PureT me) {η : Env} : ∀ {its : List D} {acc : List D} {S : Sto} {xs : List D} {S' : Sto}, compL k t mc me η its acc S = .ok xs S' → S' = S
  | [], acc, S, xs, S', h => by
    unfold compL at h
    split at h
    · cases h; rfl
    · cases h
  | x :: its, acc, S, xs, S', h => by
    unfold compL at h
    split at h
    · split at h
      · rename_i η' _
        refine pure_bind h (fun y S1 e => hc _ _ _ _ e) fun y h => ?_
        split at h
        · refine pure_bind h (fun y S1 e => he _ _ _ _ e) fun y h => ?_
          split at h
          · exact pure_compL hc he h
          · cases h
        · exact pure_compL hc he h
        · cases h
      · cases h
    · cases h
section
variable {K : PySem.W.Frag} {μ : Mp} {S : Sto} {H : Hp}
theorem rk_key {κ : Type} : ∀ {kvs : List (κ × D)} {q : List (κ × V)}, RK K μ H kvs q → q.map (·.1) = kvs.map (·.1)
  | _, _, .nil => rfl
  | _, _, .cons _ t => by simp [rk_key t]
theorem rv_dK (k : Key) : RV K μ H (dK k) (kV k) := by cases k; exact .int _; exact .str _
theorem rvs_dK : ∀ ks : List Key, RVs K μ H (ks.map dK) (ks.map kV)
  | [] => .nil
  | k :: ks => .cons (rv_dK k) (rvs_dK ks)
theorem dT_rep {rw : Bool} {p : Addr} (hs : SRep K rw μ S H) {k : List Key} (e : H p = some (.tup (k.map kV))) : RV K μ H (dT k) (.ref p) := by
  refine .tup ⟨fun z => ?_, fun z => ?_⟩ e (rvs_dK k)
  · obtain ⟨l, hl, e1⟩ := List.mem_iff_getElem.mp z
    have hl' : l < S.length := by rw [← hs.len]; exact hl
    obtain ⟨a', ho, h1, h2, h3⟩ := hs.ob l S[l] (by simp [hl'])
    have : a' = p := by
      rw [List.getElem?_eq_getElem hl] at h1
      rw [← e1]; exact (Option.some.inj h1).symm
    subst this
    generalize S[l] = o at h3
    rcases h2 with h2 | ⟨_, b, h2⟩ <;> rw [e] at h2 <;> cases h2
    cases h3
  · have := (hs.hid p z).1
    rw [e] at this; exact this
/-- the keys of a locked dict -/
theorem walk_dK {a : Addr} {o : Obj} {kvs : List (Key × D)} {q : List (Key × V)} (hh : a ∉ μ.h) (ha : H a = some (.frz o (.dK q))) (r : RK K μ H kvs q) : WalkOk K false (Itk a o q) ⟨kvs.map fun kv => dK kv.1, none⟩ μ H := by
  intro μ' S' H' x s ok
  have hk := rk_key r
  have hlen : kvs.length = q.length := by have := congrArg List.length hk; simpa using this.symm
  have e := x.keepW _ _ (fun z => nomatch z) hh ha
  refine ⟨fun i d ed => ?_, fun i hi => ⟨e, ?_⟩⟩
  · obtain ⟨kv, e1, rfl⟩ := map_some (o := kvs[i]?) (by rw [← List.getElem?_map]; exact ed)
    have hi : i < kvs.length := (List.getElem?_eq_some_iff.mp e1).1
    refine ⟨⟨e, by rw [← hlen]; exact hi⟩, fun v H'' y => ?_⟩
    obtain ⟨rfl, k, u, e2, rfl⟩ := y
    have e3 : k = kv.1 := by
      have h1 : (q.map (·.1))[i]? = some k := by rw [List.getElem?_map, e2]; rfl
      have h2 : (kvs.map (·.1))[i]? = some kv.1 := by rw [List.getElem?_map, e1]; rfl
      rw [hk, h2] at h1
      exact (Option.some.inj h1).symm
    rw [e3]
    exact ⟨.refl, s, rv_dK _⟩
  · have hi : (kvs.map fun kv => dK kv.1).length ≤ i := hi
    rw [List.length_map, hlen] at hi; exact hi
theorem walk_dT {a : Addr} {o : Obj} {kvs : List (List Key × D)} {q : List (List Key × V)} (hh : a ∉ μ.h) (ha : H a = some (.frz o (.dT q))) (r : RK K μ H kvs q) : WalkOk K false (Itkt a o q) ⟨kvs.map fun kv => dT kv.1, none⟩ μ H := by
  intro μ' S' H' x s ok
  have hk := rk_key r
  have hlen : kvs.length = q.length := by have := congrArg List.length hk; simpa using this.symm
  have e := x.keepW _ _ (fun z => nomatch z) hh ha
  refine ⟨fun i d ed => ?_, fun i hi => ⟨e, ?_⟩⟩
  · obtain ⟨kv, e1, rfl⟩ := map_some (o := kvs[i]?) (by rw [← List.getElem?_map]; exact ed)
    have hi : i < kvs.length := (List.getElem?_eq_some_iff.mp e1).1
    refine ⟨⟨e, by rw [← hlen]; exact hi⟩, fun v H'' y => ?_⟩
    obtain ⟨rfl, k, u, p, e2, rfl, e4⟩ := y
    have e3 : k = kv.1 := by
      have h1 : (q.map (·.1))[i]? = some k := by rw [List.getElem?_map, e2]; rfl
      have h2 : (kvs.map (·.1))[i]? = some kv.1 := by rw [List.getElem?_map, e1]; rfl
      rw [hk, h2] at h1
      exact (Option.some.inj h1).symm
    subst e3
    exact ⟨.refl, s, dT_rep s e4⟩
  · have hi : (kvs.map fun kv => dT kv.1).length ≤ i := hi
    rw [List.length_map, hlen] at hi; exact hi
end
theorem RK.extW' {κ : Type} {K : PySem.W.Frag} {rw : Bool} {μ μ' : Mp} {H H' : Hp} {l : Nat} {a : Addr} {ho : HO} (h : μ.s[l]? = some a) (x : ExtW rw μ μ' (upd H a ho) H') {kvs : List (κ × D)} {q : List (κ × V)} (r : RK K μ H kvs q) : RK K μ' H' kvs q := by
  have r1 := r.ext (Ext.write (ho := ho) h)
  clear r
  induction r1 with
  | nil => exact .nil
  | cons r _ ih => exact .cons (RV.extW x _ _ r) ih
section
variable {X : Cx} {Φ : Fns} {F : Str → Str → Bool} {elt tg iter : Expr} {ifs : List Expr} {scope : Scope} {own : List (Str × Nat)} {pos : Pos} {ci cc ce : Tm} {t : Tg} {m : Bool}
theorem SRep.lock {K : PySem.W.Frag} {μ : Mp} {S : Sto} {H : Hp} (hs : SRep K true μ S H) {l : Nat} {a : Addr} {u : HO} {od : Obj} (h : μ.s[l]? = some a) (e : H a = some u) : SRep K false μ S (upd H a (.frz od u)) where
  len := hs.len
  nd := hs.nd
  hid := fun b hb => by
    have hne : b ≠ a := fun z => (hs.hid b hb).2 (by rw [z]; exact List.mem_of_getElem? h)
    exact ⟨by rw [upd_ne hne]; exact (hs.hid b hb).1, (hs.hid b hb).2⟩
  ob := fun j v ev => by
    obtain ⟨b, hu, h1, h2, h3⟩ := hs.ob j v ev
    have h3' := h3.ext (Ext.write (ho := .frz od u) h)
    by_cases hne : b = a
    · subst hne
      have := h2.get
      rw [e] at this; cases this
      exact ⟨b, u, h1, .inr ⟨rfl, od, upd_same⟩, h3'⟩
    · exact ⟨b, hu, h1, .inl (by rw [upd_ne hne]; exact h2.get), h3'⟩
theorem rd_compD {w : List Nat} {σ : L2.St} {H : Hp} {Q : VK} (pi : pureTm ci = true) (pc : pureTm cc = true) (pe : pureTm ce = true) (htg : ∀ i ∈ t.is, i ∈ w) (h : rdE X.K true (ev Φ F (.comp m t (.dic ci) cc ce w)) σ H Q) :
    tLockE (tLc (iKeys (rdE X.K false (ev Φ F ci))) (rdTg X.K t) (rdT X.K false (ev Φ F cc)) (rdE X.K false (ev Φ F ce)) w) σ H Q := by
  obtain ⟨μ, S, η, hs, he, hr⟩ := h
  unfold ev at hr
  unfold src at hr
  cases e : ev Φ F ci η S with
  | ex _ _ => rw [e] at hr; exact hr.elim
  | no => rw [e] at hr; exact hr.elim
  | ok x S1 =>
    have hS := pure_ev ci pi _ _ _ _ e
    subst hS
    rw [e, MP.R.bind_ok] at hr
    cases e2 : srcDic S1 x with
    | none => rw [e2] at hr; exact hr.elim
    | some its =>
      simp only [e2, MP.R.bind_ok] at hr
      cases e3 : compL ⟨its, none⟩ t (ev Φ F cc) (ev Φ F ce) (wipeE η w) its [] S1 with
      | ex _ _ => rw [e3] at hr; exact hr.elim
      | no => rw [e3] at hr; exact hr.elim
      | ok xs S2 =>
        have hS2 := pure_compL (pure_ev cc pc) (pure_ev ce pe) e3
        subst hS2
        rw [e3, MP.R.bind_ok] at hr
        -- the dict
        obtain ⟨l, rfl⟩ : ∃ l, x = .ref l := by
          cases x <;> first | exact ⟨_, rfl⟩ | simp [srcDic] at e2
        obtain ⟨a, u, hl, ha, mu, wkk⟩ : ∃ a u, μ.s[l]? = some a ∧ H a = some u ∧ Mut (some u) ∧ ∀ od μ' H', μ'.s[l]? = some a → a ∉ μ'.h → H' a = some (.frz od u) → ExtW false μ μ' (upd H a (.frz od u)) H' →
            ((∃ kvs, u = .dK kvs ∧ WalkOk X.K false (Itk a od kvs) ⟨its, none⟩ μ' H') ∨ ∃ kvs, u = .dT kvs ∧ WalkOk X.K false (Itkt a od kvs) ⟨its, none⟩ μ' H') := by
          simp only [srcDic] at e2
          split at e2
          · rename_i kvs hkv
            cases e2
            obtain ⟨a, ho, h1, h2, h3⟩ := hs.ob l _ hkv
            cases h3 with
            | dK r => exact ⟨a, _, h1, h2.get, trivial, fun od μ' H' g1 g2 g3 g4 => .inl ⟨_, rfl, walk_dK g2 g3 (r.extW' (ho := .frz od _) h1 g4)⟩⟩
          · rename_i kvs hkv
            cases e2
            obtain ⟨a, ho, h1, h2, h3⟩ := hs.ob l _ hkv
            cases h3 with
            | dT r => exact ⟨a, _, h1, h2.get, trivial, fun od μ' H' g1 g2 g3 g4 => .inr ⟨_, rfl, walk_dT g2 g3 (r.extW' (ho := .frz od _) h1 g4)⟩⟩
          · cases e2
        refine ⟨a, u, ha, mu, fun od => ?_⟩
        refine ⟨μ, S2, η, hs.lock hl ha, he.ext (Ext.write hl), ?_⟩
        rw [e]
        intro μ1 H1 v x1 s1 r1
        cases r1 with
        | ref h1 =>
          have h1' := x1.at hl
          rw [h1] at h1'; cases h1'
          have hf : H1 a = some (.frz od u) := x1.keep _ _ (fun z => nomatch z) upd_same
          have nh : a ∉ μ1.h := fun z => (s1.hid a z).2 (List.mem_of_getElem? h1)
          have body : ∀ J, WalkOk X.K false J ⟨its, none⟩ μ1 H1 → ∀ D, H1 D = none → ∃ W : Nat → Nat → Hp → Prop, (∃ m, W 0 m (upd H1 D (.lst []))) ∧ ∀ i m H, W i m H →
              (J.stop i H ∧ (H a = some (.frz od u) ∧ Q (.ref D) (upd H a u))) ∨ (J.go i H ∧ ∃ Nx : Hp → Prop, (∀ H', Nx H' → ∃ m', m' < m ∧ W (i + 1) m' H') ∧ ∀ x H', J.yld i H x H' → rdTg X.K t x (L2.wipe σ w) H' fun σ2 H2 => L2.wipe σ2 w = L2.wipe σ w ∧ rdT X.K false (ev Φ F cc) σ2 H2 fun b H3 =>
                if b = true then rdE X.K false (ev Φ F ce) σ2 H3 fun y H4 => ∃ acc, H4 D = some (.lst acc) ∧ acc.length < sizeLine ∧ Nx (upd H4 D (.lst (acc ++ [y]))) else Nx H3) := by
            intro J wk D hD
            have x0 := (Ext.hide (rw := false) (.refl (μ := μ1) (H := H1)) hD).updh (u := .lst []) hD
            refine comp_loop (kk := fun acc S => R.ok acc S) (rep := fun μ' H' (acc : List MP.D) (v : List V) => D ∈ μ'.h ∧ H' D = some (.lst v) ∧ RVs X.K μ' H' acc v) (Q := fun _ H' => H' a = some (.frz od u) ∧ Q (.ref D) (upd H' a u))
              (Fin := fun H => H a = some (.frz od u) ∧ Q (.ref D) (upd H a u)) (wk.ext x0.toW) x0 (by simp [Mp.hide]) (s1.hide hD trivial) upd_same .nil (((he.ext (Ext.write hl)).ext x1.up).wipe w |>.ext x0.up) htg ?_ hD fun μ2 S2 H2 acc accV x2 _ d2 s2 l2 r2 q2 => q2 μ2 H2 accV x2 s2 ⟨d2, l2, r2⟩
            rw [e3]
            intro μ' H'' v y sy ⟨d, lv, rv⟩
            have z := x1.trans y
            have fa : H'' a = some (.frz od u) := y.keep _ _ (fun z => nomatch z) hf
            have ne : ∀ {b : Addr}, upd H a (.frz od u) b = none → b ≠ a := fun q e => by rw [e, upd_same] at q; cases q
            have non : ∀ {b : Addr}, upd H a (.frz od u) b = none → H b = none := fun q => by rw [upd_ne (ne q)] at q; exact q
            have XX : Ext true μ μ' H (upd H'' a u) := by
              refine ⟨z.pre, fun b hb => (z.hid b hb).imp id non, z.sub, fun b o hb eb => ?_, fun b hb => ?_, fun b hb nb => non (z.new b hb nb)⟩
              · have hne : b ≠ a := fun q => hb rfl (by rw [q]; exact List.mem_of_getElem? hl)
                rw [upd_ne hne]
                exact z.keep _ _ (fun q => nomatch q) (by rw [upd_ne hne]; exact eb)
              · by_cases q : b = a
                · rw [q, upd_same]; exact Option.some_ne_none _
                · rw [upd_ne q]
                  exact z.stay b (by rw [upd_ne q]; exact hb)
            have SS : SRep X.K true μ' S2 (upd H'' a u) := by
              refine ⟨sy.len, sy.nd, fun b hb => ?_, fun j o ej => ?_⟩
              · have hne : b ≠ a := fun q => (sy.hid b hb).2 (by rw [q]; exact List.mem_of_getElem? (z.at hl))
                exact ⟨by rw [upd_ne hne]; exact (sy.hid b hb).1, (sy.hid b hb).2⟩
              · obtain ⟨b, hu, g1, g2, g3⟩ := hs.ob j o ej
                refine ⟨b, hu, z.at g1, .inl ?_, g3.ext XX⟩
                by_cases q : b = a
                · rw [q, upd_same]
                  have := g2.get
                  rw [q, ha] at this; exact this
                · rw [upd_ne q]
                  exact z.keep _ _ (fun q => nomatch q) (by rw [upd_ne q]; exact g2.get)
            have hD' := x1.non0 hD
            refine ⟨fa, comp_fin (m := m) hs (non hD') XX d SS ?_ (RVs.ext (Ext.write (z.at hl)) _ _ rv) hr⟩
            rw [upd_ne (ne hD')]; exact lv
          refine ⟨a, od, rfl, ?_⟩
          rcases wkk od μ1 H1 h1 nh hf x1.toW with ⟨kvs, rfl, wk⟩ | ⟨kvs, rfl, wk⟩
          · exact .inl ⟨kvs, hf, body _ wk⟩
          · exact .inr ⟨kvs, hf, body _ wk⟩
theorem d_compD (hc : X.calm = true) (hN : X.N.Nodup) (hi : PEd X false Φ F iter ci) (pi : pureTm ci = true) (pc : pureTm cc = true) (pe : pureTm ce = true) (ok : BlkOk X.N X.env.scope scope own) (htg : ∀ i ∈ t.is, i ∈ own.map (·.2))
    (hg : BlkP X scope fun Y => PG Y tg (rdTg X.K t)) (ht : BlkP X scope fun Y => PTsd Y false Φ F ifs cc) (he : BlkP X scope fun Y => PEd Y false Φ F elt ce) (hs : ∀ x, foldedSetIterable iter X.env x = pure x) :
    PEd X true Φ F (.ListComp elt [⟨tg, iter, ifs, 0⟩] scope pos) (.comp m t (.dic ci) cc ce (own.map (·.2))) :=
  PEw (pe_lock (pe_lc hc hN (pi_keys hi) ok hg ht he hs)) fun σ H Q h => rd_compD pi pc pe htg h
end
end MP

set_option Elab.async false
set_option linter.all false
set_option maxRecDepth 100000
set_option maxHeartbeats 4000000
/-! MP9: statements. -/
namespace MP
open PySem L2
open PySem.Spec PyProof.Rows
inductive FV where
  | nx (σ : L2.St) | rt (v : V) | bk (σ : L2.St) | ct (σ : L2.St)
inductive RFl (K : PySem.W.Frag) (μ : Mp) (H : Hp) : Fl → FV → Prop
  | nx {η : Env} {σ : L2.St} : ERep K μ H η σ → RFl K μ H (.nx η) (.nx σ)
  | rt {d : D} {v : V} : RV K μ H d v → RFl K μ H (.rt d) (.rt v)
  | bk {η : Env} {σ : L2.St} : ERep K μ H η σ → RFl K μ H (.bk η) (.bk σ)
  | ct {η : Env} {σ : L2.St} : ERep K μ H η σ → RFl K μ H (.ct η) (.ct σ)
def goD (E : Ends) : FV → Hp → Prop
  | .nx σ, H => E.nx σ H
  | .rt v, H => E.rt v H
  | .bk σ, H => E.bk σ H
  | .ct σ, H => E.ct σ H
def rdS (K : PySem.W.Frag) (m : Env → Sto → R Fl) : TS := fun E σ H => ∃ μ S η, SRep K true μ S H ∧ ERep K μ H η σ ∧ Res K true (RFl K) μ H (m η S) (goD E)
section
variable {X : Cx} {Φ : Fns} {F : Str → Str → Bool} {a b c e st : Expr} {ca cb cc ce : Tm} {pos : Pos}
abbrev PSd (X : Cx) (Φ : Fns) (F : Str → Str → Bool) (s : Stmt) (m : Sm) : Prop := PS X s (rdS X.K (ex Φ F m))
abbrev PSsd (X : Cx) (Φ : Fns) (F : Str → Str → Bool) (ss : List Stmt) (m : Sms) : Prop := PSs X ss (rdS X.K (exs Φ F m))
theorem s_nil : PSsd X Φ F [] .nil := PSsw pss_nil fun E σ H h => by
  obtain ⟨μ, S, η, hs, he, hr⟩ := h
  unfold exs at hr
  exact hr.ok (v := .nx σ) hs (.nx he)
theorem s_cons {s : Stmt} {ss : List Stmt} {m : Sm} {ms : Sms} (h1 : PSd X Φ F s m) (h2 : PSsd X Φ F ss ms) : PSsd X Φ F (s :: ss) (.cons m ms) := PSsw (pss_cons h1 h2) fun E σ H h => by
  obtain ⟨μ, S, η, hs, he, hr⟩ := h
  unfold exs at hr
  refine ⟨μ, S, η, hs, he, res_bind hr fun f S1 μ1 H1 v x1 s1 r1 q1 => ?_⟩
  cases r1 with
  | nx r => exact ⟨μ1, S1, _, s1, r, q1⟩
  | rt r => exact q1.ok (v := .rt _) s1 (.rt r)
  | bk r => exact q1.ok (v := .bk _) s1 (.bk r)
  | ct r => exact q1.ok (v := .ct _) s1 (.ct r)
theorem s_expr (he : PEd X true Φ F e ce) (hs : swapsWith e none pos.line X.env = pure false) : PSd X Φ F (.Expr e pos) (.expr ce) := PSw (ps_expr he hs) fun E σ H h => by
  obtain ⟨μ, S, η, hs, he, hr⟩ := h
  unfold ex at hr
  exact ⟨μ, S, η, hs, he, res_bind hr fun d S1 μ1 H1 v x1 s1 r1 q1 => show goD E (.nx σ) H1 from q1.ok s1 (.nx (he.ext x1))⟩
theorem s_ret (he : PEd X true Φ F e ce) : PSd X Φ F (.Return (some e) pos) (.ret ce) := PSw (ps_ret he) fun E σ H h => by
  obtain ⟨μ, S, η, hs, he, hr⟩ := h
  unfold ex at hr
  exact ⟨μ, S, η, hs, he, res_bind hr fun d S1 μ1 H1 v x1 s1 r1 q1 => show goD E (.rt v) H1 from q1.ok s1 (.rt r1)⟩
theorem s_retN : PSd X Φ F (.Return none pos) .retN := PSw ps_retN fun E σ H h => by
  obtain ⟨μ, S, η, hs, he, hr⟩ := h
  unfold ex at hr
  exact hr.ok (v := .rt .non) hs (.rt .non)
theorem s_pass : PSd X Φ F (.Pass pos) .pass := PSw ps_pass fun E σ H h => by
  obtain ⟨μ, S, η, hs, he, hr⟩ := h
  unfold ex at hr
  exact hr.ok (v := .nx σ) hs (.nx he)
theorem s_brk : PSd X Φ F (.Break pos) .brk := PSw ps_break fun E σ H h => by
  obtain ⟨μ, S, η, hs, he, hr⟩ := h
  unfold ex at hr
  exact hr.ok (v := .bk σ) hs (.bk he)
theorem s_cont : PSd X Φ F (.Continue pos) .cont := PSw ps_continue fun E σ H h => by
  obtain ⟨μ, S, η, hs, he, hr⟩ := h
  unfold ex at hr
  exact hr.ok (v := .ct σ) hs (.ct he)
theorem s_if {ss ts : List Stmt} {ms ns : Sms} (hc : PTd X true Φ F c cc) (ha : PSsd X Φ F ss ms) (hb : PSsd X Φ F ts ns) : PSd X Φ F (.If c ss ts pos) (.ife cc ms ns) := PSw (ps_if hc ha hb) fun E σ H h => by
  obtain ⟨μ, S, η, hs, he, hr⟩ := h
  unfold ex at hr
  refine ⟨μ, S, η, hs, he, res_bind hr fun x S1 μ1 H1 v x1 s1 r1 q1 => ?_⟩
  cases r1 <;> try exact q1.elim
  rename_i k
  refine ⟨k, rfl, ?_⟩
  cases k with
  | true => exact ⟨μ1, S1, η, s1, he.ext x1, q1⟩
  | false => exact ⟨μ1, S1, η, s1, he.ext x1, q1⟩
/-! ### loops -/
theorem s_for {tg iter : Expr} {it : Src} {t : Tg} {ss : List Stmt} {ms : Sms} (hp : PassesOwn (model X.prog X.w) X.A X.env X.xe) (hc : X.calm = true) (hi : PId X true Φ F tg iter it) (hg : PG X tg (rdTg X.K t)) (hb : PSsd X Φ F ss ms)
    (hs : ∀ x, foldedSetIterable iter X.env x = pure x) : PSd X Φ F (.For tg iter ss [] pos) (.for t it ms) := PSw (ps_for hp hc hi hg hb hs) fun E σ H h => by
  obtain ⟨μ, S, η, hs, he, hr⟩ := h
  unfold ex at hr
  refine ⟨μ, S, η, hs, he, ?_⟩
  cases e1 : src Φ F it η S with
  | ex _ _ => rw [e1] at hr; exact hr
  | no => rw [e1] at hr; exact hr
  | ok k S1 =>
    rw [e1] at hr
    intro μ1 H1 J x1 s1 wk
    have hr := Res.ext hr x1
    refine ⟨fun i m σ H => i + m = k.its.length ∧ ∃ μ S η, Ext true μ1 μ H1 H ∧ SRep X.K true μ S H ∧ ERep X.K μ H η σ ∧ Res X.K true (RFl X.K) μ1 H1 (forL k t (exs Φ F ms) (k.its.drop i) η S) (goD E), ⟨k.its.length, by omega, μ1, S1, η, .refl, s1, he.ext x1, hr⟩, ?_⟩
    rintro i m σ H ⟨em, μ, S, η, xb, hs, he, hr⟩
    by_cases hi : i < k.its.length
    · have ed : k.its.drop i = k.its[i] :: k.its.drop (i + 1) := List.drop_eq_getElem_cons hi
      rw [ed] at hr
      unfold forL at hr
      split at hr
      · rename_i hok
        obtain ⟨hgo, hy⟩ := (wk μ S H xb.toW hs hok).1 i k.its[i] (by simp [hi])
        refine .inr ⟨hgo, fun σ' H' => ∃ m', m' < m ∧ i + 1 + m' = k.its.length ∧ ∃ μ S η, Ext true μ1 μ H1 H' ∧ SRep X.K true μ S H' ∧ ERep X.K μ H' η σ' ∧ Res X.K true (RFl X.K) μ1 H1 (forL k t (exs Φ F ms) (k.its.drop (i + 1)) η S) (goD E), fun σ' H' h => h, fun x H' yl => ?_⟩
        obtain ⟨x2, s2, rx⟩ := hy x H' yl
        cases et : setTg S t k.its[i] η with
        | none => rw [et] at hr; exact hr.elim
        | some η' =>
          rw [et] at hr
          refine tg_rep (S := S) (he.ext x2) rx et fun σ2 he2 hw2 => ?_
          refine ⟨μ, S, η', s2, he2, res_bindB hr fun f S3 μ3 H3 v x3 s3 r3 q3 => ?_⟩
          have X3 := (xb.trans x2).trans x3
          cases r3 with
          | nx r => exact ⟨m - 1, by omega, by omega, μ3, S3, _, X3, s3, r, q3⟩
          | ct r => exact ⟨m - 1, by omega, by omega, μ3, S3, _, X3, s3, r, q3⟩
          | bk r => exact q3 μ3 H3 (.nx _) X3 s3 (.nx r)
          | rt r => exact q3 μ3 H3 (.rt _) X3 s3 (.rt r)
      · exact hr.elim
    · have ed : k.its.drop i = [] := List.drop_eq_nil_of_le (by omega)
      rw [ed] at hr
      unfold forL at hr
      split at hr
      · rename_i hok
        exact .inl ⟨(wk μ S H xb.toW hs hok).2 i (by omega), hr μ H (.nx σ) xb hs (.nx he)⟩
      · exact hr.elim
theorem whileL_eq {mc : Env → Sto → R D} {mb : Env → Sto → R Fl} {η : Env} {S : Sto} (h : whileL mc mb η S ≠ .no) : ∃ n, whileN mc mb n η S = some (whileL mc mb η S) := by
  unfold whileL at h ⊢
  split at h
  · rename_i q
    rw [dif_pos q]
    exact ⟨q.choose, (Classical.choose_spec q).choose_spec⟩
  · exact absurd rfl h
theorem s_while {ss : List Stmt} {ms : Sms} (hp : PassesOwn (model X.prog X.w) X.A X.env X.xe) (hc : PTd X true Φ F c cc) (hb : PSsd X Φ F ss ms) : PSd X Φ F (.While c ss [] pos) (.whl cc ms) := PSw (ps_while hp hc hb) fun E σ H h => by
  obtain ⟨μ0, S0, η0, hs0, he0, hr0⟩ := h
  unfold ex at hr0
  obtain ⟨n, hn⟩ := whileL_eq (mc := ev Φ F cc) (mb := exs Φ F ms) (η := η0) (S := S0) fun e => by rw [e] at hr0; exact hr0
  generalize whileL (ev Φ F cc) (exs Φ F ms) η0 S0 = r at hr0 hn
  refine ⟨fun m σ H' => ∃ μ S η, Ext true μ0 μ H H' ∧ SRep X.K true μ S H' ∧ ERep X.K μ H' η σ ∧ whileN (ev Φ F cc) (exs Φ F ms) m η S = some r, ⟨n, μ0, S0, η0, .refl, hs0, he0, hn⟩, ?_⟩
  rintro m σ H' ⟨μ, S, η, xb, hs, he, hw⟩
  cases m with
  | zero => simp [whileN] at hw
  | succ m =>
    unfold whileN at hw
    refine ⟨μ, S, η, hs, he, ?_⟩
    cases e1 : ev Φ F cc η S with
    | ex _ _ => rw [e1] at hw; cases hw; exact hr0.elim
    | no => rw [e1] at hw; cases hw; exact hr0.elim
    | ok d S1 =>
      rw [e1] at hw
      intro μ1 H1 v x1 s1 r1
      cases r1 <;> try (cases hw; exact hr0.elim)
      rename_i k
      refine ⟨k, rfl, ?_⟩
      cases k with
      | false =>
        rw [if_neg (by decide)]
        cases hw
        exact hr0 μ1 H1 (.nx σ) (xb.trans x1) s1 (.nx (he.ext x1))
      | true =>
        rw [if_pos rfl]
        refine ⟨fun σ' H' => ∃ μ S η, Ext true μ0 μ H H' ∧ SRep X.K true μ S H' ∧ ERep X.K μ H' η σ' ∧ whileN (ev Φ F cc) (exs Φ F ms) m η S = some r, fun σ' H' q => ⟨m, Nat.lt_succ_self _, q⟩, μ1, S1, η, s1, he.ext x1, ?_⟩
        cases e2 : exs Φ F ms η S1 with
        | ex _ _ => simp only [e2] at hw; cases hw; exact hr0.elim
        | no => simp only [e2] at hw; cases hw; exact hr0.elim
        | ok f S2 =>
          simp only [e2] at hw
          intro μ2 H2 v x2 s2 r2
          have X2 := (xb.trans x1).trans x2
          cases r2 with
          | nx r => exact ⟨μ2, S2, _, X2, s2, r, hw⟩
          | ct r => exact ⟨μ2, S2, _, X2, s2, r, hw⟩
          | bk r => cases hw; exact hr0 μ2 H2 (.nx _) X2 s2 (.nx r)
          | rt r => cases hw; exact hr0 μ2 H2 (.rt _) X2 s2 (.rt r)
/-! ### assignments -/
theorem s_nm {i : Nat} {x : Str} {pos' : Pos} (hN : X.N.Nodup) (hi : X.N[i]? = some x) (hx : Loc X.env.scope x) (he : PEd X true Φ F e ce) (hs : swapsWith e (some (.Name x pos')) pos.line X.env = pure false) (hf : X.fn x = true ∨ X.env.scope.names.lookup x = some .local) :
    PSd X Φ F (.Assign [.Name x pos'] e pos) (.asg (.nm i) ce) := PSw (ps_set hN hi hx he hs hf) fun E σ H h => by
  obtain ⟨μ, S, η, hs, he, hr⟩ := h
  unfold ex at hr
  exact ⟨μ, S, η, hs, he, res_bind hr fun d S1 μ1 H1 v x1 s1 r1 q1 => show goD E (.nx _) H1 from q1.ok s1 (.nx ((he.ext x1).set i r1))⟩
/-- a target's reading -/
def rdG (K : PySem.W.Frag) (m : D → Env → Sto → R Env) : TG := fun v σ H Q => ∃ μ S η d, SRep K true μ S H ∧ ERep K μ H η σ ∧ RV K μ H d v ∧ Res K true (fun μ H η' σ' => ERep K μ H η' σ') μ H (m d η S) Q
abbrev PGd (X : Cx) (Φ : Fns) (F : Str → Str → Bool) (tg : Expr) (t : Ta) : Prop := PG X tg (rdG X.K (assignT Φ F t))
theorem g_nm {i : Nat} {x : Str} (hN : X.N.Nodup) (hi : X.N[i]? = some x) (hx : Loc X.env.scope x) (hf : X.fn x = true ∨ X.env.scope.names.lookup x = some .local) : PGd X Φ F (.Name x pos) (.nm i) :=
  PGw (pg_name hN hi hx hf) fun v σ H Q h => by
    obtain ⟨μ, S, η, d, hs, he, rv, hr⟩ := h
    unfold assignT at hr
    exact hr.ok hs (he.set i rv)
theorem g_tp {tg : Expr} {is : List Nat} (h : PG X tg (rdTg X.K (.tp is))) : PGd X Φ F tg (.tp is) :=
  PGw h fun v σ H Q h => by
    obtain ⟨μ, S, η, d, hs, he, rv, hr⟩ := h
    unfold assignT at hr
    cases rv <;> try exact hr.elim
    rename_i a ds vs h1 h2 h3
    obtain ⟨η', e, hr⟩ := hr.of
    exact tg_rep (S := S) (t := .tp is) he (.tup h1 h2 h3) e fun σ' he' _ => hr.ok hs he'
def rSetA (K : PySem.W.Frag) : TSet := fun o i v H Q => ∃ μ S x y d, SRep K true μ S H ∧ RV K μ H x o ∧ RV K μ H y i ∧ RV K μ H d v ∧ Res K true (fun _ _ _ (_ : Unit) => True) μ H (setItem S x y d) (fun _ => Q)
theorem set_any (O : Okx X) : PSet X (rSetA X.K) := by
  intro pins s σ H o i v ov iv u Q I ro ri rv h
  obtain ⟨μ, S, x, y, d, hs, rx, ry, rd, hr⟩ := h
  cases rx with
  | ref h1 =>
    rename_i l a
    simp only [setItem] at hr
    cases q : S[l]? with
    | none => simp [q, dicPut] at hr; exact hr.elim
    | some w =>
      have dict : (∀ xs, w ≠ .lst xs) → wpAny (model X.prog X.w) X.A (PySem.setItem ov iv u) (fun _ s' => ∃ H', Inv X pins σ H' s' ∧ Q H') X.xe s := fun hne => by
        have hr : Res X.K true (fun _ _ _ (_ : Unit) => True) μ H (match dicPut S l y d with
            | some S' => .ok () S'
            | none => .no) (fun _ => Q) := by
          cases w with
          | lst xs => exact absurd rfl (hne xs)
          | _ => rw [q] at hr; exact hr
        unfold dicPut at hr
        rw [q] at hr
        cases w with
        | lst xs => exact absurd rfl (hne xs)
        | ins C fs => exact hr.elim
        | dK kvs =>
          obtain ⟨ho, h2, h3⟩ := hs.at q h1
          cases h3 with
          | dK h4 =>
            rename_i qq
            cases hk : keyK y with
            | none => simp [hk] at hr; exact hr.elim
            | some k =>
              by_cases hz : kvs.length < 1000000
              · simp only [hk, if_pos hz] at hr
                have hl : ∀ {q : List (Key × V)}, RK X.K μ H kvs q → q.length = kvs.length := fun r => by have := congrArg List.length (rk_key r); simpa using this
                refine set_dict (by have := O.un; omega) pins s σ H _ i v ov iv u Q I ro ri rv ⟨_, _, rfl, .inl ⟨_, k, h2.get, keyK_rep ry hk, by rw [hl h4]; exact Nat.lt_trans hz (by decide), rfl⟩, ?_⟩
                have X1 := Ext.write (H := H) (ho := .dK (putK qq k v)) h1
                exact hr μ _ () X1 (hs.write h1 (.dK ((h4.put k rd).ext X1))) trivial
              · simp [hk, if_neg hz] at hr; exact hr.elim
        | dT kvs =>
          obtain ⟨ho, h2, h3⟩ := hs.at q h1
          cases h3 with
          | dT h4 =>
            rename_i qq
            cases hk : keyT y with
            | none => simp [hk] at hr; exact hr.elim
            | some k =>
              by_cases hz : kvs.length < 1000000
              · simp only [hk, if_pos hz] at hr
                have hl : ∀ {q : List (List Key × V)}, RK X.K μ H kvs q → q.length = kvs.length := fun r => by have := congrArg List.length (rk_key r); simpa using this
                obtain ⟨b, hb, hb2⟩ := keyT_rep ry hk
                refine set_dict (by have := O.un; omega) pins s σ H _ i v ov iv u Q I ro ri rv ⟨_, _, rfl, .inr ⟨_, k, b, h2.get, hb, hb2, by rw [hl h4]; exact Nat.lt_trans hz (by decide), rfl⟩, ?_⟩
                have X1 := Ext.write (H := H) (ho := .dT (putK qq k v)) h1
                exact hr μ _ () X1 (hs.write h1 (.dT ((h4.put k rd).ext X1))) trivial
              · simp [hk, if_neg hz] at hr; exact hr.elim
      cases w with
      | lst xs =>
        rw [q] at hr
        cases ry <;> try exact hr.elim
        rename_i j
        obtain ⟨ho, h2, h3⟩ := hs.at q h1
        cases h3 with
        | lst h4 =>
          rename_i qq
          simp only at hr
          cases hj : ixN xs.length j with
          | none => simp only [hj] at hr; exact hr.elim
          | some n =>
            simp only [hj] at hr
            refine set_list pins s σ H _ _ v ov iv u Q I ro ri rv ⟨_, _, j, n, rfl, rfl, h2.get, by rw [← h4.length]; exact hj, ?_⟩
            have X1 := Ext.write (H := H) (ho := .lst (List.set qq n v)) h1
            exact hr μ _ () X1 (hs.write h1 (.lst (RVs.ext X1 _ _ (RVs.set rd n h4)))) trivial
      | dK _ => exact dict fun _ z => nomatch z
      | dT _ => exact dict fun _ z => nomatch z
      | ins _ _ => exact dict fun _ z => nomatch z
  | _ => exact hr.elim
theorem g_sub {o i : Expr} {co ci : Tm} (O : Okx X) (ho : PEd X true Φ F o co) (hi : PEd X true Φ F i ci)
    (ha : ∀ v, assign (.Subscript o i pos) X.env v = (do
      let ov ← holding [v] (eval o X.env)
      let iv ← holding [v, ov] (eval i X.env)
      standAt pos
      holding [v, ov, iv] (PySem.setItem ov iv v)
      release [v, ov, iv] [])) : PGd X Φ F (.Subscript o i pos) (.sub co ci) :=
  PGw (pg_sub ho hi (set_any O) ha) fun v σ H Q h => by
    obtain ⟨μ, S, η, d, hs, he, rv, hr⟩ := h
    unfold assignT at hr
    refine ⟨μ, S, η, hs, he, res_bind hr fun x S1 μ1 H1 vo x1 s1 r1 q1 => ?_⟩
    refine ⟨μ1, S1, η, s1, he.ext x1, res_bind q1 fun y S2 μ2 H2 vi x2 s2 r2 q2 => ?_⟩
    refine ⟨μ2, S2, x, y, d, s2, RV.ext x2 _ _ r1, r2, RV.ext (x1.trans x2) _ _ rv, res_bind q2 fun _ S3 μ3 H3 _ x3 s3 _ q3 => ?_⟩
    exact q3.ok s3 (he.ext ((x1.trans x2).trans x3))
theorem s_asg {tg : Expr} {t : Ta} (he : PEd X true Φ F e ce) (hg : PGd X Φ F tg t) (hs : swapsWithSole [tg] e pos.line X.env = pure false) (hw : swappedStores [tg] e X.env = pure none)
    (h1 : (assignEach [tg] X.env).map (·.2) = [assign tg X.env]) : PSd X Φ F (.Assign [tg] e pos) (.asg t ce) := PSw (ps_asg he hg hs hw h1) fun E σ H h => by
  obtain ⟨μ, S, η, hs, he, hr⟩ := h
  unfold ex at hr
  refine ⟨μ, S, η, hs, he, res_bind hr fun d S1 μ1 H1 v x1 s1 r1 q1 => ?_⟩
  refine ⟨μ1, S1, η, d, s1, he.ext x1, r1, res_bind q1 fun η' S2 μ2 H2 σ' x2 s2 r2 q2 => ?_⟩
  exact (show goD E (.nx σ') H2 from q2.ok s2 (.nx r2))
/-- name = [..] -/
theorem rd_nm {i : Nat} {E : Ends} {σ : L2.St} {H : Hp} (h : rdS X.K (ex Φ F (.asg (.nm i) ce)) E σ H) : rdE X.K true (ev Φ F ce) σ H fun x H1 => gName i x σ H1 E.nx := by
  obtain ⟨μ, S, η, hs, he, hr⟩ := h
  unfold ex at hr
  refine ⟨μ, S, η, hs, he, res_bind hr fun d S1 μ1 H1 v x1 s1 r1 q1 => ?_⟩
  exact (show goD E (.nx _) H1 from q1.ok s1 (.nx ((he.ext x1).set i r1)))
section
variable {elt tg iter : Expr} {ifs : List Expr} {scope : Scope} {own : List (Str × Nat)} {it : Src} {t : Tg} {m : Bool} {i : Nat} {y : Str} {py spos : Pos} {ci : Tm}
theorem s_comp (hc : X.calm = true) (hN : X.N.Nodup) (hy : X.N[i]? = some y) (hyl : X.env.scope.names.lookup y = some .local) (hsw : swapsWith (.ListComp elt [⟨tg, iter, ifs, 0⟩] scope pos) (some (.Name y py)) spos.line X.env = pure true)
    (hi : PId X true Φ F tg iter it) (ok : BlkOk X.N X.env.scope scope own) (htg : ∀ i ∈ t.is, i ∈ own.map (·.2))
    (hg : BlkP X scope fun Y => PG Y tg (rdTg X.K t)) (ht : BlkP X scope fun Y => PTsd Y true Φ F ifs cc) (he : BlkP X scope fun Y => PEd Y true Φ F elt ce) (hs : ∀ x, foldedSetIterable iter X.env x = pure x) :
    PSd X Φ F (.Assign [.Name y py] (.ListComp elt [⟨tg, iter, ifs, 0⟩] scope pos) spos) (.asg (.nm i) (.comp m t it cc ce (own.map (·.2)))) :=
  PSw (ps_setLc hc hN hy hyl hsw hi ok hg ht he hs) fun E σ H h => rd_comp (m := m) htg (rd_nm h)
theorem s_compD (hc : X.calm = true) (hN : X.N.Nodup) (hy : X.N[i]? = some y) (hyl : X.env.scope.names.lookup y = some .local) (hsw : swapsWith (.ListComp elt [⟨tg, iter, ifs, 0⟩] scope pos) (some (.Name y py)) spos.line X.env = pure true)
    (hi : PEd X false Φ F iter ci) (pi : pureTm ci = true) (pc : pureTm cc = true) (pe : pureTm ce = true) (ok : BlkOk X.N X.env.scope scope own) (htg : ∀ i ∈ t.is, i ∈ own.map (·.2))
    (hg : BlkP X scope fun Y => PG Y tg (rdTg X.K t)) (ht : BlkP X scope fun Y => PTsd Y false Φ F ifs cc) (he : BlkP X scope fun Y => PEd Y false Φ F elt ce) (hs : ∀ x, foldedSetIterable iter X.env x = pure x) :
    PSd X Φ F (.Assign [.Name y py] (.ListComp elt [⟨tg, iter, ifs, 0⟩] scope pos) spos) (.asg (.nm i) (.comp m t (.dic ci) cc ce (own.map (·.2)))) :=
  PSw (ps_lock (ps_setLc hc hN hy hyl hsw (pi_keys hi) ok hg ht he hs)) fun E σ H h => by
    obtain ⟨d, u, h1, h2, h3⟩ := rd_compD (m := m) pi pc pe htg (rd_nm h)
    exact ⟨d, u, h1, h2, h3⟩
theorem s_comp2 {tg2 iter2 : Expr} {it2 : Src} {t2 : Tg} {w2 : List Nat} (hc : X.calm = true) (hN : X.N.Nodup) (hy : X.N[i]? = some y) (hyl : X.env.scope.names.lookup y = some .local)
    (hsw : swapsWith (.ListComp elt [⟨tg, iter, [], 0⟩, ⟨tg2, iter2, ifs, 0⟩] scope pos) (some (.Name y py)) spos.line X.env = pure true) (hi : PId X true Φ F tg iter it) (ok : BlkOk X.N X.env.scope scope own) (htg : ∀ i ∈ t.is, i ∈ own.map (·.2)) (htg2 : ∀ i ∈ t2.is, i ∈ w2) (hv : ∀ i ∈ w2, i ∈ own.map (·.2))
    (hg : BlkP X scope fun Y => PG Y tg (rdTg X.K t)) (hi2 : BlkP X scope fun Y => PId Y true Φ F tg2 iter2 it2) (hg2 : BlkP X scope fun Y => PG Y tg2 (rdTg X.K t2)) (ht : BlkP X scope fun Y => PTsd Y true Φ F ifs cc) (he : BlkP X scope fun Y => PEd Y true Φ F elt ce) (hs : ∀ x, foldedSetIterable iter X.env x = pure x) (hs1 : ∀ env x, foldedSetIterable iter2 env x = pure x) :
    PSd X Φ F (.Assign [.Name y py] (.ListComp elt [⟨tg, iter, [], 0⟩, ⟨tg2, iter2, ifs, 0⟩] scope pos) spos) (.asg (.nm i) (.comp2 t it t2 it2 cc ce (own.map (·.2)) w2)) :=
  PSw (ps_setLc2 hc hN hy hyl hsw hi ok hv hg (fun _ _ _ _ _ => pts_nil) hi2 hg2 ht he hs hs1) fun E σ H h => rd_comp2 htg htg2 (rd_nm h)
end
/-! ### the old value and the new -/
def rAug (K : PySem.W.Frag) (o : Operator) : V → V → Hp → VK → Prop := fun x y H Q => ∃ μ S a b, SRep K true μ S H ∧ RV K μ H a x ∧ RV K μ H b y ∧ Res K true (RV K) μ H (R.of (augop o a b) S) Q
theorem in_aug : ∀ o : Operator, InOp X o (rAug X.K o) := by
  intro o pins s σ H x y u v Q I rx ry h
  obtain ⟨μ, S, a, b, hs, ra, rb, hr⟩ := h
  obtain ⟨d, e, hr⟩ := hr.of
  unfold augop at e
  split at e
  · cases e; cases ra; cases rb
    exact in_add pins s σ H _ _ u v Q I rx ry ⟨_, _, rfl, rfl, hr.ok hs (.int _)⟩
  · cases e; cases ra; cases rb
    exact in_sub pins s σ H _ _ u v Q I rx ry ⟨_, _, rfl, rfl, hr.ok hs (.int _)⟩
  · cases e
theorem s_aug {o i : Expr} {co ci : Tm} {op : Operator} {tpos : Pos} (O : Okx X) (ho : PEd X true Φ F o co) (hi : PEd X true Φ F i ci) (he : PEd X true Φ F e ce)
    (ha : ∀ ov iv new, augStore i ov iv new = (do holding [new, ov, iv] (PySem.setItem ov iv new); release [new, ov, iv] []; pure .next)) : PSd X Φ F (.AugAssign (.Subscript o i tpos) op e pos) (.aug op co ci ce) := by
  refine PSw (ps_augS (tget := fun x y H Q => ∃ a v, x = .ref a ∧ DGet H a y (some v) ∧ Q v H) ho hi (fun pins s σ H o i ov iv Q I ro ri h => ?_) he (in_aug op) (set_any O) ha) fun E σ H h => ?_
  · obtain ⟨a, v, rfl, g, q⟩ := h
    obtain rfl : ov = Value.ref a := ro
    exact d_getItem (by have := O.un; omega) I g ri fun w' s' I' rw' => ⟨v, H, I', rw', q⟩
  · obtain ⟨μ, S, η, hs, he, hr⟩ := h
    unfold ex at hr
    refine ⟨μ, S, η, hs, he, res_bind hr fun x S1 μ1 H1 vo x1 s1 r1 q1 => ?_⟩
    refine ⟨μ1, S1, η, s1, he.ext x1, res_bind q1 fun y S2 μ2 H2 vi x2 s2 r2 q2 => ?_⟩
    have r1' := RV.ext x2 _ _ r1
    cases e1 : dicGet S2 x y with
    | none => simp only [e1] at q2; exact q2.elim
    | some w =>
      cases w with
      | none => simp only [e1] at q2; exact q2.elim
      | some d =>
        simp only [e1] at q2
        obtain ⟨a, ov, rfl, g, rov⟩ := dget_rep s2 r1' r2 e1
        cases ov with
        | none => exact rov.elim
        | some v =>
          refine ⟨a, v, rfl, g, μ2, S2, η, s2, he.ext (x1.trans x2), res_bind q2 fun z S3 μ3 H3 vz x3 s3 r3 q3 => ?_⟩
          refine ⟨μ3, S3, d, z, s3, RV.ext x3 _ _ rov, r3, ?_⟩
          cases e3 : augop op d z with
          | none => rw [e3] at q3; exact q3.elim
          | some u =>
            rw [e3] at q3
            intro μ4 H4 vu x4 s4 r4
            refine ⟨μ4, S3, x, y, u, s4, RV.ext (x3.trans x4) _ _ r1', RV.ext (x3.trans x4) _ _ r2, r4, res_bind (Res.ext q3 x4) fun _ S5 μ5 H5 _ x5 s5 _ q5 => ?_⟩
            exact (show goD E (.nx σ) H5 from q5.ok s5 (.nx (he.ext ((((x1.trans x2).trans x3).trans x4).trans x5))))
end
end MP

set_option Elab.async false
set_option linter.all false
set_option maxRecDepth 100000
set_option maxHeartbeats 4000000
/-! MP10: built-in functions. -/
namespace MP
open PySem L2
open PySem.Spec PyProof.Rows
/-- what a built-in function computes -/
def rBi (K : PySem.W.Frag) (rw : Bool) (b : Bi) (m : Bool) : List V → Hp → VK → Prop := fun vs H Q => ∃ μ S as, SRep K rw μ S H ∧ RVs K μ H as vs ∧ Res K rw (RV K) μ H (match biop b S as with
      | some d => mkLd m d S
      | none => .no) Q
section
variable {K : PySem.W.Frag} {rw : Bool} {μ : Mp} {S : Sto} {H : Hp} {Q : VK}
theorem bi_some {b : Bi} {m : Bool} {as : List D} (h : Res K rw (RV K) μ H (match biop b S as with
      | some d => mkLd m d S
      | none => .no) Q) : ∃ d, biop b S as = some d ∧ Res K rw (RV K) μ H (mkLd m d S) Q := by
  cases e : biop b S as with
  | none => rw [e] at h; exact h.elim
  | some d => rw [e] at h; exact ⟨d, rfl, h⟩
theorem mk_flat {m : Bool} {d : D} {v : V} (h : Res K rw (RV K) μ H (mkLd m d S) Q) (s : SRep K rw μ S H) (nl : ∀ xs, d ≠ .lst xs) (r : RV K μ H d v) : Q v H := by
  unfold mkLd at h
  cases m with
  | false => exact h.ok s r
  | true =>
    cases d with
    | lst xs => exact absurd rfl (nl xs)
    | _ => exact h.elim
theorem rvs1 {a : D} {vs : List V} (r : RVs K μ H [a] vs) : ∃ v, vs = [v] ∧ RV K μ H a v := by
  cases r with
  | cons r t => cases t; exact ⟨_, rfl, r⟩
theorem rvs2 {a b : D} {vs : List V} (r : RVs K μ H [a, b] vs) : ∃ v u, vs = [v, u] ∧ RV K μ H a v ∧ RV K μ H b u := by
  cases r with
  | cons r t =>
    obtain ⟨u, rfl, t'⟩ := rvs1 t
    exact ⟨_, _, rfl, r, t'⟩
theorem bls_rep : ∀ {xs : List D} {vs : List V} {bs : List Bool}, RVs K μ H xs vs → optMap blOf xs = some bs → vs = bs.map V.bl
  | _, _, _, .nil, e => by cases e; rfl
  | x :: xs, _, bs, .cons r t, e => by
    unfold optMap at e
    split at e <;> try contradiction
    rename_i y hy
    split at e <;> try contradiction
    rename_i ys hys
    cases e
    rw [bls_rep t hys]
    unfold blOf at hy
    split at hy <;> try contradiction
    cases hy; cases r; rfl
end
section
variable {X : Cx} {rw : Bool} {m : Bool}
theorem seq_sq {K : PySem.W.Frag} {μ : Mp} {S : Sto} {H : Hp} {a : D} {v : V} {ds : List D} (s : SRep K rw μ S H) (r : RV K μ H a v) (e : seqOf S a = some ds) : ∃ p vs, v = .ref p ∧ RVs K μ H ds vs ∧ (SqL K H p vs ∨ SqT K H p vs) := by
  obtain ⟨p, vs, e1, e2, e3⟩ := seq_rep s r e
  exact ⟨p, vs, e1, e2, e3.imp .inl .inl⟩
theorem list_sq {K : PySem.W.Frag} {μ : Mp} {S : Sto} {H : Hp} {a : D} {v : V} {ds : List D} (s : SRep K rw μ S H) (r : RV K μ H a v) (e : lstOf S a = some ds) : ∃ p vs, v = .ref p ∧ RVs K μ H ds vs ∧ Rd H p (.lst vs) := by
  unfold lstOf at e
  split at e
  · cases e
    cases r with
    | lst h1 h2 h3 => exact ⟨_, _, rfl, h3, .of h2⟩
  · split at e <;> try contradiction
    rename_i l xs q
    cases e
    cases r with
    | ref h1 =>
      obtain ⟨ho, h2, h3⟩ := s.at q h1
      cases h3 with
      | lst h4 => exact ⟨_, _, rfl, h4, h2.rd⟩
  · cases e
theorem one_some {as : List D} {a : D} (h : one as = some a) : as = [a] := by
  unfold one at h
  split at h <;> cases h
  rfl
theorem two_some {as : List D} {a : D × D} (h : two as = some a) : as = [a.1, a.2] := by
  unfold two at h
  split at h <;> cases h
  rfl
theorem b_all (O : Okx X) : CallR X (.builtin "all") (rBi X.K rw .all m) := by
  intro pins s σ H xs us Q I rx h
  obtain ⟨μ, S, as, hs, ra, hr⟩ := h
  obtain ⟨d, e, hr⟩ := bi_some hr
  simp only [biop, Option.bind_eq_some_iff, Option.map_eq_some_iff] at e
  obtain ⟨a, h1, ys, h2, bs, h3, rfl⟩ := e
  rw [one_some h1] at ra
  obtain ⟨v, rfl, rc⟩ := rvs1 ra
  obtain ⟨p, vs, rfl, rv, hp⟩ := list_sq hs rc h2
  exact cr_all O.calm pins s σ H _ us Q I rx ⟨p, bs, rfl, .inl (by rw [← bls_rep rv h3]; exact hp), mk_flat hr hs (fun _ z => nomatch z) (.bl _)⟩
theorem b_any (O : Okx X) : CallR X (.builtin "any") (rBi X.K rw .any m) := by
  intro pins s σ H xs us Q I rx h
  obtain ⟨μ, S, as, hs, ra, hr⟩ := h
  obtain ⟨d, e, hr⟩ := bi_some hr
  simp only [biop, Option.bind_eq_some_iff, Option.map_eq_some_iff] at e
  obtain ⟨a, h1, ys, h2, bs, h3, rfl⟩ := e
  rw [one_some h1] at ra
  obtain ⟨v, rfl, rc⟩ := rvs1 ra
  obtain ⟨p, vs, rfl, rv, hp⟩ := list_sq hs rc h2
  exact cr_any O.calm pins s σ H _ us Q I rx ⟨p, bs, rfl, .inl (by rw [← bls_rep rv h3]; exact hp), mk_flat hr hs (fun _ z => nomatch z) (.bl _)⟩
theorem b_int : CallR X (.type "int") (rBi X.K rw .int m) := by
  intro pins s σ H xs us Q I rx h
  obtain ⟨μ, S, as, hs, ra, hr⟩ := h
  obtain ⟨d, e, hr⟩ := bi_some hr
  simp only [biop, Option.bind_eq_some_iff, Option.map_eq_some_iff] at e
  obtain ⟨a, h1, i, h2, rfl⟩ := e
  rw [one_some h1] at ra
  obtain ⟨v, rfl, rc⟩ := rvs1 ra
  unfold intOf at h2
  split at h2 <;> cases h2
  cases rc
  exact call_int1 pins s σ H _ us Q I rx (.inl ⟨_, rfl, mk_flat hr hs (fun _ z => nomatch z) (.int _)⟩)
theorem b_max (O : Okx X) : CallR X (.builtin "max") (rBi X.K rw .max m) := by
  intro pins s σ H xs us Q I rx h
  obtain ⟨μ, S, as, hs, ra, hr⟩ := h
  obtain ⟨d, e, hr⟩ := bi_some hr
  simp only [biop, Option.bind_eq_some_iff, Option.map_eq_some_iff] at e
  obtain ⟨a, h1, h2⟩ := e
  rw [two_some h1] at ra
  obtain ⟨v, u, rfl, rc, rd⟩ := rvs2 ra
  obtain ⟨a, b⟩ := a
  unfold max2 at h2
  split at h2 <;> cases h2
  rename_i he
  cases he
  cases rc; cases rd
  exact call_max2 O.calm pins s σ H _ us Q I rx ⟨_, _, rfl, mk_flat hr hs (fun _ z => nomatch z) (.int _)⟩
theorem b_min (O : Okx X) : CallR X (.builtin "min") (rBi X.K rw .min m) := by
  intro pins s σ H xs us Q I rx h
  obtain ⟨μ, S, as, hs, ra, hr⟩ := h
  obtain ⟨d, e, hr⟩ := bi_some hr
  simp only [biop, Option.bind_eq_some_iff, Option.map_eq_some_iff] at e
  obtain ⟨a, h1, h2⟩ := e
  rw [two_some h1] at ra
  obtain ⟨v, u, rfl, rc, rd⟩ := rvs2 ra
  obtain ⟨a, b⟩ := a
  unfold min2 at h2
  split at h2 <;> cases h2
  rename_i he
  cases he
  cases rc; cases rd
  exact call_min2 O.calm pins s σ H _ us Q I rx ⟨_, _, rfl, mk_flat hr hs (fun _ z => nomatch z) (.int _)⟩
theorem b_tuple : CallR X (.type "tuple") (rBi X.K rw .tuple m) := by
  intro pins s σ H xs us Q I rx h
  obtain ⟨μ, S, as, hs, ra, hr⟩ := h
  obtain ⟨d, e, hr⟩ := bi_some hr
  simp only [biop, Option.bind_eq_some_iff, Option.map_eq_some_iff] at e
  obtain ⟨a, h1, ys, h2, rfl⟩ := e
  rw [one_some h1] at ra
  obtain ⟨v, rfl, rc⟩ := rvs1 ra
  have hr : Res X.K rw (RV X.K) μ H (.ok (.tup ys) S) Q := by
    cases m with
    | false => exact hr
    | true => exact hr.elim
  cases rc with
  | tup a1 a2 a3 =>
    cases h2
    exact call_tuple_of pins s σ H _ us Q I rx ⟨_, _, rfl, .inr ⟨.of a2, hr.ok hs (.tup a1 a2 a3)⟩⟩
  | lst a1 a2 a3 =>
    cases h2
    exact call_tuple_of pins s σ H _ us Q I rx ⟨_, _, rfl, .inl ⟨.of a2, new_tup hr hs a3⟩⟩
  | ref a1 =>
    rename_i l p
    obtain ⟨p', vs, e1, rv, hp⟩ := list_sq hs (.ref a1) (show lstOf S (.ref l) = some ys from h2)
    cases e1
    exact call_tuple_of pins s σ H _ us Q I rx ⟨_, _, rfl, .inl ⟨.inl hp, new_tup hr hs rv⟩⟩
  | _ => cases h2
theorem b_len : CallR X (.builtin "len") (rBi X.K true .len m) := by
  intro pins s σ H xs us Q I rx h
  obtain ⟨μ, S, as, hs, ra, hr⟩ := h
  obtain ⟨d, e, hr⟩ := bi_some hr
  simp only [biop, Option.bind_eq_some_iff, Option.map_eq_some_iff] at e
  obtain ⟨a, h1, n, h2, rfl⟩ := e
  rw [one_some h1] at ra
  obtain ⟨v, rfl, rc⟩ := rvs1 ra
  have q : Q (.int n) H := mk_flat hr hs (fun _ z => nomatch z) (.int _)
  unfold lenOf at h2
  split at h2
  · split at h2 <;> cases h2
    cases rc
    exact call_len_str pins s σ H _ us Q I rx ⟨_, rfl, big_le (by assumption), q⟩
  · cases h2
    cases rc with
    | tup a1 a2 a3 => exact call_len_seq pins s σ H _ us Q I rx ⟨_, _, rfl, .inr (.of a2), by rw [← a3.length]; exact q⟩
  · cases h2
    cases rc with
    | lst a1 a2 a3 => exact call_len_seq pins s σ H _ us Q I rx ⟨_, _, rfl, .inl (.of a2), by rw [← a3.length]; exact q⟩
  · cases rc with
    | ref a1 =>
      split at h2
      · rename_i ys hl
        cases h2
        obtain ⟨ho, h2, h3⟩ := hs.at hl a1
        cases h3 with
        | lst h4 => exact call_len_seq pins s σ H _ us Q I rx ⟨_, _, rfl, .inl (.of h2.get), by rw [← h4.length]; exact q⟩
      · rename_i ys hl
        cases h2
        obtain ⟨ho, h2, h3⟩ := hs.at hl a1
        cases h3 with
        | dK h4 => exact call_lenD pins s σ H _ us Q I rx ⟨_, _, rfl, h2.get, by have := congrArg List.length (rk_key h4); simp only [List.length_map] at this; rw [this]; exact q⟩
      · rename_i ys hl
        cases h2
        obtain ⟨ho, h2, h3⟩ := hs.at hl a1
        cases h3 with
        | dT h4 => exact call_len_dT pins s σ H _ us Q I rx ⟨_, _, rfl, h2.get, by have := congrArg List.length (rk_key h4); simp only [List.length_map] at this; rw [this]; exact q⟩
      · cases h2
  · cases h2
theorem keys_rep {K : PySem.W.Frag} {μ : Mp} {S : Sto} {H : Hp} (hs : SRep K rw μ S H) : ∀ {kvs : List (List Key × D)} {q : List (List Key × V)} {bs : List Addr}, kvs.map (·.1) = q.map (·.1) → IsKeys H q bs → RVs K μ H (kvs.map fun kv => dT kv.1) (bs.map V.ref)
  | [], [], _, _, h => by cases h; exact .nil
  | kv :: kvs, p :: q, _, e, h => by
    cases h with
    | cons h1 h2 =>
      simp only [List.map_cons, List.cons.injEq] at e
      refine .cons ?_ (keys_rep hs e.2 h2)
      show RV K μ H (dT kv.1) _
      rw [e.1]
      exact dT_rep hs h1
  | [], _ :: _, _, e, _ => by cases e
  | _ :: _, [], _, e, _ => by cases e
theorem rangeL_rep {K : PySem.W.Frag} {μ : Mp} {H : Hp} (lo hi : Int) : RVs K μ H (rangeL lo hi) (rgV lo hi) := by
  unfold rangeL rgV
  generalize List.range (hi - lo).toNat = l
  induction l with
  | nil => exact .nil
  | cons i l ih => exact .cons (.int _) ih
theorem letters_rep {K : PySem.W.Frag} {μ : Mp} {H : Hp} : ∀ cs : List Nat, RVs K μ H (cs.map fun c => D.str ⟨#[c]⟩) (cs.map fun c => V.str ⟨#[c]⟩)
  | [] => .nil
  | _ :: r => .cons (.str _) (letters_rep r)
theorem vals_letters : ∀ (us : List Value) (cs : List Nat), us.length = cs.length → (∀ (j : Nat) (u : Value), us[j]? = some u → ∃ c t, cs[j]? = some c ∧ u = Value.str ⟨#[c]⟩ t) → Vals (cs.map fun c => V.str ⟨#[c]⟩) us
  | [], [], _, _ => .nil
  | u :: us, c :: cs, hl, h => by
    obtain ⟨c', t, e1, e2⟩ := h 0 u rfl
    cases e1
    exact .cons ⟨t, e2⟩ (vals_letters us cs (by simpa using hl) fun j v hv => h (j + 1) v hv)
  | [], _ :: _, hl, _ => by cases hl
  | _ :: _, [], hl, _ => by cases hl
theorem b_list (O : Okx X) : CallR X (.type "list") (rBi X.K rw .list m) := by
  intro pins s σ H xs us Q I rx h
  obtain ⟨μ, S, as, hs, ra, hr⟩ := h
  obtain ⟨d, e, hr⟩ := bi_some hr
  simp only [biop, Option.bind_eq_some_iff, Option.map_eq_some_iff] at e
  obtain ⟨a, h1, ys, h2, rfl⟩ := e
  rw [one_some h1] at ra
  obtain ⟨v, rfl, rc⟩ := rvs1 ra
  unfold listOf at h2
  split at h2
  · cases rc with
    | ref a1 =>
      split at h2
      · rename_i zs hl
        cases h2
        obtain ⟨ho, h2, h3⟩ := hs.at hl a1
        cases h3 with
        | lst h4 => exact call_list_of pins s σ H _ us Q I rx ⟨_, _, rfl, .inl (.inl h2.rd), new_mkLd hr hs h4⟩
      · rename_i zs hl
        cases h2
        obtain ⟨ho, h2, h3⟩ := hs.at hl a1
        cases h3 with
        | dK h4 =>
          rename_i q
          have e := rk_key h4
          have e' : (q.map fun kv => kV kv.1) = (zs.map (·.1)).map kV := by rw [← e, List.map_map]; rfl
          refine call_listD O.calm pins s σ H _ us Q I rx ⟨_, _, rfl, h2.rd, ?_⟩
          rw [e']
          refine new_mkLd hr hs ?_
          have : (zs.map fun kv => dK kv.1) = (zs.map (·.1)).map dK := by rw [List.map_map]; rfl
          rw [this]
          exact rvs_dK _
      · rename_i zs hl
        cases h2
        obtain ⟨ho, h2, h3⟩ := hs.at hl a1
        cases h3 with
        | dT h4 => exact call_list_dT O.calm pins s σ H _ us Q I rx ⟨_, _, rfl, h2.rd, fun p bs hp hb => new_mkLd hr hs (keys_rep hs (rk_key h4).symm hb) p hp⟩
      · cases h2
  · split at h2 <;> cases h2
    rename_i z hz
    cases rc
    obtain ⟨u, rfl, t, rfl⟩ := vals1 rx
    refine call_list_str (I.ok.hd O.calm) _ t (fun h' tk acc c' hk he hi => ?_) (big_le hz)
    refine ⟨.ref s.heap.objs.size, upd H s.heap.objs.size (.lst (z.cps.toList.map fun c => V.str ⟨#[c]⟩)), I.laid hk (Nat.le_refl _) (show ObjOk X.prog X.w _ _ _ (.lst (z.cps.toList.map fun c => V.str ⟨#[c]⟩)) from ⟨?_, acc.toList, c', vals_letters _ _ (by simpa using hi.1) fun j u hj => ?_, ?_⟩), rfl, ?_⟩
    · have : z.cps.toList.length = z.length := rfl
      rw [List.length_map, this]; exact big_le hz
    · obtain ⟨c, u', hc, rfl⟩ := hi.2 j u (by simpa using hj)
      exact ⟨c, u', by simpa using hc, rfl⟩
    · rw [Array.toArray_toList]; exact he
    · exact new_mkLd hr hs (letters_rep _) _ (I.hok.fresh (Nat.le_refl _))
  · cases h2
    cases rc with
    | rng a1 a2 a3 =>
      obtain ⟨u, rfl, hu⟩ := vals1 rx
      cases hu
      obtain ⟨t, u, v, ho⟩ := I.hok _ _ a2
      obtain ⟨b1, b2, b3, b4⟩ := a3
      refine call_list_range (t := t) (u := u) (v := v) (n := _) (I.ok.hd O.calm) ho (small_one (by omega) (by omega) (by omega) (by omega)) (rangeSize_nat _ _) (by omega) fun h' tk acc c' hk e' hi => ?_
      refine ⟨.ref s.heap.objs.size, upd H s.heap.objs.size (.lst (rgV _ _)), I.laid hk (Nat.le_refl _) (show ObjOk X.prog X.w _ _ _ (.lst (rgV _ _)) from ⟨?_, acc.toList, c', vals_rg hi, ?_⟩), rfl, new_mkLd hr hs (rangeL_rep _ _) _ (I.hok.fresh (Nat.le_refl _))⟩
      · rw [rgV_length, sizeLine_eq]; omega
      · rw [Array.toArray_toList]; exact e'
  · cases h2
    cases rc with
    | tup a1 a2 a3 => exact call_list_of pins s σ H _ us Q I rx ⟨_, _, rfl, .inr (.of a2), new_mkLd hr hs a3⟩
  · cases h2
    cases rc with
    | lst a1 a2 a3 => exact call_list_of pins s σ H _ us Q I rx ⟨_, _, rfl, .inl (.of a2), new_mkLd hr hs a3⟩
  · cases h2
mutual
theorem pd_noDict {S : Sto} : ∀ (n : Nat) (d : D) (e : PyData), pdN S n d = some e → e.hasDict = false
  | 0, _, _, h => by cases h
  | n + 1, d, e, h => by
    unfold pdN at h
    split at h <;> try contradiction
    · cases h; rfl
    · cases h; rfl
    · cases h; rfl
    · split at h <;> cases h; rfl
    · obtain ⟨es, h1, rfl⟩ := map_some h
      simp only [PyData.hasDict]
      exact pd_noDicts n _ es h1
    · obtain ⟨es, h1, rfl⟩ := map_some h
      simp only [PyData.hasDict]
      exact pd_noDicts n _ es h1
    · split at h <;> try contradiction
      obtain ⟨es, h1, rfl⟩ := map_some h
      simp only [PyData.hasDict]
      exact pd_noDicts n _ es h1
theorem pd_noDicts {S : Sto} : ∀ (n : Nat) (ds : List D) (es : List PyData), optMap (pdN S n) ds = some es → PyData.hasDictAll es = false
  | n, [], _, h => by cases h; rfl
  | n, d :: ds, _, h => by
    unfold optMap at h
    split at h <;> try contradiction
    rename_i y hy
    split at h <;> try contradiction
    rename_i ys hys
    cases h
    simp only [PyData.hasDictAll, pd_noDict n d y hy, pd_noDicts n ds ys hys, Bool.or_self]
end
theorem b_repr (O : Okx X) : CallR X (.builtin "repr") (rBi X.K rw .repr m) := by
  intro pins s σ H xs us Q I rx h
  obtain ⟨μ, S, as, hs, ra, hr⟩ := h
  obtain ⟨d, e, hr⟩ := bi_some hr
  simp only [biop, Option.bind_eq_some_iff, reprOf] at e
  obtain ⟨a, h1, z, h2, h3⟩ := e
  rw [one_some h1] at ra
  obtain ⟨v, rfl, rc⟩ := rvs1 ra
  split at h3 <;> cases h3
  rename_i hz
  have q : Q (.str z.shown) H := mk_flat hr hs (fun _ z => nomatch z) (.str _)
  obtain ⟨u, rfl, ru⟩ := vals1 rx
  obtain ⟨bs, r1⟩ := Dp.reads I _ _ _ (pd_rep hs _ _ _ _ rc h2) ru
  have nd := pd_noDict _ _ _ h2
  have dp := (pd_shape _ _ _ h2).2
  have un := O.un
  cases v with
  | ref a =>
    cases ru
    exact repr_of_reads' r1 hz.1 (PyData.noDict_hsm nd) O.gu (by omega) (fun _ _ e => e) (fun h' u tk hk => ⟨.str z.shown, H, I.kept hk, ⟨_, rfl⟩, q⟩) (big_le hz.2)
  | int i =>
    obtain ⟨t, rfl⟩ := ru
    cases r1
    exact PySem.P.repr_of_int (by simpa [PyData.showable] using hz.1) ⟨.str _, H, I.tok _, ⟨_, rfl⟩, by simpa only [PyData.shown] using q⟩
  | bl b =>
    cases ru
    cases r1
    exact PySem.P.repr_of_bool ⟨.str _, H, I.tok _, ⟨_, rfl⟩, by simpa only [PyData.shown] using q⟩
  | non =>
    cases ru
    cases r1
    exact PySem.P.repr_of_none ⟨.str _, H, I.tok _, ⟨_, rfl⟩, by simpa only [PyData.shown] using q⟩
  | str x =>
    obtain ⟨t, rfl⟩ := ru
    cases r1
    exact PySem.P.repr_of_str ⟨.str _, H, I.tok _, ⟨_, rfl⟩, by simpa only [PyData.shown] using q⟩ (by have := hz.2; simp only [PyData.shown] at this; exact big_le this)
  | _ => cases rc
/-- an item of a list that is sorted -/
def SortIt (K : PySem.W.Frag) (μ : Mp) (H : Hp) (v : Value) (z : D × PyData) : Prop := ∃ x, RelV x v ∧ RV K μ H z.1 x
theorem sort_each {K : PySem.W.Frag} {μ : Mp} {S : Sto} {H : Hp} : ∀ {ds : List D} {vs : List V} {us : List Value} {es : List PyData}, RVs K μ H ds vs → Vals vs us → optMap (pd S) ds = some es → PySem.W.EachIs (SortIt K μ H) us (ds.zip es)
  | _, _, _, _, .nil, .nil, e => by cases e; exact .nil
  | d :: ds, _, _, _, .cons r t, .cons rv tv, e => by
    unfold optMap at e
    split at e <;> try contradiction
    rename_i y hy
    split at e <;> try contradiction
    rename_i ys hys
    cases e
    exact .cons ⟨_, rv, r⟩ (sort_each t tv hys)
theorem sort_reads {X : Cx} {pins : List (Addr × Obj)} {σ : L2.St} {μ : Mp} {S : Sto} {H : Hp} {s : Shared} (I : L2.Inv X pins σ H s) (hs : SRep X.K rw μ S H) : ∀ {ds : List D} {vs : List V} {us : List Value} {es : List PyData}, RVs X.K μ H ds vs → Vals vs us → optMap (pd S) ds = some es →
    PySem.W.EachIs (fun v z => ∃ as, Reads s.heap v z.2 as) us (ds.zip es)
  | _, _, _, _, .nil, .nil, e => by cases e; exact .nil
  | d :: ds, _, _, _, .cons r t, .cons rv tv, e => by
    unfold optMap at e
    split at e <;> try contradiction
    rename_i y hy
    split at e <;> try contradiction
    rename_i ys hys
    cases e
    exact .cons (Dp.reads I _ _ _ (pd_rep hs _ _ _ _ r hy) rv) (sort_reads I hs t tv hys)
theorem sort_out {K : PySem.W.Frag} {μ : Mp} {H : Hp} : ∀ {us : List Value} {zs : List (D × PyData)}, PySem.W.EachIs (SortIt K μ H) us zs → ∃ vs, Vals vs us ∧ RVs K μ H (zs.map Prod.fst) vs
  | _, _, .nil => ⟨[], .nil, .nil⟩
  | _, _, .cons ⟨x, h1, h2⟩ t => let ⟨vs, a, b⟩ := sort_out t; ⟨x :: vs, .cons h1 a, .cons h2 b⟩
theorem optMap_length {α β : Type} {f : α → Option β} : ∀ {xs : List α} {ys : List β}, optMap f xs = some ys → xs.length = ys.length
  | [], _, e => by cases e; rfl
  | x :: xs, _, e => by
    unfold optMap at e
    split at e <;> try contradiction
    split at e <;> try contradiction
    rename_i ys hys
    cases e
    simp [optMap_length hys]
theorem optMap_mem {α β : Type} {f : α → Option β} : ∀ {xs : List α} {ys : List β}, optMap f xs = some ys → ∀ y ∈ ys, ∃ x ∈ xs, f x = some y
  | [], _, e => by cases e; intro y h; cases h
  | x :: xs, _, e => by
    unfold optMap at e
    split at e <;> try contradiction
    rename_i z hz
    split at e <;> try contradiction
    rename_i ys hys
    cases e
    intro y h
    rcases List.mem_cons.mp h with h | h
    · exact ⟨x, List.mem_cons_self, by rw [h]; exact hz⟩
    · obtain ⟨w, h1, h2⟩ := optMap_mem hys y h
      exact ⟨w, List.mem_cons_of_mem _ h1, h2⟩
theorem zip_snd {α β : Type} : ∀ {xs : List α} {ys : List β}, xs.length = ys.length → (xs.zip ys).map Prod.snd = ys
  | [], [], _ => rfl
  | x :: xs, y :: ys, h => by simp [zip_snd (xs := xs) (ys := ys) (by simpa using h)]
  | [], _ :: _, h => by cases h
  | _ :: _, [], h => by cases h
theorem sortable_of {ds : List PyData} (h : sortable ds = true) : PySem.W.Sortable ds := by
  unfold sortable at h
  rw [Bool.or_eq_true, List.all_eq_true, List.all_eq_true] at h
  rcases h with h | h
  · refine .inl fun d hd => ?_
    have := h d hd
    split at this
    · exact ⟨_, _, rfl⟩
    · cases this
  · refine .inr fun d hd => ?_
    have := h d hd
    split at this
    · cases this
    · cases this
    · rename_i n1 n2
      exact ⟨n1, n2⟩
theorem b_sorted (O : Okx X) : CallR X (.builtin "sorted") (rBi X.K rw .sorted m) := by
  intro pins s σ H xs us Q I rx h
  obtain ⟨μ, S, as, hs, ra, hr⟩ := h
  obtain ⟨d, e, hr⟩ := bi_some hr
  simp only [biop, Option.bind_eq_some_iff, Option.map_eq_some_iff] at e
  obtain ⟨a, h1, ys, h2, ws, h3, rfl⟩ := e
  rw [one_some h1] at ra
  obtain ⟨v, rfl, rc⟩ := rvs1 ra
  obtain ⟨p, vs, rfl, rv, hp⟩ := list_sq hs rc h2
  obtain ⟨u, rfl, ru⟩ := vals1 rx
  cases ru
  unfold sortD at h3
  split at h3 <;> try contradiction
  rename_i es he
  split at h3 <;> cases h3
  rename_i hc
  obtain ⟨its, rvv, hl, hz⟩ := I.list (X := X) (.inl hp)
  have hlen := optMap_length he
  have hmap : (ys.zip es).map Prod.snd = es := zip_snd hlen
  have un := O.un
  have hzl : (ys.zip es).length = vs.length := by rw [List.length_zip, ← hlen, Nat.min_self, rv.length]
  refine PySem.W.sorted_data (bs := ys.zip es) (enc := Prod.snd) hl.isList (sort_each rv rvv he) (sort_reads I hs rv rvv he) ?_ ?_ (by rw [hzl]; exact hz) (fun b hb => ?_) fun out ho eo => ?_
  · rw [hmap]
    intro d hd d' hd'
    have := hc.1
    unfold allAlike at this
    rw [List.all_eq_true] at this
    have := this d hd
    rw [List.all_eq_true] at this
    exact this d' hd'
  · rw [hmap]; exact sortable_of hc.2.1
  · have hm : b.2 ∈ es := by rw [← hmap]; exact List.mem_map.mpr ⟨b, hb, rfl⟩
    obtain ⟨x, _, hx⟩ := optMap_mem he _ hm
    have := (pd_shape _ _ _ hx).2
    omega
  · obtain ⟨vs', hv', rv'⟩ := sort_out eo
    obtain ⟨c, hcap⟩ := sortedAll_at s.heap its out.toArray
    have hlo : vs'.length ≤ sizeLine := by
      have := hv'.length
      rw [this, ho, hzl]; exact hz
    refine ⟨.ref (s.heap.objs.size + 1), upd H (s.heap.objs.size + 1) (.lst vs'), I.laid (t' := s.toks) (fun b o e => sortedAll_old e) (Nat.le_succ _) (show ObjOk X.prog X.w _ _ _ (.lst vs') from ⟨hlo, out, c, hv', hcap⟩), rfl, ?_⟩
    exact new_mkLd hr hs rv' _ (I.hok.fresh (Nat.le_succ _))
end
end MP

set_option Elab.async false
set_option linter.all false
set_option maxRecDepth 100000
set_option maxHeartbeats 4000000
/-! MP11: isinstance, calls of built-in functions, methods of lists and dicts. -/
namespace MP
open PySem L2
open PySem.Spec PyProof.Rows
theorem kit_tab (a b : TN) : kitB a.nm b.nm = some (isB a b) := by cases a <;> cases b <;> decide +kernel
section
variable {X : Cx} {rw : Bool} {Φ : Fns} {F : Str → Str → Bool} {a b c e o : Expr} {ca cb cc ce co : Tm} {pos p : Pos} {m : Bool} {x : Str} {es : List Expr} {cs : Tms}
/-- f(..), f a built-in function -/
theorem d_biF {B : Bi} {id : String} (hc : CallR X (.builtin id) (rBi X.K rw B m)) (hg : Gl X x) (hm : X.mg x = none) (hv : bootBuiltins x = some (.builtin id)) (ha : PAd X rw Φ F (e :: es) cs) (hn : x ≠ "__name__") (hdb : (x == ("__debug__" : Str)) = false)
    (he : starEach (e :: es) X.env = (false, eval e X.env) :: starEach es X.env) (hpl : (backTo pos (starEach es X.env)).any (·.1) = false) : PEd X rw Φ F (.Call (.Name x p) (e :: es) [] pos) (.bi B m cs) := by
  refine PEw (pe_callB hc hg hm hv ha hn hdb he hpl) fun σ H Q h => ?_
  exact rd_args (k := fun xs S1 => (match biop B S1 xs with
      | some d => mkLd m d S1
      | none => .no)) h fun μ S xs vs H hs r q => ⟨μ, S, xs, hs, r, q⟩
theorem d_biT {B : Bi} {T : String} (hc : CallR X (.type T) (rBi X.K rw B m)) (hg : Gl X x) (hm : X.mg x = none) (hv : bootBuiltins x = some (.type T)) (ha : PAd X rw Φ F (e :: es) cs) (hn : x ≠ "__name__") (hdb : (x == ("__debug__" : Str)) = false)
    (he : starEach (e :: es) X.env = (false, eval e X.env) :: starEach es X.env) (hpl : (backTo pos (starEach es X.env)).any (·.1) = false) : PEd X rw Φ F (.Call (.Name x p) (e :: es) [] pos) (.bi B m cs) := by
  refine PEw (pe_callTy hc hg hm hv ha hn hdb he hpl) fun σ H Q h => ?_
  exact rd_args (k := fun xs S1 => (match biop B S1 xs with
      | some d => mkLd m d S1
      | none => .no)) h fun μ S xs vs H hs r q => ⟨μ, S, xs, hs, r, q⟩
/-! ### isinstance -/
theorem kind_rep {K : PySem.W.Frag} {μ : Mp} {S : Sto} {H : Hp} {d : D} {v : V} {t : TN} (s : SRep K true μ S H) (r : RV K μ H d v) (h : kindOf S d = some (.bt t)) : TyX K H v (.type t.nm) := by
  unfold kindOf at h
  split at h
  · cases h; cases r; exact .base .non
  · cases h; cases r; exact .base (.bl _)
  · cases h; cases r; exact .base (.int _)
  · cases h; cases r; exact .base (.str _)
  · cases h
    cases r with
    | tup a1 a2 a3 => exact .base (.tup a2)
  · cases h
    cases r with
    | lst a1 a2 a3 => exact .base (.lst a2)
  · cases r with
    | ref a1 =>
      split at h <;> try contradiction
      · rename_i hl
        cases h
        obtain ⟨ho, h2, h3⟩ := s.at hl a1
        cases h3; exact .base (.lst h2.get)
      · rename_i hl
        cases h
        obtain ⟨ho, h2, h3⟩ := s.at hl a1
        cases h3; exact .base (.dK h2.get)
      · rename_i hl
        cases h
        obtain ⟨ho, h2, h3⟩ := s.at hl a1
        cases h3; exact .base (.dT h2.get)
      · cases h
  · cases h
theorem d_isa {t : TN} {y : Str} {p2 : Pos} (hg : Gl X "isinstance") (hm : X.mg "isinstance" = none) (ha : PEd X true Φ F a ca) (hgy : Gl X y) (hmy : X.mg y = none) (hv : bootBuiltins y = some (.type t.nm)) (hny : y ≠ "__name__") (hdy : (y == ("__debug__" : Str)) = false)
    (hs : starEach [a, .Name y p2] X.env = (false, eval a X.env) :: starEach [.Name y p2] X.env) (hs2 : starEach [.Name y p2] X.env = (false, eval (.Name y p2) X.env) :: starEach [] X.env) (hpl : (backTo pos (starEach [.Name y p2] X.env)).any (·.1) = false) :
    PEd X true Φ F (.Call (.Name "isinstance" p) [a, .Name y p2] [] pos) (.isa ca (.bt t)) := by
  have pt : PE X (.Name y p2) (tC (.ty t.nm)) := pe_bltn hgy hmy hv rfl hny hdy
  refine PEw (pe_callB call_isi hg hm (by rfl) (pa_cons ha (pa_cons pt pa_nil hs2) hs) (by decide) (by decide) hs hpl) fun σ H Q h => ?_
  refine rd_un (k := fun x S1 => R.of ((isTy S1 x (.bt t)).map .bl) S1) h fun μ S x v H hs r q => ?_
  obtain ⟨k, e, q⟩ := of_bl hs q
  unfold isTy at e
  split at e
  · cases e
    rename_i q1 q2
    cases q2
    exact ⟨v, _, _, _, _, rfl, .ty _, kind_rep hs r q1, kit_ty (kit_tab _ _), q⟩
  · cases e; rename_i q2; cases q2
  · rename_i q2; cases q2
  · cases e
/-! ### methods -/
/-- o.m(..), m a method of lists, dicts -/
def rBm (K : PySem.W.Frag) (b : Bm) : V → List V → Hp → VK → Prop := fun x vs H Q => ∃ μ S d as, SRep K true μ S H ∧ RV K μ H d x ∧ RVs K μ H as vs ∧ Res K true (RV K) μ H (bmop b S d as) Q
theorem rd_bm {B : Bm} {T : String} {r : V → List V → Hp → VK → Prop} {σ : L2.St} {H : Hp} {Q : VK} (h : rdE X.K true (ev Φ F (.bm B co cs)) σ H Q)
    (ty : ∀ μ S H d v, SRep X.K true μ S H → RV X.K μ H d v → tyBm B S d = true → tyV X.K T v H)
    (go : ∀ μ S H d v as vs, SRep X.K true μ S H → RV X.K μ H d v → RVs X.K μ H as vs → Res X.K true (RV X.K) μ H (bmop B S d as) Q → r v vs H Q) : tBM X.K T r (rdE X.K true (ev Φ F co)) (rdA X.K true (evs Φ F cs)) σ H Q := by
  obtain ⟨μ, S, η, hs, he, hr⟩ := h
  unfold ev at hr
  refine ⟨μ, S, η, hs, he, res_bind hr fun x S1 μ1 H1 v x1 s1 r1 q1 => ?_⟩
  split at q1
  · rename_i ht
    refine ⟨ty _ _ _ _ _ s1 r1 ht, μ1, S1, η, s1, he.ext x1, res_bind q1 fun as S2 μ2 H2 vs x2 s2 r2 q2 => ?_⟩
    exact go _ _ _ _ _ _ _ s2 (RV.ext x2 _ _ r1) r2 q2
  · exact q1.elim
theorem ty_list {K : PySem.W.Frag} {μ : Mp} {S : Sto} {H : Hp} {v : V} {l : Nat} {xs : List D} (s : SRep K true μ S H) (r : RV K μ H (.ref l) v) (e : S[l]? = some (.lst xs)) : ∃ p vs, v = .ref p ∧ μ.s[l]? = some p ∧ H p = some (.lst vs) ∧ RVs K μ H xs vs := by
  cases r with
  | ref h1 =>
    obtain ⟨ho, h2, h3⟩ := s.at e h1
    cases h3 with
    | lst h4 => exact ⟨_, _, rfl, h1, h2.get, h4⟩
theorem tyL {K : PySem.W.Frag} {B : Bm} (hB : B = .append ∨ B = .pop0 ∨ B = .popAt ∨ B = .extend) : ∀ μ S H d v, SRep K true μ S H → RV K μ H d v → tyBm B S d = true → tyV K "list" v H := by
  intro μ S H d v s r h
  have key : ∃ l xs, d = .ref l ∧ S[l]? = some (.lst xs) := by
    rcases hB with rfl | rfl | rfl | rfl <;> (unfold tyBm at h; split at h <;> try contradiction) <;> (split at h <;> try contradiction) <;> exact ⟨_, _, rfl, by assumption⟩
  obtain ⟨l, xs, rfl, e⟩ := key
  obtain ⟨p, vs, rfl, _, h2, _⟩ := ty_list s r e
  exact .inl ⟨rfl, vs, .of h2⟩
structure BmOk (X : Cx) (o : Expr) (name : Str) (apos : Pos) (es : List Expr) (cpos : Pos) : Prop where
  base : attributeBase o name X.env (eval o X.env) = eval o X.env
  few : ((backTo cpos (starEach es X.env)).all (fun x => !x.1) && (backToKw cpos (keywordEach [] X.env)).all (fun x => x.1.isSome)
      && decide (es.length + ([] : List Keyword).length + (if ([] : List Keyword).isEmpty then 0 else 1) < 30)) = true
  line : (apos.endLine == cpos.line) = true
section
variable {apos cpos : Pos}
theorem d_append (ho : PEd X true Φ F o co) (ha : PAd X true Φ F [e] cs) (k : BmOk X o "append" apos [e] cpos) (hs : starEach [e] X.env = (false, eval e X.env) :: starEach [] X.env) : PEd X true Φ F (.Call (.Attribute o "append" apos) [e] [] cpos) (.bm .append co cs) := by
  refine PEw (pe_bm PySem.F.plainAttrs_list PySem.F.slot_list_append PySem.F.type_list_append mt_append ho ha k.base k.few k.line hs rfl) fun σ H Q h => ?_
  refine rd_bm h (tyL (.inl rfl)) fun μ S H d v as vs s r ra q => ?_
  unfold bmop at q
  split at q <;> rename_i hB <;> try (cases hB; done)
  · split at q <;> try (exact q.elim)
    rename_i l xs y e
    split at q <;> try (exact q.elim)
    rename_i hz
    obtain ⟨p, ws, rfl, hp, h2, h3⟩ := ty_list s r e
    obtain ⟨u, rfl, ru⟩ := rvs1 ra
    refine ⟨p, ws, u, rfl, rfl, h2, by rw [← h3.length]; exact big_lt hz, ?_⟩
    have X1 := Ext.write (H := H) (ho := .lst (ws ++ [u])) hp
    exact q _ _ _ X1 (s.write hp (.lst ((RVs.ext X1 _ _ h3).append (.cons (RV.ext X1 _ _ ru) .nil)))) .non
  · exact q.elim
theorem d_extend (ho : PEd X true Φ F o co) (ha : PAd X true Φ F [e] cs) (k : BmOk X o "extend" apos [e] cpos) (hs : starEach [e] X.env = (false, eval e X.env) :: starEach [] X.env) : PEd X true Φ F (.Call (.Attribute o "extend" apos) [e] [] cpos) (.bm .extend co cs) := by
  refine PEw (pe_bm PySem.F.plainAttrs_list PySem.F.slot_list_extend PySem.F.type_list_extend mt_extend ho ha k.base k.few k.line hs rfl) fun σ H Q h => ?_
  refine rd_bm h (tyL (.inr (.inr (.inr rfl)))) fun μ S H d v as vs s r ra q => ?_
  unfold bmop at q
  split at q <;> rename_i hB <;> try (cases hB; done)
  · split at q <;> try (exact q.elim)
    rename_i l y xs e
    split at q <;> try (exact q.elim)
    rename_i ys
    split at q <;> try (exact q.elim)
    rename_i hz
    obtain ⟨p, ws, rfl, hp, h2, h3⟩ := ty_list s r e
    obtain ⟨u, rfl, ru⟩ := rvs1 ra
    cases ru with
    | lst a1 a2 a3 =>
      rename_i b us
      refine ⟨p, b, ws, us, rfl, rfl, h2, a2, by rw [← h3.length, ← a3.length]; exact big_le hz, ?_⟩
      have X1 := Ext.write (H := H) (ho := .lst (ws ++ us)) hp
      exact q _ _ _ X1 (s.write hp (.lst ((RVs.ext X1 _ _ h3).append (RVs.ext X1 _ _ a3)))) .non
  · exact q.elim
theorem d_popAt (ho : PEd X true Φ F o co) (ha : PAd X true Φ F [e] cs) (k : BmOk X o "pop" apos [e] cpos) (hs : starEach [e] X.env = (false, eval e X.env) :: starEach [] X.env) : PEd X true Φ F (.Call (.Attribute o "pop" apos) [e] [] cpos) (.bm .popAt co cs) := by
  refine PEw (pe_bm PySem.F.plainAttrs_list PySem.F.slot_list_pop PySem.F.type_list_pop mt_popAt ho ha k.base k.few k.line hs rfl) fun σ H Q h => ?_
  refine rd_bm h (tyL (.inr (.inr (.inl rfl)))) fun μ S H d v as vs s r ra q => ?_
  unfold bmop at q
  split at q <;> rename_i hB <;> try (cases hB; done)
  · split at q <;> try (exact q.elim)
    rename_i l y xs e
    split at q <;> try (exact q.elim)
    rename_i i
    split at q <;> try (exact q.elim)
    rename_i hi
    split at q <;> try (exact q.elim)
    rename_i d hd
    obtain ⟨p, ws, rfl, hp, h2, h3⟩ := ty_list s r e
    obtain ⟨u, rfl, ru⟩ := rvs1 ra
    cases ru
    obtain ⟨u, hu, ru⟩ := h3.get hd
    have hlt : i.toNat < xs.length := (List.getElem?_eq_some_iff.mp hd).1
    have hn := h3.length
    refine ⟨p, ws, i, i.toNat, u, rfl, rfl, h2, by omega, by omega, ?_, hu, ?_⟩
    · rw [← hn]
      exact seqIndex_of hi.1 (by omega)
    · have X1 := Ext.write (H := H) (ho := .lst (ws.eraseIdx i.toNat)) hp
      exact q _ _ _ X1 (s.write hp (.lst (RVs.ext X1 _ _ (h3.eraseIdx _)))) (RV.ext X1 _ _ ru)
  · exact q.elim
theorem d_pop0 (ho : PEd X true Φ F o co) (k : BmOk X o "pop" apos [] cpos) : PEd X true Φ F (.Call (.Attribute o "pop" apos) [] [] cpos) (.bm .pop0 co .nil) := by
  refine PEw (pe_bm0 PySem.F.plainAttrs_list PySem.F.slot_list_pop PySem.F.type_list_pop mt_pop ho k.base k.line) fun σ H Q h => ?_
  have h1 := rd_bm (r := rPop) h (tyL (.inr (.inl rfl))) fun μ S H d v as vs s r ra q => by
    unfold bmop at q
    split at q <;> rename_i hB <;> try (cases hB; done)
    · split at q <;> try (exact q.elim)
      rename_i l xs e
      split at q <;> try (exact q.elim)
      rename_i d hd
      obtain ⟨p, ws, rfl, hp, h2, h3⟩ := ty_list s r e
      cases ra
      obtain ⟨u, hu, ru⟩ := h3.get hd
      refine ⟨p, ws, u, rfl, rfl, h2, by rw [← h3.length]; exact hu, ?_⟩
      have X1 := Ext.write (H := H) (ho := .lst ws.dropLast) hp
      exact q _ _ _ X1 (s.write hp (.lst (RVs.ext X1 _ _ h3.dropLast))) (RV.ext X1 _ _ ru)
    · exact q.elim
  obtain ⟨μ, S, η, hs, he, hr⟩ := h1
  refine ⟨μ, S, η, hs, he, ?_⟩
  cases e1 : ev Φ F co η S with
  | ex _ _ => rw [e1] at hr; exact hr
  | no => rw [e1] at hr; exact hr
  | ok x S1 =>
    rw [e1] at hr
    intro μ1 H1 v x1 s1 r1
    obtain ⟨t, μ2, S2, η2, s2, he2, hr2⟩ := hr μ1 H1 v x1 s1 r1
    exact ⟨t, hr2.ok (v := []) s2 .nil⟩
theorem d_get2 {e1 e2 : Expr} {c1 c2 : Tm} (O : Okx X) (ho : PEd X rw Φ F o co) (h1 : PEd X rw Φ F e1 c1) (h2 : PEd X rw Φ F e2 c2) (k : BmOk X o "get" apos [e1, e2] cpos) (ht : backTo cpos (starEach [e1, e2] X.env) = [(false, eval e1 X.env), (false, eval e2 X.env)]) :
    PEd X rw Φ F (.Call (.Attribute o "get" apos) [e1, e2] [] cpos) (.bm .get2 co (.cons c1 (.cons c2 .nil))) := by
  refine PEw (pe_dget2 (by have := O.un; omega) ho h1 h2 ⟨k.base, k.few, k.line, ht⟩) fun σ H Q h => ?_
  obtain ⟨μ, S, η, hs, he, hr⟩ := h
  unfold ev at hr
  refine ⟨μ, S, η, hs, he, res_bind hr fun x S1 μ1 H1 v x1 s1 r1 q1 => ?_⟩
  split at q1 <;> try (exact q1.elim)
  rename_i ht
  have isd : ∃ a, v = .ref a ∧ IsD H1 a := by
    unfold tyBm at ht
    split at ht <;> rename_i hB <;> try (cases hB; done)
    · split at ht <;> try (cases ht; done)
      · rename_i hl
        cases r1 with
        | ref g1 =>
          obtain ⟨ho, g2, g3⟩ := s1.at hl g1
          cases g3; exact ⟨_, rfl, .inl ⟨_, g2.rd⟩⟩
      · rename_i hl
        cases r1 with
        | ref g1 =>
          obtain ⟨ho, g2, g3⟩ := s1.at hl g1
          cases g3; exact ⟨_, rfl, .inr ⟨_, g2.rd⟩⟩
    · rename_i nn _ _; first | exact (nn rfl).elim | exact (nn rfl rfl).elim | exact (nn _ rfl).elim | exact (hB rfl).elim | simp_all
    · cases ht
  obtain ⟨a, rfl, hd⟩ := isd
  refine ⟨a, rfl, hd, ?_⟩
  simp only [evs, bind_assoc, MP.R.bind_ok] at q1
  refine ⟨μ1, S1, η, s1, he.ext x1, res_bind q1 fun y S2 μ2 H2 u x2 s2 r2 q2 => ?_⟩
  refine ⟨μ2, S2, η, s2, he.ext (x1.trans x2), res_bind q2 fun z S3 μ3 H3 w x3 s3 r3 q3 => ?_⟩
  simp only [bmop] at q3
  cases e3 : dicGet S3 x y with
  | none => rw [e3] at q3; exact q3.elim
  | some o' =>
    rw [e3] at q3
    obtain ⟨b, ov, eb, g, ro⟩ := dget_rep s3 (RV.ext (x2.trans x3) _ _ r1) (RV.ext x3 _ _ r2) e3
    cases eb
    refine ⟨ov, g, ?_⟩
    cases o' with
    | none =>
      cases ov with
      | none => exact q3.ok s3 r3
      | some _ => exact ro.elim
    | some d =>
      cases ov with
      | none => exact ro.elim
      | some v => exact q3.ok s3 ro
end
end
end MP

set_option Elab.async false
set_option linter.all false
set_option maxRecDepth 100000
set_option maxHeartbeats 4000000
/-! MP12: dicts made: displays, dict(zip(..)) of two tuples. -/
namespace MP
open PySem L2
open PySem.Spec PyProof.Rows
section
variable {prog : Program} {w : World} {A : Around} {E : Value → Shared → Prop} {s : Shared}
/-- a turn of a zip over two tuples whose pair is still out -/
theorem zt_next {z TI TO T j1 j2 t1 t2 : Addr} {fl : Bool} {old : Obj} {n1 n2 : Nat} {us vs : Array Value} {u v : Value} {Q : Value → Shared → Prop} (ap : ZipApart z TI TO j1 j2 t1 t2)
    (gz : IsZipHeld s.heap z TI TO T fl) (gT : s.heap.get? T = some old) (gI : IsPair s.heap TI (.ref j1) (.ref j2)) (g1 : s.heap.IsTupleIter j1 t1 n1) (g2 : s.heap.IsTupleIter j2 t2 n2) (r1 : s.heap.IsTuple t1 us) (r2 : s.heap.IsTuple t2 vs) (eu : us[n1]? = some u) (ev : vs[n2]? = some v)
    (go : ∀ h', IsZipHeld h' z TI TO T true → h'.IsTupleIter j1 t1 (n1 + 1) → h'.IsTupleIter j2 t2 (n2 + 1) → IsPair h' s.heap.objs.size u v → h'.objs.size = s.heap.objs.size + 1 → (∀ b o, b ≠ z → b ≠ j1 → b ≠ j2 → s.heap.get? b = some o → h'.get? b = some o) → Q (.ref s.heap.objs.size) { s with heap := h' }) :
    wpAny (model prog w) A (Builtin.«zip.__next__» ⟨[.ref z], []⟩) (fun r s' => ∃ x, r = .done (.ret x) ∧ Q x s') E s := by
  show wpAny _ _ (field (.ref z) 2 >>= _) _ _ _
  refine wpAny_bind (wpAny_field gz rfl (x := .bool false) rfl ?_)
  show wpAny _ _ (field (.ref z) 3 >>= _) _ _ _
  refine wpAny_bind (wpAny_field gz rfl (x := .ref TI) rfl (wpAny_bind (wpAny_seqItems gI rfl ?_)))
  show wpAny _ _ (Builtin.SmallTypes.ownedTupleIsFree (.ref z) >>= _) _ _ _
  refine wpAny_bind (wpAny_tupleHeld_zip gz gT fun ha gza sa => ?_)
  simp only [Bool.false_eq_true, if_false]
  refine wpAny_bind ?_
  rw [← Array.forIn_toList]
  simp only [List.forIn_cons, List.forIn_nil]
  refine wpAny_bind (wpAny_bind (wpAny_holding ?_))
  show wpAny _ _ (Builtin.SmallTypes.nextOf (.ref j1) >>= _) _ _ _
  refine wpAny_bind (RZ.nextOf_tuple_item (s := { s with heap := ha }) (g1.extBut sa.extBut ap.i1z) (r1.extBut sa.extBut ap.l1z) eu fun hb g1b sb => wpAny_pure (wpAny_pure ?_))
  refine wpAny_bind (wpAny_bind (wpAny_holding ?_))
  show wpAny _ _ (Builtin.SmallTypes.nextOf (.ref j2) >>= _) _ _ _
  refine wpAny_bind (RZ.nextOf_tuple_item (s := { s with heap := hb }) ((g2.extBut sa.extBut ap.i2z).extBut sb.extBut ap.i12.symm) ((r2.extBut sa.extBut ap.l2z).extBut sb.extBut ap.l2i1) ev fun hc g2c sc => wpAny_pure (wpAny_pure (wpAny_pure ?_)))
  show wpAny _ _ (newTuple [u, v] >>= _) _ _ _
  refine wpAny_bind (wpAny_newTuple (wpAny_pure ⟨_, rfl, ?_⟩))
  show Q (.ref hc.objs.size) _
  have size : hc.objs.size = s.heap.objs.size := by rw [sc.1, sb.1, sa.1]
  have kept : ∀ b o, b ≠ z → b ≠ j1 → b ≠ j2 → s.heap.get? b = some o → hc.get? b = some o := fun b o b1 b2 b3 e => sc.extBut _ _ b3 (sb.extBut _ _ b2 (sa.extBut _ _ b1 e))
  have new : IsPair (hc.push { cls := .type "tuple", data := .seq #[u, v] }) hc.objs.size u v := Heap.get?_push_size _ rfl
  have more : (hc.push { cls := .type "tuple", data := .seq #[u, v] }).objs.size = hc.objs.size + 1 := Heap.size_push ..
  have gzc : IsZipHeld hc z TI TO T true := sc.extBut _ _ ap.i2z.symm (sb.extBut _ _ ap.i1z.symm gza)
  have g1c : hc.IsTupleIter j1 t1 (n1 + 1) := g1b.extBut sc.extBut ap.i12
  rw [size] at new more ⊢
  exact go _ (Heap.get?_push_of_some _ gzc) (g1c.at fun o e => Heap.get?_push_of_some _ e) (g2c.at fun o e => Heap.get?_push_of_some _ e) new more fun b o b1 b2 b3 e => Heap.get?_push_of_some _ (kept b o b1 b2 b3 e)
theorem zt_done {z TI TO T j1 j2 t1 t2 : Addr} {fl : Bool} {old : Obj} {n1 n2 : Nat} {us vs : Array Value} {Q : Fin → Shared → Prop} (hn : A.handled = none) (ap : ZipApart z TI TO j1 j2 t1 t2)
    (gz : IsZipHeld s.heap z TI TO T fl) (gT : s.heap.get? T = some old) (gI : IsPair s.heap TI (.ref j1) (.ref j2)) (g1 : s.heap.IsTupleIter j1 t1 n1) (g2 : s.heap.IsTupleIter j2 t2 n2) (r1 : s.heap.IsTuple t1 us) (r2 : s.heap.IsTuple t2 vs) (no : us[n1]? = none ∨ vs[n2]? = none)
    (go : ∀ h' e, (∀ b o, b ≠ z → b ≠ j1 → b ≠ j2 → s.heap.get? b = some o → h'.get? b = some o) → (∃ o, h'.get? e = some o ∧ o.cls = .type "StopIteration") → E (.ref e) { s with heap := h' }) :
    wpAny (model prog w) A (Builtin.«zip.__next__» ⟨[.ref z], []⟩) Q E s := by
  show wpAny _ _ (field (.ref z) 2 >>= _) _ _ _
  refine wpAny_bind (wpAny_field gz rfl (x := .bool false) rfl ?_)
  show wpAny _ _ (field (.ref z) 3 >>= _) _ _ _
  refine wpAny_bind (wpAny_field gz rfl (x := .ref TI) rfl (wpAny_bind (wpAny_seqItems gI rfl ?_)))
  show wpAny _ _ (Builtin.SmallTypes.ownedTupleIsFree (.ref z) >>= _) _ _ _
  refine wpAny_bind (wpAny_tupleHeld_zip gz gT fun ha gza sa => ?_)
  simp only [Bool.false_eq_true, if_false]
  refine wpAny_bind ?_
  rw [← Array.forIn_toList]
  simp only [List.forIn_cons, List.forIn_nil]
  refine wpAny_bind (wpAny_bind (wpAny_holding ?_))
  show wpAny _ _ (Builtin.SmallTypes.nextOf (.ref j1) >>= _) _ _ _
  cases eu : us[n1]? with
  | none =>
    refine wpAny_bind (RZ.nextOf_tuple_end (s := { s with heap := ha }) hn (g1.extBut sa.extBut ap.i1z) (r1.extBut sa.extBut ap.l1z) eu fun hb e sb q => ?_)
    exact go hb e (fun b o b1 b2 _ x => sb _ _ b2 (sa.extBut _ _ b1 x)) q
  | some u =>
    have ev : vs[n2]? = none := by
      rcases no with h | h
      · rw [eu] at h; cases h
      · exact h
    refine wpAny_bind (RZ.nextOf_tuple_item (s := { s with heap := ha }) (g1.extBut sa.extBut ap.i1z) (r1.extBut sa.extBut ap.l1z) eu fun hb g1b sb => wpAny_pure (wpAny_pure ?_))
    refine wpAny_bind (wpAny_bind (wpAny_holding ?_))
    show wpAny _ _ (Builtin.SmallTypes.nextOf (.ref j2) >>= _) _ _ _
    refine wpAny_bind (RZ.nextOf_tuple_end (s := { s with heap := hb }) hn ((g2.extBut sa.extBut ap.i2z).extBut sb.extBut ap.i12.symm) ((r2.extBut sa.extBut ap.l2z).extBut sb.extBut ap.l2i1) ev fun hc e sc q => ?_)
    exact go hc e (fun b o b1 b2 b3 x => sc _ _ b3 (sb.extBut _ _ b2 (sa.extBut _ _ b1 x))) q
theorem zt_pyNext {z TI TO T j1 j2 t1 t2 : Addr} {fl : Bool} {old : Obj} {n1 n2 : Nat} {us vs : Array Value} {u v : Value} {Q : Option Value → Shared → Prop} (ap : ZipApart z TI TO j1 j2 t1 t2)
    (gz : IsZipHeld s.heap z TI TO T fl) (gT : s.heap.get? T = some old) (gI : IsPair s.heap TI (.ref j1) (.ref j2)) (g1 : s.heap.IsTupleIter j1 t1 n1) (g2 : s.heap.IsTupleIter j2 t2 n2) (r1 : s.heap.IsTuple t1 us) (r2 : s.heap.IsTuple t2 vs) (eu : us[n1]? = some u) (ev : vs[n2]? = some v)
    (go : ∀ h', IsZipHeld h' z TI TO T true → h'.IsTupleIter j1 t1 (n1 + 1) → h'.IsTupleIter j2 t2 (n2 + 1) → IsPair h' s.heap.objs.size u v → h'.objs.size = s.heap.objs.size + 1 → (∀ b o, b ≠ z → b ≠ j1 → b ≠ j2 → s.heap.get? b = some o → h'.get? b = some o) → Q (some (.ref s.heap.objs.size)) { s with heap := h' }) :
    wpAny (model prog w) A (pyNext (.ref z)) Q E s := by
  have ty : s.TypeIs (.ref z) "zip" := ⟨_, gz, rfl⟩
  unfold pyNext
  exact wpAny_bind (wpAny_attempt (wpAny_callSpecial?_slot (name := Str.ofString "__next__") ty PySem.F.slot_zip_next
    (wpAny_call_entry PySem.F.slot_zip_next ty PySem.F.entry_zip_next (zt_next ap gz gT gI g1 g2 r1 r2 eu ev fun h' a b c d e f => wpAny_pure (go h' a b c d e f)) (PySem.F.args_zip_next_1 _))))
theorem zt_pyEnd {z TI TO T j1 j2 t1 t2 : Addr} {fl : Bool} {old : Obj} {n1 n2 : Nat} {us vs : Array Value} {Q : Option Value → Shared → Prop} (hn : A.handled = none) (ap : ZipApart z TI TO j1 j2 t1 t2)
    (gz : IsZipHeld s.heap z TI TO T fl) (gT : s.heap.get? T = some old) (gI : IsPair s.heap TI (.ref j1) (.ref j2)) (g1 : s.heap.IsTupleIter j1 t1 n1) (g2 : s.heap.IsTupleIter j2 t2 n2) (r1 : s.heap.IsTuple t1 us) (r2 : s.heap.IsTuple t2 vs) (no : us[n1]? = none ∨ vs[n2]? = none)
    (go : ∀ h', (∀ b o, b ≠ z → b ≠ j1 → b ≠ j2 → s.heap.get? b = some o → h'.get? b = some o) → Q none { s with heap := h' }) : wpAny (model prog w) A (pyNext (.ref z)) Q E s := by
  have ty : s.TypeIs (.ref z) "zip" := ⟨_, gz, rfl⟩
  unfold pyNext
  refine wpAny_bind (wpAny_attempt (wpAny_callSpecial?_slot (name := Str.ofString "__next__") ty PySem.F.slot_zip_next
    (wpAny_call_entry PySem.F.slot_zip_next ty PySem.F.entry_zip_next (zt_done hn ap gz gT gI g1 g2 r1 r2 no fun h' e k q => ?_) (PySem.F.args_zip_next_1 _))))
  obtain ⟨o, ho, hc⟩ := q
  refine wpAny_bind (wpAny_isInstance (T := "StopIteration") (b := true) ⟨o, ho, hc⟩ isSubtype_stop ?_)
  exact wpAny_pure (go _ k)
theorem zt_apart {n l1 l2 : Nat} (h1 : l1 < n) (h2 : l2 < n) : ZipApart (n + 4) (n + 2) (n + 3) n (n + 1) l1 l2 := by
  constructor <;> (intro q; have q : (_ : Nat) = _ := q; omega)
theorem zt_off {n b : Nat} (h : b < n) : b ∉ [n + 4, n + 3, n, n + 1] := by
  simp only [List.mem_cons, List.not_mem_nil, or_false, not_or]
  omega
/-- zip over two tuples as what dict() reads -/
theorem zt_arg (z TI TO j1 j2 t1 t2 : Addr) (ap : ZipApart z TI TO j1 j2 t1 t2) (us vs : Array Value) :
    PairArg prog w "zip" z [z, TI, TO, j1, j2, t1, t2] [z, TO, j1, j2] (min us.size vs.size) (fun n k v => us[n]? = some k ∧ vs[n]? = some v)
      (fun g => IsZip g z TI TO .none ∧ IsPair g TI (.ref j1) (.ref j2) ∧ (∃ x y, IsPair g TO x y) ∧ g.IsTupleIter j1 t1 0 ∧ g.IsTupleIter j2 t2 0 ∧ g.IsTuple t1 us ∧ g.IsTuple t2 vs) where
  type := fun s ok => ⟨_, ok.1, rfl⟩
  notDict := by decide
  keep := fun g g' ok kp => by
    obtain ⟨c1, c2, ⟨x, y, c3⟩, c4, c5, c6, c7⟩ := ok
    exact ⟨kp _ _ c1, kp _ _ c2, ⟨x, y, kp _ _ c3⟩, c4.at fun o e => kp _ o e, c5.at fun o e => kp _ o e, c6.at fun o e => kp _ o e, c7.at fun o e => kp _ o e⟩
  there := fun g ok b hb => by
    obtain ⟨c1, c2, ⟨x, y, c3⟩, ⟨o1, c4, _⟩, ⟨o2, c5, _⟩, ⟨o3, c6, _⟩, ⟨o4, c7, _⟩⟩ := ok
    simp only [List.mem_cons, List.not_mem_nil, or_false] at hb
    rcases hb with rfl | rfl | rfl | rfl | rfl | rfl | rfl
    · exact ⟨_, c1⟩
    · exact ⟨_, c2⟩
    · exact ⟨_, c3⟩
    · exact ⟨_, c4⟩
    · exact ⟨_, c5⟩
    · exact ⟨_, c6⟩
    · exact ⟨_, c7⟩
  sub := fun b hb => by
    simp only [List.mem_cons, List.not_mem_nil, or_false] at hb ⊢
    rcases hb with q | q | q | q <;> simp [q]
  noKeys := fun A s Q E hA ok q => getAttrOr_miss_zip ok.1 rfl rfl rfl zip_no_keys (by decide +kernel) hA q
  iter := fun A s d Q E hA ok hd off go => by
    obtain ⟨c1, c2, ⟨x, y, c3⟩, c4, c5, c6, c7⟩ := ok
    simp only [List.mem_cons, List.not_mem_nil, or_false, not_or] at off
    obtain ⟨d1, d2, d3, d4, d5, d6, d7⟩ := off
    refine wpAny_pyIter_zip c1 (go z [z, TO, j1, j2] (fun n g => IsPair g TI (.ref j1) (.ref j2) ∧ g.IsTupleIter j1 t1 n ∧ g.IsTupleIter j2 t2 n ∧ g.IsTuple t1 us ∧ g.IsTuple t2 vs ∧
      ((IsZip g z TI TO .none ∧ ∃ x y, IsPair g TO x y) ∨ ∃ T fl old, IsZipHeld g z TI TO T fl ∧ g.get? T = some old ∧ T ≠ z ∧ T ≠ j1 ∧ T ≠ j2 ∧ T ≠ d)) s.heap s.toks ?_
      ⟨c2, c4, c5, c6, c7, .inl ⟨c1, x, y, c3⟩⟩ (fun _ _ e => e) fun b hb => .inl hb)
    refine { off := fun q => ?_, frame := fun n g g' st kp => ?_, item := fun n s' Q' E' lt st hds hQ => ?_, done := fun s' Q' E' st hQ => ?_ }
    · simp only [List.mem_cons, List.not_mem_nil, or_false] at q
      rcases q with e | e | e | e
      · exact d1 e
      · exact d3 e
      · exact d4 e
      · exact d5 e
    · obtain ⟨b2, b4, b5, b6, b7, b8⟩ := st
      refine ⟨kp _ _ (Ne.symm d2) b2, b4.at fun o e => kp _ o (Ne.symm d4) e, b5.at fun o e => kp _ o (Ne.symm d5) e, b6.at fun o e => kp _ o (Ne.symm d6) e, b7.at fun o e => kp _ o (Ne.symm d7) e, ?_⟩
      rcases b8 with ⟨b1, x, y, b3⟩ | ⟨T, fl, old, b1, b3, m1, m2, m3, m4⟩
      · exact .inl ⟨kp _ _ (Ne.symm d1) b1, x, y, kp _ _ (Ne.symm d3) b3⟩
      · exact .inr ⟨T, fl, old, kp _ _ (Ne.symm d1) b1, kp _ _ m4 b3, m1, m2, m3, m4⟩
    · obtain ⟨b2, b4, b5, b6, b7, b8⟩ := st
      have lu : n < us.size := Nat.lt_of_lt_of_le lt (Nat.min_le_left ..)
      have lv : n < vs.size := Nat.lt_of_lt_of_le lt (Nat.min_le_right ..)
      have eu := Array.getElem?_eq_getElem lu
      have ev := Array.getElem?_eq_getElem lv
      have no : ∀ {b o}, s'.heap.get? b = some o → s'.heap.objs.size ≠ b := fun e => Nat.ne_of_gt (Heap.lt_size e)
      have m1 : s'.heap.objs.size ≠ j1 := by obtain ⟨_, e, _⟩ := b4; exact no e
      have m2 : s'.heap.objs.size ≠ j2 := by obtain ⟨_, e, _⟩ := b5; exact no e
      rcases b8 with ⟨b1, x, y, b3⟩ | ⟨T, fl, old, b1, b3, o1, o2, o3, o4⟩
      · refine RZ.pyNext_zipT_item ap b1 b2 b3 b4 b5 b6 b7 eu ev fun g' a1 a2 a3 a4 a5 a6 kp => ?_
        refine hQ s'.heap.objs.size _ _ g' s'.toks ⟨eu, ev⟩ (.inl ⟨_, a5, rfl, _, rfl⟩) ⟨kp _ _ ap.TIz ap.TITO ap.TIi1 ap.TIi2 b2, a3, a4, b6.at fun o e => kp _ o ap.l1z ap.l1TO ap.l1i1 ap.l1i2 e, b7.at fun o e => kp _ o ap.l2z ap.l2TO ap.l2i1 ap.l2i2 e, .inr ⟨s'.heap.objs.size, false, _, a1, a5, no b1, m1, m2, Nat.ne_of_gt hds⟩⟩ fun b o hb e => ?_
        simp only [List.mem_cons, List.not_mem_nil, or_false, not_or] at hb
        exact kp b o hb.1 hb.2.1 hb.2.2.1 hb.2.2.2 e
      · refine zt_pyNext ap b1 b3 b2 b4 b5 b6 b7 eu ev fun g' a1 a3 a4 a5 a6 kp => ?_
        refine hQ s'.heap.objs.size _ _ g' s'.toks ⟨eu, ev⟩ (.inl ⟨_, a5, rfl, _, rfl⟩) ⟨kp _ _ ap.TIz ap.TIi1 ap.TIi2 b2, a3, a4, b6.at fun o e => kp _ o ap.l1z ap.l1i1 ap.l1i2 e, b7.at fun o e => kp _ o ap.l2z ap.l2i1 ap.l2i2 e, .inr ⟨T, true, old, a1, kp _ _ o1 o2 o3 b3, o1, o2, o3, o4⟩⟩ fun b o hb e => ?_
        simp only [List.mem_cons, List.not_mem_nil, or_false, not_or] at hb
        exact kp b o hb.1 hb.2.2.1 hb.2.2.2 e
    · obtain ⟨b2, b4, b5, b6, b7, b8⟩ := st
      have no : us[min us.size vs.size]? = none ∨ vs[min us.size vs.size]? = none := by
        rcases Nat.le_total us.size vs.size with q | q
        · exact .inl (Array.getElem?_eq_none (by rw [Nat.min_eq_left q]; exact Nat.le_refl _))
        · exact .inr (Array.getElem?_eq_none (by rw [Nat.min_eq_right q]; exact Nat.le_refl _))
      rcases b8 with ⟨b1, x, y, b3⟩ | ⟨T, fl, old, b1, b3, o1, o2, o3, o4⟩
      · refine RZ.pyNext_zipT_end hA ap b1 b2 b3 b4 b5 b6 b7 no fun g' kp => hQ g' s'.toks fun b o hb e => ?_
        simp only [List.mem_cons, List.not_mem_nil, or_false, not_or] at hb
        exact kp b o hb.1 hb.2.1 hb.2.2.1 hb.2.2.2 e
      · refine zt_pyEnd hA ap b1 b3 b2 b4 b5 b6 b7 no fun g' kp => hQ g' s'.toks fun b o hb e => ?_
        simp only [List.mem_cons, List.not_mem_nil, or_false, not_or] at hb
        exact kp b o hb.1 hb.2.2.1 hb.2.2.2 e
end
section
variable {K : PySem.W.Frag} {μ : Mp} {H : Hp}
def mergeV {κ : Type} [DecidableEq κ] (kvs more : List (κ × V)) : List (κ × V) := more.foldl (fun acc kv => putK acc kv.1 kv.2) kvs
theorem merge_rep {κ : Type} [DecidableEq κ] {more : List (κ × D)} {mv : List (κ × V)} (h : RK K μ H more mv) : ∀ {kvs : List (κ × D)} {q : List (κ × V)}, RK K μ H kvs q → RK K μ H (mergeA kvs more) (mergeV q mv) := by
  induction h with
  | nil => exact fun r => r
  | @cons k d v r q h t ih => exact fun {kvs w} rk => (show RK K μ H (mergeA (putA kvs k d) r) (mergeV (putK w k v) q) from ih (RK.put rk k h))
theorem mergeV_length {κ : Type} [DecidableEq κ] : ∀ (more kvs : List (κ × V)), (mergeV kvs more).length ≤ kvs.length + more.length
  | [], _ => Nat.le_refl _
  | p :: r, kvs => by
    have h1 := mergeV_length r (putK kvs p.1 p.2)
    have h2 := length_putK kvs p.1 p.2
    show (mergeV (putK kvs p.1 p.2) r).length ≤ _
    rw [List.length_cons]; omega
theorem paired_right {α β : Type} {R : α → β → Prop} : ∀ {as : List α} {bs : List β}, Paired R as bs → ∀ {b : β}, b ∈ bs → ∃ a, a ∈ as ∧ R a b
  | _, _, .cons h t, b, m => by
    rcases List.mem_cons.mp m with rfl | m
    · exact ⟨_, List.mem_cons_self, h⟩
    · obtain ⟨a, h1, h2⟩ := paired_right t m
      exact ⟨a, List.mem_cons_of_mem _ h1, h2⟩
theorem kt_merge {H : Hp} {more : List (List Key × V)} {ps : List (List Key × Addr × Value)} (h : KT H more ps) : ∀ {kvs : List (List Key × V)} {xs : List (List Key × Addr × Value)}, KT H kvs xs → KT H (mergeV kvs more) (storedAllH xs ps) := by
  induction h with
  | nil => exact fun r => r
  | @cons p q more ps h t ih =>
    intro kvs xs r
    have e : KT H (putK kvs p.1 p.2) (storedH xs q.1 q.2.1 q.2.2) := by
      rw [← h.1]
      exact r.put p.1 h.2.1 h.2.2
    exact (show KT H (mergeV (putK kvs p.1 p.2) more) (storedAllH (storedH xs q.1 q.2.1 q.2.2) ps) from ih e)
/-- keys and values that stand in two sequences -/
theorem keyed_zip : ∀ {xs ys : List D} {vs ws : List V} {us ms : List Value} {kvs : List (List Key × D)}, RVs K μ H xs vs → RVs K μ H ys ws → Vals vs us → Vals ws ms → keyed keyT (xs.zip ys) = some kvs →
    ∃ (kv : List (List Key × V)) (ps : List (List Key × Addr × Value)), RK K μ H kvs kv ∧ KT H kv ps ∧ ps.length = min us.length ms.length ∧ ∀ (i : Nat) (k v : Value), us[i]? = some k → ms[i]? = some v → ∃ kk b, ps[i]? = some (kk, b, v) ∧ k = .ref b := by
  intro xs
  induction xs with
  | nil =>
    intro ys vs ws us ms kvs r r' c c' e
    cases r; cases c; cases e
    exact ⟨[], [], .nil, .nil, by simp, fun i k v h => by simp at h⟩
  | cons x xs ih =>
    intro ys vs ws us ms kvs r r' c c' e
    cases ys with
    | nil =>
      cases r'; cases c'; cases e
      exact ⟨[], [], .nil, .nil, by simp, fun i k v _ h => by simp at h⟩
    | cons y ys =>
      cases r with
      | cons r t => cases r' with
        | cons r' t' => cases c with
          | cons a c => cases c' with
            | @cons _ m _ ms a' c' =>
              unfold keyed at e
              rw [List.zip_cons_cons] at e
              unfold optMap at e
              split at e <;> try contradiction
              rename_i p hp
              split at e <;> try contradiction
              rename_i ks hks
              cases e
              obtain ⟨kk, hk, rfl⟩ := map_some hp
              obtain ⟨kv, ps, h1, h2, h3, h4⟩ := ih t t' c c' hks
              obtain ⟨b, rfl, hb⟩ := keyT_rep r hk
              cases a
              refine ⟨(kk, _) :: kv, (kk, b, m) :: ps, .cons r' h1, .cons ⟨rfl, hb, a'⟩ h2, by simp only [List.length_cons, h3]; omega, fun i k v e1 e2 => ?_⟩
              cases i with
              | zero =>
                simp only [List.getElem?_cons_zero, Option.some.injEq] at e1 e2
                subst e1 e2
                exact ⟨kk, b, rfl, rfl⟩
              | succ i => exact h4 i k v (by simpa using e1) (by simpa using e2)
end
section
variable {X : Cx} {Φ : Fns} {F : Str → Str → Bool} {a b e : Expr} {ca cb : Tm} {p1 p2 q1 q2 pos : Pos}
/-- a new dict of tuple keys, laid -/
theorem lay_dT {pins : List (Addr × Obj)} {σ : L2.St} {H : Hp} {s : Shared} {h' : Heap} {tk : Nat} {d : Addr} {Q : VK} {μ : Mp} {S : Sto} {kvs : List (List Key × D)} {kv : List (List Key × V)} {ps : List (List Key × Addr × Value)} (I : L2.Inv X pins σ H s) (hs : SRep X.K true μ S H)
    (kp : ∀ b o, s.heap.get? b = some o → h'.get? b = some o) (hd : s.heap.objs.size ≤ d) (rk : RK X.K μ H kvs kv) (kt : KT H kv ps) (hz : ps.length ≤ 1000000) (dd : h'.DictOfH (tupleKind (mixKind X.prog X.w)) d (storedAllH [] ps))
    (hr : Res X.K true (RV X.K) μ H (alloc (.dT (mergeA [] kvs)) S) Q) : EP X pins σ Q (.ref d) { s with heap := h', toks := tk } := by
  have hn : H d = none := I.hok.fresh hd
  obtain ⟨o, es, ep, g1, g2, g3, g4, _, g5⟩ := dd
  have kt2 : KT (upd H d (.dT (mergeV [] kv))) (mergeV [] kv) (storedAllH [] ps) := KT.keeps (kt_merge kt (kvs := []) (xs := []) .nil) fun c ys ec => by rw [upd_ne (ne_of_none ec hn)]; exact ec
  have hl : (mergeV [] kv).length ≤ sizeLine := by
    have h1 := mergeV_length kv []
    have h2 : kv.length = ps.length := Paired.length kt
    rw [List.length_nil] at h1
    rw [sizeLine_eq]; omega
  have hm : (d == sysModules) = false := beq_eq_false_iff_ne.mpr (Nat.ne_of_gt (Nat.lt_of_lt_of_le I.big hd))
  refine ⟨.ref d, upd H d (.dT (mergeV [] kv)), I.laid (t' := tk) kp hd ⟨hl, hm, _, kt2, o, es, ep, g1, g2, g3, g4, g5⟩, rfl, ?_⟩
  exact new_ob (o := .dT (mergeA [] kvs)) (ho := .dT (mergeV [] kv)) hr hs (fun p hp => .dT ((merge_rep rk (kvs := []) (q := []) .nil).ext (Ext.alloc (rw := true) hp))) d hn
theorem d_dicz (O : Okx X) (hg : Gl X "dict") (hm : X.mg "dict" = none) (hgz : Gl X "zip") (hmz : X.mg "zip" = none) (ha : PAd X true Φ F [a, b] (.cons ca (.cons cb .nil))) (hs : starEach [a, b] X.env = (false, eval a X.env) :: starEach [b] X.env) (hpl : (backTo q2 (starEach [b] X.env)).any (·.1) = false)
    (na : starEach [.Call (.Name "zip" p2) [a, b] [] q2] X.env = (false, eval (.Call (.Name "zip" p2) [a, b] [] q2) X.env) :: starEach [] X.env) : PEd X true Φ F (.Call (.Name "dict" p1) [.Call (.Name "zip" p2) [a, b] [] q2] [] q1) (.dicz ca cb) := by
  refine ⟨fun pins s σ H Q I h => ?_⟩
  have h1 : rdA X.K true (evs Φ F (.cons ca (.cons cb .nil))) σ H fun vs H1 => ∃ μ S l1 l2 vs1 vs2 xs ys kvs, SRep X.K true μ S H1 ∧ vs = [.ref l1, .ref l2] ∧ H1 l1 = some (.tup vs1) ∧ H1 l2 = some (.tup vs2) ∧ RVs X.K μ H1 xs vs1 ∧ RVs X.K μ H1 ys vs2 ∧ (xs.zip ys).length ≤ 1000 ∧ keyed keyT (xs.zip ys) = some kvs ∧ Res X.K true (RV X.K) μ H1 (alloc (.dT (mergeA [] kvs)) S) Q := by
    obtain ⟨μ, S, η, hs, he, hr⟩ := h
    refine ⟨μ, S, η, hs, he, ?_⟩
    unfold ev at hr
    simp only [evs, bind_assoc, MP.R.bind_ok]
    cases e1 : ev Φ F ca η S with
    | ex _ _ => rw [e1] at hr; exact hr.elim
    | no => rw [e1] at hr; exact hr.elim
    | ok x S1 =>
      rw [e1, MP.R.bind_ok] at hr
      rw [MP.R.bind_ok]
      cases e2 : ev Φ F cb η S1 with
      | ex _ _ => rw [e2] at hr; exact hr.elim
      | no => rw [e2] at hr; exact hr.elim
      | ok y S2 =>
        rw [e2, MP.R.bind_ok] at hr
        rw [MP.R.bind_ok]
        intro μ1 H1 vs x1 s1 r1
        cases r1 with
        | cons r1 t => cases t with
          | cons r2 t =>
            cases t
            cases r1 <;> try exact hr.elim
            rename_i l1 xs vs1 a1 a2 a3
            cases r2 <;> try exact hr.elim
            rename_i l2 ys vs2 b1 b2 b3
            simp only at hr
            unfold dicOf at hr
            split at hr <;> try exact hr.elim
            rename_i o ho
            split at ho <;> try contradiction
            rename_i hz
            split at ho <;> try contradiction
            rename_i kvs hk
            cases ho
            exact ⟨μ1, S2, l1, l2, vs1, vs2, xs, ys, kvs, s1, rfl, a2, b2, a3, b3, hz, hk, Res.ext hr x1⟩
  refine Call_ (ld_blt I hg hm PyProof.Rows.boot_dict (PyProof.Rows.callWith_type1 (args_cons (Call_ (ld_blt I hgz hmz PyProof.Rows.boot_zip (PyProof.Rows.callWith_type1 (thn (ha.run q2 pins s σ H _ I h1) fun us s1 ⟨vs, H1, I1, r1, q⟩ => ?_) hs hpl))) na) na))
  obtain ⟨μ, S, l1, l2, vs1, vs2, xs, ys, kvs, hS, rfl, e1, e2, rx, ry, hz, hk, hr⟩ := q
  obtain ⟨u1, u2, rfl, ru1, ru2⟩ := vals2 r1
  cases ru1; cases ru2
  obtain ⟨its1, rv1, t1, z1⟩ := I1.tuple (.of e1)
  obtain ⟨its2, rv2, t2, z2⟩ := I1.tuple (.of e2)
  obtain ⟨kv, ps, g1, g2, g3, g4⟩ := keyed_zip rx ry rv1 rv2 hk
  refine RZ.call_zipT t1 t2 fun h' c1 c2 c3 c4 c5 c6 kp => args_nil ?_
  have lt1 : l1 < s1.heap.objs.size := t1.lt
  have lt2 : l2 < s1.heap.objs.size := t2.lt
  have ap : ZipApart (s1.heap.objs.size + 4) (s1.heap.objs.size + 2) (s1.heap.objs.size + 3) s1.heap.objs.size (s1.heap.objs.size + 1) l1 l2 := by
    generalize s1.heap.objs.size = n at lt1 lt2
    exact zt_apart lt1 lt2
  have un := O.un
  have hlen : ps.length ≤ 1000 := by
    have h1 := rx.length
    have h2 := ry.length
    have h3 := rv1.length
    have h4 := rv2.length
    rw [List.length_zip] at hz
    omega
  refine call_dict_pairsH (knd := tupleKind (mixKind X.prog X.w)) (ps := ps) (zt_arg _ _ _ _ _ _ _ ap its1.toArray its2.toArray) O.hd (tupleKind_room_in1 (by show X.A.units + 1 + 1 < cLine; omega)) ⟨c1, c2, ⟨_, _, c3⟩, c4, c5, IsTup.keeps t1 kp, IsTup.keeps t2 kp⟩
    ⟨by simpa using g3, fun i key v e => g4 i key v (by simpa using e.1) (by simpa using e.2)⟩ (fun g hk x hx => ?_) (by simp only [List.size_toArray, ← g3]; rw [sizeLine_eq]; omega) fun g tk dd kp2 => ?_
  · obtain ⟨p, q1, q2⟩ := paired_right g2 hx
    rw [← q2.1]
    obtain ⟨o, its, n, k1, k2, k3, k4⟩ := key_of I1.hok q2.2.1
    have lx : x.2.1 < s1.heap.objs.size := Heap.lt_size k1
    refine ⟨o, its, n, hk _ o ?_ (zt_off lx) (kp _ o k1), k2, k3, k4⟩
    show x.2.1 ≠ h'.objs.size
    rw [c6]
    exact Nat.ne_of_lt (Nat.lt_of_lt_of_le lx (Nat.le_add_right _ _))
  · exact lay_dT (s := s1) I1 hS (fun b o e => kp2 b o (zt_off (Heap.lt_size e)) (kp b o e)) (by show s1.heap.objs.size ≤ h'.objs.size; rw [c6]; exact Nat.le_add_right _ _) g1 g2 (by omega) dd hr
end
/-! ### displays -/
section
variable {X : Cx} {Φ : Fns} {F : Str → Str → Bool} {pos : Pos}
def prs (K : PySem.W.Frag) (Φ : Fns) (F : Str → Str → Bool) : Tms → List (TE × TE)
  | .cons k (.cons v r) => (rdE K true (ev Φ F k), rdE K true (ev Φ F v)) :: prs K Φ F r
  | _ => []
def evenT : Tms → Bool
  | .nil => true
  | .cons _ (.cons _ r) => evenT r
  | _ => false
/-- pairs of values that are as the data -/
inductive RPs (K : PySem.W.Frag) (μ : Mp) (H : Hp) : List D → List (V × V) → Prop
  | nil : RPs K μ H [] []
  | cons {a b : D} {x y : V} {ds : List D} {ps : List (V × V)} : RV K μ H a x → RV K μ H b y → RPs K μ H ds ps → RPs K μ H (a :: b :: ds) ((x, y) :: ps)
theorem rd_pairs {α β : Type} {rep : Mp → Hp → α → β → Prop} {K : PySem.W.Frag} {μ0 : Mp} {H0 : Hp} {Q : β → Hp → Prop} {η : Env} {σ : L2.St} : ∀ (cs : Tms) {kk : List D → Sto → R α} {μ : Mp} {S : Sto} {H : Hp} {P : List (V × V) → Hp → Prop}, evenT cs = true → SRep K true μ S H → ERep K μ H η σ →
    Res K true rep μ0 H0 ((evs Φ F cs η S).bind kk) Q → (∀ ds S1 μ1 H1 ps, Ext true μ μ1 H H1 → SRep K true μ1 S1 H1 → RPs K μ1 H1 ds ps → Res K true rep μ0 H0 (kk ds S1) Q → P ps H1) → tPairs (prs K Φ F cs) σ H P
  | .nil, kk, μ, S, H, P, _, hs, he, hr, f => by
    unfold evs at hr
    exact f [] S μ H [] .refl hs .nil hr
  | .cons k (.cons v r), kk, μ, S, H, P, ev', hs, he, hr, f => by
    unfold evs at hr
    simp only [bind_assoc] at hr
    refine ⟨μ, S, η, hs, he, res_bindB hr fun x S1 μ1 H1 vx x1 s1 r1 q1 => ?_⟩
    unfold evs at q1
    simp only [bind_assoc] at q1
    refine ⟨μ1, S1, η, s1, he.ext x1, res_bindB q1 fun y S2 μ2 H2 vy x2 s2 r2 q2 => ?_⟩
    refine rd_pairs r (kk := fun ds S => kk (x :: y :: ds) S) ev' s2 (he.ext (x1.trans x2)) q2 fun ds S3 μ3 H3 ps x3 s3 r3 q3 => ?_
    exact f _ S3 μ3 H3 _ ((x1.trans x2).trans x3) s3 (.cons (RV.ext (x2.trans x3) _ _ r1) (RV.ext x3 _ _ r2) r3) q3
  | .cons k .nil, _, _, _, _, _, ev', _, _, _, _ => nomatch ev'
theorem rps_keyed {K : PySem.W.Frag} {μ : Mp} {H : Hp} : ∀ {ds : List D} {ps : List (V × V)} {pd : List (D × D)} {kvs : List (Key × D)}, RPs K μ H ds ps → pairsOf ds = some pd → keyed keyK pd = some kvs → ∃ kv : List (Key × V), RK K μ H kvs kv ∧ ps = kv.map (fun kv => (kV kv.1, kv.2)) ∧ kv.length = pd.length
  | _, _, _, _, .nil, e, e' => by
    unfold pairsOf at e
    cases e; cases e'
    exact ⟨[], .nil, rfl, rfl⟩
  | _, _, _, _, .cons h1 h2 t, e, e' => by
    unfold pairsOf at e
    split at e <;> try contradiction
    rename_i pd hpd
    cases e
    unfold keyed at e'
    unfold optMap at e'
    split at e' <;> try contradiction
    rename_i p hp
    split at e' <;> try contradiction
    rename_i ks hks
    cases e'
    obtain ⟨k, hk, rfl⟩ := map_some hp
    obtain ⟨kv, r, e1, e2⟩ := rps_keyed t hpd hks
    exact ⟨(k, _) :: kv, .cons h2 r, by rw [e1, List.map_cons, keyK_rep h1 hk], by simp [e2]⟩
theorem mergeK_eq : ∀ (more kvs : List (Key × V)), mergeK kvs more = mergeV kvs more := fun _ _ => rfl
theorem d_dct {keys : List (Option Expr)} {values : List Expr} {cs : Tms} (h : PPs X pos keys values (prs X.K Φ F cs)) (hev : evenT cs = true) (hall : keys.all (·.isSome) = true) (hl : keys.length = values.length) (h0 : keys ≠ []) (h15 : keys.length ≤ 15) :
    PEd X true Φ F (.Dict keys values pos) (.dct cs) := by
  refine PEw (pe_disp h hall hl h0 h15) fun σ H Q h => ?_
  intro p hp
  obtain ⟨μ, S, η, hs, he, hr⟩ := h
  unfold ev at hr
  have x0 := (Ext.hide (rw := true) (.refl (μ := μ) (H := H)) hp).updh (u := .dK []) hp
  refine rd_pairs cs hev (hs.hide hp trivial) (he.ext x0) hr fun ds S1 μ1 H1 ps x1 s1 r1 q1 => ?_
  have d1 : p ∈ μ1.h := x1.sub p (by simp [Mp.hide])
  have l1 : H1 p = some (.dK []) := x1.keep _ _ (fun _ => ((hs.hide (o := .dK []) hp trivial).hid p (by simp [Mp.hide])).2) upd_same
  refine ⟨l1, ?_⟩
  split at q1 <;> try exact q1.elim
  rename_i pd hpd
  split at q1 <;> try exact q1.elim
  rename_i o ho
  unfold dicOfK at ho
  split at ho <;> try contradiction
  rename_i hz
  split at ho <;> try contradiction
  rename_i kvs hk
  cases ho
  obtain ⟨kv, rk, e1, e2⟩ := rps_keyed r1 hpd hk
  refine ⟨kv, e1, by omega, ?_⟩
  rw [mergeK_eq]
  have X1 := (x0.trans x1).updh (u := .dK (mergeV [] kv)) hp
  have s2 := s1.updh (u := .dK (mergeV [] kv)) d1 trivial
  have r2 := RK.updh (u := .dK (mergeV [] kv)) d1 (merge_rep rk (kvs := []) (q := []) .nil)
  have e : S1.length = μ1.s.length := s1.len.symm
  exact q1 (μ1.giv p) _ _ (X1.giv hp (hs.hoff hp)) (s2.give d1 upd_same (.dK (r2.chg (Mp.sub_giv d1)))) (.ref (by unfold Mp.giv; rw [e, List.getElem?_append_right (Nat.le_refl _), Nat.sub_self]; rfl))
end
end MP

set_option Elab.async false
set_option linter.all false
set_option maxRecDepth 100000
set_option maxHeartbeats 4000000
/-! MP13: enumerate; ranges as values; names stored from the right. -/
namespace MP
open PySem L2
open PySem.Spec PyProof.Rows
section
/-- enumerate(v), v of whatever kind -/
theorem en_meets {v : Value} {o : Obj} {P : Heap → Prop} (B : Begins v o P) :
    Meets (Builtin.«enumerate.__new__» ⟨[.type "enumerate", v], []⟩) (fun _ R s => P s.heap ∧
      R (.ok (.ret (.ref (s.heap.push o).objs.size))) { s with heap := (s.heap.push o).push { cls := .type "enumerate", data := .fields #[.none, .bool false, .ref s.heap.objs.size, rawInt 0, .none, .none] } }) :=
  .of_wp fun prog w A R s h => by
    obtain ⟨hp, g, d, tk, os⟩ := s
    obtain ⟨h1, h2⟩ := h
    have sub := sub_enumerate
    have go : ∀ {A' : Around} {E : Value → Shared → Prop} {Q : Value → Shared → Prop}, Q (.ref hp.objs.size) ⟨hp.push o, g, d, tk, os⟩ → wpAny (model prog w) A' (pyIter v) Q E ⟨hp, g, d, tk, os⟩ := fun q => B.iter prog w _ _ ⟨hp, g, d, tk, os⟩ _ h1 q
    wp_walk using go
    refine wpAny_stack_any fun st => wpAny_pure ?_
    split
    · rename_i c _ _ _ _ _
      cases (c == Value.type "enumerate") <;> (wp_walk using go; exact ⟨_, rfl, h2⟩)
    · wp_walk using go
      exact ⟨_, rfl, h2⟩
variable {prog : Program} {w : World} {A : Around} {E : Value → Shared → Prop} {s : Shared}
theorem en_call {v : Value} {o : Obj} {P : Heap → Prop} {Q : Value → Shared → Prop} (B : Begins v o P) (h1 : P s.heap)
    (go : ∀ h', IsEnum h' (s.heap.objs.size + 1) s.heap.objs.size 0 .none → h'.get? s.heap.objs.size = some o → h'.objs.size = s.heap.objs.size + 2 → (∀ b u, s.heap.get? b = some u → h'.get? b = some u) → Q (.ref (s.heap.objs.size + 1)) { s with heap := h' }) :
    wpAny (model prog w) A (call (.type "enumerate") [v]) Q E s := by
  refine callType_new PySem.F.called_enumerate (by decide) (PySem.F.typeCall_enumerate_1 _) (PySem.F.newCall_enumerate_1 _) (fun obj => PySem.F.args_object_init_2 obj _) PySem.F.entry_enumerate_new (en_meets B) ⟨h1, ?_⟩
  have z : (s.heap.push o).objs.size = s.heap.objs.size + 1 := Heap.size_push ..
  show _ ∧ _
  rw [z]
  have e := Heap.get?_push_size (s.heap.push o) (o := { cls := .type "enumerate", data := .fields #[.none, .bool false, .ref s.heap.objs.size, rawInt 0, .none, .none] }) rfl
  rw [z] at e
  exact ⟨⟨_, e, rfl⟩, go _ e (Heap.get?_push_of_some _ (Heap.get?_push_size _ B.free)) (by rw [Heap.size_push, z]) fun b u x => Heap.get?_push_of_some _ (Heap.get?_push_of_some _ x)⟩
end
/-- the tuple at a, numbered, each item in a new pair -/
def IteT (K : PySem.W.Frag) (a : Addr) : It :=
  ⟨fun i H => ∃ (xs : List V) (x : V), SqT K H a xs ∧ xs[i]? = some x, fun i H v H' => ∃ T x, v = .ref T ∧ H T = none ∧ H' = upd H T (.tup [.int (i : Nat), x]) ∧ ∀ xs, SqT K H a xs → xs[i]? = some x, fun i H => ∃ xs : List V, SqT K H a xs ∧ xs.length ≤ i⟩
theorem turn_enT {P : Program} {w : World} {K : PySem.W.Frag} {elts : List Expr} {kk : Nat} {tpos : Pos} (a e it : Addr) :
    Turn P w K (.Tuple elts kk tpos) (IteT K a) [e, it] e (fun n h => (∃ old, IsEnum h e it ((n : Nat) : Int) old) ∧ h.IsTupleIter it a n ∧ e ≠ it ∧ a ≠ it ∧ a ≠ e) where
  mem := by simp
  obj := fun n h st b hb => by
    obtain ⟨⟨old, he⟩, ⟨o, ho, hc, hd⟩, _⟩ := st
    simp only [List.mem_cons, List.not_mem_nil, or_false] at hb
    rcases hb with z | z
    · rw [z]; exact ⟨_, he, fun v q => nomatch q⟩
    · rw [z]; exact ⟨o, ho, fun v q => by rw [hd] at q; cases q⟩
  keep := fun n h h' st k => by
    obtain ⟨⟨old, he⟩, hi, r⟩ := st
    exact ⟨⟨old, k e (by simp) _ he⟩, hi.at fun o q => k it (by simp) o q, r⟩
  item := by
    intro X hP hw hK hc n pins s σ H E I hf st hg
    subst hP hw hK
    obtain ⟨⟨old, he⟩, hit, hne, hai, hae⟩ := st
    obtain ⟨xs, x, hq, hx⟩ := hg
    obtain ⟨its, rv, pl, hz⟩ := I.tuple hq
    obtain ⟨u, hu, ru⟩ := rv.get hx
    have hel : e < s.heap.objs.size := Heap.lt_size he
    have hil : it < s.heap.objs.size := by obtain ⟨_, q, _⟩ := hit; exact Heap.lt_size q
    have hlt : n < its.toArray.size := by rw [List.size_toArray]; exact (List.getElem?_eq_some_iff.mp hu).1
    refine wpAny_pyNext_enum_itemC (Draws.tuple (A := X.A.in1) (I.ok.hd hc) it a hai its.toArray) he ⟨hit, pl⟩ hlt hne (by simp only [List.mem_cons, List.not_mem_nil, or_false, not_or]; exact ⟨hne, Ne.symm hae⟩) fun y h' tk hy ho hst hT hsz hk => ?_
    have ey : y = u := by
      have : its.toArray[n]? = some u := by simpa using hu
      rw [this] at hy; exact (Option.some.inj hy).symm
    subst ey
    refine ⟨_, rfl, wpAny_letOwnedTupleGo_enum (s := { s with heap := h', toks := tk + 1 }) ho fun h'' he' sb => ?_⟩
    have hT2 : h''.get? s.heap.objs.size = some { cls := .type "tuple", data := .seq #[.int n tk, y] } := (sb.2 _ (Nat.ne_of_gt hel)).trans hT
    have new : ObjOk X.prog X.w (upd H s.heap.objs.size (.tup [.int (n : Nat), x])) h'' s.heap.objs.size (.tup [.int (n : Nat), x]) :=
      ⟨by show 2 ≤ sizeLine; decide, [.int n tk, y], .cons ⟨_, rfl⟩ (.cons ru .nil), ⟨_, hT2, rfl, _, rfl⟩⟩
    have I1 : L2.Inv X pins σ (upd H s.heap.objs.size (.tup [.int (n : Nat), x])) { s with heap := h'', toks := tk + 1 } :=
      I.turnedNew (ch := [e, it]) (fun b ob hb q => (sb.2 b (fun z => hb (by simp [z]))).trans (hk b ob (fun z => hb (by simp [z])) (fun z => hb (by simp [z])) q)) hf (Nat.le_refl _) new
    refine ⟨.ref s.heap.objs.size, _, I1, rfl, ⟨_, x, rfl, I.hok.fresh (Nat.le_refl _), rfl, fun ys hy => by rw [I.tuple_inj hy hq]; exact hx⟩, ⟨⟨y, ?_⟩, hst.1.at fun o q => (sb.2 it (Ne.symm hne)).trans q, hne, hai, hae⟩, fun b hb => ?_⟩
    · have e1 : ((n + 1 : Nat) : Int) = (n : Int) + 1 := by omega
      rw [e1]; exact he'
    · have hb' : b < s.heap.objs.size := by
        simp only [List.mem_cons, List.not_mem_nil, or_false] at hb
        rcases hb with z | z
        · rw [z]; exact hel
        · rw [z]; exact hil
      rw [upd_ne (Nat.ne_of_lt hb')]
      exact (hf b hb).1
  done := by
    intro X hP hw hK hc n pins s σ H E I hf st hg
    subst hP hw hK
    obtain ⟨⟨old, he⟩, hit, hne, hai, hae⟩ := st
    obtain ⟨xs, hq, hx⟩ := hg
    obtain ⟨its, rv, pl, hz⟩ := I.tuple hq
    obtain ⟨f0, f1, f2, f3, f4, f5⟩ := hf it (by simp)
    have hl := rv.length
    have none' : its.toArray[n]? = none := by simp; omega
    have D : Draws X.prog X.w X.A.in1 it [it, a] n (fun _ _ => False) (fun j g => j = n ∧ g.IsTupleIter it a n ∧ g.IsTuple a its.toArray) :=
      { live := fun _ _ st => let ⟨o, ho, _⟩ := st.2.1; ⟨o, ho⟩
        frame := fun _ _ _ st k => ⟨st.1, st.2.1.at fun o q => k it (by simp) o q, st.2.2.at fun o q => k a (by simp) o q⟩
        item := fun j s' Q' E' lt st hQ => absurd st.1 (Nat.ne_of_lt lt)
        done := fun s' Q' E' st hE => RZ.nextOf_tuple_end (I.ok.hd hc) st.2.1 st.2.2 none' hE }
    exact wpAny_pyNext_enum_endD D he ⟨rfl, hit, pl⟩ fun h' eb => ⟨rfl, I.turned (t' := s.toks) (fun b o hb q => eb b o hb q) f0 f1 f3 f4 f5⟩
  self := fun A n s Q E st h => by
    obtain ⟨⟨_, he⟩, _⟩ := st
    exact wpAny_pyIter_enum he h
section
variable {K : PySem.W.Frag} {rw : Bool} {μ : Mp} {S : Sto} {H : Hp}
theorem numbered_get {xs : List D} {i : Nat} {x : D} (e : (numbered xs)[i]? = some x) : ∃ d, xs[i]? = some d ∧ x = .tup [.int (i : Nat), d] := by
  unfold numbered at e
  obtain ⟨p, h1, rfl⟩ := map_some (o := xs.zipIdx[i]?) (by rw [← List.getElem?_map]; exact e)
  rw [List.getElem?_zipIdx] at h1
  obtain ⟨d, h2, rfl⟩ := map_some h1
  exact ⟨d, h2, by simp⟩
theorem numbered_length (xs : List D) : (numbered xs).length = xs.length := by unfold numbered; rw [List.length_map, List.length_zipIdx]
theorem new_pair {μ' : Mp} {H' : Hp} {S' : Sto} {T : Addr} {n : Nat} {d : D} {x : V} (s : SRep K rw μ' S' H') (hT : H' T = none) (r : RV K μ' H' d x) : Ext rw μ' μ' H' (upd H' T (.tup [.int (n : Nat), x])) ∧ SRep K rw μ' S' (upd H' T (.tup [.int (n : Nat), x])) ∧ RV K μ' (upd H' T (.tup [.int (n : Nat), x])) (.tup [.int (n : Nat), d]) (.ref T) := by
  have X1 : Ext rw μ' μ' H' (upd H' T (.tup [.int (n : Nat), x])) := Ext.fresh hT
  exact ⟨X1, s.fresh hT, .tup (s.notmem hT) upd_same (.cons (.int _) (.cons (RV.ext X1 _ _ r) .nil))⟩
theorem walk_enT {a : Addr} {ds : List D} {vs : List V} (h0 : μ.off a) (h1 : H a = some (.tup vs)) (r : RVs K μ H ds vs) : WalkOk K rw (IteT K a) ⟨numbered ds, none⟩ μ H := by
  intro μ' S' H' x s ok
  have q : SqT K H' a vs := .of (x.keep _ _ h0 h1)
  have r' := RVs.extW x _ _ r
  refine ⟨fun i d e => ?_, fun i hi => ⟨vs, q, by rw [← r.length, ← numbered_length]; exact hi⟩⟩
  obtain ⟨d', e1, rfl⟩ := numbered_get e
  obtain ⟨v, hv, rv⟩ := r'.get e1
  refine ⟨⟨vs, v, q, hv⟩, fun v' H'' y => ?_⟩
  obtain ⟨T, x1, rfl, hT, rfl, hy⟩ := y
  have e2 := hy vs q
  rw [hv] at e2; cases e2
  exact new_pair s hT rv
theorem walk_enL {a : Addr} {ds : List D} {src : Option (Nat × List D)} (h : ∀ μ' S' H', ExtW rw μ μ' H H' → SRep K rw μ' S' H' → (Wk.mk (numbered ds) src).ok S' → ∃ vs, RVs K μ' H' ds vs ∧ SqL K H' a vs) : WalkOk K rw (Ite K a) ⟨numbered ds, src⟩ μ H := by
  intro μ' S' H' x s ok
  obtain ⟨vs, r, q⟩ := h μ' S' H' x s ok
  refine ⟨fun i d e => ?_, fun i hi => ⟨vs, q, by rw [← r.length, ← numbered_length]; exact hi⟩⟩
  obtain ⟨d', e1, rfl⟩ := numbered_get e
  obtain ⟨v, hv, rv⟩ := r.get e1
  refine ⟨⟨vs, v, q, hv⟩, fun v' H'' y => ?_⟩
  obtain ⟨T, x1, rfl, hT, rfl, hy⟩ := y
  have e2 := hy vs q
  rw [hv] at e2; cases e2
  exact new_pair s hT rv
end
section
variable {X : Cx} {rw : Bool} {Φ : Fns} {F : Str → Str → Bool} {a b c e : Expr} {ca cb ce : Tm} {pos p tpos : Pos} {elts : List Expr} {kk : Nat}
theorem i_enm (hg : Gl X "enumerate") (hm : X.mg "enumerate" = none) (he : PEd X rw Φ F e ce) (hs : starEach [e] X.env = (false, eval e X.env) :: starEach [] X.env) : PId X rw Φ F (.Tuple elts kk tpos) (.Call (.Name "enumerate" p) [e] [] pos) (.enm ce) := by
  refine ⟨fun pins s σ H R I h => ?_⟩
  obtain ⟨μ, S, η, hs', hη, hr⟩ := h
  have h1 : rdE X.K rw (ev Φ F ce) σ H fun x H1 => (∃ a, x = .ref a ∧ (∃ xs, SqL X.K H1 a xs) ∧ R (Ite X.K a) H1) ∨ ∃ a, x = .ref a ∧ (∃ xs, SqT X.K H1 a xs) ∧ R (IteT X.K a) H1 := by
    refine ⟨μ, S, η, hs', hη, ?_⟩
    unfold src at hr
    cases hev : ev Φ F ce η S with
    | ex _ _ => rw [hev] at hr; exact hr
    | no => rw [hev] at hr; exact hr
    | ok d S1 =>
      intro μ1 H1 v x1 s1 r1
      rw [hev, MP.R.bind_ok] at hr
      cases r1 with
      | tup h1 h2 h3 => exact .inr ⟨_, rfl, ⟨_, .of h2⟩, hr μ1 H1 _ x1 s1 (walk_enT h1 h2 h3)⟩
      | lst h1 h2 h3 => exact .inl ⟨_, rfl, ⟨_, .of h2⟩, hr μ1 H1 _ x1 s1 (walk_enL fun μ' S' H' y z ok => ⟨_, RVs.extW y _ _ h3, .of (y.keep _ _ h1 h2)⟩)⟩
      | ref h1 =>
        rename_i l p
        cases q : S1[l]? with
        | none => simp [lstOf, q] at hr
        | some o =>
          cases o with
          | lst xs =>
            simp only [lstOf, q] at hr
            obtain ⟨ho, h2, h3⟩ := s1.at q h1
            cases h3 with
            | lst h4 =>
              refine .inl ⟨_, rfl, ⟨_, .inl h2.rd⟩, hr μ1 H1 _ x1 s1 (walk_enL fun μ' S' H' y z ok => ?_)⟩
              obtain ⟨ho', g2, g3⟩ := z.at (show S'[l]? = some (.lst xs) from ok) (y.at h1)
              cases g3 with
              | lst g4 => exact ⟨_, g4, .inl g2.rd⟩
          | _ => simp [lstOf, q] at hr
      | _ => simp [lstOf] at hr
  refine Call_ (ld_blt I hg hm boot_enumerate (PyProof.Rows.callWith_type1 (args_cons (thn (he.run pins s σ H _ I h1) fun v s1 ⟨x, H1, I1, r1, q1⟩ => args_nil ?_) hs) hs))
  have fin : ∀ {h' : Heap} {b : Addr}, s1.heap.objs.size ≤ b → FpOk X pins H1 b := fun hle => I1.fpOk hle (I1.hok.fresh hle)
  rcases q1 with ⟨q, rfl, ⟨xs, hq⟩, hR⟩ | ⟨q, rfl, ⟨xs, hq⟩, hR⟩
  · cases r1
    obtain ⟨its, rv, pl, hz⟩ := I1.list hq
    refine en_call (begins_list q its.toArray) pl.isList fun h' he' hit hsz hk => wpAny_pyIter_enum he' ?_
    have I2 : L2.Inv X pins σ H1 { s1 with heap := h' } := I1.kept (t' := s1.toks) hk
    refine ⟨s1.heap.objs.size + 1, [s1.heap.objs.size + 1, s1.heap.objs.size], _, _, H1, rfl, I2, turn_enum q (s1.heap.objs.size + 1) s1.heap.objs.size, ⟨⟨.none, he'⟩, ⟨_, hit, rfl, rfl⟩, Nat.succ_ne_self _⟩, fun b hb => ?_, hR⟩
    simp only [List.mem_cons, List.not_mem_nil, or_false] at hb
    rcases hb with z | z
    · exact fin (h' := h') (by rw [z]; exact Nat.le_succ _)
    · exact fin (h' := h') (by rw [z]; exact Nat.le_refl _)
  · cases r1
    obtain ⟨its, rv, pl, hz⟩ := I1.tuple hq
    refine en_call (begins_tuple q its.toArray) pl fun h' he' hit hsz hk => wpAny_pyIter_enum he' ?_
    have I2 : L2.Inv X pins σ H1 { s1 with heap := h' } := I1.kept (t' := s1.toks) hk
    have lq : q < s1.heap.objs.size := pl.lt
    refine ⟨s1.heap.objs.size + 1, [s1.heap.objs.size + 1, s1.heap.objs.size], _, _, H1, rfl, I2, turn_enT q (s1.heap.objs.size + 1) s1.heap.objs.size, ⟨⟨.none, he'⟩, ⟨_, hit, rfl, rfl⟩, Nat.succ_ne_self _, Nat.ne_of_lt lq, Nat.ne_of_lt (Nat.lt_succ_of_lt lq)⟩, fun b hb => ?_, hR⟩
    simp only [List.mem_cons, List.not_mem_nil, or_false] at hb
    rcases hb with z | z
    · exact fin (h' := h') (by rw [z]; exact Nat.le_succ _)
    · exact fin (h' := h') (by rw [z]; exact Nat.le_refl _)
end
end MP

set_option Elab.async false
set_option linter.all false
set_option maxRecDepth 100000
set_option maxHeartbeats 4000000
/-! MP14: ranges as values; names stored from the right; fields. -/
namespace MP
open PySem L2
open PySem.Spec PyProof.Rows
section
variable {X : Cx} {rw : Bool} {Φ : Fns} {F : Str → Str → Bool} {a b c e : Expr} {ca cb cc ce : Tm} {pos p tpos : Pos}
theorem cr_range1 : CallR X (.type "range") (fun vs H Q => ∃ j, vs = [V.int j] ∧ ∀ p, H p = none → Q (.ref p) (upd H p (.rng 0 j))) := by
  intro pins s σ H vs us Q I r h
  obtain ⟨j, rfl, q⟩ := h
  obtain ⟨u, rfl, t, rfl⟩ := vals1 r
  refine call_range_1 ⟨.ref s.heap.objs.size, upd H s.heap.objs.size (.rng 0 j), I.laid (t' := _) (fun b o e => Heap.get?_push_of_some _ e) (Nat.le_refl _) ?_, rfl, q _ (I.hok.fresh (Nat.le_refl _))⟩
  exact ⟨_, _, _, Heap.get?_push_size _ rfl⟩
theorem new_rng {μ : Mp} {S : Sto} {H : Hp} {Q : VK} {i j : Int} (h : Res X.K rw (RV X.K) μ H (.ok (.rng i j) S) Q) (s : SRep X.K rw μ S H) (hb : rngOk i j) : ∀ p, H p = none → Q (.ref p) (upd H p (.rng i j)) := fun p hp =>
  h μ _ _ (Ext.fresh hp) (s.fresh hp) (.rng (s.notmem hp) upd_same hb)
theorem d_rng1 (hg : Gl X "range") (hm : X.mg "range" = none) (ha : PAd X rw Φ F [a] (.cons ca .nil)) (hs : starEach [a] X.env = (false, eval a X.env) :: starEach [] X.env) : PEd X rw Φ F (.Call (.Name "range" p) [a] [] pos) (.rngv (.cst (.int 0)) ca) := by
  refine PEw (pe_callTy cr_range1 hg hm boot_range ha (by decide) (by decide) hs rfl) fun σ H Q h => ?_
  obtain ⟨μ, S, η, hs, he, hr⟩ := h
  refine ⟨μ, S, η, hs, he, ?_⟩
  unfold ev at hr
  simp only [evs, ev, MP.R.bind_ok] at hr ⊢
  cases e1 : ev Φ F ca η S with
  | ex _ _ => rw [e1] at hr; exact hr.elim
  | no => rw [e1] at hr; exact hr.elim
  | ok x S1 =>
    rw [e1, MP.R.bind_ok] at hr
    rw [MP.R.bind_ok]
    intro μ1 H1 vs x1 s1 r1
    obtain ⟨v, rfl, r2⟩ := rvs1 r1
    cases r2 <;> try exact hr.elim
    rename_i j
    by_cases hb : rngOk 0 j
    · simp only [if_pos hb] at hr
      exact ⟨j, rfl, new_rng (Res.ext hr x1) s1 hb⟩
    · simp only [if_neg hb] at hr
      exact hr.elim
theorem d_rng2 (hg : Gl X "range") (hm : X.mg "range" = none) (ha : PAd X rw Φ F [a, b] (.cons ca (.cons cb .nil))) (hs : starEach [a, b] X.env = (false, eval a X.env) :: starEach [b] X.env) (hpl : (backTo pos (starEach [b] X.env)).any (·.1) = false) : PEd X rw Φ F (.Call (.Name "range" p) [a, b] [] pos) (.rngv ca cb) := by
  refine PEw (pe_callTy cr_range2 hg hm boot_range ha (by decide) (by decide) hs hpl) fun σ H Q h => ?_
  obtain ⟨μ, S, η, hs, he, hr⟩ := h
  refine ⟨μ, S, η, hs, he, ?_⟩
  unfold ev at hr
  simp only [evs, MP.R.bind_ok]
  cases e1 : ev Φ F ca η S with
  | ex _ _ => rw [e1] at hr; exact hr.elim
  | no => rw [e1] at hr; exact hr.elim
  | ok x S1 =>
    rw [e1, MP.R.bind_ok] at hr
    rw [MP.R.bind_ok]
    cases e2 : ev Φ F cb η S1 with
    | ex _ _ => rw [e2] at hr; exact hr.elim
    | no => rw [e2] at hr; exact hr.elim
    | ok y S2 =>
      rw [e2, MP.R.bind_ok] at hr
      rw [MP.R.bind_ok]
      intro μ1 H1 vs x1 s1 r1
      obtain ⟨v, u, rfl, r2, r3⟩ := rvs2 r1
      cases r2 <;> try exact hr.elim
      rename_i i
      cases r3 <;> try exact hr.elim
      rename_i j
      by_cases hb : rngOk i j
      · simp only [if_pos hb] at hr
        exact ⟨i, j, rfl, new_rng (Res.ext hr x1) s1 hb⟩
      · simp only [if_neg hb] at hr
        exact hr.elim
/-! ### a, b = x, y of names -/
theorem rd_par {is : List Nat} {cs : Tms} {E : Ends} {σ : L2.St} {H : Hp} {P : List V → Hp → Prop} (h : rdS X.K (ex Φ F (.par is cs)) E σ H) (f : ∀ vs H1, vs.length = is.length → E.nx (setVs σ is vs) H1 → P vs H1) : rdA X.K true (evs Φ F cs) σ H P := by
  obtain ⟨μ, S, η, hs, he, hr⟩ := h
  unfold ex at hr
  refine ⟨μ, S, η, hs, he, res_bind hr fun ds S1 μ1 H1 vs x1 s1 r1 q1 => ?_⟩
  cases e : setNs η is ds with
  | none => rw [e] at q1; exact q1.elim
  | some η' =>
    rw [e] at q1
    obtain ⟨e1, e2⟩ := setNs_rep (he.ext x1) r1 e
    exact f vs H1 (by rw [← r1.length]; exact e1) (show goD E (.nx _) H1 from q1.ok s1 (.nx e2))
theorem s_par2 {i j : Nat} {x y : Str} {px py pt : Pos} {kt k2 : Nat} {pt2 : Pos} {cs : Tms} (O : Okx X) (hi : X.N[i]? = some x) (hj : X.N[j]? = some y) (hij : i ≠ j) (hx : X.env.scope.names.lookup x = some .local) (hy : X.env.scope.names.lookup y = some .local) (ha : PAd X true Φ F [a, b] cs)
    (hw : swappedStores [.Tuple [.Name x px, .Name y py] kt pt] (.Tuple [a, b] k2 pt2) X.env = pure (some [x, y])) : PSd X Φ F (.Assign [.Tuple [.Name x px, .Name y py] kt pt] (.Tuple [a, b] k2 pt2) pos) (.par [i, j] cs) :=
  PSw (ps_par O.calm O.nd hi hj hij hx hy ha hw rfl) fun E σ H h => rd_par h fun vs H1 hl q => by
    match vs, hl, q with
    | [v, w], _, q => exact ⟨v, w, rfl, q⟩
theorem s_par3 {i j l : Nat} {x y z : Str} {px py pz pt : Pos} {kt k2 : Nat} {pt2 : Pos} {cs : Tms} (O : Okx X) (hi : X.N[i]? = some x) (hj : X.N[j]? = some y) (hl : X.N[l]? = some z) (hij : i ≠ j) (hil : i ≠ l) (hjl : j ≠ l) (hx : X.env.scope.names.lookup x = some .local) (hy : X.env.scope.names.lookup y = some .local) (hz : X.env.scope.names.lookup z = some .local) (ha : PAd X true Φ F [a, b, c] cs)
    (hw : swappedStores [.Tuple [.Name x px, .Name y py, .Name z pz] kt pt] (.Tuple [a, b, c] k2 pt2) X.env = pure (some [x, y, z])) : PSd X Φ F (.Assign [.Tuple [.Name x px, .Name y py, .Name z pz] kt pt] (.Tuple [a, b, c] k2 pt2) pos) (.par [i, j, l] cs) :=
  PSw (ps_par3 O.calm O.nd hi hj hl hij hil hjl hx hy hz ha hw rfl) fun E σ H h => rd_par h fun vs H1 hl q => by
    match vs, hl, q with
    | [u, v, w], _, q => exact ⟨u, v, w, rfl, q⟩
theorem Res.mono {α β : Type} {K : PySem.W.Frag} {rep : Mp → Hp → α → β → Prop} {μ : Mp} {H : Hp} {r : R α} {Q Q' : β → Hp → Prop} (h : Res K rw rep μ H r Q) (f : ∀ v H, Q v H → Q' v H) : Res K rw rep μ H r Q' := by
  cases r with
  | ok d S => exact fun μ' H' v x s q => f _ _ (h μ' H' v x s q)
  | ex _ _ => exact h
  | no => exact h
/-- several targets of any form -/
theorem g_two {t1 t2 : Expr} {g1 g2 : Ta} {k : Nat} (hc : X.calm = true) (h1 : PGd X Φ F t1 g1) (h2 : PGd X Φ F t2 g2) (hs1 : (assignEach [t1, t2] X.env).map (·.2) = assign t1 X.env :: (assignEach [t2] X.env).map (·.2)) (hs2 : (assignEach [t2] X.env).map (·.2) = assign t2 X.env :: (assignEach [] X.env).map (·.2))
    (hn : (assignEach [t1, t2] X.env).length = 2) (hst : (assignEach [t1, t2] X.env).findIdx? (·.1) = none) : PGd X Φ F (.Tuple [t1, t2] k pos) (.two g1 g2) :=
  PGw (pg_tup hc (pgs_cons h1 (pgs_cons h2 pgs_nil hs2) hs1) hn hst) fun v σ H Q h => by
    obtain ⟨μ, S, η, d, hs, he, rv, hr⟩ := h
    unfold assignT at hr
    cases rv <;> try exact hr.elim
    rename_i l ds vs a1 a2 a3
    match ds, a3, hr with
    | [d1, d2], a3, hr =>
      obtain ⟨v1, v2, rfl, r1, r2⟩ := rvs2 a3
      simp only at hr
      refine ⟨l, _, rfl, .of a2, rfl, v1, _, rfl, μ, S, η, d1, hs, he, r1, res_bind hr fun η' S1 μ1 H1 σ1 x1 s1 e1 q1 => ?_⟩
      refine ⟨v2, _, rfl, μ1, S1, η', d2, s1, e1, RV.ext x1 _ _ r2, ?_⟩
      exact Res.mono q1 fun σ2 H2 q => ⟨rfl, q⟩
    | [], a3, hr => exact hr.elim
    | [_], a3, hr => exact hr.elim
    | _ :: _ :: _ :: _, a3, hr => exact hr.elim
end
end MP

set_option Elab.async false
set_option linter.all false
set_option maxRecDepth 100000
set_option maxHeartbeats 4000000
/-! MP15: binding. -/
namespace MP
open PySem L2
open PySem.Spec PyProof.Rows
theorem lookup_app {β : Type} (x : Str) : ∀ (as bs : List (Str × β)), (as ++ bs).lookup x = (match as.lookup x with
    | some v => some v
    | none => bs.lookup x)
  | [], _ => rfl
  | (y, v) :: r, bs => by
    simp only [List.cons_append, List.lookup_cons]
    cases h : x == y with
    | true => rfl
    | false => exact lookup_app x r bs
theorem lookup_zip {β : Type} : ∀ {ns : List Str} {vs : List β} {i : Nat} {n : Str} {v : β}, ns.Nodup → ns[i]? = some n → vs[i]? = some v → (ns.zip vs).lookup n = some v
  | [], _, _, _, _, _, h, _ => by simp at h
  | _ :: _, [], _, _, _, _, _, h => by simp at h
  | m :: ns, w :: vs, 0, n, v, nd, h1, h2 => by
    simp at h1 h2
    subst h1 h2
    simp [List.lookup_cons]
  | m :: ns, w :: vs, i + 1, n, v, nd, h1, h2 => by
    rw [List.zip_cons_cons, List.lookup_cons]
    have hm : n ∈ ns := List.mem_of_getElem? (i := i) (by simpa using h1)
    have hne : (n == m) = false := by
      rw [beq_eq_false_iff_ne]
      intro e
      subst e
      exact (List.nodup_cons.mp nd).1 hm
    rw [hne]
    exact lookup_zip (List.nodup_cons.mp nd).2 (by simpa using h1) (by simpa using h2)
theorem zip_lookup {β : Type} {ns : List Str} {vs : List β} (nd : ns.Nodup) (hl : vs.length = ns.length) : ∀ n ∈ ns, ∃ v, (ns.zip vs).lookup n = some v := fun n hn => by
  obtain ⟨i, hi, e⟩ := List.mem_iff_getElem.mp hn
  exact ⟨vs[i]'(by omega), lookup_zip nd (by rw [List.getElem?_eq_getElem hi, e]) (by rw [List.getElem?_eq_getElem])⟩
theorem zip_self {β : Type} {all : List (Str × β)} : ∀ {ns : List Str} {vs : List β}, vs.length = ns.length → (∀ (i : Nat) (n : Str) (v : β), ns[i]? = some n → vs[i]? = some v → all.lookup n = some v) → ns.filterMap (fun n => (all.lookup n).map fun x => (n, x)) = ns.zip vs
  | [], vs, _, _ => by simp
  | n :: ns, [], h, _ => by cases h
  | n :: ns, v :: vs, h, f => by
    rw [List.filterMap_cons, f 0 n v rfl rfl]
    simp only [Option.map_some, List.zip_cons_cons]
    rw [zip_self (by simpa using h) fun i m w h1 h2 => f (i + 1) m w (by simpa using h1) (by simpa using h2)]
theorem bind_plain {fd : FuncData} {ps : List Str} (h1 : fd.params.posonlyargs = []) (h2 : fd.params.args.map (·.arg) = ps) (h3 : fd.params.kwonlyargs = []) (h4 : fd.params.vararg = none) (h5 : fd.params.kwarg = none) (h6 : fd.defaults = .none) (nd : ps.Nodup)
    {us : List Value} (hl : us.length = ps.length) : bindArgs fd ⟨us, []⟩ = pure (ps.zip us) := by
  unfold bindArgs
  simp only [h1, h2, h3, h4, h5, h6, List.map_nil, List.nil_append, List.append_nil]
  have hs : seqItems? Value.none = pure none := rfl
  have hm : ps.filter (fun n => (List.lookup n (ps.zip us)).isNone) = [] := by
    rw [List.filter_eq_nil_iff]
    intro n hn
    obtain ⟨v, e⟩ := zip_lookup nd hl n hn
    rw [e]; simp
  have hf : ps.filterMap (fun n => (List.lookup n (ps.zip us)).map fun x => (n, x)) = ps.zip us := zip_self hl fun i n v e1 e2 => lookup_zip nd e1 e2
  simp [hl, hs, hm, hf]
end MP

set_option Elab.async false
set_option linter.all false
set_option maxRecDepth 100000
set_option maxHeartbeats 4000000
/-! MP16: defs and their calls. -/
namespace MP
open PySem L2
open PySem.Spec PyProof.Rows
def CXn : CXT := fun _ _ _ _ _ _ => False
abbrev noE : XK := fun _ _ _ => False
abbrev Sg := List V → Hp → VK → Prop
/-- a def's promise, where nothing is being shown -/
structure GOk (P : Program) (w : World) (K : PySem.W.Frag) (mg : Str → Option Value) (base : Heap) (k : Nat) (f : Addr) (fd : FuncData) (ps : List Str) (sp : Sg) : Prop where
  len : ∀ vs H Q, sp vs H Q → vs.length = ps.length
  run : ∀ (A : Around) (outer : List PySem.Env) (s : Shared) (H : Hp) (args : Args) (us : List Value) (vs : List V) (Q : VK), Room k A → A.guards = some [] → Env0 P w K mg base A outer s H → BindsTo s fd args (ps.zip us) → Vals vs us → sp vs H Q →
    codeAny (model P w) A (.call (.ref f) args) (CR CXn outer P w H s Q noE) s
section
variable {P : Program} {w : World} {K : PySem.W.Frag} {mg : Str → Option Value} {base : Heap}
theorem GOk.mono {j k : Nat} {f : Addr} {fd : FuncData} {ps : List Str} {sp : Sg} (G : GOk P w K mg base j f fd ps sp) (h : j ≤ k) : GOk P w K mg base k f fd ps sp :=
  ⟨G.len, fun A outer s H args us vs Q hr => G.run A outer s H args us vs Q (hr.mono h)⟩
theorem gok_of {k : Nat} {f : Addr} {name qual : Str} {params : Arguments} {body : List Stmt} {scope : Scope} {dV kV doc pm cdv ct oc : Value} {an od : Option Addr} {osl : Array (Option Value)} {N ps : List Str} {sp : Sg}
    (at_ : K.lookup f = some ⟨oc, od, .func (PySem.W.fnOf name qual params body scope dV kV doc pm an cdv ct), osl⟩) (code : PySem.W.codeIn K cdv qual = true) (S : FnScope N ps scope) (len : ∀ vs H Q, sp vs H Q → vs.length = ps.length)
    (go : ∀ (A : Around) (outer : List PySem.Env) (s : Shared) (H : Hp) (vs : List V) (Q : VK), Room k (A.deeper (envOfC qual scope s.heap.objs.size f cdv)) → A.guards = some [] → sp vs H Q →
      ∃ t, PSs (cxOf CXn P w K mg base N qual scope f cdv A outer s H noE) body t ∧ t { nx := fun _ H' => Q .non H', rt := Q } (start N vs) H) :
    GOk P w K mg base (k + 1) f (PySem.W.fnOf name qual params body scope dV kV doc pm an cdv ct) ps sp := by
  refine ⟨len, fun A outer s H args us vs Q room gu e0 bind rel want => ?_⟩
  have many := len _ _ _ want
  have here : K.In s.heap := e0.mod.kin.keeps fun b o e => (e0.bs b o e).1
  have lim : s.heap.NoLimit := e0.mod.nolimit.keeps fun b o e => (e0.bs b o e).1
  have kinds : ∀ y ∈ ps.zip us, scope.names.lookup y.1 = some .local ∨ (scope.names.lookup y.1 = some .cell ∧ ((cellsFrom (s.heap.objs.size + 1) scope.names []).lookup y.1).isSome = true) := by
    rintro ⟨n, v⟩ hy
    exact (S.par n (List.of_mem_zip hy).1).imp id fun q => ⟨q, PySem.W.cellsFrom_some _ _ _ (.inl q)⟩
  refine codeAny_call_function room.depth (here _ _ at_) rfl S.co S.gen rfl (PySem.W.codeRec_of here code) (bind _ _ _ _ ?_)
  refine wpAny_newFunctionEnv_cells S.kind kinds fun env he s1 x => ?_
  subst he
  refine ⟨lim.keeps x.toInCall.keep, codeAny_func ?_⟩
  obtain ⟨t, ht, hq⟩ := go A outer s H vs Q (room.deeper _) gu want
  have J : L2.Inv (cxOf CXn P w K mg base N qual scope f cdv A outer s H noE) [] (start N vs) H s1 := inv_start S room.hd e0 many rel x
  have fin : ∀ {σ' : L2.St} {H' : Hp} {s' : Shared} {v : V} {u : Value}, L2.Inv (cxOf CXn P w K mg base N qual scope f cdv A outer s H noE) [] σ' H' s' → RelV v u → Q v H' → CE outer P w H s Q u s' := fun {σ' H' s' v u} Z rv q => ⟨v, H', Z.os, Z.bare, Z.base, Z.hok, rv, q⟩
  refine wpAny_mono (ht.run [] s1 (start N vs) H _ J hq) (fun fl s' hs => ?_) fun e s' hs => hs
  cases fl with
  | ret u =>
    obtain ⟨v, σ', H', Z, rv, q⟩ := hs
    exact fin Z rv q
  | next =>
    obtain ⟨σ', H', Z, q⟩ := hs
    exact fin (v := .non) (u := .none) Z rfl q
  | brk =>
    obtain ⟨_, _, _, q⟩ := hs
    exact q.elim
  | cont =>
    obtain ⟨_, _, _, q⟩ := hs
    exact q.elim
end
section
variable {X : Cx} {k : Nat} {f : Addr} {fd : FuncData} {ps ks : List Str} {sp : Sg} {x : Str} {p pos : Pos} {e : Expr} {es : List Expr} {kws : List Keyword} {t tk : TA}
theorem run_g {pins : List (Addr × Obj)} {σ : L2.St} {H : Hp} {s : Shared} {Q : VK} {args : Args} {us : List Value} {vs : List V} (G : GOk X.prog X.w X.K X.mg X.base k f fd ps sp) (hr : Room k X.A) (gu : X.A.guards = some []) (I : L2.Inv X pins σ H s) (hb : us.length = ps.length → BindsTo s fd args (ps.zip us)) (r : Vals vs us) (h : sp vs H Q) :
    codeAny (model X.prog X.w) X.A (.call (.ref f) args) (fun r s' => match r with
      | .ok (.ret u) => EP X pins σ Q u s'
      | _ => False) s := by
  have hl : us.length = ps.length := by rw [← r.length]; exact G.len _ _ _ h
  refine codeAny_mono (G.run X.A X.stack s H args us vs Q hr gu I.env0 (hb hl) r h) fun r s' hq => ?_
  cases r with
  | error e => exact hq.elim
  | ok fl =>
    cases fl with
    | ret u => exact I.after hq
    | next => exact hq.elim
    | brk => exact hq.elim
    | cont => exact hq.elim
theorem call_g {pins : List (Addr × Obj)} {σ : L2.St} {H : Hp} {s : Shared} {Q : VK} {us ws zs : List Value} {vs : List V} (G : GOk X.prog X.w X.K X.mg X.base k f fd ps sp) (hr : Room k X.A) (gu : X.A.guards = some []) (I : L2.Inv X pins σ H s) (hb : zs.length = ps.length → BindsTo s fd ⟨us, ks.zip ws⟩ (ps.zip zs)) (r : Vals vs zs) (h : sp vs H Q) :
    wpAny (model X.prog X.w) X.A (call (.ref f) us (ks.zip ws)) (EP X pins σ Q) X.xe s := by
  refine wpAny_call (codeAny_mono (run_g G hr gu I hb r h) fun r s' hq => ?_)
  cases r with
  | error e => exact hq.elim
  | ok fl =>
    cases fl with
    | ret u => exact hq
    | next => exact hq.elim
    | brk => exact hq.elim
    | cont => exact hq.elim
/-- f(..) -/
theorem pe_g {ge : Str → Option Value} (G : GOk X.prog X.w X.K X.mg X.base k f fd ps sp) (hr : Room k X.A) (gu : X.A.guards = some []) (hg : Gl X x) (hm : X.mg x = some (.ref f)) (hk : PySem.W.keepIn X.K (.ref f) = true) (hb : ∀ us : List Value, us.length = ps.length → bindArgs fd ⟨us, []⟩ = pure (ps.zip us))
    (ha : PA X (e :: es) t) (hdb : (x == ("__debug__" : Str)) = false) (he : starEach (e :: es) X.env = (false, eval e X.env) :: starEach es X.env) (hpl : (backTo pos (starEach es X.env)).any (·.1) = false) :
    PE X (.Call (.Name x p) (e :: es) [] pos) (fun σ H Q => t σ H fun vs H1 => sp vs H1 Q) := by
  refine ⟨fun pins s σ H Q I h => ?_⟩
  refine wpAny_Call_Name_kw (ld_glob I hg hm ?_ hdb)
  refine PySem.W.callWith_K (h₀ := X.base) I.ok.mod.kin hk (thn (ha.run pos pins s σ H _ I h) fun us s1 ⟨vs, H1, I1, r, q⟩ => ⟨I1.kIn, ?_⟩) he hpl
  exact call_g (ks := []) (ws := []) G hr gu I1 (fun hl => .of_eq (hb us hl)) r q
theorem pe_g0 (G : GOk X.prog X.w X.K X.mg X.base k f fd ps sp) (hr : Room k X.A) (gu : X.A.guards = some []) (hg : Gl X x) (hm : X.mg x = some (.ref f)) (hk : PySem.W.keepIn X.K (.ref f) = true) (hb : ∀ us : List Value, us.length = ps.length → bindArgs fd ⟨us, []⟩ = pure (ps.zip us)) (hdb : (x == ("__debug__" : Str)) = false) :
    PE X (.Call (.Name x p) [] [] pos) (fun σ H Q => sp [] H Q) := by
  refine ⟨fun pins s σ H Q I h => ?_⟩
  refine wpAny_Call_Name_kw (ld_glob I hg hm ?_ hdb)
  exact PySem.W.callWith_K0 I.kIn hk (call_g (us := []) (zs := []) (ks := []) (ws := []) G hr gu I (fun hl => .of_eq (hb [] hl)) .nil h)
/-- f(k = .., ..), keywords alone -/
theorem pe_gk {is : List Nat} (G : GOk X.prog X.w X.K X.mg X.base k f fd ps sp) (hr : Room k X.A) (gu : X.A.guards = some []) (hg : Gl X x) (hm : X.mg x = some (.ref f)) (hk : PySem.W.keepIn X.K (.ref f) = true)
    (hb : ∀ ws zs : List Value, optMap (fun i => ws[i]?) is = some zs → ws.length = is.length → bindArgs fd ⟨[], ks.zip ws⟩ = pure (ps.zip zs))
    (hkw : PK X kws tk) (hall : (backToKw pos (keywordEach kws X.env)).all (·.1.isSome) = true) (hks : (backToKw pos (keywordEach kws X.env)).filterMap (·.1) = ks) (hdb : (x == ("__debug__" : Str)) = false)
    (hpl : ((backTo pos (starEach [] X.env)).any (·.1) || (backToKw pos (keywordEach kws X.env)).any (·.1.isNone)) = false) :
    PE X (.Call (.Name x p) [] kws pos) (fun σ H Q => tk σ H fun vs H1 => vs.length = is.length ∧ ∃ zs, optMap (fun i => vs[i]?) is = some zs ∧ sp zs H1 Q) := by
  refine ⟨fun pins s σ H Q I h => ?_⟩
  refine wpAny_Call_Name_kw (ld_glob I hg hm ?_ hdb)
  refine PySem.W.callWith_KW0 (h₀ := X.base) I.ok.mod.kin hk hall (thn (hkw.run pos pins s σ H _ I h) fun us s1 ⟨vs, H1, I1, r, hl, zs, e, q⟩ => ⟨I1.kIn, ?_⟩) hpl
  rw [hks]
  have perm : ∀ {is : List Nat} {zs : List V}, optMap (fun i => vs[i]?) is = some zs → ∃ ys, optMap (fun i => us[i]?) is = some ys ∧ Vals zs ys := by
    intro is
    induction is with
    | nil => intro zs e; cases e; exact ⟨[], rfl, .nil⟩
    | cons i is ih =>
      intro zs e
      unfold optMap at e
      split at e <;> try contradiction
      rename_i v hv
      split at e <;> try contradiction
      rename_i ws hws
      cases e
      obtain ⟨u, hu, ru⟩ := r.get hv
      obtain ⟨ys, h1, h2⟩ := ih hws
      exact ⟨u :: ys, by unfold optMap; rw [hu, h1], .cons ru h2⟩
  obtain ⟨ys, h1, h2⟩ := perm e
  exact call_g (us := []) (zs := ys) G hr gu I1 (fun _ => .of_eq (hb us ys h1 (by rw [← r.length]; exact hl))) h2 q
end
/-- what a def of the table promises -/
def spOf (K : PySem.W.Frag) (m : List D → Sto → R D) (n : Nat) : Sg := fun vs H Q => vs.length = n ∧ ∃ μ S as, SRep K true μ S H ∧ RVs K μ H as vs ∧ Res K true (RV K) μ H (m as S) Q
/-- a def of the module that may be called -/
structure GFn (X : Cx) (Φ : Fns) (x : Str) (ps : List Str) (k : Nat) (f : Addr) (fd : FuncData) : Prop where
  mg : X.mg x = some (.ref f)
  keep : PySem.W.keepIn X.K (.ref f) = true
  ok : GOk X.prog X.w X.K X.mg X.base k f fd ps (spOf X.K (Φ x) ps.length)
  bind : ∀ us : List Value, us.length = ps.length → bindArgs fd ⟨us, []⟩ = pure (ps.zip us)
  ar : ∀ as S, as.length ≠ ps.length → Φ x as S = .no
section
variable {X : Cx} {Φ : Fns} {F : Str → Str → Bool} {k : Nat} {f : Addr} {fd : FuncData} {ps ks : List Str} {x : Str} {p pos : Pos} {e : Expr} {es : List Expr} {kws : List Keyword} {cs : Tms}
theorem d_call (G : GFn X Φ x ps k f fd) (O : Okx X) (hr : Room k X.A) (hg : Gl X x) (ha : PAd X true Φ F (e :: es) cs) (hdb : (x == ("__debug__" : Str)) = false) (he : starEach (e :: es) X.env = (false, eval e X.env) :: starEach es X.env) (hpl : (backTo pos (starEach es X.env)).any (·.1) = false) :
    PEd X true Φ F (.Call (.Name x p) (e :: es) [] pos) (.call x cs none) := by
  refine PEw (pe_g (ge := fun _ => none) G.ok hr O.gu hg G.mg G.keep G.bind ha hdb he hpl) fun σ H Q h => ?_
  refine rd_args (k := fun xs S1 => (match permute none xs with
      | some ys => Φ x ys S1
      | none => .no)) h fun μ S xs vs H hs r q => ?_
  have q : Res X.K true (RV X.K) μ H (Φ x xs S) Q := q
  refine ⟨?_, μ, S, xs, hs, r, q⟩
  rw [← r.length]
  exact Classical.byContradiction fun z => by
    rw [G.ar xs S z] at q; exact q
theorem d_call0 (G : GFn X Φ x ps k f fd) (O : Okx X) (hr : Room k X.A) (hg : Gl X x) (hdb : (x == ("__debug__" : Str)) = false) : PEd X true Φ F (.Call (.Name x p) [] [] pos) (.call x .nil none) := by
  refine PEw (pe_g0 G.ok hr O.gu hg G.mg G.keep G.bind hdb) fun σ H Q h => ?_
  obtain ⟨μ, S, η, hs, he, hr⟩ := h
  unfold ev at hr
  simp only [evs, MP.R.bind_ok, permute] at hr
  refine ⟨?_, μ, S, [], hs, .nil, hr⟩
  exact Classical.byContradiction fun z => by
    have := G.ar [] S (by simpa using z)
    rw [this] at hr; exact hr
/-- keywords' values -/
theorem pk_nilD : PK X [] (rdA X.K true (evs Φ F .nil)) := ⟨fun pos pins s σ H Q I h => pk_nil.run pos pins s σ H Q I (by
  obtain ⟨μ, S, η, hs, he, hr⟩ := h
  simp only [evs] at hr
  exact hr.ok (v := []) hs .nil)⟩
theorem pk_consD {ce : Tm} {nm : Option Str} {kpos : Pos} (ha : PEd X true Φ F e ce) (hr : PK X kws (rdA X.K true (evs Φ F cs))) : PK X (⟨nm, e, kpos⟩ :: kws) (rdA X.K true (evs Φ F (.cons ce cs))) := ⟨fun pos pins s σ H Q I h => (pk_cons ha hr).run pos pins s σ H Q I (by
  obtain ⟨μ, S, η, hs, he, hr⟩ := h
  unfold evs at hr
  refine ⟨μ, S, η, hs, he, res_bind hr fun x S1 μ1 H1 v x1 s1 r1 q1 => ?_⟩
  refine ⟨μ1, S1, η, s1, he.ext x1, res_bind q1 fun xs S2 μ2 H2 vs x2 s2 r2 q2 => ?_⟩
  exact q2.ok s2 (.cons (RV.ext x2 _ _ r1) r2))⟩
theorem optMap_rep {K : PySem.W.Frag} {μ : Mp} {H : Hp} {ds : List D} {vs : List V} (r : RVs K μ H ds vs) : ∀ {is : List Nat} {es : List D}, optMap (fun i => ds[i]?) is = some es → ∃ zs, optMap (fun i => vs[i]?) is = some zs ∧ RVs K μ H es zs := by
  intro is
  induction is with
  | nil => intro es e; cases e; exact ⟨[], rfl, .nil⟩
  | cons i is ih =>
    intro es e
    unfold optMap at e
    split at e <;> try contradiction
    rename_i d hd
    split at e <;> try contradiction
    rename_i ws hws
    cases e
    obtain ⟨v, hv, rv⟩ := r.get hd
    obtain ⟨ys, h1, h2⟩ := ih hws
    exact ⟨v :: ys, by unfold optMap; rw [hv, h1], .cons rv h2⟩
theorem d_callK {is : List Nat} (G : GFn X Φ x ps k f fd) (O : Okx X) (hr : Room k X.A) (hg : Gl X x) (hb : ∀ ws zs : List Value, optMap (fun i => ws[i]?) is = some zs → ws.length = is.length → bindArgs fd ⟨[], ks.zip ws⟩ = pure (ps.zip zs))
    (hkw : PK X kws (rdA X.K true (evs Φ F cs))) (hall : (backToKw pos (keywordEach kws X.env)).all (·.1.isSome) = true) (hks : (backToKw pos (keywordEach kws X.env)).filterMap (·.1) = ks) (hdb : (x == ("__debug__" : Str)) = false)
    (hpl : ((backTo pos (starEach [] X.env)).any (·.1) || (backToKw pos (keywordEach kws X.env)).any (·.1.isNone)) = false) : PEd X true Φ F (.Call (.Name x p) [] kws pos) (.call x cs (some is)) := by
  refine PEw (pe_gk G.ok hr O.gu hg G.mg G.keep hb hkw hall hks hdb hpl) fun σ H Q h => ?_
  refine rd_args (k := fun xs S1 => (match permute (some is) xs with
      | some ys => Φ x ys S1
      | none => .no)) h fun μ S xs vs H hs r q => ?_
  split at q
  · rename_i ys e
    simp only [permute] at e
    split at e <;> try contradiction
    rename_i hl
    obtain ⟨zs, h1, h2⟩ := optMap_rep r e
    refine ⟨by rw [← r.length]; exact hl.symm, zs, h1, ?_, μ, S, ys, hs, h2, q⟩
    rw [← h2.length]
    exact Classical.byContradiction fun z => by
      rw [G.ar ys S z] at q; exact q
  · exact q.elim
end
end MP

set_option Elab.async false
set_option linter.all false
set_option maxRecDepth 100000
set_option maxHeartbeats 4000000
/-! MP17: a def's body keeps what its term promises. -/
namespace MP
open PySem L2
open PySem.Spec PyProof.Rows
mutual
theorem RV.low {K : PySem.W.Frag} {μ : Mp} {H : Hp} {n : Nat} (hn : μ.s.length = n) : ∀ (d : D) (v : V), RV K μ H d v → d.low n = true
  | .non, _, _ => by simp [D.low]
  | .bl _, _, _ => by simp [D.low]
  | .int _, _, _ => by simp [D.low]
  | .str _, _, _ => by simp [D.low]
  | .scr _, _, _ => by simp [D.low]
  | .rng _ _, _, _ => by simp [D.low]
  | .tup ds, _, h => by
    cases h with
    | tup h1 h2 h3 => simp only [D.low]; exact RVs.low hn _ _ h3
  | .lst ds, _, h => by
    cases h with
    | lst h1 h2 h3 => simp only [D.low]; exact RVs.low hn _ _ h3
  | .ref l, _, h => by
    cases h with
    | ref h1 => simp only [D.low, decide_eq_true_eq]; rw [← hn]; exact (List.getElem?_eq_some_iff.mp h1).1
theorem RVs.low {K : PySem.W.Frag} {μ : Mp} {H : Hp} {n : Nat} (hn : μ.s.length = n) : ∀ (ds : List D) (vs : List V), RVs K μ H ds vs → lowAll n ds = true
  | [], _, _ => by simp [lowAll]
  | d :: ds, _, h => by
    cases h with
    | cons h1 h2 => simp only [lowAll, Bool.and_eq_true]; exact ⟨RV.low hn _ _ h1, RVs.low hn _ _ h2⟩
end
/-- fewer places of the store -/
structure Cut (n : Nat) (μ μ' : Mp) : Prop where
  at_ : ∀ l, l < n → μ'.s[l]? = μ.s[l]?
  off : ∀ a, μ.off a → μ'.off a
mutual
theorem RV.cut {K : PySem.W.Frag} {μ μ' : Mp} {H : Hp} {n : Nat} (c : Cut n μ μ') : ∀ (d : D) (v : V), RV K μ H d v → d.low n = true → RV K μ' H d v
  | .non, _, h, _ => by cases h; exact .non
  | .bl b, _, h, _ => by cases h; exact .bl b
  | .int i, _, h, _ => by cases h; exact .int i
  | .str s, _, h, _ => by cases h; exact .str s
  | .tup ds, _, h, w => by
    simp only [D.low] at w
    cases h with
    | tup h1 h2 h3 => exact .tup (c.off _ h1) h2 (RVs.cut c _ _ h3 w)
  | .lst ds, _, h, w => by
    simp only [D.low] at w
    cases h with
    | lst h1 h2 h3 => exact .lst (c.off _ h1) h2 (RVs.cut c _ _ h3 w)
  | .ref l, _, h, w => by
    simp only [D.low, decide_eq_true_eq] at w
    cases h with
    | ref h1 => exact .ref (by rw [c.at_ l w]; exact h1)
  | .scr ns, _, h, _ => by
    cases h with
    | scr h =>
      rcases h with ⟨h1, h2⟩ | h
      · exact .scr (.inl ⟨c.off _ h1, h2⟩)
      · exact .scr (.inr h)
  | .rng lo hi, _, h, _ => by
    cases h with
    | rng h1 h2 h3 => exact .rng (c.off _ h1) h2 h3
theorem RVs.cut {K : PySem.W.Frag} {μ μ' : Mp} {H : Hp} {n : Nat} (c : Cut n μ μ') : ∀ (ds : List D) (vs : List V), RVs K μ H ds vs → lowAll n ds = true → RVs K μ' H ds vs
  | [], _, h, _ => by cases h; exact .nil
  | d :: ds, _, h, w => by
    simp only [lowAll, Bool.and_eq_true] at w
    cases h with
    | cons h1 h2 => exact .cons (RV.cut c _ _ h1 w.1) (RVs.cut c _ _ h2 w.2)
end
section
variable {K : PySem.W.Frag} {μ μ' : Mp} {H H' : Hp} {S S' : Sto}
theorem RK.cut {κ : Type} {n m : Nat} {μ0 : Mp} {H0 : Hp} (c : Cut n μ μ') (hn : μ0.s.length = n) : ∀ {kvs : List (κ × D)} {q p : List (κ × V)}, RK K μ0 H0 kvs p → RK K μ H kvs q → RK K μ' H kvs q
  | _, _, _, .nil, .nil => .nil
  | _, _, _, .cons r0 t0, .cons r t => .cons (RV.cut c _ _ r (RV.low hn _ _ r0)) (RK.cut (m := m) c hn t0 t)
theorem RO.cut {n : Nat} {μ0 : Mp} {H0 : Hp} (c : Cut n μ μ') (hn : μ0.s.length = n) {o : Ob} {h0 h1 : HO} (a : RO K μ0 H0 o h0) (b : RO K μ H o h1) : RO K μ' H o h1 := by
  cases b with
  | lst r => cases a with | lst r0 => exact .lst (RVs.cut c _ _ r (RVs.low hn _ _ r0))
  | dK r => cases a with | dK r0 => exact .dK (RK.cut (m := 0) c hn r0 r)
  | dT r => cases a with | dT r0 => exact .dT (RK.cut (m := 0) c hn r0 r)
  | ins r => cases a with | ins r0 => exact .ins (RK.cut (m := 0) c hn r0 r)
/-- what a def has made is forgotten -/
theorem trunc_rep {d : D} {v : V} (hs : SRep K true μ S H) (x : Ext true μ μ' H H') (s' : SRep K true μ' S' H') (ht : S'.take S.length = S) (r : RV K μ' H' d v) (hl : d.low S.length = true) :
    ∃ μ2, Ext true μ μ2 H H' ∧ SRep K true μ2 S H' ∧ RV K μ2 H' d v := by
  obtain ⟨ν, eν⟩ := x.pre
  have len : μ.s.length = S.length := hs.len
  have c : Cut S.length μ' ⟨μ.s, μ'.h⟩ := ⟨fun l hl => by show μ.s[l]? = _; rw [eν, List.getElem?_append_left (by omega)], fun a ha => ⟨fun z => ha.1 (by rw [eν]; exact List.mem_append_left _ z), ha.2⟩⟩
  refine ⟨⟨μ.s, μ'.h⟩, ⟨⟨[], by simp⟩, x.hid, x.sub, x.keep, x.stay, fun a h h' => absurd h h'⟩, ⟨len, hs.nd, fun a ha => ⟨(s'.hid a ha).1, fun z => (s'.hid a ha).2 (by rw [eν]; exact List.mem_append_left _ z)⟩, fun l o e => ?_⟩, RV.cut c _ _ r hl⟩
  obtain ⟨a0, h0, e1, e2, e3⟩ := hs.ob l o e
  have hll : l < S.length := (List.getElem?_eq_some_iff.mp e).1
  have e' : S'[l]? = some o := by
    rw [← ht, List.getElem?_take_of_lt hll] at e
    exact e
  obtain ⟨a1, h1, g1, g2, g3⟩ := s'.ob l o e'
  have ea : μ.s[l]? = some a1 := by rw [← c.at_ l hll] at g1; exact g1
  exact ⟨a1, h1, ea, g2, RO.cut c len e3 g3⟩
end
theorem erep_start {K : PySem.W.Frag} {μ : Mp} {H : Hp} {N : List Str} {as : List D} {vs : List V} (r : RVs K μ H as vs) : ERep K μ H (as.map some ++ List.replicate (N.length - as.length) none) (L2.start N vs) where
  len := by unfold L2.start; simp [r.length]
  get := fun i d h => by
    unfold L2.start
    by_cases hi : i < as.length
    · rw [List.getElem?_append_left (by simpa using hi), List.getElem?_map] at h
      obtain ⟨d', e, e2⟩ := map_some h
      cases e2
      obtain ⟨v, hv, rv⟩ := r.get e
      exact ⟨v, by rw [List.getElem?_append_left (by simpa [← r.length] using hi), List.getElem?_map, hv]; rfl, rv⟩
    · rw [List.getElem?_append_right (by simpa using hi), List.getElem?_replicate] at h
      split at h <;> cases h
section
variable {P : Program} {w : World} {K : PySem.W.Frag} {mg : Str → Option Value} {base : Heap} {F : Str → Str → Bool} {Φ : Fns}
theorem gok_def {k : Nat} {f : Addr} {name qual : Str} {params : Arguments} {body : List Stmt} {scope : Scope} {dV kV doc pm cdv ct oc : Value} {an od : Option Addr} {osl : Array (Option Value)} {N ps : List Str} {fn : Fn}
    (at_ : K.lookup f = some ⟨oc, od, .func (PySem.W.fnOf name qual params body scope dV kV doc pm an cdv ct), osl⟩) (code : PySem.W.codeIn K cdv qual = true) (S : FnScope N ps scope) (hps : fn.ps = ps.length) (hns : fn.ns = N.length)
    (go : ∀ (A : Around) (outer : List PySem.Env) (s : Shared) (H : Hp), Room k (A.deeper (envOfC qual scope s.heap.objs.size f cdv)) → A.guards = some [] → PSsd (cxOf CXn P w K mg base N qual scope f cdv A outer s H noE) Φ F body fn.body) :
    GOk P w K mg base (k + 1) f (PySem.W.fnOf name qual params body scope dV kV doc pm an cdv ct) ps (spOf K (callF F Φ fn) ps.length) := by
  refine gok_of at_ code S (fun vs H Q h => h.1) fun A outer s H vs Q room gu want => ⟨_, go A outer s H room gu, ?_⟩
  obtain ⟨hl, μ, St, as, hs, ra, hr⟩ := want
  have la : as.length = ps.length := by rw [ra.length]; exact hl
  have he : ERep K μ H (as.map some ++ List.replicate (fn.ns - fn.ps) none) (L2.start N vs) := by
    rw [hns, hps, ← la]
    exact erep_start ra
  refine ⟨μ, St, _, hs, he, ?_⟩
  have plain : ∀ {r : R Fl}, Res K true (RV K) μ H (r.bind fun fl S1 => (match fl with
      | .rt d => .ok d S1
      | .nx _ => .ok .non S1
      | _ => .no)) Q → Res K true (RFl K) μ H r (goD { nx := fun _ H' => Q .non H', rt := Q }) := fun h => res_bind h fun fl S1 μ1 H1 v x1 s1 r1 q1 => by
    cases r1 with
    | nx r => exact q1.ok (v := V.non) s1 .non
    | rt r => exact q1.ok s1 r
    | bk r => exact q1.elim
    | ct r => exact q1.elim
  have eb : MP.body F Φ fn as St = ((exs Φ F fn.body (as.map some ++ List.replicate (fn.ns - fn.ps) none) St).bind fun fl S1 => (match fl with
      | .rt d => .ok d S1
      | .nx _ => .ok .non S1
      | _ => .no)) := by
    unfold MP.body
    rw [if_pos (by rw [hps]; exact la)]
    all_goals rfl
  unfold callF at hr
  rw [eb] at hr
  split at hr
  · -- what is made is forgotten
    cases e : exs Φ F fn.body (as.map some ++ List.replicate (fn.ns - fn.ps) none) St with
    | ex _ _ => rw [e] at hr; exact hr.elim
    | no => rw [e] at hr; exact hr.elim
    | ok fl S1 =>
      rw [e] at hr
      intro μ1 H1 v x1 s1 r1
      have key : ∀ {d : D} {u : V}, Res K true (RV K) μ H (trunc St (.ok d S1)) Q → RV K μ1 H1 d u → Q u H1 := fun {d u} h r => by
        unfold trunc at h
        split at h
        · rename_i d' S2 heq
          cases heq
          split at h
          · rename_i hc
            obtain ⟨μ2, y, s2, r2⟩ := trunc_rep hs x1 s1 hc.1 r hc.2
            exact h μ2 H1 u y s2 r2
          · exact h.elim
        · exact h.elim
        · exact h.elim
      cases r1 with
      | nx r => exact key (u := V.non) hr .non
      | rt r => exact key hr r
      | bk r => exact hr.elim
      | ct r => exact hr.elim
  · exact plain hr
end
end MP

set_option Elab.async false
set_option linter.all false
set_option maxRecDepth 100000
set_option maxHeartbeats 4000000
/-! MP18: the law's call. -/
namespace MP
open PySem L2
open PySem.Spec PyProof.Rows
/-- the call of the law, by its promise -/
theorem law_g {P : Program} {w : World} {K : PySem.W.Frag} {mg mb : Str → Option Value} {k : Nat} {fa a : Addr} {fd : FuncData} {x : Str} {sp : Sg} {t : Shared} {vs : List Value} {ns : List Int}
    (inK : K.In t.heap) (gl : t.heap.Ns mainGlobals mg) (bl : t.heap.Ns builtinsNs mb) (boot : ∀ y : Str, y ≠ "__name__" → mb y = bootBuiltins y) (lim : t.heap.NoLimit) (gens : t.gens = #[])
    (obj : t.heap.get? a = some { cls := .type "list", data := .seq vs.toArray }) (nums : IntsAre vs ns) (many : ns.length ≤ sizeLine) (room : Room k callerA)
    (G : ∀ base : Heap, K.In base → base.Ns mainGlobals mg → GOk P w K mg base k fa fd [x] sp) (bind : ∀ (s : Shared) (u : Value), BindsTo s fd ⟨[u], []⟩ [(x, u)])
    (want : ∀ H : Hp, Only H → SqL K H a (ns.map V.int) → sp [.ref a] H fun v _ => v = .bl true) :
    codeAny (model P w) callerA (.call (.ref fa) ⟨[.ref a], []⟩) (fun r s' => r = .ok (.ret (.bool true)) ∧ OldK t.heap s'.heap ∧ s'.os = t.os ∧ AllBare s'.gens) t := by
  have rel := vals_ints nums
  have len := nums.length
  have main : ∀ H : Hp, Only H → SqL K H a (ns.map V.int) → HOk P w H t.heap → (∀ b, H b ≠ none → b = a) → (H a ≠ none → K.lookup a = none) →
      codeAny (model P w) callerA (.call (.ref fa) ⟨[.ref a], []⟩) (fun r s' => r = .ok (.ret (.bool true)) ∧ OldK t.heap s'.heap ∧ s'.os = t.os ∧ AllBare s'.gens) t := by
    intro H only seq hok alone apart
    have isA : ∀ {b : Addr} {u : HO}, H b = some u → b = a := fun {b u} q => alone b (by rw [q]; simp)
    have stays : ∀ {b : Addr} {o : Obj}, t.heap.get? b = some o → H b = none → (hidT t.heap H).get? b = some o := fun e n => hidT_get e n
    have noDict : ∀ {b : Addr} {o : Obj} {es : Array DictEntry} {ep : Nat}, t.heap.get? b = some o → o.data = .dict es ep → H b = none := fun {b o es ep} e d => by
      cases q : H b with
      | none => rfl
      | some u =>
        rw [isA q, obj] at e
        cases e
        exact nomatch (show Data.seq vs.toArray _ = Data.dict es ep from d)
    have nsB : ∀ {b : Addr} {m : Str → Option Value}, t.heap.Ns b m → (hidT t.heap H).Ns b m := fun {b m} ⟨o, es, ep, e, d, r⟩ => ⟨o, es, ep, stays e (noDict e d), d, r⟩
    have inB : K.In (hidT t.heap H) := fun b o e => stays (inK b o e) (by
      cases q : H b with
      | none => rfl
      | some u =>
        have ea := isA q
        rw [ea] at e q
        rw [apart (by rw [q]; simp)] at e
        cases e)
    have mod : Mod K mg (hidT t.heap H) := ⟨inB, nsB gl, ⟨mb, nsB bl, boot⟩, let ⟨mc, h1, h2⟩ := lim; ⟨mc, nsB h1, h2⟩⟩
    have e0 : Env0 P w K mg (hidT t.heap H) callerA [] t H := ⟨rfl, mod, fun b o e => of_hidT e, Nat.le_of_eq (hidT_size _ _), trivial, fun b hb => absurd (show b ∈ ([] : List Addr) from hb) (by simp), hok, .of_eq gens⟩
    refine codeAny_mono ((G _ inB (nsB gl)).run callerA [] t H ⟨[.ref a], []⟩ [.ref a] [.ref a] _ room rfl e0 (bind t (.ref a)) (.cons rfl .nil) (want H only seq)) fun r s' h => ?_
    cases r with
    | error e => exact h.elim
    | ok fl =>
      cases fl with
      | next => exact h.elim
      | brk => exact h.elim
      | cont => exact h.elim
      | ret u =>
        obtain ⟨v, H', os, bare, un, hok', rv, q⟩ := h
        have q' : v = .bl true := q
        subst q'
        cases (show u = Value.bool true from rv)
        refine ⟨rfl, OldK.of_keep fun b o e => ?_, os, bare⟩
        cases q : H b with
        | none => exact un.keep b o e q (by intro z; exact absurd (show b ∈ ([] : List Addr) from z) (by simp)) (by simp)
        | some u =>
          rcases only b with z | ⟨ob, xs, z⟩
          · rw [q] at z; cases z
          · obtain ⟨e1, _⟩ := hok b _ z
            obtain ⟨e2, _⟩ := hok' b _ (un.frzs b ob _ z)
            rw [e] at e1; cases e1
            exact e2
  cases own : K.lookup a with
  | some o =>
    have e := inK a o own
    rw [obj] at e
    cases e
    exact main (fun _ => none) (fun _ => .inl rfl) (.inr ⟨_, vs.toArray, _, own, rfl, rfl, rfl, by rw [List.size_toArray, len]; exact many, by simpa using rel⟩) (fun b u z => nomatch (show (none : Option HO) = some u from z)) (fun b z => absurd rfl z) fun z => absurd rfl z
  | none =>
    refine main (fun b => if b = a then some (.frz { cls := .type "list", data := .seq vs.toArray } (.lst (ns.map V.int))) else none) (fun b => ?_) (.inl (.inr ⟨{ cls := .type "list", data := .seq vs.toArray }, if_pos rfl⟩)) (fun b u z => ?_) (fun b z => ?_) fun _ => own
    · by_cases e : b = a
      · exact .inr ⟨_, _, if_pos e⟩
      · exact .inl (if_neg e)
    · by_cases e : b = a
      · have z := (if_pos e).symm.trans z
        cases z
        subst e
        exact ⟨obj, by rw [List.length_map]; exact many, vs, _, rel, obj⟩
      · have z := (if_neg e).symm.trans z
        cases z
    · exact Classical.byContradiction fun e => z (if_neg e)
theorem walk_g {l : PySem.W.OpenLaw} {n k : Nat} {q : Program} {loose : List Str} {XP : (Str → Option Value) → Heap → Prop} {YP : World → Heap → Prop} {d : DefRec} {x : Str}
    (hn : l.most = some n) (hn2 : n ≤ sizeLine) (hdf : d.params.defaults = []) (room : Room k callerA)
    (F : ∀ (w : World) (mg : Str → Option Value) (fa : Addr) (h : Heap), YP w h → h.Ns mainGlobals mg → mg d.name = some (.ref fa) →
      ∃ (K : PySem.W.Frag) (fd : FuncData) (m : List D → Sto → R D), K.In h ∧ (∀ (s : Shared) (u : Value), BindsTo s fd ⟨[u], []⟩ [(x, u)]) ∧
        (∀ ns : List Int, ns.length ≤ n → ∃ S, m [.scr ns] [] = .ok (.bl true) S) ∧
        ∀ base : Heap, K.In base → base.Ns mainGlobals mg → GOk l.prog w K mg base k fa fd [x] (spOf K m 1)) :
    PySem.W.WalkO q loose XP YP l.row.toRowW d [] (fun f vs => PySem.call f vs) := by
  refine Att.attach_call hn hdf fun w s₀ t mg mb fa o pm cd doc a vs ns G Y ho hd hcd hmg hobj hints hlen hg => ?_
  obtain ⟨K, fd, m, inK, hb, hm, hF⟩ := F w mg fa _ Y G.T.g hmg
  refine law_g inK G.T.g G.T.b G.T.builtins G.T.nolimit hg hobj hints (Nat.le_trans hlen hn2) room hF hb fun H only seq => ⟨rfl, ⟨[], []⟩, [], [.scr ns], ?_, .cons (.scr ?_) .nil, ?_⟩
  · exact ⟨rfl, List.nodup_nil, fun a h => absurd h (by simp), fun l o e => by simp at e⟩
  · rcases seq with z | z
    · exact .inl ⟨⟨by simp, by simp⟩, z⟩
    · exact .inr fun H' => .inr z
  · obtain ⟨S, e⟩ := hm ns hlen
    rw [e]
    intro μ' H' v x s r
    cases r; rfl
end MP

set_option Elab.async false
set_option linter.all false
set_option maxRecDepth 100000
set_option maxHeartbeats 4000000
/-! MP18a: sets of texts, made of lists. -/
namespace MP
open PySem L2
open PySem.Spec PyProof.Rows
section
variable {P : Program} {w : World} {A : Around} {E : Value → Shared → Prop} {s : Shared}
/-- the set of texts at a: ss its members; it can be walked -/
structure TxS (P : Program) (w : World) (hp : Heap) (a : Addr) (ss : List Str) : Prop where
  ob : ∃ D : Froz.SD, hp.get? a = some (Froz.sObj "set" D) ∧ Froz.TxOk P w D ss ∧ Ris D.2.2.place.toList ∧ (w.params.followText "set-order" = true ∨ D.2.2.led = true)
  nd : ss.Nodup
theorem TxS.keep {hp hp' : Heap} {a : Addr} {ss : List Str} (R : TxS P w hp a ss) (k : ∀ o, hp.get? a = some o → hp'.get? a = some o) : TxS P w hp' a ss := by
  obtain ⟨⟨D, h1, h2⟩, nd⟩ := R
  exact ⟨⟨D, k _ h1, h2⟩, nd⟩
theorem addTx_walk {D : Froz.SD} {x : Int} {v : Value} (hr : Ris D.2.2.place.toList) : Ris (Froz.addTx x v D).2.2.place.toList ∧ (Froz.addTx x v D).2.2.led = D.2.2.led := by
  have r1 := layNew_ris D.2.2 D.1 x v hr
  have l1 := layNew_led D.2.2 D.1 x v
  unfold Froz.addTx
  generalize layNew D.2.2 D.1 x v = Z at r1 l1 ⊢
  have key : ∀ t2 : SetTable, Ris t2.place.toList → t2.led = D.2.2.led → ∀ (ep : Nat) (es1 : Array (Int × Value)) (b : Bool), Ris (Froz.tailTx ep es1 t2 b).2.2.place.toList ∧ (Froz.tailTx ep es1 t2 b).2.2.led = D.2.2.led := fun t2 r2 l2 ep es1 b => by
    unfold Froz.tailTx
    split
    · exact ⟨relayAll_ris t2 es1 _, (relayAll_led t2 es1 _).trans l2⟩
    · exact ⟨r2, l2⟩
  split
  · exact key { Z.2.1 with plain := false } r1 l1 _ _ _
  · exact key _ r1 l1 _ _ _
theorem txs_in {a : Addr} {ss : List Str} {k : Str} {u : Tok} {Q : Bool → Shared → Prop} (R : TxS P w s.heap a ss) (hk : k ∈ ss) (hb : ss.length + 1 < scanBound) (q : Q false s) : wpAny (model P w) A (setAddHashed a (.str k u) (hashStr w k)) Q E s := by
  obtain ⟨⟨⟨es, ep, t⟩, ho, F, _, _⟩, _⟩ := R
  have hd : (Froz.sObj "set" (es, ep, t)).data = .set es ep t := rfl
  have hf : t.fits es.size = true := F.fit
  have hel : ElemsOf (strKind P w) es.toList := F.el
  have hsz : es.size = ss.length := F.sz
  have hb0 : es.size < scanBound := by omega
  have hkey : (strKind P w).is k (.str k u) = true := Froz.is_str k u
  unfold setAddHashed setAddHashedIn
  refine wpAny_holding (wpAny_bind (wpAny_setState_of ho hd hf ?_))
  dsimp only
  rw [byScan_of rfl hb0 hel]
  simp only [↓reduceIte]
  unfold setAddByScan
  refine wpAny_bind ?_
  refine wpAny_bind (wpAny_rule ?_)
  refine wpAny_bind (wpAny_setScan_of (knd := strKind P w) (k := k) hkey ho hd hf hel ?_)
  cases hr : List.findIdx? (fun e => (strKind P w).is k e.2) es.toList with
  | some j => exact wpAny_pure (wpAny_pure q)
  | none =>
    obtain ⟨e, he, z⟩ := (F.mem k).mp hk
    have := List.findIdx?_eq_none_iff.mp hr e he
    rw [z] at this; cases this
/-- a text is added -/
theorem txs_add {a : Addr} {ss : List Str} {k : Str} {u : Tok} {Q : Bool → Shared → Prop} (R : TxS P w s.heap a ss) (hb : ss.length + 1 < scanBound)
    (q : ∀ h' ss' b, Heap.SameBut a s.heap h' → TxS P w h' a ss' → (∀ x, x ∈ ss' ↔ x ∈ ss ∨ x = k) → ss'.length ≤ ss.length + 1 → Q b { s with heap := h' }) : wpAny (model P w) A (setAddHashed a (.str k u) (hashStr w k)) Q E s := by
  by_cases hk : k ∈ ss
  · refine txs_in R hk hb (q s.heap ss false (Heap.SameBut.refl a s.heap) R (fun x => ⟨.inl, fun z => z.elim id fun e => e ▸ hk⟩) (Nat.le_succ _))
  · obtain ⟨⟨D, ho, F, r, l⟩, nd⟩ := R
    obtain ⟨r2, l2⟩ := addTx_walk (x := hashStr w k) (v := .str k u) r
    refine Froz.add_x ho F hk hb (q _ (k :: ss) true (Heap.SameBut.update s.heap a _) ⟨⟨_, Froz.get_upd _ ho rfl, Froz.add_ok u F, r2, l.imp id fun z => by rw [l2]; exact z⟩, List.nodup_cons.mpr ⟨hk, nd⟩⟩ (fun x => ?_) (Nat.le_refl _))
    rw [List.mem_cons]; exact Or.comm
/-- what the set has of the first i texts -/
structure Has (ks : List Str) (i : Nat) (ss : List Str) : Prop where
  mem : ∀ x, x ∈ ss ↔ x ∈ ks.take i
  len : ss.length ≤ i
theorem Has.more {ks ss ss' : List Str} {i : Nat} {k : Str} (g : Has ks i ss) (h : ks[i]? = some k) (hm : ∀ x, x ∈ ss' ↔ x ∈ ss ∨ x = k) (hl : ss'.length ≤ ss.length + 1) : Has ks (i + 1) ss' := by
  refine ⟨fun x => ?_, Nat.le_trans hl (Nat.succ_le_succ g.len)⟩
  rw [hm x, g.mem x, List.take_succ, h]
  simp
theorem txs_fresh {hp : Heap} {a : Addr} (ho : hp.get? a = some { cls := .type "set", dict := none, data := .set #[] 0 (.fresh 0 0 (!w.params.followText "set-order")) }) : TxS P w hp a [] := by
  refine ⟨⟨(#[], 0, .fresh 0 0 (!w.params.followText "set-order")), ho, Froz.TxOk.nil rfl, List.Pairwise.nil, ?_⟩, List.nodup_nil⟩
  show _ ∨ (!w.params.followText "set-order") = true
  cases w.params.followText "set-order"
  · exact .inr rfl
  · exact .inl rfl
/-- the loop of set.update over texts -/
theorem txs_update {I : Addr} {fp wr : List Addr} {G : Array GenState → Array GenState → Prop} {n : Nat} {Pv : Nat → Value → Prop} {St : Nat → Shared → Prop} {R : Result → Shared → Prop}
    (W : WalksS P w A.in1 I fp wr G n Pv St) (S : Addr) (hSf : S ∉ fp) (ks : List Str) (hn : n = ks.length) (hfew : ks.length + 1 < scanBound) (hval : ∀ i v, Pv i v → ∃ k u, ks[i]? = some k ∧ v = .str k u)
    (h0 : Heap) (hS0 : h0.get? S = none) (hw0 : ∀ b ∈ wr, h0.get? b = none) :
    ∀ (k i : Nat) (s : Shared), n - i = k → i ≤ n → St i s → (∀ b o, h0.get? b = some o → s.heap.get? b = some o) → (∃ ss, TxS P w s.heap S ss ∧ Has ks i ss) →
      (∀ s' ss, Moved (S :: wr) G s s' → TxS P w s'.heap S ss → Has ks n ss → (∀ b o, h0.get? b = some o → s'.heap.get? b = some o) → R (.ok (.ret .none)) s') →
      codeAny (model P w) A (.builtin "set.update.loop" ⟨[.ref S, .ref I], []⟩) R s := by
  have hSw : S ∉ wr := fun z => hSf (W.sub _ z)
  have hsub : ∀ b ∈ wr, b ∈ S :: wr := fun b hb => List.mem_cons_of_mem _ hb
  have keepM : ∀ {s s' : Shared}, Moved wr G s s' → (∀ b o, h0.get? b = some o → s.heap.get? b = some o) → ∀ b o, h0.get? b = some o → s'.heap.get? b = some o := fun hm hkp b o e =>
    hm.heap b o (fun hb => by rw [hw0 b hb] at e; cases e) (hkp b o e)
  intro k
  induction k with
  | zero =>
    intro i s hk' hi hst hkp ⟨ss, hS, g⟩ hR
    have hin : i = n := by omega
    subst hin
    refine codeAny_builtin F.entry_set_update_loop ?_
    rw [Around.under_plainId F.plain_set_update_loop _]
    show wpAny _ A.in1 (pyNext (.ref I) >>= _) _ _ s
    refine wpAny_bind (W.done s _ _ hst fun s' hm => ?_)
    show wpAny _ A.in1 (ret Value.none) _ _ s'
    exact wpAny_pure (hR s' ss (hm.mono hsub) (hS.keep fun o e => hm.heap S o hSw e) g (keepM hm hkp))
  | succ k ih =>
    intro i s hk' hi hst hkp ⟨ss, hS, g⟩ hR
    have hlt : i < n := by omega
    refine codeAny_builtin F.entry_set_update_loop ?_
    rw [Around.under_plainId F.plain_set_update_loop _]
    show wpAny _ A.in1 (pyNext (.ref I) >>= _) _ _ s
    refine wpAny_bind (W.item i s _ _ hlt hst fun v s' hP hst' hm => ?_)
    obtain ⟨x, u, hx, rfl⟩ := hval i v hP
    have hkp' := keepM hm hkp
    have hS' : TxS P w s'.heap S ss := hS.keep fun o e => hm.heap S o hSw e
    show wpAny _ A.in1 (holding [Value.str x u] (setAdd S (.str x u)) >>= _) _ _ s'
    refine wpAny_bind (wpAny_holding ?_)
    unfold setAdd
    refine wpAny_holding ?_
    refine wpAny_bind ((strKind P w).pyHash (Froz.is_str x u) ?_)
    refine txs_add (s := { s' with toks := s'.toks + 1 }) hS' (by have := g.len; omega) fun h' ss' b hsb hS2 c1 c2 => ?_
    have hkp2 : ∀ b o, h0.get? b = some o → h'.get? b = some o := fun b o e => (hsb.2 b (fun z => by rw [z, hS0] at e; cases e)).trans (hkp' b o e)
    refine wpAny_pure ⟨plainId_quiet F.plain_set_update_loop _, ih (i + 1) _ (by omega) hlt (W.frame _ s' _ _ hst' (Nat.le_add_right _ _) fun b hb o e => ?_) hkp2 ⟨ss', hS2, g.more hx c1 c2⟩ fun s'' ss2 hm'' hS'' g'' hkp'' => ?_⟩
    · rw [hsb.2 b (fun z : b = S => hSf (by rw [← z]; exact hb))]; exact e
    · refine hR s'' ss2 (Moved.trans W.gtrans ((hm.mono hsub).then_heap (Nat.le_add_right _ _) fun b o hb e => ?_) hm'') hS'' g'' hkp''
      rw [hsb.2 b (fun z : b = S => hb (by rw [z]; exact List.mem_cons_self))]; exact e
end
end MP

set_option Elab.async false
set_option linter.all false
set_option maxRecDepth 100000
set_option maxHeartbeats 4000000
/-! MP18b: set(..) of texts. -/
namespace MP
open PySem L2
open PySem.Spec PyProof.Rows
section
variable {P : Program} {w : World} {A : Around} {E : Value → Shared → Prop} {s : Shared}
theorem call_set_txts {l : Addr} {items : Array Value} (ks : List (Str × Tok)) {Q : Value → Shared → Prop} (hh : A.handled = none) (hl : s.heap.IsList l items) (hit : items.toList = ks.map fun p => Value.str p.1 p.2)
    (hfew : ks.length + 1 < scanBound)
    (h : ∀ (h' : Heap) (tk : Nat) ss, TxS P w h' s.heap.objs.size ss → Has (ks.map (·.1)) ks.length ss → (∀ b o, s.heap.get? b = some o → h'.get? b = some o) → Q (.ref s.heap.objs.size) { s with heap := h', toks := tk }) :
    wpAny (model P w) A (call (.type "set") [.ref l]) Q E s := by
  have hisz : items.size = ks.length := by
    have q := congrArg List.length hit
    rw [Array.length_toList, List.length_map] at q
    exact q
  obtain ⟨c, tl, hmro⟩ := F.called_set.mro
  have hmade := F.called_set.made
  have hsub := F.called_set.sub
  refine wpAny_call (codeAny_of_tree ?_)
  show wpAny _ _ (callAny (.type "set") _) _ _ _
  refine wpAny_pure ⟨Code.quiet_builtin _ (by decide +kernel), codeAny_builtin F.entry_type_call ?_⟩
  rw [Around.under_plain (weight_type_call_type "set" [.ref l] []) rfl]
  have h1 := F.called_set.notType
  have h2 := F.called_set.canCreate
  have hct := F.typeCall_set_1 (.ref l)
  repeat (any_goals (first | assumption | wp_step))

  refine codeAny_mono (code_set_led1 (.ref l) (E := E) (Q₁ := fun obj s₁ => obj = .ref s.heap.objs.size ∧ s₁ = { s with heap := s.heap.push { cls := .type "set", dict := none, data := .set #[] 0 (.fresh 0 0 (!w.params.followText "set-order")) } }) ⟨rfl, rfl⟩) fun r s₁ hr => ?_
  cases r with
  | error e => exact hr
  | ok fl =>
    cases fl with
    | ret obj =>
      obtain ⟨rfl, rfl⟩ := hr
      have hS : (s.heap.push { cls := .type "set", dict := none, data := .set #[] 0 (.fresh 0 0 (!w.params.followText "set-order")) }).get? s.heap.objs.size = some { cls := .type "set", dict := none, data := .set #[] 0 (.fresh 0 0 (!w.params.followText "set-order")) } := Heap.get?_push_size _ rfl
      have hT : Shared.TypeIs { s with heap := s.heap.push { cls := .type "set", dict := none, data := .set #[] 0 (.fresh 0 0 (!w.params.followText "set-order")) } } (.ref s.heap.objs.size) "set" := ⟨_, hS, rfl⟩
      have hli := F.called_set.init.lookup
      have hbi := F.called_set.init.bind (.ref s.heap.objs.size)
      repeat (any_goals (first | assumption | wp_step))

      refine codeAny_mono (codeAny_call_builtin (R := wants (fun r s₂ => r = .none ∧ ∃ h' tk ss, s₂ = { s with heap := h', toks := tk } ∧ TxS P w h' s.heap.objs.size ss ∧ Has (ks.map (·.1)) ks.length ss ∧
          (∀ b o, s.heap.get? b = some o → h'.get? b = some o)) E) F.called_set.init.plain F.entry_set_init (check_set_init_1 hT ?_)) fun r₂ s₂ hr₂ => ?_
      · obtain ⟨ol, hol, hcl, nl, hdl⟩ := hl
        obtain ⟨ocls, odict, odata, oslots⟩ := ol
        simp only at hcl hdl
        subst hcl; subst hdl
        have hol' : (s.heap.push { cls := .type "set", dict := none, data := .set #[] 0 (.fresh 0 0 (!w.params.followText "set-order")) }).get? l = some { cls := .type "list", dict := odict, data := .seq items nl, slots := oslots } := Heap.get?_push_of_some _ hol
        have hsls := F.sub_list_set
        have hslf := F.sub_list_frozenset
        have hne : (Value.type "list" == Value.type "dict") = false := by decide
        have hl1 : (s.heap.push { cls := .type "set", dict := none, data := .set #[] 0 (.fresh 0 0 (!w.params.followText "set-order")) }).IsList l items := ⟨_, hol', rfl, nl, rfl⟩
        unfold Builtin.«set.__init__» noKeywords Builtin.Frozenset.updateFrom
        generalize hPI : pyIter = PI
        wp_walk
        subst hPI

        refine wpAny_pyIter_list hl1 ?_
        refine wpAny_bind (wpAny_runValue ?_)
        have hlS : l < s.heap.objs.size := Heap.lt_size hol
        have hh3 : A.in1.in1.in1.handled = none := by simp [hh]
        have hz1 : (s.heap.push { cls := .type "set", dict := none, data := .set #[] 0 (.fresh 0 0 (!w.params.followText "set-order")) }).objs.size = s.heap.objs.size + 1 := Heap.size_push ..
        have hneI : l ≠ (s.heap.push { cls := .type "set", dict := none, data := .set #[] 0 (.fresh 0 0 (!w.params.followText "set-order")) }).objs.size := by
          rw [Heap.size_push]; exact Nat.ne_of_lt (Nat.lt_succ_of_lt hlS)
        have hSf : s.heap.objs.size ∉ [(s.heap.push { cls := .type "set", dict := none, data := .set #[] 0 (.fresh 0 0 (!w.params.followText "set-order")) }).objs.size, l] := by
          rw [Heap.size_push]; simp only [List.mem_cons, List.mem_singleton, List.not_mem_nil, or_false, not_or]
          exact ⟨Nat.ne_of_lt (Nat.lt_succ_self _), Nat.ne_of_gt hlS⟩
        have hval : ∀ (i : Nat) (v : Value), items[i]? = some v → ∃ k u, (ks.map (·.1))[i]? = some k ∧ v = .str k u := fun i v hv => by
          have q : items.toList[i]? = some v := by rw [Array.getElem?_toList]; exact hv
          rw [hit, List.getElem?_map] at q
          cases hq : ks[i]? with
          | none => rw [hq] at q; cases q
          | some p =>
            rw [hq] at q
            exact ⟨p.1, p.2, by rw [List.getElem?_map, hq]; rfl, (Option.some.inj q).symm⟩
        have none_of : ∀ b, s.heap.objs.size ≤ b → s.heap.get? b = none := fun b hb => by
          cases q : s.heap.get? b with
          | none => rfl
          | some o => exact absurd (Nat.lt_of_lt_of_le (Heap.lt_size q) hb) (Nat.lt_irrefl _)
        refine txs_update ((Walks.list hh3 _ l hneI items).toS) s.heap.objs.size
          hSf (ks.map (·.1)) (by rw [List.length_map]; exact hisz) (by rw [List.length_map]; exact hfew) hval s.heap (none_of _ (Nat.le_refl _)) (fun b hb => none_of b (by
            rw [List.mem_singleton.mp hb, Heap.size_push]
            exact Nat.le_succ _)) (items.size - 0) 0 _ (by omega) (Nat.zero_le _)
          ⟨⟨_, Heap.get?_push_size _ rfl, rfl, rfl⟩, (hl1.push _)⟩ (fun b o e => Heap.get?_push_of_some _ (Heap.get?_push_of_some _ e)) ?hS0 ?hR
        case hS0 =>
          have hget : ((s.heap.push { cls := .type "set", dict := none, data := .set #[] 0 (.fresh 0 0 (!w.params.followText "set-order")) }).push { cls := .type "list_iterator", data := .fields #[.ref l, .int 0 0] }).get? s.heap.objs.size
              = some { cls := .type "set", dict := none, data := .set #[] 0 (.fresh 0 0 (!w.params.followText "set-order")) } := Heap.get?_push_of_some _ hS
          exact ⟨[], txs_fresh hget, ⟨fun x => by simp, Nat.le_refl _⟩⟩
        case hR =>
          intro s' ss hm hS' g' hkp
          obtain ⟨h', g2, d', tk', os'⟩ := s'
          have eg : g2 = s.gens := hm.gens
          have ed : d' = s.drawn := hm.drawn
          have eo : os' = s.os := hm.os
          subst eg; subst ed; subst eo
          show wpAny _ _ _ _ _ _
          refine wpAny_pure ?_
          show wpAny _ _ (ret Value.none) _ _ _
          rw [hisz] at g'
          exact wpAny_pure ⟨rfl, h', tk', ss, rfl, hS', g', hkp⟩

      · cases r₂ with
        | error e => exact hr₂
        | ok fl₂ =>
          cases fl₂ with
          | ret r =>
            obtain ⟨rfl, h', tk, ss, rfl, hS', g', hk'⟩ := hr₂
            repeat (any_goals (first | assumption | wp_step))
            exact h _ _ _ hS' g' hk'
          | _ => exact hr₂.elim
    | _ => exact hr.elim
end
end MP

set_option Elab.async false
set_option linter.all false
set_option maxRecDepth 100000
set_option maxHeartbeats 4000000
/-! MP18c: sorted(set(..)) of texts. -/
namespace MP
open PySem L2
open PySem.Spec PyProof.Rows
theorem leS_trans (a b c : Str) (h1 : leS a b = true) (h2 : leS b c = true) : leS a c = true := by
  unfold leS at *
  rw [decide_eq_true_eq] at *
  exact List.le_trans h1 h2
theorem leS_total (a b : Str) : (leS a b || leS b a) = true := by
  unfold leS
  rw [Bool.or_eq_true, decide_eq_true_eq, decide_eq_true_eq]
  exact List.le_total _ _
theorem leS_anti (a b : Str) (h1 : leS a b = true) (h2 : leS b a = true) : a = b := by
  unfold leS at *
  rw [decide_eq_true_eq] at *
  have := List.le_antisymm h1 h2
  cases a; cases b
  simp only at this
  congr
  exact Array.toList_inj.mp this
theorem leS_sort {xs ys : List Str} (h : xs.Perm ys) : xs.mergeSort leS = ys.mergeSort leS :=
  List.Perm.eq_of_pairwise (le := fun a b => leS a b = true) (fun a b _ _ => leS_anti a b) (List.pairwise_mergeSort leS_trans leS_total xs) (List.pairwise_mergeSort leS_trans leS_total ys)
    ((List.mergeSort_perm xs leS).trans (h.trans (List.mergeSort_perm ys leS).symm))
theorem perm_of_sub {α : Type} [DecidableEq α] : ∀ {ss ys : List α}, ss.Nodup → (∀ x ∈ ss, x ∈ ys) → ys.length = ss.length → ys.Perm ss
  | [], ys, _, _, hl => by
    have : ys = [] := List.length_eq_zero_iff.mp hl
    rw [this]
  | x :: ss, ys, nd, h, hl => by
    obtain ⟨n1, n2⟩ := List.nodup_cons.mp nd
    have hx := h x List.mem_cons_self
    have hp := List.perm_cons_erase hx
    have := perm_of_sub (ss := ss) (ys := ys.erase x) n2 (fun y hy => (List.mem_erase_of_ne (show y ≠ x from fun e => n1 (by rw [← e]; exact hy))).mpr (h y (List.mem_cons_of_mem _ hy))) (by
      have := hp.length_eq
      rw [List.length_cons] at this hl
      omega)
    exact hp.trans (this.cons x)
def txV : Value → Str
  | .str k _ => k
  | _ => ⟨#[]⟩
section
variable {P : Program} {w : World} {A : Around} {E : Value → Shared → Prop} {s : Shared}
theorem txs_elems {D : Froz.SD} {ss : List Str} (F : Froz.TxOk P w D ss) (nd : ss.Nodup) {vs : List Value} (pm : vs.Perm (D.1.toList.map (·.2))) : (vs.map txV).Perm ss ∧ PySem.W.EachIs (fun v k => ∃ u, v = Value.str k u) vs (vs.map txV) := by
  have one : ∀ v ∈ vs, ∃ u, v = Value.str (txV v) u := fun v hv => by
    obtain ⟨e, he, rfl⟩ := List.mem_map.mp (pm.mem_iff.mp hv)
    obtain ⟨⟨k, hk, _⟩, _⟩ := F.el e he
    obtain ⟨u, e2⟩ := Value.isStrOf_shape (x := k) (v := e.2) hk
    rw [e2]; exact ⟨u, rfl⟩
  refine ⟨perm_of_sub nd (fun x hx => ?_) ?_, ?_⟩
  · obtain ⟨e, he, z⟩ := (F.mem x).mp hx
    obtain ⟨u, e2⟩ := Value.isStrOf_shape (x := x) (v := e.2) z
    exact List.mem_map.mpr ⟨e.2, pm.mem_iff.mpr (List.mem_map.mpr ⟨e, he, rfl⟩), by rw [e2]; rfl⟩
  · rw [List.length_map, pm.length_eq, List.length_map, Array.length_toList]; exact F.sz
  · have : ∀ vs : List Value, (∀ v ∈ vs, ∃ u, v = Value.str (txV v) u) → PySem.W.EachIs (fun v k => ∃ u, v = Value.str k u) vs (vs.map txV) := by
      intro vs
      induction vs with
      | nil => intro _; exact .nil
      | cons v vs ih => intro h; exact .cons (h v List.mem_cons_self) (ih fun u hu => h u (List.mem_cons_of_mem _ hu))
    exact this vs one
theorem each_mono' {R R' : Value → Str → Prop} (h : ∀ v k, R v k → R' v k) : ∀ {vs : List Value} {ks : List Str}, PySem.W.EachIs R vs ks → PySem.W.EachIs R' vs ks
  | _, _, .nil => .nil
  | _, _, .cons a t => .cons (h _ _ a) (each_mono' h t)
theorem txs_sorted {a : Addr} {ss : List Str} {Q : Value → Shared → Prop} (R : TxS P w s.heap a ss) (hh : A.handled = none) (hb : ss.length < scanBound) (hu : A.units + 50 < cLine)
    (hQ : ∀ s' p (out : List Value) (c : Nat), (∀ b o, s.heap.get? b = some o → s'.heap.get? b = some o) → s'.gens = s.gens → s'.os = s.os → s.heap.objs.size ≤ p →
      s'.heap.get? p = some (seqObj "list" out.toArray c) → PySem.W.EachIs (fun v k => ∃ u, v = Value.str k u) out (ss.mergeSort leS) → Q (.ref p) s') :
    wpAny (model P w) A (call (.builtin "sorted") [.ref a]) Q E s := by
  obtain ⟨⟨⟨es, ep, t⟩, ho, F, ris, led⟩, nd⟩ := R
  have hsz : es.size = ss.length := F.sz
  refine Calls.call_function_entry kind_sorted plain_sorted entry_sorted (args_sorted1 _) ?_
  unfold Builtin.«sorted»
  refine wpAny_bind (m := checkCount "sorted" 1 1 _) (wpAny_pure ?_)
  refine wpAny_bind (collect_set (A := A.in1) hh ⟨_, ho, rfl, rfl⟩ F.fit (by rw [hsz]; exact hb) ris led fun s1 vs k1 hz g1 o1 pm => ?_)
  obtain ⟨pk, each⟩ := txs_elems F nd pm
  have hvl : vs.length = ss.length := by rw [← List.length_map (f := txV), pk.length_eq]
  have hsl : ss.length ≤ sizeLine := by rw [sizeLine_eq]; unfold scanBound at hb; omega
  refine wpAny_bind (wpAny_newList ?_ (by rw [hvl]; exact hsl))
  have hoL : (s1.heap.push (seqObj "list" vs.toArray 0)).get? s1.heap.objs.size = some (seqObj "list" vs.toArray 0) := Heap.get?_push_size _ rfl
  refine wpAny_bind (wpAny_holding (PySem.W.list_sort_data (s := { s1 with heap := s1.heap.push (seqObj "list" vs.toArray 0) }) (enc := fun k : Str => PyData.str k) (bs := vs.map txV) hoL each
    (each_mono' (fun v k ⟨u, e⟩ => ⟨[], by rw [e]; exact .str _ _, by simp⟩) each) (PySem.W.AllAlike.of fun b b' => by simp [PySem.W.alike]) (PySem.W.Sortable.others fun b => ⟨by simp, by simp⟩) (by rw [List.length_map, hvl]; exact hsl) (fun b hb => by
      show A.units + 1 + 1 + 0 < cLine
      omega) fun out hl eo => ?_))
  obtain ⟨c, hc⟩ := sortedHeap_at (vs := vs) (out := out.toArray) hoL
  have el : PySem.W.dataLe false (fun k : Str => PyData.str k) = leS := PySem.W.dataLe_str id
  rw [el, leS_sort pk] at eo
  refine wpAny_pure ⟨_, rfl, hQ _ s1.heap.objs.size out c (fun b u e => ?_) g1 o1 hz hc eo⟩
  have q := k1 b u e
  have hlt := Heap.lt_size q
  show (sortedHeap (s1.heap.push (seqObj "list" vs.toArray 0)) s1.heap.objs.size vs out.toArray).get? b = some u
  rw [sortedHeap_old (Nat.ne_of_lt hlt) (by rw [size_push']; exact Nat.lt_succ_of_lt hlt)]
  exact Heap.get?_push_of_some _ q
end
end MP

set_option Elab.async false
set_option linter.all false
set_option maxRecDepth 100000
set_option maxHeartbeats 4000000
/-! MP19: from the program's text to terms. -/
namespace MP
open PySem L2
open PySem.Spec PyProof.Rows
mutual
/-- terms that may be evaluated while a dict is locked -/
def ro : Tm → Bool
  | .var _ => true
  | .cst _ => true
  | .cmp _ a b => ro a && ro b
  | .cmp2 _ _ a b c => ro a && ro b && ro c
  | .and a b => ro a && ro b
  | .or a b => ro a && ro b
  | .not a => ro a
  | .neg a => ro a
  | .ix a b => ro a && ro b
  | .tup es => ros es
  | _ => false
def ros : Tms → Bool
  | .nil => true
  | .cons e es => ro e && ros es
end
/-- where one stands: the names, the scope, the cells that may be written -/
structure St0 where
  N : List Str
  sc : Scope
  co : Str → Bool
/-- what is known of the module; positions (line, column): lists for the store, dicts of tuple keys, sources that are dicts -/
structure Cfg where
  fns : List (Str × List Str)
  cst : List (Str × D)
  bts : List Str
  kwl : List (Str × List Str)
  mL : List (Nat × Nat)
  tD : List (Nat × Nat)
  wD : List (Nat × Nat)
def at0 (l : List (Nat × Nat)) (p : Pos) : Bool := l.contains (p.line, p.col)
def nmIx (N : List Str) (x : Str) : Option Nat := N.findIdx? (· == x)
def visB (sc : Scope) (x : Str) : Bool := match sc.names.lookup x with
  | some .local => true
  | some .cell => true
  | some .free => true
  | _ => false
def glB (sc : Scope) (x : Str) : Bool := sc.names.lookup x == some .globalImplicit
def locB (st : St0) (x : Str) : Bool := match st.sc.names.lookup x with
  | some .local => true
  | some .cell => st.co x
  | _ => false
def dbgB (x : Str) : Bool := (x == ("__debug__" : Str)) || (x == ("__classdict__" : Str))
def starB : Expr → Bool
  | .Starred _ _ => true
  | _ => false
def sliceB : Expr → Bool
  | .Slice _ _ _ _ => true
  | _ => false
def supB : Expr → Bool
  | .Call (.Name _ _) [] [] _ => true
  | _ => false
def setB : Expr → Bool
  | .Set _ _ _ => true
  | _ => false
/-- a built-in name stands for what it is -/
def bB (c : Cfg) (st : St0) (x : Str) : Bool := glB st.sc x && c.bts.contains x
structure Trs where
  E : St0 → Expr → Option Tm
  T : St0 → Expr → Option Tm
section
variable (c : Cfg) (r : Trs)
def trEs (st : St0) : List Expr → Option Tms
  | [] => some .nil
  | e :: es => if starB e then none else (r.E st e).bind fun a => (trEs st es).map fun b => .cons a b
def trTg (st : St0) : Expr → Option Tg
  | .Name x _ => if locB st x then (nmIx st.N x).map .nm else none
  | .Tuple es _ _ => (optMap (fun e => match e with
    | .Name x _ => if locB st x then nmIx st.N x else none
    | _ => none) es).map .tp
  | _ => none
def trTs (st : St0) : List Expr → Option Tm
  | [] => some (.cst (.bl true))
  | [e] => r.T st e
  | _ => none
/-- a call of a built-in as a source -/
def trSrc (st : St0) (tg : Expr) (e : Expr) : Option Src := match e with
  | .Call (.Name x _) args [] _ =>
    if x == "range" && bB c st x then (match trEs r st args with
      | some (.cons a .nil) => some (.rng1 a)
      | some (.cons a (.cons b .nil)) => some (.rng2 a b)
      | _ => none)
    else if x == "enumerate" && bB c st x then (match tg, trEs r st args with
      | .Tuple _ _ _, some (.cons a .nil) => some (.enm a)
      | _, _ => none)
    else if x == "zip" && bB c st x then (match tg, trEs r st args with
      | .Tuple _ _ _, some (.cons a (.cons b .nil)) => some (.zip a b)
      | _, _ => none)
    else (r.E st e).map .seq
  | e => if setB e then none else (r.E st e).map .seq
def tnOf (x : Str) : Option TN :=
  if x == "int" then some .int else if x == "bool" then some .bool else if x == "str" then some .str else if x == "tuple" then some .tuple else if x == "list" then some .list else if x == "dict" then some .dict else none
def biOf (x : Str) : Option Bi :=
  if x == "all" then some .all else if x == "any" then some .any else if x == "len" then some .len else if x == "int" then some .int else if x == "list" then some .list else if x == "tuple" then some .tuple
  else if x == "max" then some .max else if x == "min" then some .min else if x == "repr" then some .repr else if x == "sorted" then some .sorted else none
def ownOf (N : List Str) (scope : Scope) : List (Str × Nat) := scope.names.filterMap fun p => if p.2 == .local || p.2 == .cell then (nmIx N p.1).map fun i => (p.1, i) else none
def inSt (st : St0) (scope : Scope) : St0 := ⟨st.N, relS scope st.sc, fun x => scope.names.lookup x == some .cell⟩
def isSubset (a b : List Nat) : Bool := a.all fun i => b.contains i
def trComp (st : St0) (elt : Expr) (gens : List Comprehension) (scope : Scope) (pos : Pos) : Option Tm := match gens with
  | [g] => if g.is_async == 0 && !setB g.iter && blkC st.N st.sc scope (ownOf st.N scope) then
      (trTg (inSt st scope) g.target).bind fun t => (trTs r (inSt st scope) g.ifs).bind fun cc => (r.E (inSt st scope) elt).bind fun ce =>
        if isSubset t.is ((ownOf st.N scope).map (·.2)) then
          (if at0 c.wD pos then (r.E st g.iter).bind fun ci => if pureTm ci && pureTm cc && pureTm ce && ro ci && ro cc && ro ce then some (.comp (at0 c.mL pos) t (.dic ci) cc ce ((ownOf st.N scope).map (·.2))) else none
          else (trSrc c r st g.target g.iter).map fun k => .comp (at0 c.mL pos) t k cc ce ((ownOf st.N scope).map (·.2))) else none
    else none
  | [g, h] => if g.is_async == 0 && h.is_async == 0 && !setB g.iter && !setB h.iter && blkC st.N st.sc scope (ownOf st.N scope) && g.ifs.isEmpty then
      (trTg (inSt st scope) g.target).bind fun t => (trTg (inSt st scope) h.target).bind fun u => (trTs r (inSt st scope) h.ifs).bind fun cc => (r.E (inSt st scope) elt).bind fun ce =>
        if isSubset t.is ((ownOf st.N scope).map (·.2)) && isSubset u.is ((ownOf st.N scope).map (·.2)) then
          (trSrc c r st g.target g.iter).bind fun k => (trSrc c r (inSt st scope) h.target h.iter).map fun k2 => .comp2 t k u k2 cc ce ((ownOf st.N scope).map (·.2)) u.is else none
    else none
  | _ => none
/-- keywords: their names, their values -/
def trKw (st : St0) : List Keyword → Option (List Str × Tms)
  | [] => some ([], .nil)
  | ⟨some n, e, _⟩ :: r' => (r.E st e).bind fun a => (trKw st r').map fun b => (n :: b.1, .cons a b.2)
  | _ => none
/-- the places of the parameters among the keywords -/
def kwPerm (ps ks : List Str) : Option (List Nat) := if ps.length == ks.length then optMap (fun p => nmIx ks p) ps else none
def pairs (st : St0) : List (Option Expr) → List Expr → Option Tms
  | [], [] => some .nil
  | some k :: ks, v :: vs => (r.E st k).bind fun a => (r.E st v).bind fun b => (pairs st ks vs).map fun q => .cons a (.cons b q)
  | _, _ => none
def trIsa (st : St0) : List Expr → Option Tm
  | [a, .Name y _] => if bB c st y && !starB a then (tnOf y).bind fun t => (r.E st a).map fun ca => .isa ca (.bt t) else none
  | _ => none
def trDict (st : St0) : List Expr → Option Tm
  | [.Call (.Name z _) [a, b] [] _] => if z == "zip" && bB c st z then (trEs r st [a, b]).bind fun cs => (match cs with
      | .cons ca (.cons cb .nil) => some (.dicz ca cb)
      | _ => none) else none
  | _ => none
def trRange (st : St0) : List Expr → Option Tm
  | [a] => if starB a then none else (r.E st a).map fun ca => .rngv (.cst (.int 0)) ca
  | [a, b] => if starB a || starB b then none else (r.E st a).bind fun ca => (r.E st b).map fun cb => .rngv ca cb
  | _ => none
/-- sorted(set(x)) -/
def setCallB : List Expr → Bool
  | [.Call (.Name z _) [_] [] _] => z == "set"
  | _ => false
def trSort (st : St0) (args : List Expr) (pos : Pos) : Option Tm := match args with
  | [.Call (.Name z _) [a] [] _] => if z == "set" && bB c st z && !starB a then (r.E st a).map fun ca => .srt (at0 c.mL pos) ca else none
  | _ => none
def trBi (st : St0) (x : Str) (args : List Expr) (pos : Pos) : Option Tm :=
  if x == "isinstance" then trIsa c r st args
  else if x == "dict" then trDict c r st args
  else if x == "range" then trRange r st args
  else if x == "sorted" && setCallB args then trSort c r st args pos
  else if args.isEmpty then none else (biOf x).bind fun b => (trEs r st args).map fun cs => .bi b (at0 c.mL pos) cs
def trMeth (st : St0) (co : Tm) (m : Str) (args : List Expr) : Option Tm :=
  if m == "append" then (match args with
    | [_] => (trEs r st args).map fun cs => .bm .append co cs
    | _ => none)
  else if m == "extend" then (match args with
    | [_] => (trEs r st args).map fun cs => .bm .extend co cs
    | _ => none)
  else if m == "pop" then (match args with
    | [] => some (.bm .pop0 co .nil)
    | [_] => (trEs r st args).map fun cs => .bm .popAt co cs
    | _ => none)
  else if m == "get" then (match args with
    | [a, b] => if starB a || starB b then none else (r.E st a).bind fun ca => (r.E st b).map fun cb => .bm .get2 co (.cons ca (.cons cb .nil))
    | _ => none)
  else none
def trCall (st : St0) (f : Expr) (args : List Expr) (kws : List Keyword) (pos : Pos) : Option Tm := match f with
  | .Name x _ => (match kws with
    | [] => if bB c st x then trBi c r st x args pos
      else if glB st.sc x && !dbgB x then (c.fns.lookup x).bind fun _ => (trEs r st args).map fun cs => .call x cs none else none
    | kws => if glB st.sc x && !dbgB x && !c.bts.contains x && args.isEmpty then (c.fns.lookup x).bind fun ps => (trKw r st kws).bind fun q => if c.kwl.contains (x, q.1) then (kwPerm ps q.1).map fun is => .call x q.2 (some is) else none else none)
  | .Attribute o m apos => if apos.endLine == pos.line && kws.isEmpty && !supB o then (r.E st o).bind fun co => trMeth r st co m args else none
  | _ => none
def stepE (st : St0) (e : Expr) : Option Tm := match e with
  | .Name x _ => if dbgB x then none else if visB st.sc x then (nmIx st.N x).map .var else if glB st.sc x then (c.cst.lookup x).map .cst else none
  | .Constant k _ _ => (match k with
    | .none => some (.cst .non)
    | .bool b => some (.cst (.bl b))
    | .int i => some (.cst (.int i))
    | .str s => some (.cst (.str s))
    | _ => none)
  | .BinOp a o b _ => if o == .Add || o == .Sub || o == .Mult || o == .FloorDiv || o == .Mod || o == .Pow || o == .BitAnd then (r.E st a).bind fun ca => (r.E st b).map fun cb => .bin o ca cb else none
  | .UnaryOp o a _ => if o == .USub then (r.E st a).map .neg else if o == .Not then (r.E st a).map .not else none
  | .Compare a [o] [b] _ => if behindInMarks o b then none else (r.E st a).bind fun ca => (r.E st b).map fun cb => .cmp o ca cb
  | .Compare a [o, o'] [b, d] _ => if lastMarks [o, o'] [b, d] then none else (r.E st a).bind fun ca => (r.E st b).bind fun cb => (r.E st d).map fun cd => .cmp2 o o' ca cb cd
  | .BoolOp o (a :: b :: rest) pos => (r.E st a).bind fun ca => (r.E st (.BoolOp o (b :: rest) pos)).map fun cb => if o == .And then .and ca cb else .or ca cb
  | .BoolOp o [a] _ => r.E st a
  | .IfExp t a b _ => (r.T st t).bind fun ct => (r.E st a).bind fun ca => (r.E st b).map fun cb => .ite ct ca cb
  | .Subscript a (.Slice none none (some (.UnaryOp .USub (.Constant (.int 1) _ _) _)) _) pos => (r.E st a).map fun ca => .rev (at0 c.mL pos) ca
  | .Subscript a (.Slice lo hi none _) _ => (r.E st a).bind fun ca => (match lo, hi with
    | none, none => some (.sl ca false false (.cst .non) (.cst .non))
    | some l, none => (r.E st l).map fun cl => .sl ca true false cl (.cst .non)
    | none, some h => (r.E st h).map fun ch => .sl ca false true (.cst .non) ch
    | some l, some h => (r.E st l).bind fun cl => (r.E st h).map fun ch => .sl ca true true cl ch)
  | .Subscript a i _ => if sliceB i || starB i then none else (r.E st a).bind fun ca => (r.E st i).map fun ci => .ix ca ci
  | .Tuple es _ _ => (trEs r st es).map .tup
  | .List es pos => (trEs r st es).map (.lst (at0 c.mL pos))
  | .Dict [] [] pos => some (.dnew (at0 c.tD pos))
  | .Dict ks vs _ => if ks.length ≤ 15 then (pairs r st ks vs).map .dct else none
  | .ListComp elt gens scope pos => trComp c r st elt gens scope pos
  | .Call f args kws pos => trCall c r st f args kws pos
  | _ => none
def stepT (st : St0) (e : Expr) : Option Tm := match e with
  | .UnaryOp .Not a _ => (r.T st a).map .not
  | .Compare a ops bs pos => stepE c r st (.Compare a ops bs pos)
  | .BoolOp o (a :: b :: rest) pos => (r.T st a).bind fun ca => (r.T st (.BoolOp o (b :: rest) pos)).map fun cb => if o == .And then .and ca cb else .or ca cb
  | .BoolOp o [a] _ => r.T st a
  | .BoolOp _ [] _ => none
  | .IfExp _ _ _ _ => none
  | e => r.E st e
end
def trN (c : Cfg) : Nat → Trs
  | 0 => ⟨fun _ _ => none, fun _ _ => none⟩
  | n + 1 => ⟨stepE c (trN c n), stepT c (trN c n)⟩
end MP

set_option Elab.async false
set_option linter.all false
set_option maxRecDepth 100000
set_option maxHeartbeats 4000000
/-! MP20: what the translator gives is so. -/
namespace MP
open PySem L2
open PySem.Spec PyProof.Rows
structure Good (c : Cfg) (Φ : Fns) (k : Nat) (st : St0) (X : Cx) : Prop where
  O : Okx X
  room : Room k X.A
  N : X.N = st.N
  sc : X.env.scope = st.sc
  co : ∀ x, st.co x = true → X.fn x = true
  bts : ∀ x ∈ c.bts, X.mg x = none
  cst : ∀ x d, c.cst.lookup x = some d → ∃ v u, X.mg x = some u ∧ RelV v u ∧ ∀ μ H, RV X.K μ H d v
  fns : ∀ x ps, c.fns.lookup x = some ps → ∃ f fd, GFn X Φ x ps k f fd ∧ ∀ ks is, (x, ks) ∈ c.kwl → kwPerm ps ks = some is → ∀ ws zs : List Value, optMap (fun i => ws[i]?) is = some zs → ws.length = is.length → bindArgs fd ⟨[], ks.zip ws⟩ = pure (ps.zip zs)
structure Sound (c : Cfg) (Φ : Fns) (F : Str → Str → Bool) (k : Nat) (r : Trs) : Prop where
  E : ∀ st e t, r.E st e = some t → ∀ X rw, Good c Φ k st X → (rw = true ∨ ro t = true) → PEd X rw Φ F e t
  T : ∀ st e t, r.T st e = some t → ∀ X rw, Good c Φ k st X → (rw = true ∨ ro t = true) → PTd X rw Φ F e t
  W : ∀ st o es p t, r.T st (.BoolOp o es p) = some t → ∀ X rw, Good c Φ k st X → (rw = true ∨ ro t = true) → PWd X rw Φ F (.BoolOp o es p) t
theorem star_cons {e : Expr} {es : List Expr} {env : PySem.Env} (h : starB e = false) : starEach (e :: es) env = (false, eval e env) :: starEach es env := by
  cases e <;> first | rfl | (simp [starB] at h)
theorem nmIx_get {N : List Str} {x : Str} {i : Nat} (h : nmIx N x = some i) : N[i]? = some x := by
  unfold nmIx at h
  rw [List.findIdx?_eq_some_iff_getElem] at h
  obtain ⟨hi, hp, _⟩ := h
  rw [List.getElem?_eq_getElem hi]
  simpa using hp
theorem good_gl {c : Cfg} {Φ : Fns} {k : Nat} {st : St0} {X : Cx} (G : Good c Φ k st X) {x : Str} (h : glB st.sc x = true) : Gl X x := by
  unfold glB at h
  show X.env.scope.names.lookup x = _
  rw [G.sc]
  simpa using h
theorem good_bt {c : Cfg} {Φ : Fns} {k : Nat} {st : St0} {X : Cx} (G : Good c Φ k st X) {x : Str} (h : bB c st x = true) : Gl X x ∧ X.mg x = none := by
  unfold bB at h
  rw [Bool.and_eq_true] at h
  exact ⟨good_gl G h.1, G.bts x (by simpa using h.2)⟩
theorem good_vis {c : Cfg} {Φ : Fns} {k : Nat} {st : St0} {X : Cx} (G : Good c Φ k st X) {x : Str} (h : visB st.sc x = true) : Vis X.env.scope x := by
  unfold visB at h
  unfold Vis
  rw [G.sc]
  split at h
  · rename_i e; exact .inl e
  · rename_i e; exact .inr (.inl e)
  · rename_i e; exact .inr (.inr e)
  · cases h
theorem good_loc {c : Cfg} {Φ : Fns} {k : Nat} {st : St0} {X : Cx} (G : Good c Φ k st X) {x : Str} (h : locB st x = true) : L2.Loc X.env.scope x ∧ (X.fn x = true ∨ X.env.scope.names.lookup x = some .local) := by
  unfold locB at h
  unfold L2.Loc
  rw [G.sc]
  split at h
  · rename_i e; exact ⟨.inl e, .inr e⟩
  · rename_i e; exact ⟨.inr e, .inl (G.co x h)⟩
  · cases h
section
variable {c : Cfg} {Φ : Fns} {F : Str → Str → Bool} {k : Nat} {r : Trs} {st : St0} {X : Cx} {rw : Bool}
theorem back_plain {pos : Pos} {l : List (Bool × Sem Value)} (h : ∀ p ∈ l, p.1 = false) : (backTo pos l).any (·.1) = false := by
  unfold backTo
  rw [List.any_map, List.any_eq_false]
  intro p hp
  have := h p hp
  simp [this]
theorem trEs_ok (S : Sound c Φ F k r) (G : Good c Φ k st X) : ∀ {es : List Expr} {cs : Tms}, trEs r st es = some cs → (rw = true ∨ ros cs = true) → PAd X rw Φ F es cs ∧ ∀ p ∈ starEach es X.env, p.1 = false
  | [], _, h, _ => by
    cases h
    exact ⟨a_nil, fun p hp => by simp [starEach] at hp⟩
  | e :: es, cs, h, w => by
    unfold trEs at h
    split at h <;> try contradiction
    rename_i hs
    simp only [Option.bind_eq_some_iff, Option.map_eq_some_iff] at h
    obtain ⟨a, h1, b, h2, rfl⟩ := h
    have hs : starB e = false := by simpa using hs
    have w1 : rw = true ∨ ro a = true := w.imp id fun z => by simp only [ros, Bool.and_eq_true] at z; exact z.1
    have w2 : rw = true ∨ ros b = true := w.imp id fun z => by simp only [ros, Bool.and_eq_true] at z; exact z.2
    obtain ⟨p1, p2⟩ := trEs_ok S G h2 w2
    refine ⟨a_cons (S.E _ _ _ h1 X rw G w1) p1 (star_cons hs), fun p hp => ?_⟩
    rw [star_cons hs] at hp
    rcases List.mem_cons.mp hp with rfl | hp
    · rfl
    · exact p2 p hp
theorem Good.blk (G : Good c Φ k st X) (scope : Scope) : BlkP X scope fun Y => Good c Φ k (inSt st scope) Y := fun s H C cl fp =>
  { O := ⟨G.O.calm, G.O.nd, G.O.hd, G.O.un, G.O.gu⟩
    room := G.room
    N := G.N
    sc := by show relS scope X.env.scope = relS scope st.sc; rw [G.sc]
    co := fun x h => h
    bts := G.bts
    cst := G.cst
    fns := fun x ps e => by
      obtain ⟨f, fd, ⟨g1, g2, g3, g4, g5⟩, w⟩ := G.fns x ps e
      exact ⟨f, fd, ⟨g1, g2, g3, g4, g5⟩, w⟩ }
theorem trNms_ok (G : Good c Φ k st X) : ∀ {es : List Expr} {is : List Nat}, optMap (fun e => match e with
    | .Name x _ => if locB st x then nmIx st.N x else none
    | _ => none) es = some is → PGs X es (gNames is) ∧ (assignEach es X.env).length = is.length ∧ (assignEach es X.env).findIdx? (·.1) = none
  | [], _, h => by
    cases h
    exact ⟨gs_nil, rfl, rfl⟩
  | e :: es, is, h => by
    unfold optMap at h
    split at h <;> try contradiction
    rename_i i hi
    split at h <;> try contradiction
    rename_i js hjs
    cases h
    split at hi <;> try contradiction
    rename_i x p
    split at hi <;> try contradiction
    rename_i hl
    obtain ⟨h1, h2, h3⟩ := trNms_ok G hjs
    obtain ⟨l1, l2⟩ := good_loc G hl
    have hN : X.N[i]? = some x := by rw [G.N]; exact nmIx_get hi
    refine ⟨gs_cons (pg_name G.O.nd hN l1 l2) h1 rfl, ?_, ?_⟩
    · show (assignEach es X.env).length + 1 = _
      rw [h2]; rfl
    · show List.findIdx? _ ((false, _) :: assignEach es X.env) = none
      rw [List.findIdx?_cons]
      simp [h3]
theorem trTg_ok (G : Good c Φ k st X) {tg : Expr} {t : Tg} (h : trTg st tg = some t) : PG X tg (rdTg X.K t) := by
  unfold trTg at h
  split at h
  · rename_i x p
    split at h <;> try contradiction
    rename_i hl
    simp only [Option.map_eq_some_iff] at h
    obtain ⟨i, hi, rfl⟩ := h
    obtain ⟨l1, l2⟩ := good_loc G hl
    exact pg_name G.O.nd (by rw [G.N]; exact nmIx_get hi) l1 l2
  · rename_i es kk p
    simp only [Option.map_eq_some_iff] at h
    obtain ⟨is, hi, rfl⟩ := h
    obtain ⟨h1, h2, h3⟩ := trNms_ok G hi
    exact g_tup G.O.calm h1 h2 rfl h3
  · cases h
theorem trTs_ok (S : Sound c Φ F k r) (G : Good c Φ k st X) {ifs : List Expr} {t : Tm} (h : trTs r st ifs = some t) (w : rw = true ∨ ro t = true) : PTsd X rw Φ F ifs t := by
  unfold trTs at h
  split at h
  · cases h; exact ts_nil
  · exact ts_one (S.T _ _ _ h X rw G w)
  · cases h
theorem set_plain {e : Expr} (h : setB e = false) (env : PySem.Env) (x : Value) : foldedSetIterable e env x = pure x := by
  cases e <;> first | rfl | (simp [setB] at h)
theorem trEs_nil {es : List Expr} (h : trEs r st es = some .nil) : es = [] := by
  cases es with
  | nil => rfl
  | cons e es =>
    unfold trEs at h
    split at h <;> try contradiction
    simp only [Option.bind_eq_some_iff, Option.map_eq_some_iff] at h
    obtain ⟨_, _, _, _, h⟩ := h
    cases h
theorem trEs_cons {es : List Expr} {a : Tm} {b : Tms} (h : trEs r st es = some (.cons a b)) : ∃ e es', es = e :: es' ∧ starB e = false ∧ r.E st e = some a ∧ trEs r st es' = some b := by
  cases es with
  | nil => cases h
  | cons e es =>
    unfold trEs at h
    split at h <;> try contradiction
    rename_i hs
    simp only [Option.bind_eq_some_iff, Option.map_eq_some_iff] at h
    obtain ⟨a', h1, b', h2, h3⟩ := h
    cases h3
    exact ⟨e, es, rfl, by simpa using hs, h1, h2⟩
theorem trEs_one {es : List Expr} {a : Tm} (h : trEs r st es = some (.cons a .nil)) : ∃ e, es = [e] ∧ starB e = false ∧ r.E st e = some a := by
  obtain ⟨e, es', rfl, h1, h2, h3⟩ := trEs_cons h
  have := trEs_nil h3
  subst this
  exact ⟨e, rfl, h1, h2⟩
theorem trEs_two {es : List Expr} {a b : Tm} (h : trEs r st es = some (.cons a (.cons b .nil))) : ∃ e f, es = [e, f] ∧ starB e = false ∧ starB f = false ∧ r.E st e = some a ∧ r.E st f = some b := by
  obtain ⟨e, es', rfl, h1, h2, h3⟩ := trEs_cons h
  obtain ⟨f, rfl, h4, h5⟩ := trEs_one h3
  exact ⟨e, f, rfl, h1, h4, h2, h5⟩
theorem two_ok (S : Sound c Φ F k r) (G : Good c Φ k st X) {es : List Expr} {a b : Tm} {e f : Expr} (h1 : starB e = false) (h2 : starB f = false) (h3 : r.E st e = some a) (h4 : r.E st f = some b) : PAd X true Φ F [e, f] (.cons a (.cons b .nil)) :=
  a_cons (S.E _ _ _ h3 X true G (.inl rfl)) (a_cons (S.E _ _ _ h4 X true G (.inl rfl)) a_nil (star_cons h2)) (star_cons h1)
theorem back1 {pos : Pos} {f : Expr} {env : PySem.Env} (h : starB f = false) : (backTo pos (starEach [f] env)).any (·.1) = false := by
  rw [star_cons h]; rfl
theorem trSrc_ok (S : Sound c Φ F k r) (G : Good c Φ k st X) {tg e : Expr} {s : Src} (h : trSrc c r st tg e = some s) : PId X true Φ F tg e s ∧ setB e = false := by
  unfold trSrc at h
  split at h
  · rename_i x p args pos
    refine ⟨?_, rfl⟩
    split at h
    · rename_i hx
      rw [Bool.and_eq_true] at hx
      have ex : x = "range" := by simpa using hx.1
      subst ex
      obtain ⟨g1, g2⟩ := good_bt G hx.2
      split at h <;> try contradiction
      · rename_i ca hc
        cases h
        obtain ⟨a, rfl, h1, h2⟩ := trEs_one hc
        exact i_rng1 g1 g2 (a_cons (S.E _ _ _ h2 X true G (.inl rfl)) a_nil (star_cons h1)) (star_cons h1)
      · rename_i ca cb hc
        cases h
        obtain ⟨a, b, rfl, h1, h2, h3, h4⟩ := trEs_two hc
        exact i_rng2 g1 g2 (two_ok (es := []) S G h1 h2 h3 h4) (by rw [star_cons h1, star_cons h2]; rfl) (star_cons h2)
    · split at h
      · rename_i hx
        rw [Bool.and_eq_true] at hx
        have ex : x = "enumerate" := by simpa using hx.1
        subst ex
        obtain ⟨g1, g2⟩ := good_bt G hx.2
        split at h <;> try contradiction
        rename_i ca hc
        cases h
        obtain ⟨a, rfl, h1, h2⟩ := trEs_one hc
        exact i_enm g1 g2 (S.E _ _ _ h2 X true G (.inl rfl)) (star_cons h1)
      · split at h
        · rename_i hx
          rw [Bool.and_eq_true] at hx
          have ex : x = "zip" := by simpa using hx.1
          subst ex
          obtain ⟨g1, g2⟩ := good_bt G hx.2
          split at h <;> try contradiction
          rename_i ca cb hc
          cases h
          obtain ⟨a, b, rfl, h1, h2, h3, h4⟩ := trEs_two hc
          exact i_zip g1 g2 (two_ok (es := []) S G h1 h2 h3 h4) (star_cons h1) (back1 h2)
        · simp only [Option.map_eq_some_iff] at h
          obtain ⟨ce, h1, rfl⟩ := h
          exact i_seq (S.E _ _ _ h1 X true G (.inl rfl))
  · split at h <;> try contradiction
    rename_i hs
    simp only [Option.map_eq_some_iff] at h
    obtain ⟨ce, h1, rfl⟩ := h
    exact ⟨i_seq (S.E _ _ _ h1 X true G (.inl rfl)), by simpa using hs⟩
theorem subset_mem {a b : List Nat} (h : isSubset a b = true) : ∀ i ∈ a, i ∈ b := fun i hi => by
  unfold isSubset at h
  rw [List.all_eq_true] at h
  simpa using h i hi
theorem trComp_ok (S : Sound c Φ F k r) (G : Good c Φ k st X) {elt : Expr} {gens : List Comprehension} {scope : Scope} {pos : Pos} {t : Tm} (h : trComp c r st elt gens scope pos = some t) : PEd X true Φ F (.ListComp elt gens scope pos) t := by
  unfold trComp at h
  split at h
  · rename_i g
    split at h <;> try contradiction
    rename_i hg
    simp only [Bool.and_eq_true, Bool.not_eq_true', beq_iff_eq] at hg
    simp only [Option.bind_eq_some_iff] at h
    obtain ⟨tg, h1, cc, h2, ce, h3, h4⟩ := h
    split at h4 <;> try contradiction
    rename_i hsub
    obtain ⟨tgt, iter, ifs, asy⟩ := g
    have ea : asy = 0 := hg.1.1
    subst ea
    have okb : BlkOk X.N X.env.scope scope (ownOf st.N scope) := by rw [G.N, G.sc]; exact blkOk_by hg.2
    split at h4
    · simp only [Option.bind_eq_some_iff] at h4
      obtain ⟨ci, h5, h6⟩ := h4
      split at h6 <;> try contradiction
      rename_i hp
      cases h6
      simp only [Bool.and_eq_true] at hp
      exact d_compD G.O.calm G.O.nd (S.E _ _ _ h5 X false G (.inr hp.1.1.2)) hp.1.1.1.1.1 hp.1.1.1.1.2 hp.1.1.1.2 okb (subset_mem hsub) (fun s H C cl fp => trTg_ok (G.blk scope s H C cl fp) h1) (fun s H C cl fp => trTs_ok S (G.blk scope s H C cl fp) h2 (.inr hp.1.2)) (fun s H C cl fp => S.E _ _ _ h3 _ false (G.blk scope s H C cl fp) (.inr hp.2)) (fun x => set_plain hg.1.2 _ x)
    · simp only [Option.map_eq_some_iff] at h4
      obtain ⟨kk, h5, rfl⟩ := h4
      obtain ⟨s1, s2⟩ := trSrc_ok S G h5
      exact d_comp G.O.calm G.O.nd s1 okb (subset_mem hsub) (fun s H C cl fp => trTg_ok (G.blk scope s H C cl fp) h1) (fun s H C cl fp => trTs_ok S (G.blk scope s H C cl fp) h2 (.inl rfl)) (fun s H C cl fp => S.E _ _ _ h3 _ true (G.blk scope s H C cl fp) (.inl rfl)) (fun x => set_plain s2 _ x)
  · rename_i g g2
    split at h <;> try contradiction
    rename_i hg
    simp only [Bool.and_eq_true, Bool.not_eq_true', beq_iff_eq] at hg
    simp only [Option.bind_eq_some_iff] at h
    obtain ⟨tg, h1, tu, h2, cc, h3, ce, h4, h5⟩ := h
    split at h5 <;> try contradiction
    rename_i hsub
    rw [Bool.and_eq_true] at hsub
    simp only [Option.bind_eq_some_iff, Option.map_eq_some_iff] at h5
    obtain ⟨k1, h6, k2, h7, rfl⟩ := h5
    obtain ⟨tgt, iter, ifs, asy⟩ := g
    obtain ⟨tgt2, iter2, ifs2, asy2⟩ := g2
    obtain ⟨⟨⟨⟨⟨ea, eb⟩, e1⟩, e2⟩, e3⟩, e4⟩ := hg
    have ea : asy = 0 := ea
    have eb : asy2 = 0 := eb
    have ei : ifs = [] := by simpa using e4
    subst ea eb ei
    have okb : BlkOk X.N X.env.scope scope (ownOf st.N scope) := by rw [G.N, G.sc]; exact blkOk_by e3
    exact d_comp2 G.O.calm G.O.nd (trSrc_ok S G h6).1 okb (subset_mem hsub.1) (fun i hi => hi) (subset_mem hsub.2) (fun s H C cl fp => trTg_ok (G.blk scope s H C cl fp) h1) (fun s H C cl fp => (trSrc_ok S (G.blk scope s H C cl fp) h7).1) (fun s H C cl fp => trTg_ok (G.blk scope s H C cl fp) h2)
      (fun s H C cl fp => trTs_ok S (G.blk scope s H C cl fp) h3 (.inl rfl)) (fun s H C cl fp => S.E _ _ _ h4 _ true (G.blk scope s H C cl fp) (.inl rfl)) (fun x => set_plain e1 _ x) (fun env x => set_plain e2 env x)
  · cases h
theorem trKw_ok (S : Sound c Φ F k r) (G : Good c Φ k st X) : ∀ {kws : List Keyword} {ks : List Str} {cs : Tms}, trKw r st kws = some (ks, cs) → PK X kws (rdA X.K true (evs Φ F cs)) ∧ ∀ pos, (backToKw pos (keywordEach kws X.env)).all (·.1.isSome) = true ∧ (backToKw pos (keywordEach kws X.env)).filterMap (·.1) = ks
  | [], _, _, h => by
    cases h
    exact ⟨pk_nilD, fun pos => ⟨rfl, rfl⟩⟩
  | kw :: kws, ks, cs, h => by
    unfold trKw at h
    split at h <;> try contradiction
    · rename_i n e p r' heq
      cases heq
      simp only [Option.bind_eq_some_iff, Option.map_eq_some_iff] at h
      obtain ⟨a, h1, b, h2, h3⟩ := h
      cases h3
      obtain ⟨p1, p2⟩ := trKw_ok S G (ks := b.1) (cs := b.2) h2
      refine ⟨pk_consD (S.E _ _ _ h1 X true G (.inl rfl)) p1, fun pos => ⟨?_, ?_⟩⟩
      · show (true && (backToKw pos (keywordEach kws X.env)).all (·.1.isSome)) = true
        rw [(p2 pos).1]; rfl
      · show n :: (backToKw pos (keywordEach kws X.env)).filterMap (·.1) = _
        rw [(p2 pos).2]
theorem kw_any {l : List (Option Str × Sem Value)} (h : l.all (·.1.isSome) = true) : l.any (·.1.isNone) = false := by
  rw [List.any_eq_false]
  rw [List.all_eq_true] at h
  intro p hp
  have := h p hp
  cases e : p.1 with
  | none => rw [e] at this; cases this
  | some _ => simp
theorem pairs_ok (S : Sound c Φ F k r) (G : Good c Φ k st X) {pos : Pos} : ∀ {ks : List (Option Expr)} {vs : List Expr} {cs : Tms}, pairs r st ks vs = some cs → PPs X pos ks vs (prs X.K Φ F cs) ∧ evenT cs = true ∧ ks.all (·.isSome) = true ∧ ks.length = vs.length
  | [], [], _, h => by
    cases h
    exact ⟨pps_nil, rfl, rfl, rfl⟩
  | some k' :: ks, v :: vs, cs, h => by
    unfold pairs at h
    simp only [Option.bind_eq_some_iff, Option.map_eq_some_iff] at h
    obtain ⟨a, h1, b, h2, q, h3, rfl⟩ := h
    obtain ⟨p1, p2, p3, p4⟩ := pairs_ok S G h3
    exact ⟨pps_cons (S.E _ _ _ h1 X true G (.inl rfl)) (S.E _ _ _ h2 X true G (.inl rfl)) p1, p2, by simpa using p3, by simp [p4]⟩
  | none :: _, _, _, h => by cases h
  | [], _ :: _, _, h => by cases h
  | some _ :: _, [], _, h => by cases h
end
end MP

set_option Elab.async false
set_option linter.all false
set_option maxRecDepth 100000
set_option maxHeartbeats 4000000
/-! MP20a: sorted(set(..)) of texts, in the layer. -/
namespace MP
open PySem L2
open PySem.Spec PyProof.Rows
theorem nodup_dups : ∀ (n : Nat) (ss : List Str), ss.length ≤ n → ss.eraseDups.Nodup
  | _, [], _ => by simp
  | 0, _ :: _, h => by simp at h
  | n + 1, a :: as, h => by
    rw [List.eraseDups_cons, List.nodup_cons]
    refine ⟨fun z => ?_, nodup_dups n _ (Nat.le_trans (List.length_filter_le _ _) (by simpa using h))⟩
    rw [List.mem_eraseDups, List.mem_filter] at z
    simp at z
def txO (P : Program) (w : World) (a : Addr) (us : List Str) : HO := .ext fun h => TxS P w h a us
theorem txO_new {P : Program} {w : World} {H : Hp} {h : Heap} {a : Addr} {us : List Str} (R : TxS P w h a us) : ObjOk P w H h a (txO P w a us) := by
  obtain ⟨D, ho, r⟩ := R.ob
  exact ⟨R, ⟨_, ho⟩, fun h1 h2 p k => TxS.keep p k⟩
def rSetX (P : Program) (w : World) : List V → Hp → VK → Prop := fun xs H Q => ∃ (l : Addr) (ss : List Str), xs = [V.ref l] ∧ Rd H l (.lst (ss.map V.str)) ∧ ss.length + 1 < scanBound ∧
  ∀ (a : Addr) (us : List Str), H a = none → us.Nodup → (∀ x, x ∈ us ↔ x ∈ ss) → us.length ≤ ss.length → Q (.ref a) (upd H a (txO P w a us))
def rSrtX (P : Program) (w : World) : List V → Hp → VK → Prop := fun xs H Q => ∃ (a : Addr) (us : List Str), xs = [V.ref a] ∧ H a = some (txO P w a us) ∧ us.length < scanBound ∧ ∀ p, H p = none → Q (.ref p) (upd H p (.lst ((us.mergeSort leS).map V.str)))
theorem strs_pairs : ∀ {ss : List Str} {its : List Value}, Vals (ss.map V.str) its → ∃ ks : List (Str × Tok), its = ks.map (fun p => Value.str p.1 p.2) ∧ ks.map (·.1) = ss
  | [], _, .nil => ⟨[], rfl, rfl⟩
  | s :: ss, _, .cons r t => by
    obtain ⟨u, rfl⟩ := r
    obtain ⟨ks, e1, e2⟩ := strs_pairs t
    exact ⟨(s, u) :: ks, by rw [e1]; rfl, by rw [← e2]; rfl⟩
theorem strs_vals {R : List Value} : ∀ {us : List Str}, PySem.W.EachIs (fun v k => ∃ u, v = Value.str k u) R us → Vals (us.map V.str) R := by
  intro us e
  induction e with
  | nil => exact .nil
  | cons a t ih => exact .cons a ih
section
variable {X : Cx}
theorem cr_setX (O : Okx X) : CallR X (.type "set") (rSetX X.prog X.w) := by
  intro pins s σ H xs us Q I rx h
  obtain ⟨l, ss, rfl, hl, hb, q⟩ := h
  obtain ⟨u, rfl, ru⟩ := vals1 rx
  cases ru
  obtain ⟨its, rv, pl, hz⟩ := I.list (X := X) (.inl hl)
  obtain ⟨ks, e1, e2⟩ := strs_pairs rv
  have hkl : ks.length = ss.length := by rw [← e2, List.length_map]
  have un := O.un
  refine call_set_txts (P := X.prog) (w := X.w) ks (I.ok.hd O.calm) pl.isList (by simpa using e1) (by rw [hkl]; exact hb) fun h' tk us R g k => ?_
  refine ⟨.ref s.heap.objs.size, upd H s.heap.objs.size (txO X.prog X.w s.heap.objs.size us), I.laid (t' := tk) k (Nat.le_refl _) (txO_new R), rfl, q _ us (I.hok.fresh (Nat.le_refl _)) R.nd (fun x => ?_) (by rw [← hkl]; exact g.len)⟩
  rw [g.mem x, ← List.length_map (f := fun p : Str × Tok => p.1), List.take_length, e2]
theorem cr_srtX (O : Okx X) : CallR X (.builtin "sorted") (rSrtX X.prog X.w) := by
  intro pins s σ H xs us Q I rx h
  obtain ⟨a, ts, rfl, ha, hb, q⟩ := h
  obtain ⟨u, rfl, ru⟩ := vals1 rx
  cases ru
  have R : TxS X.prog X.w s.heap a ts := (I.hok a _ ha).1
  have un := O.un
  refine txs_sorted R (I.ok.hd O.calm) hb (by omega) fun s' p out c k g o hp hg eo => ?_
  have hv := strs_vals eo
  have hlen : ((ts.mergeSort leS).map V.str).length ≤ sizeLine := by
    rw [List.length_map, List.length_mergeSort, sizeLine_eq]; unfold scanBound at hb; omega
  have hn : H p = none := I.hok.fresh hp
  have J : L2.Inv X pins σ (upd H p (.lst ((ts.mergeSort leS).map V.str))) { s with heap := s'.heap, gens := s'.gens, drawn := s'.drawn, toks := s'.toks } :=
    I.call (ch := []) (Un.laid k hp hn) (I.hok.laid k hp ⟨hlen, out, c, hv, hg⟩) (by rw [g]; exact I.bare) (fun _ z => nomatch z)
  have e : s' = { s with heap := s'.heap, gens := s'.gens, drawn := s'.drawn, toks := s'.toks } := by
    cases s'
    cases s
    cases o
    rfl
  rw [e]
  exact ⟨.ref p, _, J, rfl, q p hn⟩
theorem strs_rep {K : PySem.W.Frag} {μ : Mp} {H : Hp} : ∀ {xs : List D} {vs : List V} {ss : List Str}, RVs K μ H xs vs → optMap strOf xs = some ss → vs = ss.map V.str
  | [], _, _, .nil, e => by cases e; rfl
  | x :: xs, _, _, .cons r t, e => by
    unfold optMap at e
    split at e <;> try contradiction
    rename_i y hy
    split at e <;> try contradiction
    rename_i ys hys
    cases e
    rw [strs_rep t hys]
    unfold strOf at hy
    split at hy <;> cases hy
    cases r
    rfl
theorem rep_strs {K : PySem.W.Frag} {μ : Mp} {H : Hp} : ∀ ss : List Str, RVs K μ H (ss.map D.str) (ss.map V.str)
  | [] => .nil
  | s :: ss => .cons (.str s) (rep_strs ss)
variable {Φ : Fns} {F : Str → Str → Bool} {e : Expr} {ce : Tm} {p1 p2 pos1 pos2 : Pos} {m : Bool}
theorem d_srt (O : Okx X) (g1 : Gl X "sorted") (m1 : X.mg "sorted" = none) (g2 : Gl X "set") (m2 : X.mg "set" = none) (ha : PEd X true Φ F e ce) (hs : starB e = false) :
    PEd X true Φ F (.Call (.Name "sorted" p1) [.Call (.Name "set" p2) [e] [] pos2] [] pos1) (.srt m ce) := by
  refine PEw (pe_callB (cr_srtX O) g1 m1 (by kernel_rfl) (pa_cons (pe_callTy (cr_setX O) g2 m2 (by kernel_rfl) (pa_cons ha pa_nil (star_cons hs)) (by decide) (by decide) (star_cons hs)) pa_nil) (by decide) (by decide)) fun σ H Q h => ?_
  show rdE X.K true (ev Φ F ce) σ H fun v H1 => rSetX X.prog X.w [v] H1 fun u H2 => rSrtX X.prog X.w [u] H2 Q
  obtain ⟨μ, S, η, hS, he, hr⟩ := h
  unfold ev at hr
  refine ⟨μ, S, η, hS, he, res_bind hr fun x S1 μ1 H1 v x1 s1 r1 q1 => ?_⟩
  split at q1
  · rename_i d hd
    unfold sortSet at hd
    simp only [Option.bind_eq_some_iff] at hd
    obtain ⟨xs, h1, ss, h2, h3⟩ := hd
    split at h3 <;> cases h3
    rename_i hlt
    obtain ⟨p, vs, rfl, rv, hp⟩ := list_sq s1 r1 h1
    rw [strs_rep rv h2] at hp
    refine ⟨p, ss, rfl, hp, by unfold scanBound; omega, fun a us hn nd hm hl => ⟨a, us, rfl, if_pos rfl, by unfold scanBound; omega, fun p2 hp2 => ?_⟩⟩
    have pm : us.Perm ss.eraseDups := (List.perm_ext_iff_of_nodup nd (nodup_dups _ _ (Nat.le_refl _))).mpr fun x => by rw [hm x, List.mem_eraseDups]
    rw [leS_sort pm]
    exact new_mkLd (q1.ext (Ext.fresh hn)) (s1.fresh hn) (rep_strs _) p2 hp2
  · exact q1.elim
end
end MP

set_option Elab.async false
set_option linter.all false
set_option maxRecDepth 100000
set_option maxHeartbeats 4000000
/-! MP21: calls and expressions, translated, are so. -/
namespace MP
open PySem L2
open PySem.Spec PyProof.Rows
theorem bt_any : bootBuiltins "any" = some (.builtin "any") := by decide +kernel
theorem bt_all : bootBuiltins "all" = some (.builtin "all") := by decide +kernel
theorem bt_max : bootBuiltins "max" = some (.builtin "max") := by decide +kernel
theorem bt_min : bootBuiltins "min" = some (.builtin "min") := by decide +kernel
theorem bt_len : bootBuiltins "len" = some (.builtin "len") := by decide +kernel
theorem bt_repr : bootBuiltins "repr" = some (.builtin "repr") := by decide +kernel
theorem bt_sorted : bootBuiltins "sorted" = some (.builtin "sorted") := by decide +kernel
theorem bt_int : bootBuiltins "int" = some (.type "int") := by decide +kernel
theorem bt_list : bootBuiltins "list" = some (.type "list") := by decide +kernel
theorem bt_tuple : bootBuiltins "tuple" = some (.type "tuple") := by decide +kernel
theorem bt_bool : bootBuiltins "bool" = some (.type "bool") := by decide +kernel
theorem bt_str : bootBuiltins "str" = some (.type "str") := by decide +kernel
theorem bt_dict : bootBuiltins "dict" = some (.type "dict") := by decide +kernel
section
variable {c : Cfg} {Φ : Fns} {F : Str → Str → Bool} {k : Nat} {r : Trs} {st : St0} {X : Cx} {rw : Bool}
theorem bi_ok (S : Sound c Φ F k r) (G : Good c Φ k st X) {x : Str} {b : Bi} {m : Bool} {p pos : Pos} {e : Expr} {es : List Expr} {cs : Tms} (hb : biOf x = some b) (hx : bB c st x = true) (h : trEs r st (e :: es) = some cs) : PEd X true Φ F (.Call (.Name x p) (e :: es) [] pos) (.bi b m cs) := by
  obtain ⟨g1, g2⟩ := good_bt G hx
  obtain ⟨pa, ps⟩ := trEs_ok (rw := true) S G h (.inl rfl)
  have O := G.O
  obtain ⟨a, q, rfl⟩ : ∃ a q, cs = .cons a q := by
    unfold trEs at h
    split at h <;> try contradiction
    simp only [Option.bind_eq_some_iff, Option.map_eq_some_iff] at h
    obtain ⟨a, _, q, _, rfl⟩ := h
    exact ⟨a, q, rfl⟩
  obtain ⟨e', es', e1, h1, h2, h3⟩ := trEs_cons h
  cases e1
  have he := star_cons (es := es) (env := X.env) h1
  have hpl : (backTo pos (starEach es X.env)).any (·.1) = false := back_plain fun p hp => ps p (by rw [he]; exact List.mem_cons_of_mem _ hp)
  unfold biOf at hb
  repeat' split at hb
  · rename_i ex; cases hb; have ex := eq_of_beq ex; subst ex; exact d_biF (b_all O) g1 g2 bt_all pa (by decide) (by decide) he hpl
  · rename_i ex; cases hb; have ex := eq_of_beq ex; subst ex; exact d_biF (b_any O) g1 g2 bt_any pa (by decide) (by decide) he hpl
  · rename_i ex; cases hb; have ex := eq_of_beq ex; subst ex; exact d_biF b_len g1 g2 bt_len pa (by decide) (by decide) he hpl
  · rename_i ex; cases hb; have ex := eq_of_beq ex; subst ex; exact d_biT b_int g1 g2 bt_int pa (by decide) (by decide) he hpl
  · rename_i ex; cases hb; have ex := eq_of_beq ex; subst ex; exact d_biT (b_list O) g1 g2 bt_list pa (by decide) (by decide) he hpl
  · rename_i ex; cases hb; have ex := eq_of_beq ex; subst ex; exact d_biT b_tuple g1 g2 bt_tuple pa (by decide) (by decide) he hpl
  · rename_i ex; cases hb; have ex := eq_of_beq ex; subst ex; exact d_biF (b_max O) g1 g2 bt_max pa (by decide) (by decide) he hpl
  · rename_i ex; cases hb; have ex := eq_of_beq ex; subst ex; exact d_biF (b_min O) g1 g2 bt_min pa (by decide) (by decide) he hpl
  · rename_i ex; cases hb; have ex := eq_of_beq ex; subst ex; exact d_biF (b_repr O) g1 g2 bt_repr pa (by decide) (by decide) he hpl
  · rename_i ex; cases hb; have ex := eq_of_beq ex; subst ex; exact d_biF (b_sorted O) g1 g2 bt_sorted pa (by decide) (by decide) he hpl
  · cases hb
theorem tn_ok {y : Str} {t : TN} (h : tnOf y = some t) : bootBuiltins y = some (.type t.nm) ∧ y ≠ "__name__" ∧ (y == ("__debug__" : Str)) = false := by
  unfold tnOf at h
  repeat' split at h
  · rename_i ex; cases h; have ex := eq_of_beq ex; subst ex; exact ⟨bt_int, by decide, by decide⟩
  · rename_i ex; cases h; have ex := eq_of_beq ex; subst ex; exact ⟨bt_bool, by decide, by decide⟩
  · rename_i ex; cases h; have ex := eq_of_beq ex; subst ex; exact ⟨bt_str, by decide, by decide⟩
  · rename_i ex; cases h; have ex := eq_of_beq ex; subst ex; exact ⟨bt_tuple, by decide, by decide⟩
  · rename_i ex; cases h; have ex := eq_of_beq ex; subst ex; exact ⟨bt_list, by decide, by decide⟩
  · rename_i ex; cases h; have ex := eq_of_beq ex; subst ex; exact ⟨bt_dict, by decide, by decide⟩
  · cases h
theorem trBi_ok (S : Sound c Φ F k r) (G : Good c Φ k st X) {x : Str} {p pos : Pos} {args : List Expr} {t : Tm} (hx : bB c st x = true) (h : trBi c r st x args pos = some t) : PEd X true Φ F (.Call (.Name x p) args [] pos) t := by
  obtain ⟨g1, g2⟩ := good_bt G hx
  unfold trBi at h
  split at h
  · rename_i ex
    have ex := eq_of_beq ex
    subst ex
    unfold trIsa at h
    split at h <;> try contradiction
    rename_i a y p2
    split at h <;> try contradiction
    rename_i hy
    simp only [Bool.and_eq_true, Bool.not_eq_true'] at hy
    simp only [Option.bind_eq_some_iff, Option.map_eq_some_iff] at h
    obtain ⟨tn, h1, ca, h2, rfl⟩ := h
    obtain ⟨t1, t2, t3⟩ := tn_ok h1
    obtain ⟨y1, y2⟩ := good_bt G hy.1
    exact d_isa g1 g2 (S.E _ _ _ h2 X true G (.inl rfl)) y1 y2 t1 t2 t3 (star_cons hy.2) rfl rfl
  · split at h
    · rename_i _ ex
      have ex := eq_of_beq ex
      subst ex
      unfold trDict at h
      split at h <;> try contradiction
      rename_i z p2 a b q2
      split at h <;> try contradiction
      rename_i hz
      rw [Bool.and_eq_true] at hz
      have ez := eq_of_beq hz.1
      subst ez
      obtain ⟨z1, z2⟩ := good_bt G hz.2
      simp only [Option.bind_eq_some_iff] at h
      obtain ⟨cs, h1, h2⟩ := h
      split at h2 <;> try contradiction
      rename_i ca cb
      cases h2
      obtain ⟨a', b', e1, s1, s2, h3, h4⟩ := trEs_two h1
      cases e1
      exact d_dicz G.O g1 g2 z1 z2 (two_ok (es := []) S G s1 s2 h3 h4) (star_cons s1) (back1 s2) rfl
    · split at h
      · rename_i _ _ ex
        have ex := eq_of_beq ex
        subst ex
        unfold trRange at h
        split at h <;> try contradiction
        · rename_i a
          split at h <;> try contradiction
          rename_i hs
          simp only [Option.map_eq_some_iff] at h
          obtain ⟨ca, h1, rfl⟩ := h
          have hs : starB a = false := by simpa using hs
          exact d_rng1 g1 g2 (a_cons (S.E _ _ _ h1 X true G (.inl rfl)) a_nil (star_cons hs)) (star_cons hs)
        · rename_i a b
          split at h <;> try contradiction
          rename_i hs
          simp only [Option.bind_eq_some_iff, Option.map_eq_some_iff] at h
          obtain ⟨ca, h1, cb, h2, rfl⟩ := h
          have hs : starB a = false ∧ starB b = false := by simpa using hs
          exact d_rng2 g1 g2 (two_ok (es := []) S G hs.1 hs.2 h1 h2) (star_cons hs.1) (back1 hs.2)
      · split at h
        · rename_i _ _ _ ex
          rw [Bool.and_eq_true] at ex
          have e1 := eq_of_beq ex.1
          subst e1
          unfold trSort at h
          split at h <;> try contradiction
          rename_i z p2 a q2
          split at h <;> try contradiction
          rename_i hz
          simp only [Bool.and_eq_true, Bool.not_eq_true'] at hz
          have ez := eq_of_beq hz.1.1
          subst ez
          obtain ⟨z1, z2⟩ := good_bt G hz.1.2
          simp only [Option.map_eq_some_iff] at h
          obtain ⟨ca, h1, rfl⟩ := h
          exact d_srt G.O g1 g2 z1 z2 (S.E _ _ _ h1 X true G (.inl rfl)) hz.2
        · split at h <;> try contradiction
          rename_i he
          simp only [Option.bind_eq_some_iff, Option.map_eq_some_iff] at h
          obtain ⟨b, h1, cs, h2, rfl⟩ := h
          cases args with
          | nil => simp at he
          | cons a as => exact bi_ok S G h1 hx h2
theorem sup_plain {o : Expr} (h : supB o = false) (m : Str) (env : PySem.Env) : attributeBase o m env (eval o env) = eval o env := by
  unfold attributeBase
  split
  · simp [supB] at h
  · rfl
theorem bm_ok {o : Expr} {m : Str} {apos cpos : Pos} {es : List Expr} (h1 : supB o = false) (h2 : apos.endLine = cpos.line) (h3 : ∀ p ∈ starEach es X.env, p.1 = false) (h4 : es.length < 30) : BmOk X o m apos es cpos where
  base := sup_plain h1 m X.env
  few := by
    simp only [Bool.and_eq_true, decide_eq_true_eq]
    refine ⟨⟨?_, rfl⟩, by simpa using h4⟩
    unfold backTo
    rw [List.all_map, List.all_eq_true]
    intro p hp
    simp [h3 p hp]
  line := by simpa using h2
theorem trMeth_ok (S : Sound c Φ F k r) (G : Good c Φ k st X) {o : Expr} {co t : Tm} {m : Str} {apos cpos : Pos} {args : List Expr} (ho : r.E st o = some co) (h1 : supB o = false) (h2 : apos.endLine = cpos.line) (h : trMeth r st co m args = some t) : PEd X true Φ F (.Call (.Attribute o m apos) args [] cpos) t := by
  have po := S.E _ _ _ ho X true G (.inl rfl)
  unfold trMeth at h
  split at h
  · rename_i ex
    have ex := eq_of_beq ex
    subst ex
    split at h <;> try contradiction
    rename_i a
    simp only [Option.map_eq_some_iff] at h
    obtain ⟨cs, h3, rfl⟩ := h
    obtain ⟨pa, ps⟩ := trEs_ok (rw := true) S G h3 (.inl rfl)
    have hs : starB a = false := by
      unfold trEs at h3
      split at h3 <;> try contradiction
      rename_i z; simpa using z
    exact d_append po pa (bm_ok h1 h2 ps (by simp)) (star_cons hs)
  · split at h
    · rename_i _ ex
      have ex := eq_of_beq ex
      subst ex
      split at h <;> try contradiction
      rename_i a
      simp only [Option.map_eq_some_iff] at h
      obtain ⟨cs, h3, rfl⟩ := h
      obtain ⟨pa, ps⟩ := trEs_ok (rw := true) S G h3 (.inl rfl)
      have hs : starB a = false := by
        unfold trEs at h3
        split at h3 <;> try contradiction
        rename_i z; simpa using z
      exact d_extend po pa (bm_ok h1 h2 ps (by simp)) (star_cons hs)
    · split at h
      · rename_i _ _ ex
        have ex := eq_of_beq ex
        subst ex
        split at h <;> try contradiction
        · cases h
          exact d_pop0 po (bm_ok h1 h2 (fun p hp => by simp [starEach] at hp) (by decide))
        · rename_i a
          simp only [Option.map_eq_some_iff] at h
          obtain ⟨cs, h3, rfl⟩ := h
          obtain ⟨pa, ps⟩ := trEs_ok (rw := true) S G h3 (.inl rfl)
          have hs : starB a = false := by
            unfold trEs at h3
            split at h3 <;> try contradiction
            rename_i z; simpa using z
          exact d_popAt po pa (bm_ok h1 h2 ps (by simp)) (star_cons hs)
      · split at h <;> try contradiction
        rename_i _ _ _ ex
        have ex := eq_of_beq ex
        subst ex
        split at h <;> try contradiction
        rename_i a b
        split at h <;> try contradiction
        rename_i hs
        have hs : starB a = false ∧ starB b = false := by simpa using hs
        simp only [Option.bind_eq_some_iff, Option.map_eq_some_iff] at h
        obtain ⟨ca, h3, cb, h4, rfl⟩ := h
        refine d_get2 G.O po (S.E _ _ _ h3 X true G (.inl rfl)) (S.E _ _ _ h4 X true G (.inl rfl)) (bm_ok h1 h2 (fun p hp => ?_) (by simp)) ?_
        · rw [star_cons hs.1, star_cons hs.2] at hp
          simp only [starEach, List.mem_cons, List.not_mem_nil, or_false] at hp
          rcases hp with rfl | rfl <;> rfl
        · rw [star_cons hs.1, star_cons hs.2]; rfl
theorem trCall_ok (S : Sound c Φ F k r) (G : Good c Φ k st X) {f : Expr} {args : List Expr} {kws : List Keyword} {pos : Pos} {t : Tm} (h : trCall c r st f args kws pos = some t) : PEd X true Φ F (.Call f args kws pos) t := by
  unfold trCall at h
  split at h
  · rename_i x p
    split at h
    · split at h
      · rename_i hx
        exact trBi_ok S G hx h
      · split at h <;> try contradiction
        rename_i hg
        simp only [Bool.and_eq_true, Bool.not_eq_true'] at hg
        simp only [Option.bind_eq_some_iff, Option.map_eq_some_iff] at h
        obtain ⟨ps, h1, cs, h2, rfl⟩ := h
        obtain ⟨f, fd, gf, _⟩ := G.fns x ps h1
        have hd : (x == ("__debug__" : Str)) = false := by
          have := hg.2
          unfold dbgB at this
          rw [Bool.or_eq_false_iff] at this
          exact this.1
        obtain ⟨pa, pl⟩ := trEs_ok (rw := true) S G h2 (.inl rfl)
        cases args with
        | nil =>
          cases h2
          exact d_call0 gf G.O G.room (good_gl G hg.1) hd
        | cons a as =>
          obtain ⟨a', q, rfl⟩ : ∃ a q, cs = .cons a q := by
            unfold trEs at h2
            split at h2 <;> try contradiction
            simp only [Option.bind_eq_some_iff, Option.map_eq_some_iff] at h2
            obtain ⟨a, _, q, _, rfl⟩ := h2
            exact ⟨a, q, rfl⟩
          obtain ⟨e', es', e1, h3, _, _⟩ := trEs_cons h2
          cases e1
          have he := star_cons (es := as) (env := X.env) h3
          exact d_call gf G.O G.room (good_gl G hg.1) pa hd he (back_plain fun p hp => pl p (by rw [he]; exact List.mem_cons_of_mem _ hp))
    · split at h <;> try contradiction
      rename_i hg
      simp only [Bool.and_eq_true, Bool.not_eq_true'] at hg
      simp only [Option.bind_eq_some_iff] at h
      obtain ⟨ps, h1, q, h2, h3⟩ := h
      split at h3 <;> try contradiction
      rename_i hk
      simp only [Option.map_eq_some_iff] at h3
      obtain ⟨is, h4, rfl⟩ := h3
      obtain ⟨f, fd, gf, w⟩ := G.fns x ps h1
      have hd : (x == ("__debug__" : Str)) = false := by
        have := hg.1.1.2
        unfold dbgB at this
        rw [Bool.or_eq_false_iff] at this
        exact this.1
      have ea : args = [] := by simpa using hg.2
      subst ea
      obtain ⟨p1, p2⟩ := trKw_ok S G (ks := q.1) (cs := q.2) h2
      refine d_callK gf G.O G.room (good_gl G hg.1.1.1) (w q.1 is (by simpa using hk) h4) p1 (p2 pos).1 (p2 pos).2 hd ?_
      show (false || _) = false
      rw [Bool.false_or]
      exact kw_any (p2 pos).1
  · rename_i o m apos
    split at h <;> try contradiction
    rename_i hc
    simp only [Bool.and_eq_true, Bool.not_eq_true', beq_iff_eq] at hc
    simp only [Option.bind_eq_some_iff] at h
    obtain ⟨co, h1, h2⟩ := h
    have ek : kws = [] := by simpa using hc.1.2
    subst ek
    exact trMeth_ok S G h1 hc.2 hc.1.1 h2
  · cases h
end
end MP

set_option Elab.async false
set_option linter.all false
set_option maxRecDepth 100000
set_option maxHeartbeats 4000000
/-! MP22: expressions, translated, are so. -/
namespace MP
open PySem L2
open PySem.Spec PyProof.Rows
section
variable {c : Cfg} {Φ : Fns} {F : Str → Str → Bool} {k : Nat} {r : Trs} {st : St0} {X : Cx} {rw : Bool}
theorem ix_plain {b : Expr} (h : sliceB b = false) : PlainIx b := fun o i => by
  cases b <;> first | rfl | (simp [sliceB] at h)
theorem d_slice {a : Expr} {lo hi : Option Expr} {ca t : Tm} {p pos : Pos} (S : Sound c Φ F k r) (G : Good c Φ k st X) (ha : PEd X true Φ F a ca) (h : (match lo, hi with
    | none, none => some (Tm.sl ca false false (.cst .non) (.cst .non))
    | some l, none => (r.E st l).map fun cl => .sl ca true false cl (.cst .non)
    | none, some h => (r.E st h).map fun ch => .sl ca false true (.cst .non) ch
    | some l, some h => (r.E st l).bind fun cl => (r.E st h).map fun ch => .sl ca true true cl ch) = some t) : PEd X true Φ F (.Subscript a (.Slice lo hi none p) pos) t := by
  split at h
  · cases h; exact d_sl ha .none .none
  · simp only [Option.map_eq_some_iff] at h
    obtain ⟨cl, h1, rfl⟩ := h
    exact d_sl ha (.some (S.E _ _ _ h1 X true G (.inl rfl))) .none
  · simp only [Option.map_eq_some_iff] at h
    obtain ⟨ch, h1, rfl⟩ := h
    exact d_sl ha .none (.some (S.E _ _ _ h1 X true G (.inl rfl)))
  · simp only [Option.bind_eq_some_iff, Option.map_eq_some_iff] at h
    obtain ⟨cl, h1, ch, h2, rfl⟩ := h
    exact d_sl ha (.some (S.E _ _ _ h1 X true G (.inl rfl))) (.some (S.E _ _ _ h2 X true G (.inl rfl)))
theorem ro_and {a b : Tm} {t : Tm} (e : ro t = (ro a && ro b)) (w : rw = true ∨ ro t = true) : (rw = true ∨ ro a = true) ∧ (rw = true ∨ ro b = true) := by
  rcases w with w | w
  · exact ⟨.inl w, .inl w⟩
  · rw [e, Bool.and_eq_true] at w
    exact ⟨.inr w.1, .inr w.2⟩
theorem ro_no {t : Tm} (e : ro t = false) (w : rw = true ∨ ro t = true) : rw = true := by
  rcases w with w | w
  · exact w
  · rw [e] at w; cases w
theorem trComp_ro {elt : Expr} {gens : List Comprehension} {scope : Scope} {pos : Pos} {t : Tm} (h : trComp c r st elt gens scope pos = some t) : ro t = false := by
  unfold trComp at h
  split at h
  · split at h <;> try contradiction
    simp only [Option.bind_eq_some_iff] at h
    obtain ⟨_, _, _, _, _, _, h⟩ := h
    split at h <;> try contradiction
    split at h
    · simp only [Option.bind_eq_some_iff] at h
      obtain ⟨_, _, h⟩ := h
      split at h <;> cases h
      simp [ro]
    · simp only [Option.map_eq_some_iff] at h
      obtain ⟨_, _, rfl⟩ := h
      simp [ro]
  · split at h <;> try contradiction
    simp only [Option.bind_eq_some_iff] at h
    obtain ⟨_, _, _, _, _, _, _, _, h⟩ := h
    split at h <;> try contradiction
    simp only [Option.bind_eq_some_iff, Option.map_eq_some_iff] at h
    obtain ⟨_, _, _, _, rfl⟩ := h
    simp [ro]
  · cases h
theorem trBi_ro {x : Str} {args : List Expr} {pos : Pos} {t : Tm} (h : trBi c r st x args pos = some t) : ro t = false := by
  unfold trBi at h
  split at h
  · unfold trIsa at h
    split at h <;> try contradiction
    split at h <;> try contradiction
    simp only [Option.bind_eq_some_iff, Option.map_eq_some_iff] at h
    obtain ⟨_, _, _, _, rfl⟩ := h
    simp [ro]
  · split at h
    · unfold trDict at h
      split at h <;> try contradiction
      split at h <;> try contradiction
      simp only [Option.bind_eq_some_iff] at h
      obtain ⟨_, _, h⟩ := h
      split at h <;> cases h
      simp [ro]
    · split at h
      · unfold trRange at h
        split at h <;> try contradiction
        · split at h <;> try contradiction
          simp only [Option.map_eq_some_iff] at h
          obtain ⟨_, _, rfl⟩ := h
          simp [ro]
        · split at h <;> try contradiction
          simp only [Option.bind_eq_some_iff, Option.map_eq_some_iff] at h
          obtain ⟨_, _, _, _, rfl⟩ := h
          simp [ro]
      · split at h
        · unfold trSort at h
          split at h <;> try contradiction
          split at h <;> try contradiction
          simp only [Option.map_eq_some_iff] at h
          obtain ⟨_, _, rfl⟩ := h
          simp [ro]
        · split at h <;> try contradiction
          simp only [Option.bind_eq_some_iff, Option.map_eq_some_iff] at h
          obtain ⟨_, _, _, _, rfl⟩ := h
          simp [ro]
theorem trMeth_ro {co t : Tm} {m : Str} {args : List Expr} (h : trMeth r st co m args = some t) : ro t = false := by
  unfold trMeth at h
  repeat' split at h
  all_goals try contradiction
  all_goals try (cases h; simp [ro]; done)
  all_goals simp only [Option.bind_eq_some_iff, Option.map_eq_some_iff] at h
  all_goals first
    | (obtain ⟨_, _, rfl⟩ := h; simp [ro]; done)
    | (obtain ⟨_, _, _, _, rfl⟩ := h; simp [ro]; done)
theorem trCall_ro {f : Expr} {args : List Expr} {kws : List Keyword} {pos : Pos} {t : Tm} (h : trCall c r st f args kws pos = some t) : ro t = false := by
  unfold trCall at h
  split at h
  · split at h
    · split at h
      · exact trBi_ro h
      · split at h <;> try contradiction
        simp only [Option.bind_eq_some_iff, Option.map_eq_some_iff] at h
        obtain ⟨_, _, _, _, rfl⟩ := h
        simp [ro]
    · split at h <;> try contradiction
      simp only [Option.bind_eq_some_iff] at h
      obtain ⟨_, _, _, _, h⟩ := h
      split at h <;> try contradiction
      simp only [Option.map_eq_some_iff] at h
      obtain ⟨_, _, rfl⟩ := h
      simp [ro]
  · split at h <;> try contradiction
    simp only [Option.bind_eq_some_iff] at h
    obtain ⟨_, _, h⟩ := h
    exact trMeth_ro h
  · cases h
theorem stepE_ok (S : Sound c Φ F k r) (G : Good c Φ k st X) {e : Expr} {t : Tm} (h : stepE c r st e = some t) (w : rw = true ∨ ro t = true) : PEd X rw Φ F e t := by
  unfold stepE at h
  split at h
  · -- a name
    rename_i x p
    split at h <;> try contradiction
    rename_i hd
    have hd : (x == ("__debug__" : Str)) = false ∧ (x == ("__classdict__" : Str)) = false := by
      have : dbgB x = false := by simpa using hd
      unfold dbgB at this
      rw [Bool.or_eq_false_iff] at this
      exact this
    split at h
    · rename_i hv
      simp only [Option.map_eq_some_iff] at h
      obtain ⟨i, hi, rfl⟩ := h
      exact d_var (by rw [G.N]; exact nmIx_get hi) (good_vis G hv) hd.1 hd.2
    · split at h <;> try contradiction
      rename_i hg
      simp only [Option.map_eq_some_iff] at h
      obtain ⟨d, h1, rfl⟩ := h
      obtain ⟨v, u, e1, e2, e3⟩ := G.cst x d h1
      exact d_cst (pe_glob (good_gl G hg) e1 e2 hd.1) e3
  · -- a constant
    split at h
    · cases h; exact d_cst pe_non fun _ _ => .non
    · cases h; exact d_cst pe_bl fun _ _ => .bl _
    · cases h; exact d_cst pe_int fun _ _ => .int _
    · cases h; exact d_cst pe_str fun _ _ => .str _
    · cases h
  · -- an operation
    rename_i a o b p
    split at h <;> try contradiction
    rename_i ho
    simp only [Option.bind_eq_some_iff, Option.map_eq_some_iff] at h
    obtain ⟨ca, h1, cb, h2, rfl⟩ := h
    have er := ro_no (by simp [ro]) w
    subst er
    have pa := S.E _ _ _ h1 X true G (.inl rfl)
    have pb := S.E _ _ _ h2 X true G (.inl rfl)
    simp only [Bool.or_eq_true, beq_iff_eq] at ho
    rcases ho with (((((rfl | rfl) | rfl) | rfl) | rfl) | rfl) | rfl
    · exact d_bin op_Add pa pb
    · exact d_bin op_Sub pa pb
    · exact d_bin op_Mult pa pb
    · exact d_bin op_FloorDiv pa pb
    · exact d_bin op_Mod pa pb
    · exact d_bin op_Pow pa pb
    · exact d_bin op_BitAnd pa pb
  · rename_i o a p
    split at h
    · rename_i ho
      have ho := eq_of_beq ho
      subst ho
      simp only [Option.map_eq_some_iff] at h
      obtain ⟨ca, h1, rfl⟩ := h
      exact d_neg (S.E _ _ _ h1 X rw G (w.imp id fun z => by simpa [ro] using z))
    · split at h <;> try contradiction
      rename_i ho
      have ho := eq_of_beq ho
      subst ho
      simp only [Option.map_eq_some_iff] at h
      obtain ⟨ca, h1, rfl⟩ := h
      exact d_not (S.E _ _ _ h1 X rw G (w.imp id fun z => by simpa [ro] using z))
  · rename_i a o b p
    split at h <;> try contradiction
    rename_i hm
    simp only [Option.bind_eq_some_iff, Option.map_eq_some_iff] at h
    obtain ⟨ca, h1, cb, h2, rfl⟩ := h
    obtain ⟨w1, w2⟩ := ro_and (a := ca) (b := cb) (by simp [ro]) w
    exact d_cmp G.O (S.E _ _ _ h1 X rw G w1) (S.E _ _ _ h2 X rw G w2) (by simpa using hm)
  · rename_i a o o' b d p
    split at h <;> try contradiction
    rename_i hm
    simp only [Option.bind_eq_some_iff, Option.map_eq_some_iff] at h
    obtain ⟨ca, h1, cb, h2, cd, h3, rfl⟩ := h
    have w' : rw = true ∨ (ro ca = true ∧ ro cb = true ∧ ro cd = true) := w.imp id fun z => by simpa [ro, and_assoc] using z
    exact d_cmp2 G.O (S.E _ _ _ h1 X rw G (w'.imp id fun z => z.1)) (S.E _ _ _ h2 X rw G (w'.imp id fun z => z.2.1)) (S.E _ _ _ h3 X rw G (w'.imp id fun z => z.2.2)) (by simpa using hm)
  · rename_i o a b rest p
    simp only [Option.bind_eq_some_iff, Option.map_eq_some_iff] at h
    obtain ⟨ca, h1, cb, h2, rfl⟩ := h
    cases o with
    | And =>
      have w' : rw = true ∨ ro (Tm.and ca cb) = true := w
      obtain ⟨w1, w2⟩ := ro_and (a := ca) (b := cb) (by simp [ro]) w'
      exact d_and (S.E _ _ _ h1 X rw G w1) (S.E _ _ _ h2 X rw G w2)
    | Or =>
      have w' : rw = true ∨ ro (Tm.or ca cb) = true := w
      obtain ⟨w1, w2⟩ := ro_and (a := ca) (b := cb) (by simp [ro]) w'
      exact d_or (S.E _ _ _ h1 X rw G w1) (S.E _ _ _ h2 X rw G w2)
  · exact d_one (S.E _ _ _ h X rw G w)
  · simp only [Option.bind_eq_some_iff, Option.map_eq_some_iff] at h
    obtain ⟨ct, h1, ca, h2, cb, h3, rfl⟩ := h
    have er := ro_no (by simp [ro]) w
    subst er
    exact d_ite (S.T _ _ _ h1 X true G (.inl rfl)) (S.E _ _ _ h2 X true G (.inl rfl)) (S.E _ _ _ h3 X true G (.inl rfl))
  · simp only [Option.map_eq_some_iff] at h
    obtain ⟨ca, h1, rfl⟩ := h
    have er := ro_no (by simp [ro]) w
    subst er
    exact d_rev (S.E _ _ _ h1 X true G (.inl rfl))
  · simp only [Option.bind_eq_some_iff] at h
    obtain ⟨ca, h1, h2⟩ := h
    have er : rw = true := ro_no (by
      split at h2
      · cases h2; simp [ro]
      · simp only [Option.map_eq_some_iff] at h2
        obtain ⟨_, _, rfl⟩ := h2; simp [ro]
      · simp only [Option.map_eq_some_iff] at h2
        obtain ⟨_, _, rfl⟩ := h2; simp [ro]
      · simp only [Option.bind_eq_some_iff, Option.map_eq_some_iff] at h2
        obtain ⟨_, _, _, _, rfl⟩ := h2; simp [ro]) w
    subst er
    exact d_slice S G (S.E _ _ _ h1 X true G (.inl rfl)) h2
  · rename_i a i p n1 n2
    split at h <;> try contradiction
    rename_i hs
    have hs : sliceB i = false ∧ starB i = false := by simpa using hs
    simp only [Option.bind_eq_some_iff, Option.map_eq_some_iff] at h
    obtain ⟨ca, h1, ci, h2, rfl⟩ := h
    obtain ⟨w1, w2⟩ := ro_and (a := ca) (b := ci) (by simp [ro]) w
    exact d_ix G.O (S.E _ _ _ h1 X rw G w1) (S.E _ _ _ h2 X rw G w2) (ix_plain hs.1)
  · simp only [Option.map_eq_some_iff] at h
    obtain ⟨cs, h1, rfl⟩ := h
    exact d_tup (trEs_ok S G h1 (w.imp id fun z => by simpa [ro] using z)).1
  · simp only [Option.map_eq_some_iff] at h
    obtain ⟨cs, h1, rfl⟩ := h
    have er := ro_no (by simp [ro]) w
    subst er
    exact d_lst (trEs_ok S G h1 (.inl rfl)).1
  · cases h
    have er := ro_no (by simp [ro]) w
    subst er
    rename_i p
    cases at0 c.tD p with
    | true => exact d_dnewT
    | false => exact d_dnewK
  · rename_i ks vs p n1
    split at h <;> try contradiction
    rename_i hl
    simp only [Option.map_eq_some_iff] at h
    obtain ⟨cs, h1, rfl⟩ := h
    have er := ro_no (by simp [ro]) w
    subst er
    obtain ⟨p1, p2, p3, p4⟩ := pairs_ok (pos := p) S G h1
    refine d_dct p1 p2 p3 p4 (fun z => ?_) hl
    subst z
    have : vs = [] := List.length_eq_zero_iff.mp p4.symm
    exact n1 rfl this
  · have er : rw = true := ro_no (trComp_ro h) w
    subst er
    exact trComp_ok S G h
  · have er : rw = true := ro_no (trCall_ro h) w
    subst er
    exact trCall_ok S G h
  · cases h
theorem stepW_ok (S : Sound c Φ F k r) (G : Good c Φ k st X) {o : BoolOp} {es : List Expr} {p : Pos} {t : Tm} (h : stepT c r st (.BoolOp o es p) = some t) (w : rw = true ∨ ro t = true) : PWd X rw Φ F (.BoolOp o es p) t := by
  match es, h with
  | [], h => cases h
  | [a], h =>
    have h : r.T st a = some t := h
    cases o with
    | And => exact w_and1 (S.T _ _ _ h X rw G w)
    | Or => exact w_or1 (S.T _ _ _ h X rw G w)
  | a :: b :: rest, h =>
    have h : ((r.T st a).bind fun ca => (r.T st (.BoolOp o (b :: rest) p)).map fun cb => if o == .And then Tm.and ca cb else .or ca cb) = some t := h
    simp only [Option.bind_eq_some_iff, Option.map_eq_some_iff] at h
    obtain ⟨ca, h1, cb, h2, rfl⟩ := h
    cases o with
    | And =>
      have w' : rw = true ∨ ro (Tm.and ca cb) = true := w
      obtain ⟨w1, w2⟩ := ro_and (a := ca) (b := cb) (by simp [ro]) w'
      exact w_and (S.T _ _ _ h1 X rw G w1) (S.W _ _ _ _ _ h2 X rw G w2)
    | Or =>
      have w' : rw = true ∨ ro (Tm.or ca cb) = true := w
      obtain ⟨w1, w2⟩ := ro_and (a := ca) (b := cb) (by simp [ro]) w'
      exact w_or (S.T _ _ _ h1 X rw G w1) (S.W _ _ _ _ _ h2 X rw G w2)
theorem stepT_ok (S : Sound c Φ F k r) (G : Good c Φ k st X) {e : Expr} {t : Tm} (h : stepT c r st e = some t) (w : rw = true ∨ ro t = true) : PTd X rw Φ F e t := by
  unfold stepT at h
  split at h
  · simp only [Option.map_eq_some_iff] at h
    obtain ⟨ca, h1, rfl⟩ := h
    exact t_not (S.T _ _ _ h1 X rw G (w.imp id fun z => by simpa [ro] using z))
  · rename_i a ops bs p
    unfold stepE at h
    split at h <;> rename_i heq <;> try (cases heq; done)
    all_goals try contradiction
    · cases heq
      split at h <;> try contradiction
      rename_i hm
      simp only [Option.bind_eq_some_iff, Option.map_eq_some_iff] at h
      obtain ⟨ca, h1, cb, h2, rfl⟩ := h
      obtain ⟨w1, w2⟩ := ro_and (a := ca) (b := cb) (by simp [ro]) w
      exact t_cmp G.O (S.E _ _ _ h1 X rw G w1) (S.E _ _ _ h2 X rw G w2) (by simpa using hm)
    · cases heq
      split at h <;> try contradiction
      rename_i hm
      simp only [Option.bind_eq_some_iff, Option.map_eq_some_iff] at h
      obtain ⟨ca, h1, cb, h2, cd, h3, rfl⟩ := h
      have w' : rw = true ∨ (ro ca = true ∧ ro cb = true ∧ ro cd = true) := w.imp id fun z => by simpa [ro, and_assoc] using z
      exact t_cmp2 G.O (S.E _ _ _ h1 X rw G (w'.imp id fun z => z.1)) (S.E _ _ _ h2 X rw G (w'.imp id fun z => z.2.1)) (S.E _ _ _ h3 X rw G (w'.imp id fun z => z.2.2)) (by simpa using hm)
  · exact (stepW_ok S G (r := r) (by unfold stepT; exact h) w).pt
  · exact (stepW_ok S G (r := r) (by unfold stepT; exact h) w).pt
  · cases h
  · cases h
  · rename_i n1 n2 n3 n4 n5 n6
    refine t_val (S.E _ _ _ h X rw G w) fun whole => ?_
    cases e with
    | UnaryOp o a p =>
      cases o with
      | Not => exact absurd rfl (n1 a p)
      | _ => rfl
    | BoolOp o es p =>
      cases es with
      | nil => exact absurd rfl (n5 o p)
      | cons a es =>
        cases es with
        | nil => exact absurd rfl (n4 o a p)
        | cons b es => exact absurd rfl (n3 o a b es p)
    | Compare a os bs p => exact absurd rfl (n2 a os bs p)
    | IfExp a b d p => exact absurd rfl (n6 a b d p)
    | _ => rfl
theorem step_ok (S : Sound c Φ F k r) : Sound c Φ F k ⟨stepE c r, stepT c r⟩ :=
  ⟨fun st e t h X rw G w => stepE_ok S G h w, fun st e t h X rw G w => stepT_ok S G h w, fun st o es p t h X rw G w => stepW_ok S G h w⟩
theorem trN_ok : ∀ n, Sound c Φ F k (trN c n)
  | 0 => ⟨fun _ _ _ h => (nomatch h), fun _ _ _ h => (nomatch h), fun _ _ _ _ _ h => (nomatch h)⟩
  | n + 1 => step_ok (trN_ok n)
end
end MP

set_option Elab.async false
set_option linter.all false
set_option maxRecDepth 100000
set_option maxHeartbeats 4000000
/-! MP23: statements, translated. -/
namespace MP
open PySem L2
open PySem.Spec PyProof.Rows
def compB : Expr → Bool
  | .ListComp _ _ _ _ => true
  | .SetComp _ _ _ _ => true
  | .DictComp _ _ _ _ _ => true
  | _ => false
/-- the stores are exchanged: name = [..] on one line -/
def swB (sc : Scope) (scope : Scope) (t : Str) (tp vp : Pos) : Bool := sc.names.lookup t == some .local && tp.line == vp.line && !(scope.names.any fun (n, k) => n == t && (k == .local || k == .cell))
/-- the names that are stored from the right; outside: not supported -/
def swO (sc : Scope) (ts vs : List Expr) : Option (Option (List Str)) :=
  if !(ts.length == 2 || ts.length == 3) || vs.length != ts.length then some none
  else if vs.any (fun | .Starred .. => true | _ => false) then some none
  else
    let line := (ts.head?.map (·.pos.line)).getD 0
    let names := ts.filterMap fun
      | .Name id pos => if sc.names.lookup id == some .local && pos.line == line then some id else none
      | _ => none
    if names.length != ts.length || names.eraseDups.length != names.length then some none
    else if vs.all (foldedForSure 8) then some none
    else if vs.all (constantsAlone 8) then none
    else some (some names)
section
variable (c : Cfg) (r : Trs) (q : St0 → List Stmt → Option Sms)
def trSub (st : St0) : Expr → Option Ta
  | .Subscript o i _ => if sliceB i then none else (r.E st o).bind fun a => (r.E st i).map fun b => .sub a b
  | .Name x _ => if locB st x then (nmIx st.N x).map .nm else none
  | _ => none
def trTa (st : St0) : Expr → Option Ta
  | .Subscript o i p => trSub r st (.Subscript o i p)
  | .Tuple es k p => (match trTg st (.Tuple es k p) with
    | some (.tp is) => some (.tp is)
    | _ => (match es with
      | [a, b] => if starB a || starB b then none else (trSub r st a).bind fun x => (trSub r st b).map fun y => .two x y
      | _ => none))
  | _ => none
def trPar (st : St0) (ts vs : List Expr) (ns : List Str) : Option Sm := match ts, vs, ns with
  | [.Name x _, .Name y _], [_, _], [x', y'] => if x == x' && y == y' then (nmIx st.N x).bind fun i => (nmIx st.N y).bind fun j => (trEs r st vs).bind fun cs => if i == j then none else
      if st.sc.names.lookup x == some .local && st.sc.names.lookup y == some .local then some (.par [i, j] cs) else none else none
  | [.Name x _, .Name y _, .Name z _], [_, _, _], [x', y', z'] => if x == x' && y == y' && z == z' then (nmIx st.N x).bind fun i => (nmIx st.N y).bind fun j => (nmIx st.N z).bind fun l => (trEs r st vs).bind fun cs => if i == j || i == l || j == l then none else
      if st.sc.names.lookup x == some .local && st.sc.names.lookup y == some .local && st.sc.names.lookup z == some .local then some (.par [i, j, l] cs) else none else none
  | _, _, _ => none
def trAsg (st : St0) (t e : Expr) (pos : Pos) : Option Sm := match t with
  | .Name x p => if locB st x then (nmIx st.N x).bind fun i => (match e with
      | .ListComp elt gens scope vp => (trComp c r st elt gens scope vp).map fun ce => .asg (.nm i) ce
      | e => if compB e then none else (r.E st e).map fun ce => .asg (.nm i) ce) else none
  | .Tuple ts k p => (match e with
      | .Tuple vs k2 p2 => (match swO st.sc ts vs with
        | some (some ns) => trPar r st ts vs ns
        | some none => (trTa r st (.Tuple ts k p)).bind fun g => (r.E st e).map fun ce => .asg g ce
        | none => none)
      | e => (trTa r st (.Tuple ts k p)).bind fun g => (r.E st e).map fun ce => .asg g ce)
  | .Subscript o i p => (trSub r st (.Subscript o i p)).bind fun g => (r.E st e).map fun ce => .asg g ce
  | _ => none
def stepS (st : St0) (s : Stmt) : Option Sm := match s with
  | .Assign [t] e pos => trAsg c r st t e pos
  | .AugAssign (.Subscript o i _) op e _ => if sliceB i then none else (r.E st o).bind fun a => (r.E st i).bind fun b => (r.E st e).map fun d => .aug op a b d
  | .Expr e _ => if compB e then none else (r.E st e).map .expr
  | .If t a b _ => (r.T st t).bind fun ct => (q st a).bind fun ca => (q st b).map fun cb => .ife ct ca cb
  | .For tg it b [] _ => (trTg st tg).bind fun t => (trSrc c r st tg it).bind fun k => (q st b).map fun cb => .for t k cb
  | .While t b [] _ => (r.T st t).bind fun ct => (q st b).map fun cb => .whl ct cb
  | .Return (some e) _ => (r.E st e).map .ret
  | .Return none _ => some .retN
  | .Pass _ => some .pass
  | .Break _ => some .brk
  | .Continue _ => some .cont
  | .Raise _ _ _ => some (.raise "" .nil)
  | _ => none
end
def trSs (c : Cfg) (r : Trs) : Nat → St0 → List Stmt → Option Sms
  | 0, _, _ => none
  | n + 1, st, ss => match ss with
    | [] => some .nil
    | s :: ss => (stepS c r (trSs c r n) st s).bind fun m => (trSs c r n st ss).map fun ms => .cons m ms
section
variable {c : Cfg} {Φ : Fns} {F : Str → Str → Bool} {k : Nat} {r : Trs} {st : St0} {X : Cx}
theorem sw_plain {e : Expr} (h : compB e = false) (o : Option Expr) (l : Nat) (env : PySem.Env) : swapsWith e o l env = pure false := by
  cases e <;> first | rfl | (simp [compB] at h)
theorem sw_comp {elt : Expr} {gens : List Comprehension} {scope : Scope} {vp tp : Pos} {x : Str} {l : Nat} {env : PySem.Env} (hk : env.scope.kind = .function) : swapsWith (.ListComp elt gens scope vp) (some (.Name x tp)) l env = pure (swB env.scope scope x tp vp) := by
  have hb : env.blockKind = .function := by unfold PySem.Env.blockKind; rw [hk]; rfl
  unfold swapsWith swB
  simp only [hb]
  rfl
theorem swO_ok {ts vs : List Expr} {o : Option (List Str)} {k1 k2 : Nat} {p1 p2 : Pos} {env : PySem.Env} (hk : env.scope.kind = .function) (h : swO env.scope ts vs = some o) : swappedStores [.Tuple ts k1 p1] (.Tuple vs k2 p2) env = pure o := by
  have hb : env.blockKind = .function := by unfold PySem.Env.blockKind; rw [hk]; rfl
  unfold swappedStores
  unfold swO at h
  simp only [hb]
  have e1 : (ScopeKind.function != ScopeKind.function) = false := rfl
  simp only [e1, Bool.or_false]
  split at h
  · rename_i hc; cases h; exact if_pos hc
  · rename_i hc
    refine (if_neg hc).trans ?_
    split at h
    · rename_i hd; cases h; exact if_pos hd
    · rename_i hd
      refine (if_neg hd).trans ?_
      simp only at h
      split at h
      · rename_i he; cases h; exact if_pos he
      · rename_i he
        refine (if_neg he).trans ?_
        split at h
        · rename_i hf; cases h; exact if_pos hf
        · rename_i hf
          refine (if_neg hf).trans ?_
          split at h
          · cases h
          · rename_i hg; cases h; exact if_neg hg
theorem sub_ix {i : Expr} (h : sliceB i = false) : (match i with
    | .Slice _ _ none _ => true
    | _ => false) = false := by
  cases i <;> first | rfl | (simp [sliceB] at h)
theorem trSub_ok (S : Sound c Φ F k r) (G : Good c Φ k st X) {t : Expr} {g : Ta} (h : trSub r st t = some g) : PGd X Φ F t g := by
  unfold trSub at h
  split at h
  · rename_i o i p
    split at h <;> try contradiction
    rename_i hs
    simp only [Option.bind_eq_some_iff, Option.map_eq_some_iff] at h
    obtain ⟨a, h1, b, h2, rfl⟩ := h
    have hs : sliceB i = false := by simpa using hs
    refine g_sub G.O (S.E _ _ _ h1 X true G (.inl rfl)) (S.E _ _ _ h2 X true G (.inl rfl)) fun v => ?_
    cases i <;> first | rfl | (simp [sliceB] at hs)
  · rename_i x p
    split at h <;> try contradiction
    rename_i hl
    simp only [Option.map_eq_some_iff] at h
    obtain ⟨i, hi, rfl⟩ := h
    obtain ⟨l1, l2⟩ := good_loc G hl
    exact g_nm G.O.nd (by rw [G.N]; exact nmIx_get hi) l1 l2
  · cases h
theorem each_two {a b : Expr} {env : PySem.Env} (h1 : starB a = false) (h2 : starB b = false) : assignEach [a, b] env = [(false, assign a env), (false, assign b env)] := by
  have e1 : ∀ {e : Expr} {es : List Expr}, starB e = false → assignEach (e :: es) env = (false, assign e env) :: assignEach es env := fun {e es} h => by
    cases e <;> first | rfl | (simp [starB] at h)
  rw [e1 h1, e1 h2]; rfl
theorem trTa_ok (S : Sound c Φ F k r) (G : Good c Φ k st X) {t : Expr} {g : Ta} (h : trTa r st t = some g) : PGd X Φ F t g := by
  unfold trTa at h
  split at h
  · exact trSub_ok S G h
  · rename_i es kk p
    split at h
    · rename_i is ht
      cases h
      exact g_tp (trTg_ok G ht)
    · split at h <;> try contradiction
      rename_i a b _
      split at h <;> try contradiction
      rename_i hs
      have hs : starB a = false ∧ starB b = false := by simpa using hs
      simp only [Option.bind_eq_some_iff, Option.map_eq_some_iff] at h
      obtain ⟨x, h1, y, h2, rfl⟩ := h
      have e := each_two (env := X.env) hs.1 hs.2
      have e2 : assignEach [b] X.env = [(false, assign b X.env)] := by
        have := hs.2
        cases b <;> first | rfl | (simp [starB] at this)
      exact g_two G.O.calm (trSub_ok S G h1) (trSub_ok S G h2) (by rw [e, e2]; rfl) (by rw [e2]; rfl) (by rw [e]; rfl) (by rw [e]; rfl)
  · cases h
theorem trPar_ok (S : Sound c Φ F k r) (G : Good c Φ k st X) (hk : X.env.scope.kind = .function) {ts vs : List Expr} {ns : List Str} {m : Sm} {k1 k2 : Nat} {p1 p2 pos : Pos} (hw : swO st.sc ts vs = some (some ns)) (h : trPar r st ts vs ns = some m) : PSd X Φ F (.Assign [.Tuple ts k1 p1] (.Tuple vs k2 p2) pos) m := by
  have hw := swO_ok (k1 := k1) (k2 := k2) (p1 := p1) (p2 := p2) hk (by rw [G.sc]; exact hw)
  unfold trPar at h
  split at h
  · rename_i x px y py a b x' y'
    split at h <;> try contradiction
    rename_i hn
    simp only [Bool.and_eq_true, beq_iff_eq] at hn
    obtain ⟨rfl, rfl⟩ := hn
    simp only [Option.bind_eq_some_iff] at h
    obtain ⟨i, hi, j, hj, cs, hc, h⟩ := h
    split at h <;> try contradiction
    rename_i hij
    split at h <;> try contradiction
    rename_i hl
    cases h
    simp only [Bool.and_eq_true, beq_iff_eq] at hl
    exact s_par2 G.O (by rw [G.N]; exact nmIx_get hi) (by rw [G.N]; exact nmIx_get hj) (by simpa using hij) (by rw [G.sc]; exact hl.1) (by rw [G.sc]; exact hl.2) (trEs_ok S G hc (.inl rfl)).1 hw
  · rename_i x px y py z pz a b d x' y' z'
    split at h <;> try contradiction
    rename_i hn
    simp only [Bool.and_eq_true, beq_iff_eq] at hn
    obtain ⟨⟨rfl, rfl⟩, rfl⟩ := hn
    simp only [Option.bind_eq_some_iff] at h
    obtain ⟨i, hi, j, hj, l, hl', cs, hc, h⟩ := h
    split at h <;> try contradiction
    rename_i hij
    split at h <;> try contradiction
    rename_i hl
    cases h
    simp only [Bool.and_eq_true, beq_iff_eq] at hl
    have hij : (i ≠ j ∧ i ≠ l) ∧ j ≠ l := by simpa [not_or] using hij
    exact s_par3 G.O (by rw [G.N]; exact nmIx_get hi) (by rw [G.N]; exact nmIx_get hj) (by rw [G.N]; exact nmIx_get hl') hij.1.1 hij.1.2 hij.2 (by rw [G.sc]; exact hl.1.1) (by rw [G.sc]; exact hl.1.2) (by rw [G.sc]; exact hl.2) (trEs_ok S G hc (.inl rfl)).1 hw
  · cases h
/-- name = [..] -/
theorem trCompS_ok (S : Sound c Φ F k r) (G : Good c Φ k st X) (hk : X.env.scope.kind = .function) {i : Nat} {y : Str} {py pos vp : Pos} {elt : Expr} {gens : List Comprehension} {scope : Scope} {t : Tm} (hy : X.N[i]? = some y) (hyl : L2.Loc X.env.scope y ∧ (X.fn y = true ∨ X.env.scope.names.lookup y = some .local)) (h : trComp c r st elt gens scope vp = some t) :
    PSd X Φ F (.Assign [.Name y py] (.ListComp elt gens scope vp) pos) (.asg (.nm i) t) := by
  have sw := sw_comp (elt := elt) (gens := gens) (scope := scope) (vp := vp) (tp := py) (x := y) (l := pos.line) hk
  cases hsw : swB X.env.scope scope y py vp with
  | false =>
    rw [hsw] at sw
    exact s_nm G.O.nd hy hyl.1 (trComp_ok S G h) sw hyl.2
  | true =>
    rw [hsw] at sw
    have loc : X.env.scope.names.lookup y = some .local := by
      unfold swB at hsw
      simp only [Bool.and_eq_true, beq_iff_eq] at hsw
      exact hsw.1.1
    unfold trComp at h
    split at h
    · rename_i g
      split at h <;> try contradiction
      rename_i hg
      simp only [Bool.and_eq_true, Bool.not_eq_true', beq_iff_eq] at hg
      simp only [Option.bind_eq_some_iff] at h
      obtain ⟨tg, h1, cc, h2, ce, h3, h4⟩ := h
      split at h4 <;> try contradiction
      rename_i hsub
      obtain ⟨tgt, iter, ifs, asy⟩ := g
      have ea : asy = 0 := hg.1.1
      subst ea
      have okb : BlkOk X.N X.env.scope scope (ownOf st.N scope) := by rw [G.N, G.sc]; exact blkOk_by hg.2
      split at h4
      · simp only [Option.bind_eq_some_iff] at h4
        obtain ⟨ci, h5, h6⟩ := h4
        split at h6 <;> try contradiction
        rename_i hp
        cases h6
        simp only [Bool.and_eq_true] at hp
        exact s_compD G.O.calm G.O.nd hy loc sw (S.E _ _ _ h5 X false G (.inr hp.1.1.2)) hp.1.1.1.1.1 hp.1.1.1.1.2 hp.1.1.1.2 okb (subset_mem hsub) (fun s H C cl fp => trTg_ok (G.blk scope s H C cl fp) h1) (fun s H C cl fp => trTs_ok S (G.blk scope s H C cl fp) h2 (.inr hp.1.2)) (fun s H C cl fp => S.E _ _ _ h3 _ false (G.blk scope s H C cl fp) (.inr hp.2)) (fun x => set_plain hg.1.2 _ x)
      · simp only [Option.map_eq_some_iff] at h4
        obtain ⟨kk, h5, rfl⟩ := h4
        obtain ⟨s1, s2⟩ := trSrc_ok S G h5
        exact s_comp G.O.calm G.O.nd hy loc sw s1 okb (subset_mem hsub) (fun s H C cl fp => trTg_ok (G.blk scope s H C cl fp) h1) (fun s H C cl fp => trTs_ok S (G.blk scope s H C cl fp) h2 (.inl rfl)) (fun s H C cl fp => S.E _ _ _ h3 _ true (G.blk scope s H C cl fp) (.inl rfl)) (fun x => set_plain s2 _ x)
    · rename_i g g2
      split at h <;> try contradiction
      rename_i hg
      simp only [Bool.and_eq_true, Bool.not_eq_true', beq_iff_eq] at hg
      simp only [Option.bind_eq_some_iff] at h
      obtain ⟨tg, h1, tu, h2, cc, h3, ce, h4, h5⟩ := h
      split at h5 <;> try contradiction
      rename_i hsub
      rw [Bool.and_eq_true] at hsub
      simp only [Option.bind_eq_some_iff, Option.map_eq_some_iff] at h5
      obtain ⟨k1, h6, k2, h7, rfl⟩ := h5
      obtain ⟨tgt, iter, ifs, asy⟩ := g
      obtain ⟨tgt2, iter2, ifs2, asy2⟩ := g2
      obtain ⟨⟨⟨⟨⟨ea, eb⟩, e1⟩, e2⟩, e3⟩, e4⟩ := hg
      have ea : asy = 0 := ea
      have eb : asy2 = 0 := eb
      have ei : ifs = [] := by simpa using e4
      subst ea eb ei
      have okb : BlkOk X.N X.env.scope scope (ownOf st.N scope) := by rw [G.N, G.sc]; exact blkOk_by e3
      exact s_comp2 G.O.calm G.O.nd hy loc sw (trSrc_ok S G h6).1 okb (subset_mem hsub.1) (fun i hi => hi) (subset_mem hsub.2) (fun s H C cl fp => trTg_ok (G.blk scope s H C cl fp) h1) (fun s H C cl fp => (trSrc_ok S (G.blk scope s H C cl fp) h7).1) (fun s H C cl fp => trTg_ok (G.blk scope s H C cl fp) h2)
        (fun s H C cl fp => trTs_ok S (G.blk scope s H C cl fp) h3 (.inl rfl)) (fun s H C cl fp => S.E _ _ _ h4 _ true (G.blk scope s H C cl fp) (.inl rfl)) (fun x => set_plain e1 _ x) (fun env x => set_plain e2 env x)
    · cases h
theorem trAsg_ok (S : Sound c Φ F k r) (G : Good c Φ k st X) (hk : X.env.scope.kind = .function) {t e : Expr} {pos : Pos} {m : Sm} (h : trAsg c r st t e pos = some m) : PSd X Φ F (.Assign [t] e pos) m := by
  unfold trAsg at h
  split at h
  · rename_i x p
    split at h <;> try contradiction
    rename_i hl
    have hl := good_loc G hl
    simp only [Option.bind_eq_some_iff] at h
    obtain ⟨i, hi, h⟩ := h
    have hN : X.N[i]? = some x := by rw [G.N]; exact nmIx_get hi
    split at h
    · simp only [Option.map_eq_some_iff] at h
      obtain ⟨ce, h1, rfl⟩ := h
      exact trCompS_ok S G hk hN hl h1
    · split at h <;> try contradiction
      rename_i hc
      simp only [Option.map_eq_some_iff] at h
      obtain ⟨ce, h1, rfl⟩ := h
      exact s_nm G.O.nd hN hl.1 (S.E _ _ _ h1 X true G (.inl rfl)) (sw_plain (by simpa using hc) _ _ _) hl.2
  · rename_i ts kk p
    split at h
    · rename_i vs k2 p2
      split at h
      · rename_i ns hw
        exact trPar_ok S G hk hw h
      · rename_i hw
        simp only [Option.bind_eq_some_iff, Option.map_eq_some_iff] at h
        obtain ⟨g, h1, ce, h2, rfl⟩ := h
        exact s_asg (S.E _ _ _ h2 X true G (.inl rfl)) (trTa_ok S G h1) rfl (swO_ok hk (by rw [G.sc]; exact hw)) rfl
      · cases h
    · rename_i ne
      simp only [Option.bind_eq_some_iff, Option.map_eq_some_iff] at h
      obtain ⟨g, h1, ce, h2, rfl⟩ := h
      refine s_asg (S.E _ _ _ h2 X true G (.inl rfl)) (trTa_ok S G h1) ?_ ?_ rfl
      · cases e <;> rfl
      · cases e with
        | Tuple vs k2 p2 => exact absurd rfl (ne vs k2 p2)
        | _ => rfl
  · rename_i o i p
    simp only [Option.bind_eq_some_iff, Option.map_eq_some_iff] at h
    obtain ⟨g, h1, ce, h2, rfl⟩ := h
    refine s_asg (S.E _ _ _ h2 X true G (.inl rfl)) (trSub_ok S G h1) ?_ ?_ rfl
    · cases e <;> rfl
    · cases e <;> rfl
  · cases h
end
end MP

set_option Elab.async false
set_option linter.all false
set_option maxRecDepth 100000
set_option maxHeartbeats 4000000
/-! MP24: bodies, translated; the table of the defs. -/
namespace MP
open PySem L2
open PySem.Spec PyProof.Rows
section
variable {c : Cfg} {Φ : Fns} {F : Str → Str → Bool} {k : Nat} {r : Trs} {st : St0} {X : Cx}
theorem s_raise {a b : Option Expr} {pos : Pos} : PSd X Φ F (.Raise a b pos) (.raise "" .nil) := PSw ps_never fun E σ H h => by
  obtain ⟨μ, S, η, hs, he, hr⟩ := h
  unfold ex at hr
  simp only [evs, MP.R.bind_ok] at hr
  exact hr.elim
theorem stepS_ok {q : St0 → List Stmt → Option Sms} (S : Sound c Φ F k r) (hq : ∀ ss ms, q st ss = some ms → PSsd X Φ F ss ms) (G : Good c Φ k st X) (hk : X.env.scope.kind = .function) (hp : PassesOwn (model X.prog X.w) X.A X.env X.xe) {s : Stmt} {m : Sm} (h : stepS c r q st s = some m) : PSd X Φ F s m := by
  unfold stepS at h
  split at h
  · exact trAsg_ok S G hk h
  · rename_i o i p op e p2
    split at h <;> try contradiction
    rename_i hs
    have hs : sliceB i = false := by simpa using hs
    simp only [Option.bind_eq_some_iff, Option.map_eq_some_iff] at h
    obtain ⟨a, h1, b, h2, d, h3, rfl⟩ := h
    refine s_aug G.O (S.E _ _ _ h1 X true G (.inl rfl)) (S.E _ _ _ h2 X true G (.inl rfl)) (S.E _ _ _ h3 X true G (.inl rfl)) fun ov iv new => ?_
    cases i <;> first | rfl | (simp [sliceB] at hs)
  · split at h <;> try contradiction
    rename_i hc
    simp only [Option.map_eq_some_iff] at h
    obtain ⟨a, h1, rfl⟩ := h
    exact s_expr (S.E _ _ _ h1 X true G (.inl rfl)) (sw_plain (by simpa using hc) _ _ _)
  · simp only [Option.bind_eq_some_iff, Option.map_eq_some_iff] at h
    obtain ⟨ct, h1, ca, h2, cb, h3, rfl⟩ := h
    exact s_if (S.T _ _ _ h1 X true G (.inl rfl)) (hq _ _ h2) (hq _ _ h3)
  · simp only [Option.bind_eq_some_iff, Option.map_eq_some_iff] at h
    obtain ⟨t, h1, kk, h2, cb, h3, rfl⟩ := h
    obtain ⟨s1, s2⟩ := trSrc_ok S G h2
    exact s_for hp G.O.calm s1 (trTg_ok G h1) (hq _ _ h3) fun x => set_plain s2 _ x
  · simp only [Option.bind_eq_some_iff, Option.map_eq_some_iff] at h
    obtain ⟨ct, h1, cb, h2, rfl⟩ := h
    exact s_while hp (S.T _ _ _ h1 X true G (.inl rfl)) (hq _ _ h2)
  · simp only [Option.map_eq_some_iff] at h
    obtain ⟨a, h1, rfl⟩ := h
    exact s_ret (S.E _ _ _ h1 X true G (.inl rfl))
  · cases h; exact s_retN
  · cases h; exact s_pass
  · cases h; exact s_brk
  · cases h; exact s_cont
  · cases h; exact s_raise
  · cases h
theorem trSs_ok (S : Sound c Φ F k r) (G : Good c Φ k st X) (hk : X.env.scope.kind = .function) (hp : PassesOwn (model X.prog X.w) X.A X.env X.xe) : ∀ (n : Nat) {ss : List Stmt} {ms : Sms}, trSs c r n st ss = some ms → PSsd X Φ F ss ms
  | 0, _, _, h => nomatch h
  | n + 1, ss, ms, h => by
    unfold trSs at h
    split at h
    · cases h; exact s_nil
    · simp only [Option.bind_eq_some_iff, Option.map_eq_some_iff] at h
      obtain ⟨m, h1, ms', h2, rfl⟩ := h
      exact s_cons (stepS_ok S (fun ss ms h => trSs_ok S G hk hp n h) G hk hp h1) (trSs_ok S G hk hp n h2)
end
/-! ### the table -/
/-- a def of the text -/
structure Df where
  name : Str
  qual : Str
  params : Arguments
  body : List Stmt
  scope : Scope
/-- names: the parameters, then the rest, then those of the comprehensions -/
structure Entry where
  df : Df
  N : List Str
  ps : List Str
  own : Bool
def fsB (N P : List Str) (sc : Scope) : Bool :=
  (match sc.kind with | .function => true | _ => false) && !sc.isCoroutine && !sc.isGenerator && decide N.Nodup && decide (N.take P.length = P) &&
    P.all (fun x => match sc.names.lookup x with | some .local => true | some .cell => true | _ => false) && sc.names.all fun y => y.2 != .free
theorem fsB_ok {N P : List Str} {sc : Scope} (h : fsB N P sc = true) : FnScope N P sc := by
  unfold fsB at h
  simp only [Bool.and_eq_true, Bool.not_eq_true', decide_eq_true_eq, List.all_eq_true] at h
  obtain ⟨⟨⟨⟨⟨⟨h1, h2⟩, h3⟩, h4⟩, h5⟩, h6⟩, h7⟩ := h
  refine ⟨?_, h2, h3, h4, h5, fun x hx => ?_, fun y hy => by simpa using h7 y hy⟩
  · split at h1
    · assumption
    · cases h1
  · have := h6 x hx
    split at this
    · rename_i e; exact .inl e
    · rename_i e; exact .inr e
    · cases this
def plainB (ps : List Str) (a : Arguments) : Bool := a.posonlyargs.isEmpty && (a.args.map (·.arg) == ps) && a.vararg.isNone && a.kwonlyargs.isEmpty && a.kwarg.isNone && a.defaults.isEmpty
/-- an entry's term -/
def termOf (c : Cfg) (e : Entry) : Option Fn := if fsB e.N e.ps e.df.scope && plainB e.ps e.df.params && decide e.ps.Nodup then
    (trSs c (trN c 60) 60 ⟨e.N, e.df.scope, fun _ => true⟩ e.df.body).map fun b => ⟨e.ps.length, e.N.length, b, e.own⟩ else none
end MP

set_option Elab.async false
set_option linter.all false
set_option maxRecDepth 100000
set_option maxHeartbeats 4000000
/-! MP25: the table's defs keep what `run` says. -/
namespace MP
open PySem L2
open PySem.Spec PyProof.Rows
/-- the term behind a name -/
def tabT (c : Cfg) (es : List Entry) (x : Str) : Option Fn := (es.find? fun e => e.df.name == x).bind (termOf c)
def kwOk (c : Cfg) (fd : FuncData) (x : Str) (ps : List Str) : Prop := ∀ ks is, (x, ks) ∈ c.kwl → kwPerm ps ks = some is → ∀ ws zs : List Value, optMap (fun i => ws[i]?) is = some zs → ws.length = is.length → bindArgs fd ⟨[], ks.zip ws⟩ = pure (ps.zip zs)
structure TabOk (K : PySem.W.Frag) (mg : Str → Option Value) (c : Cfg) (es : List Entry) : Prop where
  defs : ∀ e ∈ es, ∃ f fd, mg e.df.name = some (.ref f) ∧ FunD K e.df.name e.df.qual e.df.params e.df.body e.df.scope [] [] f fd ∧ kwOk c fd e.df.name e.ps
  fns : ∀ x ps, c.fns.lookup x = some ps → ∃ e, es.find? (fun e => e.df.name == x) = some e ∧ e.ps = ps
  bts : ∀ x ∈ c.bts, mg x = none
  cst : ∀ x d, c.cst.lookup x = some d → ∃ v u, mg x = some u ∧ RelV v u ∧ ∀ μ H, RV K μ H d v
theorem plainB_ok {ps : List Str} {a : Arguments} (h : plainB ps a = true) : a.posonlyargs = [] ∧ a.args.map (·.arg) = ps ∧ a.vararg = none ∧ a.kwonlyargs = [] ∧ a.kwarg = none ∧ a.defaults = [] := by
  unfold plainB at h
  simp only [Bool.and_eq_true, List.isEmpty_iff, Option.isNone_iff_eq_none, beq_iff_eq] at h
  obtain ⟨⟨⟨⟨⟨h1, h2⟩, h3⟩, h4⟩, h5⟩, h6⟩ := h
  exact ⟨h1, h2, h3, h4, h5, h6⟩
theorem termOf_some {c : Cfg} {e : Entry} {fn : Fn} (h : termOf c e = some fn) : fsB e.N e.ps e.df.scope = true ∧ plainB e.ps e.df.params = true ∧ e.ps.Nodup ∧ ∃ b, trSs c (trN c 60) 60 ⟨e.N, e.df.scope, fun _ => true⟩ e.df.body = some b ∧ fn = ⟨e.ps.length, e.N.length, b, e.own⟩ := by
  unfold termOf at h
  split at h <;> try contradiction
  rename_i hc
  simp only [Bool.and_eq_true, decide_eq_true_eq] at hc
  simp only [Option.map_eq_some_iff] at h
  obtain ⟨b, h1, h2⟩ := h
  exact ⟨hc.1.1, hc.1.2, hc.2, b, h1, h2.symm⟩
section
variable {P : Program} {w : World} {K : PySem.W.Frag} {mg : Str → Option Value} {base : Heap} {F : Str → Str → Bool} {c : Cfg} {es : List Entry}
theorem run_ar {T : Str → Option Fn} {x : Str} {as : List D} {S : Sto} {k : Nat} {fn : Fn} (h : T x = some fn) (ha : as.length ≠ fn.ps) : run F T k x as S = .no := by
  cases k with
  | zero => rfl
  | succ k =>
    unfold run
    rw [h]
    show callF F (run F T k) fn as S = .no
    have e : body F (run F T k) fn as S = .no := by unfold MP.body; rw [if_neg ha]
    unfold callF
    rw [e]
    unfold trunc
    split <;> rfl
/-- the terms are all there -/
def allThere (c : Cfg) (es : List Entry) : Bool := es.all fun e => (termOf c e).isSome
theorem tab_one (O : TabOk K mg c es) (ht : ∀ e ∈ es, (termOf c e).isSome = true) : ∀ k, ∀ x ps, c.fns.lookup x = some ps →
    ∃ f fd, mg x = some (.ref f) ∧ PySem.W.keepIn K (.ref f) = true ∧ (∀ base : Heap, GOk P w K mg base k f fd ps (spOf K (run F (tabT c es) k x) ps.length)) ∧ (∀ us : List Value, us.length = ps.length → bindArgs fd ⟨us, []⟩ = pure (ps.zip us)) ∧ (∀ as S, as.length ≠ ps.length → run F (tabT c es) k x as S = .no) ∧ kwOk c fd x ps := by
  intro k
  induction k with
  | zero =>
    intro x ps hx
    obtain ⟨e, he, rfl⟩ := O.fns x ps hx
    have hm := List.mem_of_find?_eq_some he
    have hn : e.df.name = x := by have := List.find?_some he; simpa using this
    obtain ⟨f, fd, g1, g2, g3⟩ := O.defs e hm
    obtain ⟨fn, hfn⟩ := Option.isSome_iff_exists.mp (ht e hm)
    obtain ⟨t1, t2, t3, b, t4, rfl⟩ := termOf_some hfn
    obtain ⟨p1, p2, p3, p4, p5, p6⟩ := plainB_ok t2
    obtain ⟨oc, od, dV, kV, doc, pm, an, cdv, ct, osl, rfl, lk, hcd, hdf, _⟩ := g2.ex
    have hdV : dV = .none := by
      rcases hdf with ⟨_, z⟩ | ⟨z, _⟩
      · exact z
      · exact absurd rfl z
    subst hn
    exact ⟨f, _, g1, g2.kp, fun base => ⟨fun vs H Q h => h.1, fun A outer s H args us vs Q _ _ _ _ _ h => by
      obtain ⟨_, μ, S, as, _, _, q⟩ := h
      exact q.elim⟩, fun us hl => bind_plain p1 p2 p4 p3 p5 hdV t3 hl, fun _ _ _ => rfl, g3⟩
  | succ k ih =>
    intro x ps hx
    obtain ⟨e, he, rfl⟩ := O.fns x ps hx
    have hm := List.mem_of_find?_eq_some he
    have hn : e.df.name = x := by have := List.find?_some he; simpa using this
    obtain ⟨f, fd, g1, g2, g3⟩ := O.defs e hm
    obtain ⟨fn, hfn⟩ := Option.isSome_iff_exists.mp (ht e hm)
    have hT : tabT c es x = some fn := by unfold tabT; rw [he]; exact hfn
    obtain ⟨t1, t2, t3, b, t4, rfl⟩ := termOf_some hfn
    obtain ⟨p1, p2, p3, p4, p5, p6⟩ := plainB_ok t2
    obtain ⟨oc, od, dV, kV, doc, pm, an, cdv, ct, osl, rfl, lk, hcd, hdf, _⟩ := g2.ex
    have hdV : dV = .none := by
      rcases hdf with ⟨_, z⟩ | ⟨z, _⟩
      · exact z
      · exact absurd rfl z
    subst hn
    have fs := fsB_ok t1
    refine ⟨f, _, g1, g2.kp, ?_, fun us hl => bind_plain p1 p2 p4 p3 p5 hdV t3 hl, fun as S ha => run_ar hT ha, g3⟩
    have er : run F (tabT c es) (k + 1) e.df.name = callF F (run F (tabT c es) k) ⟨e.ps.length, e.N.length, b, e.own⟩ := by
      funext as S
      conv => lhs; unfold run
      rw [hT]
    intro base
    rw [er]
    refine gok_def (Φ := run F (tabT c es) k) (k := k) lk hcd fs rfl rfl fun A outer s H room gu => ?_
    have G : Good c (run F (tabT c es) k) k ⟨e.N, e.df.scope, fun _ => true⟩ (cxOf CXn P w K mg base e.N e.df.qual e.df.scope f cdv A outer s H noE) :=
      { O := ⟨rfl, fs.nd, room.hd, by have := room.un; show (A.deeper (envOfC e.df.qual e.df.scope s.heap.objs.size f cdv)).units + 150 < _; omega, gu⟩
        room := room
        N := rfl
        sc := rfl
        co := fun _ _ => rfl
        bts := O.bts
        cst := O.cst
        fns := fun y qs hy => by
          obtain ⟨f', fd', h1, h2, h3, h4, h5, h6⟩ := ih y qs hy
          exact ⟨f', fd', ⟨h1, h2, h3 base, h4, h5⟩, h6⟩ }
    exact trSs_ok (trN_ok 60) G fs.kind (passes_of rfl) 60 t4
end
end MP

set_option Elab.async false
set_option linter.all false
set_option maxRecDepth 100000
set_option maxHeartbeats 4000000
/-! W0: steps of the small language, as rewritings without binders. -/
namespace MP
open PySem L2
theorem bind_ext {α β : Type} {r : R α} {k k' : α → Sto → R β} (h : ∀ x S, k x S = k' x S) : r.bind k = r.bind k' := by
  have e : k = k' := by funext x S; exact h x S
  rw [e]
def look : Env → Nat → Option D
  | [], _ => none
  | x :: _, 0 => x
  | _ :: xs, n + 1 => look xs n
theorem look_eq : ∀ (η : Env) (i : Nat), (η[i]?).join = look η i
  | [], i => by simp [look]
  | x :: xs, 0 => by simp [look]
  | x :: xs, n + 1 => by rw [List.getElem?_cons_succ, look_eq xs n]; rfl
theorem look_z (x : Option D) (xs : Env) : look (x :: xs) 0 = x := rfl
theorem look_s (x : Option D) (xs : Env) (n : Nat) : look (x :: xs) (n + 1) = look xs n := rfl
theorem setN_z (x : Option D) (xs : Env) (d : D) : setN (x :: xs) 0 d = some d :: xs := rfl
theorem setN_s (x : Option D) (xs : Env) (n : Nat) (d : D) : setN (x :: xs) (n + 1) d = x :: setN xs n d := rfl
theorem setNs_nil (η : Env) : setNs η [] [] = some η := rfl
theorem setNs_cons (η : Env) (i : Nat) (is : List Nat) (d : D) (ds : List D) : setNs η (i :: is) (d :: ds) = setNs (setN η i d) is ds := rfl
theorem setTg_nm (S : Sto) (i : Nat) (d : D) (η : Env) : setTg S (.nm i) d η = some (setN η i d) := rfl
theorem setTg_tp (S : Sto) (is : List Nat) (xs : List D) (η : Env) : setTg S (.tp is) (.tup xs) η = setNs η is xs := rfl
def wipe1 : Env → Nat → Env
  | [], _ => []
  | _ :: xs, 0 => none :: xs
  | x :: xs, n + 1 => x :: wipe1 xs n
theorem wipe1_eq : ∀ (η : Env) (i : Nat), η.set i none = wipe1 η i
  | [], i => by simp [wipe1]
  | x :: xs, 0 => by simp [wipe1]
  | x :: xs, n + 1 => by rw [List.set_cons_succ, wipe1_eq xs n]; rfl
theorem wipe1_z (x : Option D) (xs : Env) : wipe1 (x :: xs) 0 = none :: xs := rfl
theorem wipe1_s (x : Option D) (xs : Env) (n : Nat) : wipe1 (x :: xs) (n + 1) = x :: wipe1 xs n := rfl
theorem wipeE_nil (η : Env) : wipeE η [] = η := rfl
theorem wipeE_cons (η : Env) (v : Nat) (vs : List Nat) : wipeE η (v :: vs) = wipe1 (wipeE η vs) v := wipe1_eq _ _
/-! what goes on behind a value: without binders -/
def ifK {α : Type} (A B : Sto → R α) (x : D) (S : Sto) : R α := match x with
  | .bl true => A S
  | .bl false => B S
  | _ => .no
theorem ifK_t {α : Type} (A B : Sto → R α) (S : Sto) : ifK A B (.bl true) S = A S := rfl
theorem ifK_f {α : Type} (A B : Sto → R α) (S : Sto) : ifK A B (.bl false) S = B S := rfl
def retK {α : Type} (a : α) (S : Sto) : R α := .ok a S
theorem retK_eq {α : Type} (a : α) (S : Sto) : retK a S = .ok a S := rfl
def notK (x : D) (S : Sto) : R D := match x with
  | .bl b => .ok (.bl (!b)) S
  | _ => .no
theorem notK_bl (b : Bool) (S : Sto) : notK (.bl b) S = .ok (.bl (!b)) S := rfl
def negK (x : D) (S : Sto) : R D := match x with
  | .int i => .ok (.int (-i)) S
  | _ => .no
theorem negK_int (i : Int) (S : Sto) : negK (.int i) S = .ok (.int (-i)) S := rfl
/-- a value that may be lacking, made a list of the store or not -/
def opD (m : Bool) (o : Option D) (S : Sto) : R D := match o with
  | some d => mkLd m d S
  | none => .no
theorem opD_some (m : Bool) (d : D) (S : Sto) : opD m (some d) S = mkLd m d S := rfl
theorem mkLd_f (d : D) (S : Sto) : mkLd false d S = .ok d S := rfl
theorem mkLd_t (xs : List D) (S : Sto) : mkLd true (.lst xs) S = alloc (.lst xs) S := rfl
theorem mkL_f (xs : List D) (S : Sto) : mkL false xs S = .ok (.lst xs) S := rfl
theorem mkL_t (xs : List D) (S : Sto) : mkL true xs S = alloc (.lst xs) S := rfl
theorem alloc_eq (o : Ob) (S : Sto) : alloc o S = .ok (.ref S.length) (S ++ [o]) := rfl
/-- a new object that may be lacking -/
def opO (o : Option Ob) (S : Sto) : R D := match o with
  | some o => alloc o S
  | none => .no
theorem opO_some (o : Ob) (S : Sto) : opO (some o) S = alloc o S := rfl
def opE (o : Option Env) (S : Sto) : R Fl := match o with
  | some η => .ok (.nx η) S
  | none => .no
theorem opE_some (η : Env) (S : Sto) : opE (some η) S = .ok (.nx η) S := rfl
def few (n : Nat) (r : R D) : R D := if n ≤ big then r else .no
theorem few_le {n : Nat} {r : R D} (h : n ≤ big) : few n r = r := if_pos h
theorem big_eq : big = 1000000 := rfl
/-- one behind the other -/
def kk {α β γ : Type} (f : α → Sto → R β) (g : β → Sto → R γ) (a : α) (S : Sto) : R γ := (f a S).bind g
theorem kk_app {α β γ : Type} (f : α → Sto → R β) (g : β → Sto → R γ) (a : α) (S : Sto) : kk f g a S = (f a S).bind g := rfl
theorem kk_eq {α β γ : Type} (r : R α) (f : α → Sto → R β) (g : β → Sto → R γ) : (r.bind f).bind g = r.bind (kk f g) := by cases r <;> rfl
/-- it ends well, in what is said -/
def sat {α : Type} (r : R α) (Q : α → Sto → Prop) : Prop := ∃ a S, r = .ok a S ∧ Q a S
theorem sat_ok {α : Type} {a : α} {S : Sto} {Q : α → Sto → Prop} : sat (.ok a S) Q ↔ Q a S := by
  constructor
  · rintro ⟨_, _, h, q⟩; cases h; exact q
  · exact fun h => ⟨a, S, rfl, h⟩
theorem sat_bind {α β : Type} {r : R α} {k : α → Sto → R β} {P : α → Sto → Prop} {Q : β → Sto → Prop} (h : sat r P) (hk : ∀ a S, P a S → sat (k a S) Q) : sat (r.bind k) Q := by
  obtain ⟨a, S, rfl, q⟩ := h
  exact hk a S q
theorem sat_mono {α : Type} {r : R α} {P Q : α → Sto → Prop} (h : sat r P) (hk : ∀ a S, P a S → Q a S) : sat r Q := by
  obtain ⟨a, S, e, q⟩ := h
  exact ⟨a, S, e, hk a S q⟩
theorem sat_eq {α : Type} {r : R α} {a : α} {S : Sto} (h : r = .ok a S) : sat r fun b S' => b = a ∧ S' = S := ⟨a, S, h, rfl, rfl⟩
theorem eq_sat {α : Type} {r : R α} {a : α} {S : Sto} (h : sat r fun b S' => b = a ∧ S' = S) : r = .ok a S := by
  obtain ⟨b, S', h, rfl, rfl⟩ := h
  exact h
theorem few_0 {r : R D} : few 0 r = r := few_le (by decide)
theorem few_1 {r : R D} : few 1 r = r := few_le (by decide)
theorem few_2 {r : R D} : few 2 r = r := few_le (by decide)
theorem few_3 {r : R D} : few 3 r = r := few_le (by decide)
theorem few_4 {r : R D} : few 4 r = r := few_le (by decide)
theorem few_5 {r : R D} : few 5 r = r := few_le (by decide)
theorem few_6 {r : R D} : few 6 r = r := few_le (by decide)
theorem few_7 {r : R D} : few 7 r = r := few_le (by decide)
theorem few_8 {r : R D} : few 8 r = r := few_le (by decide)
theorem few_9 {r : R D} : few 9 r = r := few_le (by decide)
theorem few_10 {r : R D} : few 10 r = r := few_le (by decide)

section
variable (Φ : Fns) (F : Str → Str → Bool)
noncomputable def kBin2 (o : Operator) (x y : D) (S : Sto) : R D := R.of (binop o S x y) S
noncomputable def kBin (o : Operator) (b : Tm) (η : Env) (x : D) (S : Sto) : R D := (ev Φ F b η S).bind (kBin2 o x)
noncomputable def kCmpE (o : CmpOp) (x y : D) (S : Sto) : R D := R.of ((cmpop o S x y).map .bl) S
noncomputable def kCmp (o : CmpOp) (b : Tm) (η : Env) (x : D) (S : Sto) : R D := (ev Φ F b η S).bind (kCmpE o x)
noncomputable def kCmp2d (o' : CmpOp) (c : Tm) (η : Env) (y : D) (r : Option Bool) (S : Sto) : R D := match r with
  | some true => (ev Φ F c η S).bind (kCmpE o' y)
  | some false => .ok (.bl false) S
  | none => .no
noncomputable def kCmp2b (o o' : CmpOp) (c : Tm) (η : Env) (x y : D) (S : Sto) : R D := kCmp2d Φ F o' c η y (cmpop o S x y) S
noncomputable def kCmp2 (o o' : CmpOp) (b c : Tm) (η : Env) (x : D) (S : Sto) : R D := (ev Φ F b η S).bind (kCmp2b Φ F o o' c η x)
noncomputable def kIx2 (x y : D) (S : Sto) : R D := R.of (index S x y) S
noncomputable def kIx (i : Tm) (η : Env) (x : D) (S : Sto) : R D := (ev Φ F i η S).bind (kIx2 x)
noncomputable def kSl3 (hl hh : Bool) (x y z : D) (S : Sto) : R D := R.of (slice S x hl hh y z) S
noncomputable def kSl2 (hl hh : Bool) (hi : Tm) (η : Env) (x y : D) (S : Sto) : R D := (ev Φ F hi η S).bind (kSl3 hl hh x y)
noncomputable def kSl (hl hh : Bool) (lo hi : Tm) (η : Env) (x : D) (S : Sto) : R D := (ev Φ F lo η S).bind (kSl2 Φ F hl hh hi η x)
noncomputable def kRev (m : Bool) (x : D) (S : Sto) : R D := opD m (revOf S x) S
noncomputable def kTup (xs : List D) (S : Sto) : R D := few xs.length (.ok (.tup xs) S)
noncomputable def kLst (m : Bool) (xs : List D) (S : Sto) : R D := few xs.length (mkL m xs S)
noncomputable def kDct (xs : List D) (S : Sto) : R D := opO ((pairsOf xs).bind dicOfK) S
noncomputable def kComp (m : Bool) (t : Tg) (c e : Tm) (η : Env) (w : List Nat) (k : Wk) (S : Sto) : R D := (compL k t (ev Φ F c) (ev Φ F e) (wipeE η w) k.its [] S).bind (mkL m)
noncomputable def kLs (xs : List D) (S : Sto) : R D := .ok (.lst xs) S
noncomputable def kComp2 (t t2 : Tg) (it2 : Src) (c e : Tm) (η : Env) (w w2 : List Nat) (k : Wk) (S : Sto) : R D := (comp2L k t t2 (src Φ F it2) (ev Φ F c) (ev Φ F e) (wipeE η w) w2 k.its [] S).bind kLs
noncomputable def kDo (ps : List (D × D)) (S : Sto) : R D := opO (dicOf ps) S
noncomputable def kDcomp (t : Tg) (k v : Tm) (η : Env) (w : List Nat) (q : Wk) (S : Sto) : R D := (dcompL q t (ev Φ F k) (ev Φ F v) (wipeE η w) q.its [] S).bind kDo
noncomputable def callO (f : Str) (ys : Option (List D)) (S : Sto) : R D := match ys with
  | some ys => Φ f ys S
  | none => .no
noncomputable def kCall (f : Str) (p : Option (List Nat)) (xs : List D) (S : Sto) : R D := callO Φ f (permute p xs) S
noncomputable def kBi (b : Bi) (m : Bool) (xs : List D) (S : Sto) : R D := opD m (biop b S xs) S
noncomputable def kSrt (m : Bool) (x : D) (S : Sto) : R D := opD m (sortSet S x) S
noncomputable def kDicz2 (x y : D) (S : Sto) : R D := match x, y with
  | .tup xs, .tup ys => opO (dicOf (xs.zip ys)) S
  | _, _ => .no
noncomputable def kDicz (b : Tm) (η : Env) (x : D) (S : Sto) : R D := (ev Φ F b η S).bind (kDicz2 x)
noncomputable def kDicl (x : D) (S : Sto) : R D := opO (((seqOf S x).bind (optMap pair2)).bind dicOf) S
def copyOf (S : Sto) (x : D) : Option Ob := match x with
  | .ref l => (match S[l]? with
    | some (.dK kvs) => some (.dK kvs)
    | some (.dT kvs) => some (.dT kvs)
    | _ => none)
  | _ => none
noncomputable def kDicd (x : D) (S : Sto) : R D := opO (copyOf S x) S
noncomputable def kBm2 (b : Bm) (x : D) (xs : List D) (S : Sto) : R D := bmop b S x xs
noncomputable def bmT (b : Bm) (as : Tms) (η : Env) (x : D) (t : Bool) (S : Sto) : R D := match t with
  | true => (evs Φ F as η S).bind (kBm2 b x)
  | false => .no
noncomputable def kBm (b : Bm) (as : Tms) (η : Env) (x : D) (S : Sto) : R D := bmT Φ F b as η x (tyBm b S x) S
noncomputable def kIsa (T : Ty) (x : D) (S : Sto) : R D := R.of ((isTy S x T).map .bl) S
noncomputable def kRngv2 (x y : D) (S : Sto) : R D := match x, y with
  | .int i, .int j => if rngOk i j then .ok (.rng i j) S else .no
  | _, _ => .no
noncomputable def kRngv (b : Tm) (η : Env) (x : D) (S : Sto) : R D := (ev Φ F b η S).bind (kRngv2 x)
noncomputable def kCons2 (x : D) (xs : List D) (S : Sto) : R (List D) := .ok (x :: xs) S
noncomputable def kCons (es : Tms) (η : Env) (x : D) (S : Sto) : R (List D) := (evs Φ F es η S).bind (kCons2 x)
def fldOf (fs : List (Str × D)) (ok : Bool) (f : Str) (S : Sto) : R D := match ok with
  | true => R.of (fs.lookup f) S
  | false => .no
/-- an object's field -/
def attO (F : Str → Str → Bool) (o : Option Ob) (f : Str) (S : Sto) : R D := match o with
  | some (.ins C fs) => fldOf fs (F C f) f S
  | _ => .no
noncomputable def kAtt (f : Str) (x : D) (S : Sto) : R D := match x with
  | .ref l => attO F S[l]? f S
  | _ => .no
noncomputable def kMk2 (l : Nat) (r : D) (S : Sto) : R D := match r with
  | .non => .ok (.ref l) S
  | _ => .no
noncomputable def kMk (C : Str) (xs : List D) (S : Sto) : R D := (Φ (C ++ ".__init__") (.ref S.length :: xs) (S ++ [.ins C []])).bind (kMk2 S.length)
noncomputable def kMth2 (m : Str) (l : Nat) (C : Str) (p : Option (List Nat)) (xs : List D) (S : Sto) : R D := callO Φ (C ++ "." ++ m) ((permute p xs).map (D.ref l :: ·)) S
noncomputable def mthT (m : Str) (l : Nat) (C : Str) (as : Tms) (p : Option (List Nat)) (η : Env) (t : Bool) (S : Sto) : R D := match t with
  | true => (evs Φ F as η S).bind (kMth2 Φ m l C p)
  | false => .no
noncomputable def mthO (m : Str) (l : Nat) (as : Tms) (p : Option (List Nat)) (η : Env) (o : Option Ob) (S : Sto) : R D := match o with
  | some (.ins C fs) => mthT Φ F m l C as p η (fs.lookup m).isNone S
  | _ => .no
noncomputable def kMth (m : Str) (as : Tms) (p : Option (List Nat)) (η : Env) (x : D) (S : Sto) : R D := match x with
  | .ref l => mthO Φ F m l as p η S[l]? S
  | _ => .no
/-! sources -/
def kSeq (x : D) (S : Sto) : R Wk := match x with
  | .rng i j => .ok ⟨rangeL i j, none⟩ S
  | .str s => .ok ⟨signsOf s, none⟩ S
  | x => (match seqOf S x with
    | some xs => .ok ⟨xs, refOf? x xs⟩ S
    | none => .no)
def kRng1 (x : D) (S : Sto) : R Wk := match x with
  | .int j => if rngOk 0 j then .ok ⟨rangeL 0 j, none⟩ S else .no
  | _ => .no
def kRng2b (x y : D) (S : Sto) : R Wk := match x, y with
  | .int i, .int j => if rngOk i j then .ok ⟨rangeL i j, none⟩ S else .no
  | _, _ => .no
noncomputable def kRng2 (b : Tm) (η : Env) (x : D) (S : Sto) : R Wk := (ev Φ F b η S).bind (kRng2b x)
def kEnm (x : D) (S : Sto) : R Wk := match x with
  | .tup xs => .ok ⟨numbered xs, none⟩ S
  | x => (match lstOf S x with
    | some xs => .ok ⟨numbered xs, refOf? x xs⟩ S
    | none => .no)
def kZip2 (x y : D) (S : Sto) : R Wk := match x, y with
  | .tup xs, .tup ys => .ok ⟨(xs.zip ys).map fun p => .tup [p.1, p.2], none⟩ S
  | _, _ => .no
noncomputable def kZip (b : Tm) (η : Env) (x : D) (S : Sto) : R Wk := (ev Φ F b η S).bind (kZip2 x)
def kDicO (o : Option (List D)) (S : Sto) : R Wk := match o with
  | some xs => .ok ⟨xs, none⟩ S
  | none => .no
def kDic (x : D) (S : Sto) : R Wk := kDicO (srcDic S x) S
/-! statements -/
noncomputable def seqS (ss : Sms) (f : Fl) (S : Sto) : R Fl := match f with
  | .nx η' => exs Φ F ss η' S
  | f => .ok f S
def kNx (η : Env) (S : Sto) : R Fl := .ok (.nx η) S
noncomputable def kAsg (t : Ta) (η : Env) (d : D) (S : Sto) : R Fl := (assignT Φ F t d η S).bind kNx
def kPar (is : List Nat) (η : Env) (xs : List D) (S : Sto) : R Fl := opE (setNs η is xs) S
def kRt (d : D) (S : Sto) : R Fl := .ok (.rt d) S
def kDrop (η : Env) (d : D) (S : Sto) : R Fl := .ok (.nx η) S
def kUnit (η : Env) (u : Unit) (S : Sto) : R Fl := .ok (.nx η) S
def kUnitE (η : Env) (u : Unit) (S : Sto) : R Env := .ok η S
def augP (x y : D) (η : Env) (u : Option D) (S : Sto) : R Fl := match u with
  | some u => (setItem S x y u).bind (kUnit η)
  | none => .no
noncomputable def kAug4 (o : Operator) (η : Env) (x y v z : D) (S : Sto) : R Fl := augP x y η (augop o v z) S
noncomputable def augV (o : Operator) (e : Tm) (η : Env) (x y : D) (v : Option (Option D)) (S : Sto) : R Fl := match v with
  | some (some v) => (ev Φ F e η S).bind (kAug4 o η x y v)
  | _ => .no
noncomputable def kAug2 (o : Operator) (e : Tm) (η : Env) (x y : D) (S : Sto) : R Fl := augV Φ F o e η x y (dicGet S x y) S
noncomputable def kAug (o : Operator) (i e : Tm) (η : Env) (x : D) (S : Sto) : R Fl := (ev Φ F i η S).bind (kAug2 Φ F o e η x)
noncomputable def kFor (t : Tg) (b : Sms) (η : Env) (k : Wk) (S : Sto) : R Fl := forL k t (exs Φ F b) k.its η S
noncomputable def kSub2 (d : D) (η : Env) (x y : D) (S : Sto) : R Env := (setItem S x y d).bind (kUnitE η)
noncomputable def kSub (i : Tm) (d : D) (η : Env) (x : D) (S : Sto) : R Env := (ev Φ F i η S).bind (kSub2 d η x)
noncomputable def kFld (f : Str) (d : D) (η : Env) (x : D) (S : Sto) : R Env := (setFld F S x f d).bind (kUnitE η)
noncomputable def kTwo (b : Ta) (y : D) (η : Env) (S : Sto) : R Env := assignT Φ F b y η S
def endR (fl : Fl) (S : Sto) : R D := match fl with
  | .rt d => .ok d S
  | .nx _ => .ok .non S
  | _ => .no
end
section
variable {Φ : Fns} {F : Str → Str → Bool}
theorem q_kBin2 (o : Operator) (x y : D) (S : Sto) : kBin2 o x y S = R.of (binop o S x y) S := rfl
theorem q_kBin (o : Operator) (b : Tm) (η : Env) (x : D) (S : Sto) : kBin Φ F o b η x S = (ev Φ F b η S).bind (kBin2 o x) := rfl
theorem q_kCmpE (o : CmpOp) (x y : D) (S : Sto) : kCmpE o x y S = R.of ((cmpop o S x y).map .bl) S := rfl
theorem q_kCmp (o : CmpOp) (b : Tm) (η : Env) (x : D) (S : Sto) : kCmp Φ F o b η x S = (ev Φ F b η S).bind (kCmpE o x) := rfl
theorem q_kCmp2b (o o' : CmpOp) (c : Tm) (η : Env) (x y : D) (S : Sto) : kCmp2b Φ F o o' c η x y S = kCmp2d Φ F o' c η y (cmpop o S x y) S := rfl
theorem q_kCmp2dt (o' : CmpOp) (c : Tm) (η : Env) (y : D) (S : Sto) : kCmp2d Φ F o' c η y (some true) S = (ev Φ F c η S).bind (kCmpE o' y) := rfl
theorem q_kCmp2df (o' : CmpOp) (c : Tm) (η : Env) (y : D) (S : Sto) : kCmp2d Φ F o' c η y (some false) S = .ok (.bl false) S := rfl
theorem q_kCmp2 (o o' : CmpOp) (b c : Tm) (η : Env) (x : D) (S : Sto) : kCmp2 Φ F o o' b c η x S = (ev Φ F b η S).bind (kCmp2b Φ F o o' c η x) := rfl
theorem q_kIx2 (x y : D) (S : Sto) : kIx2 x y S = R.of (index S x y) S := rfl
theorem q_kIx (i : Tm) (η : Env) (x : D) (S : Sto) : kIx Φ F i η x S = (ev Φ F i η S).bind (kIx2 x) := rfl
theorem q_kSl3 (hl hh : Bool) (x y z : D) (S : Sto) : kSl3 hl hh x y z S = R.of (slice S x hl hh y z) S := rfl
theorem q_kSl2 (hl hh : Bool) (hi : Tm) (η : Env) (x y : D) (S : Sto) : kSl2 Φ F hl hh hi η x y S = (ev Φ F hi η S).bind (kSl3 hl hh x y) := rfl
theorem q_kSl (hl hh : Bool) (lo hi : Tm) (η : Env) (x : D) (S : Sto) : kSl Φ F hl hh lo hi η x S = (ev Φ F lo η S).bind (kSl2 Φ F hl hh hi η x) := rfl
theorem q_kRev (m : Bool) (x : D) (S : Sto) : kRev m x S = opD m (revOf S x) S := rfl
theorem q_kTup (xs : List D) (S : Sto) : kTup xs S = few xs.length (.ok (.tup xs) S) := rfl
theorem q_kLst (m : Bool) (xs : List D) (S : Sto) : kLst m xs S = few xs.length (mkL m xs S) := rfl
theorem q_kDct (xs : List D) (S : Sto) : kDct xs S = opO ((pairsOf xs).bind dicOfK) S := rfl
theorem q_kComp (m : Bool) (t : Tg) (c e : Tm) (η : Env) (w : List Nat) (its : List D) (sr : Option (Nat × List D)) (S : Sto) : kComp Φ F m t c e η w ⟨its, sr⟩ S = (compL ⟨its, sr⟩ t (ev Φ F c) (ev Φ F e) (wipeE η w) its [] S).bind (mkL m) := rfl
theorem q_kLs (xs : List D) (S : Sto) : kLs xs S = .ok (.lst xs) S := rfl
theorem q_kComp2 (t t2 : Tg) (it2 : Src) (c e : Tm) (η : Env) (w w2 : List Nat) (its : List D) (sr : Option (Nat × List D)) (S : Sto) : kComp2 Φ F t t2 it2 c e η w w2 ⟨its, sr⟩ S = (comp2L ⟨its, sr⟩ t t2 (src Φ F it2) (ev Φ F c) (ev Φ F e) (wipeE η w) w2 its [] S).bind kLs := rfl
theorem q_kDo (ps : List (D × D)) (S : Sto) : kDo ps S = opO (dicOf ps) S := rfl
theorem q_kDcomp (t : Tg) (k v : Tm) (η : Env) (w : List Nat) (its : List D) (sr : Option (Nat × List D)) (S : Sto) : kDcomp Φ F t k v η w ⟨its, sr⟩ S = (dcompL ⟨its, sr⟩ t (ev Φ F k) (ev Φ F v) (wipeE η w) its [] S).bind kDo := rfl
theorem q_kCall (f : Str) (p : Option (List Nat)) (xs : List D) (S : Sto) : kCall Φ f p xs S = callO Φ f (permute p xs) S := rfl
theorem q_callO (f : Str) (ys : List D) (S : Sto) : callO Φ f (some ys) S = Φ f ys S := rfl
theorem q_kBi (b : Bi) (m : Bool) (xs : List D) (S : Sto) : kBi b m xs S = opD m (biop b S xs) S := rfl
theorem q_kSrt (m : Bool) (x : D) (S : Sto) : kSrt m x S = opD m (sortSet S x) S := rfl
theorem q_kDicz2 (xs ys : List D) (S : Sto) : kDicz2 (.tup xs) (.tup ys) S = opO (dicOf (xs.zip ys)) S := rfl
theorem q_kDicz (b : Tm) (η : Env) (x : D) (S : Sto) : kDicz Φ F b η x S = (ev Φ F b η S).bind (kDicz2 x) := rfl
theorem q_kDicl (x : D) (S : Sto) : kDicl x S = opO (((seqOf S x).bind (optMap pair2)).bind dicOf) S := rfl
theorem q_kDicd (x : D) (S : Sto) : kDicd x S = opO (copyOf S x) S := rfl
theorem q_kBm2 (b : Bm) (x : D) (xs : List D) (S : Sto) : kBm2 b x xs S = bmop b S x xs := rfl
theorem q_kBm (b : Bm) (as : Tms) (η : Env) (x : D) (S : Sto) : kBm Φ F b as η x S = bmT Φ F b as η x (tyBm b S x) S := rfl
theorem q_bmTt (b : Bm) (as : Tms) (η : Env) (x : D) (S : Sto) : bmT Φ F b as η x true S = (evs Φ F as η S).bind (kBm2 b x) := rfl
theorem q_kIsa (T : Ty) (x : D) (S : Sto) : kIsa T x S = R.of ((isTy S x T).map .bl) S := rfl
theorem q_kRngv (b : Tm) (η : Env) (x : D) (S : Sto) : kRngv Φ F b η x S = (ev Φ F b η S).bind (kRngv2 x) := rfl
theorem q_kCons2 (x : D) (xs : List D) (S : Sto) : kCons2 x xs S = .ok (x :: xs) S := rfl
theorem q_kCons (es : Tms) (η : Env) (x : D) (S : Sto) : kCons Φ F es η x S = (evs Φ F es η S).bind (kCons2 x) := rfl
theorem q_kAtt (f : Str) (l : Nat) (S : Sto) : kAtt F f (.ref l) S = attO F S[l]? f S := rfl
theorem q_attO (C : Str) (fs : List (Str × D)) (f : Str) (S : Sto) : attO F (some (.ins C fs)) f S = fldOf fs (F C f) f S := rfl
theorem q_fldOf (fs : List (Str × D)) (f : Str) (S : Sto) : fldOf fs true f S = R.of (fs.lookup f) S := rfl
theorem q_kMk2 (l : Nat) (S : Sto) : kMk2 l .non S = .ok (.ref l) S := rfl
theorem q_kMk (C : Str) (xs : List D) (S : Sto) : kMk Φ C xs S = (Φ (C ++ ".__init__") (.ref S.length :: xs) (S ++ [.ins C []])).bind (kMk2 S.length) := rfl
theorem q_kMth2 (m : Str) (l : Nat) (C : Str) (p : Option (List Nat)) (xs : List D) (S : Sto) : kMth2 Φ m l C p xs S = callO Φ (C ++ "." ++ m) ((permute p xs).map (D.ref l :: ·)) S := rfl
theorem q_mthTt (m : Str) (l : Nat) (C : Str) (as : Tms) (p : Option (List Nat)) (η : Env) (S : Sto) : mthT Φ F m l C as p η true S = (evs Φ F as η S).bind (kMth2 Φ m l C p) := rfl
theorem q_mthO (m : Str) (l : Nat) (as : Tms) (p : Option (List Nat)) (η : Env) (C : Str) (fs : List (Str × D)) (S : Sto) : mthO Φ F m l as p η (some (.ins C fs)) S = mthT Φ F m l C as p η (fs.lookup m).isNone S := rfl
theorem q_kMth (m : Str) (as : Tms) (p : Option (List Nat)) (η : Env) (l : Nat) (S : Sto) : kMth Φ F m as p η (.ref l) S = mthO Φ F m l as p η S[l]? S := rfl
theorem q_kSeq_tup (xs : List D) (S : Sto) : kSeq (.tup xs) S = .ok ⟨xs, none⟩ S := rfl
theorem q_kSeq_lst (xs : List D) (S : Sto) : kSeq (.lst xs) S = .ok ⟨xs, none⟩ S := rfl
theorem q_kSeq_str (s : Str) (S : Sto) : kSeq (.str s) S = .ok ⟨signsOf s, none⟩ S := rfl
theorem q_kSeq_rng (i j : Int) (S : Sto) : kSeq (.rng i j) S = .ok ⟨rangeL i j, none⟩ S := rfl
theorem q_kRng2 (b : Tm) (η : Env) (x : D) (S : Sto) : kRng2 Φ F b η x S = (ev Φ F b η S).bind (kRng2b x) := rfl
theorem q_kEnm_tup (xs : List D) (S : Sto) : kEnm (.tup xs) S = .ok ⟨numbered xs, none⟩ S := rfl
theorem q_kEnm_lst (xs : List D) (S : Sto) : kEnm (.lst xs) S = .ok ⟨numbered xs, none⟩ S := rfl
theorem q_kZip2 (xs ys : List D) (S : Sto) : kZip2 (.tup xs) (.tup ys) S = .ok ⟨(xs.zip ys).map fun p => .tup [p.1, p.2], none⟩ S := rfl
theorem q_kZip (b : Tm) (η : Env) (x : D) (S : Sto) : kZip Φ F b η x S = (ev Φ F b η S).bind (kZip2 x) := rfl
theorem q_kDic (x : D) (S : Sto) : kDic x S = kDicO (srcDic S x) S := rfl
theorem q_kDicO (xs : List D) (S : Sto) : kDicO (some xs) S = .ok ⟨xs, none⟩ S := rfl
theorem seqS_nx (ss : Sms) (η : Env) (S : Sto) : seqS Φ F ss (.nx η) S = exs Φ F ss η S := rfl
theorem seqS_rt (ss : Sms) (d : D) (S : Sto) : seqS Φ F ss (.rt d) S = .ok (.rt d) S := rfl
theorem seqS_bk (ss : Sms) (η : Env) (S : Sto) : seqS Φ F ss (.bk η) S = .ok (.bk η) S := rfl
theorem seqS_ct (ss : Sms) (η : Env) (S : Sto) : seqS Φ F ss (.ct η) S = .ok (.ct η) S := rfl
theorem q_kNx (η : Env) (S : Sto) : kNx η S = .ok (.nx η) S := rfl
theorem q_kAsg (t : Ta) (η : Env) (d : D) (S : Sto) : kAsg Φ F t η d S = (assignT Φ F t d η S).bind kNx := rfl
theorem q_kPar (is : List Nat) (η : Env) (xs : List D) (S : Sto) : kPar is η xs S = opE (setNs η is xs) S := rfl
theorem q_kRt (d : D) (S : Sto) : kRt d S = .ok (.rt d) S := rfl
theorem q_kDrop (η : Env) (d : D) (S : Sto) : kDrop η d S = .ok (.nx η) S := rfl
theorem q_kUnit (η : Env) (u : Unit) (S : Sto) : kUnit η u S = .ok (.nx η) S := rfl
theorem q_kUnitE (η : Env) (u : Unit) (S : Sto) : kUnitE η u S = .ok η S := rfl
theorem q_augP (x y : D) (η : Env) (u : D) (S : Sto) : augP x y η (some u) S = (setItem S x y u).bind (kUnit η) := rfl
theorem q_kAug4 (o : Operator) (η : Env) (x y v z : D) (S : Sto) : kAug4 o η x y v z S = augP x y η (augop o v z) S := rfl
theorem q_augV (o : Operator) (e : Tm) (η : Env) (x y v : D) (S : Sto) : augV Φ F o e η x y (some (some v)) S = (ev Φ F e η S).bind (kAug4 o η x y v) := rfl
theorem q_kAug2 (o : Operator) (e : Tm) (η : Env) (x y : D) (S : Sto) : kAug2 Φ F o e η x y S = augV Φ F o e η x y (dicGet S x y) S := rfl
theorem q_kAug (o : Operator) (i e : Tm) (η : Env) (x : D) (S : Sto) : kAug Φ F o i e η x S = (ev Φ F i η S).bind (kAug2 Φ F o e η x) := rfl
theorem q_kFor (t : Tg) (b : Sms) (η : Env) (its : List D) (sr : Option (Nat × List D)) (S : Sto) : kFor Φ F t b η ⟨its, sr⟩ S = forL ⟨its, sr⟩ t (exs Φ F b) its η S := rfl
theorem q_kSub2 (d : D) (η : Env) (x y : D) (S : Sto) : kSub2 d η x y S = (setItem S x y d).bind (kUnitE η) := rfl
theorem q_kSub (i : Tm) (d : D) (η : Env) (x : D) (S : Sto) : kSub Φ F i d η x S = (ev Φ F i η S).bind (kSub2 d η x) := rfl
theorem q_kFld (f : Str) (d : D) (η : Env) (x : D) (S : Sto) : kFld F f d η x S = (setFld F S x f d).bind (kUnitE η) := rfl
theorem q_kTwo (b : Ta) (y : D) (η : Env) (S : Sto) : kTwo Φ F b y η S = assignT Φ F b y η S := rfl
theorem endR_rt (d : D) (S : Sto) : endR (.rt d) S = .ok d S := rfl
theorem endR_nx (η : Env) (S : Sto) : endR (.nx η) S = .ok .non S := rfl
theorem e_cst (d : D) (η : Env) (S : Sto) : ev Φ F (.cst d) η S = .ok d S := rfl
theorem e_bin (o : Operator) (a b : Tm) (η : Env) (S : Sto) : ev Φ F (.bin o a b) η S = (ev Φ F a η S).bind (kBin Φ F o b η) := rfl
theorem e_cmp (o : CmpOp) (a b : Tm) (η : Env) (S : Sto) : ev Φ F (.cmp o a b) η S = (ev Φ F a η S).bind (kCmp Φ F o b η) := rfl
theorem e_ix (a i : Tm) (η : Env) (S : Sto) : ev Φ F (.ix a i) η S = (ev Φ F a η S).bind (kIx Φ F i η) := rfl
theorem e_sl (a : Tm) (hl hh : Bool) (lo hi : Tm) (η : Env) (S : Sto) : ev Φ F (.sl a hl hh lo hi) η S = (ev Φ F a η S).bind (kSl Φ F hl hh lo hi η) := rfl
theorem e_tup (es : Tms) (η : Env) (S : Sto) : ev Φ F (.tup es) η S = (evs Φ F es η S).bind kTup := rfl
theorem e_lst (m : Bool) (es : Tms) (η : Env) (S : Sto) : ev Φ F (.lst m es) η S = (evs Φ F es η S).bind (kLst m) := rfl
theorem e_dnewT (η : Env) (S : Sto) : ev Φ F (.dnew true) η S = alloc (.dT []) S := rfl
theorem e_dnewK (η : Env) (S : Sto) : ev Φ F (.dnew false) η S = alloc (.dK []) S := rfl
theorem e_comp (m : Bool) (t : Tg) (it : Src) (c e : Tm) (w : List Nat) (η : Env) (S : Sto) : ev Φ F (.comp m t it c e w) η S = (src Φ F it η S).bind (kComp Φ F m t c e η w) := rfl
theorem e_comp2 (t : Tg) (it : Src) (t2 : Tg) (it2 : Src) (c e : Tm) (w w2 : List Nat) (η : Env) (S : Sto) : ev Φ F (.comp2 t it t2 it2 c e w w2) η S = (src Φ F it η S).bind (kComp2 Φ F t t2 it2 c e η w w2) := rfl
theorem e_isa (a : Tm) (T : Ty) (η : Env) (S : Sto) : ev Φ F (.isa a T) η S = (ev Φ F a η S).bind (kIsa T) := rfl
theorem e_nil (η : Env) (S : Sto) : evs Φ F .nil η S = .ok [] S := rfl
theorem e_cons (e : Tm) (es : Tms) (η : Env) (S : Sto) : evs Φ F (.cons e es) η S = (ev Φ F e η S).bind (kCons Φ F es η) := rfl
theorem e_mk (C : Str) (as : Tms) (η : Env) (S : Sto) : ev Φ F (.mk C as) η S = (evs Φ F as η S).bind (kMk Φ C) := rfl
theorem x_nil (η : Env) (S : Sto) : exs Φ F .nil η S = .ok (.nx η) S := rfl
theorem x_asg (t : Ta) (e : Tm) (η : Env) (S : Sto) : ex Φ F (.asg t e) η S = (ev Φ F e η S).bind (kAsg Φ F t η) := rfl
theorem x_expr (e : Tm) (η : Env) (S : Sto) : ex Φ F (.expr e) η S = (ev Φ F e η S).bind (kDrop η) := rfl
theorem x_for (t : Tg) (it : Src) (b : Sms) (η : Env) (S : Sto) : ex Φ F (.for t it b) η S = (src Φ F it η S).bind (kFor Φ F t b η) := rfl
theorem x_whl (c : Tm) (b : Sms) (η : Env) (S : Sto) : ex Φ F (.whl c b) η S = whileL (ev Φ F c) (exs Φ F b) η S := rfl
theorem x_ret (e : Tm) (η : Env) (S : Sto) : ex Φ F (.ret e) η S = (ev Φ F e η S).bind kRt := rfl
theorem x_retN (η : Env) (S : Sto) : ex Φ F .retN η S = .ok (.rt .non) S := rfl
theorem x_brk (η : Env) (S : Sto) : ex Φ F .brk η S = .ok (.bk η) S := rfl
theorem x_cont (η : Env) (S : Sto) : ex Φ F .cont η S = .ok (.ct η) S := rfl
theorem x_pass (η : Env) (S : Sto) : ex Φ F .pass η S = .ok (.nx η) S := rfl
theorem a_nm (i : Nat) (d : D) (η : Env) (S : Sto) : assignT Φ F (.nm i) d η S = .ok (setN η i d) S := rfl
theorem a_tp (is : List Nat) (xs : List D) (η : Env) (S : Sto) : assignT Φ F (.tp is) (.tup xs) η S = R.of (setNs η is xs) S := rfl
theorem a_sub (o i : Tm) (d : D) (η : Env) (S : Sto) : assignT Φ F (.sub o i) d η S = (ev Φ F o η S).bind (kSub Φ F i d η) := rfl
theorem a_fld (o : Tm) (f : Str) (d : D) (η : Env) (S : Sto) : assignT Φ F (.fld o f) d η S = (ev Φ F o η S).bind (kFld F f d η) := rfl
theorem a_two (a b : Ta) (x y : D) (η : Env) (S : Sto) : assignT Φ F (.two a b) (.tup [x, y]) η S = (assignT Φ F a x η S).bind (kTwo Φ F b y) := rfl
theorem permute_none (xs : List D) : permute none xs = some xs := rfl

theorem e_var (i : Nat) (η : Env) (S : Sto) : ev Φ F (.var i) η S = R.of (look η i) S := by rw [← look_eq]; rfl
theorem e_neg (a : Tm) (η : Env) (S : Sto) : ev Φ F (.neg a) η S = (ev Φ F a η S).bind negK := by
  refine bind_ext fun x S1 => ?_; cases x <;> rfl
theorem e_cmp2 (o o' : CmpOp) (a b c : Tm) (η : Env) (S : Sto) : ev Φ F (.cmp2 o o' a b c) η S = (ev Φ F a η S).bind (kCmp2 Φ F o o' b c η) := by
  refine bind_ext fun x S1 => ?_; unfold kCmp2; refine bind_ext fun y S2 => ?_; unfold kCmp2b
  cases cmpop o S2 x y with
  | none => rfl
  | some b => cases b <;> rfl
theorem e_and (a b : Tm) (η : Env) (S : Sto) : ev Φ F (.and a b) η S = (ev Φ F a η S).bind (ifK (ev Φ F b η) (retK (.bl false))) := by
  refine bind_ext fun x S1 => ?_; cases x <;> first | rfl | (rename_i b; cases b <;> rfl)
theorem e_or (a b : Tm) (η : Env) (S : Sto) : ev Φ F (.or a b) η S = (ev Φ F a η S).bind (ifK (retK (.bl true)) (ev Φ F b η)) := by
  refine bind_ext fun x S1 => ?_; cases x <;> first | rfl | (rename_i b; cases b <;> rfl)
theorem e_not (a : Tm) (η : Env) (S : Sto) : ev Φ F (.not a) η S = (ev Φ F a η S).bind notK := by
  refine bind_ext fun x S1 => ?_; cases x <;> rfl
theorem e_ite (c a b : Tm) (η : Env) (S : Sto) : ev Φ F (.ite c a b) η S = (ev Φ F c η S).bind (ifK (ev Φ F a η) (ev Φ F b η)) := by
  refine bind_ext fun x S1 => ?_; cases x <;> first | rfl | (rename_i b; cases b <;> rfl)
theorem e_rev (m : Bool) (a : Tm) (η : Env) (S : Sto) : ev Φ F (.rev m a) η S = (ev Φ F a η S).bind (kRev m) := by
  refine bind_ext fun x S1 => ?_; unfold kRev; cases revOf S1 x <;> rfl
theorem e_dct (kvs : Tms) (η : Env) (S : Sto) : ev Φ F (.dct kvs) η S = (evs Φ F kvs η S).bind kDct := by
  refine bind_ext fun x S1 => ?_; unfold kDct
  cases pairsOf x with
  | none => rfl
  | some ps => dsimp only [Option.bind_some]; cases dicOfK ps <;> rfl
theorem e_dcomp (t : Tg) (it : Src) (k v : Tm) (w : List Nat) (η : Env) (S : Sto) : ev Φ F (.dcomp t it k v w) η S = (src Φ F it η S).bind (kDcomp Φ F t k v η w) := by
  refine bind_ext fun x S1 => ?_; unfold kDcomp; refine bind_ext fun ps S2 => ?_; unfold kDo; cases dicOf ps <;> rfl
theorem e_call (f : Str) (as : Tms) (p : Option (List Nat)) (η : Env) (S : Sto) : ev Φ F (.call f as p) η S = (evs Φ F as η S).bind (kCall Φ f p) := by
  refine bind_ext fun x S1 => ?_; unfold kCall; cases permute p x <;> rfl
theorem e_bi (b : Bi) (m : Bool) (as : Tms) (η : Env) (S : Sto) : ev Φ F (.bi b m as) η S = (evs Φ F as η S).bind (kBi b m) := by
  refine bind_ext fun x S1 => ?_; unfold kBi; cases biop b S1 x <;> rfl
theorem e_srt (m : Bool) (a : Tm) (η : Env) (S : Sto) : ev Φ F (.srt m a) η S = (ev Φ F a η S).bind (kSrt m) := by
  refine bind_ext fun x S1 => ?_; unfold kSrt; cases sortSet S1 x <;> rfl
theorem e_dicz (a b : Tm) (η : Env) (S : Sto) : ev Φ F (.dicz a b) η S = (ev Φ F a η S).bind (kDicz Φ F b η) := by
  refine bind_ext fun x S1 => ?_; unfold kDicz; refine bind_ext fun y S2 => ?_
  cases x <;> first | rfl | (cases y <;> first | rfl | (rename_i xs ys; unfold kDicz2; dsimp only; cases dicOf (xs.zip ys) <;> rfl))
theorem e_dicl (a : Tm) (η : Env) (S : Sto) : ev Φ F (.dicl a) η S = (ev Φ F a η S).bind kDicl := by
  refine bind_ext fun x S1 => ?_; unfold kDicl
  cases seqOf S1 x with
  | none => rfl
  | some xs =>
    dsimp only [Option.bind_some]
    cases optMap pair2 xs with
    | none => rfl
    | some ps => dsimp only [Option.bind_some]; cases dicOf ps <;> rfl
theorem e_dicd (a : Tm) (η : Env) (S : Sto) : ev Φ F (.dicd a) η S = (ev Φ F a η S).bind kDicd := by
  refine bind_ext fun x S1 => ?_; unfold kDicd copyOf
  cases x <;> try rfl
  rename_i l
  dsimp only
  cases S1[l]? with
  | none => rfl
  | some o => cases o <;> rfl
theorem e_bm (b : Bm) (o : Tm) (as : Tms) (η : Env) (S : Sto) : ev Φ F (.bm b o as) η S = (ev Φ F o η S).bind (kBm Φ F b as η) := by
  refine bind_ext fun x S1 => ?_; unfold kBm; cases tyBm b S1 x <;> rfl
theorem e_att (o : Tm) (f : Str) (η : Env) (S : Sto) : ev Φ F (.att o f) η S = (ev Φ F o η S).bind (kAtt F f) := by
  refine bind_ext fun x S1 => ?_; cases x <;> try rfl
  rename_i l
  unfold kAtt attO
  dsimp only
  cases S1[l]? with
  | none => rfl
  | some o =>
    cases o <;> try rfl
    rename_i C fs
    dsimp only
    unfold fldOf
    cases F C f <;> rfl
theorem e_mth (m : Str) (o : Tm) (as : Tms) (p : Option (List Nat)) (η : Env) (S : Sto) : ev Φ F (.mth m o as p) η S = (ev Φ F o η S).bind (kMth Φ F m as p η) := by
  refine bind_ext fun x S1 => ?_; cases x <;> try rfl
  rename_i l
  unfold kMth mthO
  dsimp only
  cases S1[l]? with
  | none => rfl
  | some o =>
    cases o <;> try rfl
    rename_i C fs
    dsimp only
    unfold mthT
    cases (fs.lookup m).isNone
    · rfl
    · show R.bind _ _ = R.bind _ _
      refine bind_ext fun xs S2 => ?_
      unfold kMth2
      cases permute p xs <;> rfl
theorem e_rngv (a b : Tm) (η : Env) (S : Sto) : ev Φ F (.rngv a b) η S = (ev Φ F a η S).bind (kRngv Φ F b η) := by
  refine bind_ext fun x S1 => ?_; unfold kRngv; refine bind_ext fun y S2 => ?_; cases x <;> first | rfl | (cases y <;> rfl)
theorem q_kRngv2 {i j : Int} (h : rngOk i j) (S : Sto) : kRngv2 (.int i) (.int j) S = .ok (.rng i j) S := if_pos h
theorem kSeq_ref {l : Nat} {xs : List D} {S : Sto} (h : S[l]? = some (.lst xs)) : kSeq (.ref l) S = .ok ⟨xs, some (l, xs)⟩ S := by
  unfold kSeq seqOf
  simp only [h, refOf?]
theorem kEnm_ref {l : Nat} {xs : List D} {S : Sto} (h : S[l]? = some (.lst xs)) : kEnm (.ref l) S = .ok ⟨numbered xs, some (l, xs)⟩ S := by
  unfold kEnm lstOf
  simp only [h, refOf?]
theorem q_kRng1 {j : Int} (h : rngOk 0 j) (S : Sto) : kRng1 (.int j) S = .ok ⟨rangeL 0 j, none⟩ S := if_pos h
theorem q_kRng2b {i j : Int} (h : rngOk i j) (S : Sto) : kRng2b (.int i) (.int j) S = .ok ⟨rangeL i j, none⟩ S := if_pos h
theorem s_seq (e : Tm) (η : Env) (S : Sto) : src Φ F (.seq e) η S = (ev Φ F e η S).bind kSeq := by
  refine bind_ext fun x S1 => ?_; cases x <;> rfl
theorem s_rng1 (a : Tm) (η : Env) (S : Sto) : src Φ F (.rng1 a) η S = (ev Φ F a η S).bind kRng1 := by
  refine bind_ext fun x S1 => ?_; cases x <;> rfl
theorem s_rng2 (a b : Tm) (η : Env) (S : Sto) : src Φ F (.rng2 a b) η S = (ev Φ F a η S).bind (kRng2 Φ F b η) := by
  refine bind_ext fun x S1 => ?_; unfold kRng2; refine bind_ext fun y S2 => ?_; cases x <;> first | rfl | (cases y <;> rfl)
theorem s_enm (e : Tm) (η : Env) (S : Sto) : src Φ F (.enm e) η S = (ev Φ F e η S).bind kEnm := by
  refine bind_ext fun x S1 => ?_; cases x <;> rfl
theorem s_zip (a b : Tm) (η : Env) (S : Sto) : src Φ F (.zip a b) η S = (ev Φ F a η S).bind (kZip Φ F b η) := by
  refine bind_ext fun x S1 => ?_; unfold kZip; refine bind_ext fun y S2 => ?_; cases x <;> first | rfl | (cases y <;> rfl)
theorem s_dic (e : Tm) (η : Env) (S : Sto) : src Φ F (.dic e) η S = (ev Φ F e η S).bind kDic := by
  refine bind_ext fun x S1 => ?_; unfold kDic; cases srcDic S1 x <;> rfl
theorem x_cons (s : Sm) (ss : Sms) (η : Env) (S : Sto) : exs Φ F (.cons s ss) η S = (ex Φ F s η S).bind (seqS Φ F ss) := by
  refine bind_ext fun f S1 => ?_; cases f <;> rfl
theorem x_par (is : List Nat) (es : Tms) (η : Env) (S : Sto) : ex Φ F (.par is es) η S = (evs Φ F es η S).bind (kPar is η) := by
  refine bind_ext fun xs S1 => ?_; unfold kPar; cases setNs η is xs <;> rfl
theorem x_aug (o : Operator) (a i e : Tm) (η : Env) (S : Sto) : ex Φ F (.aug o a i e) η S = (ev Φ F a η S).bind (kAug Φ F o i e η) := by
  refine bind_ext fun x S1 => ?_; unfold kAug; refine bind_ext fun y S2 => ?_; unfold kAug2
  cases dicGet S2 x y with
  | none => rfl
  | some v =>
    cases v with
    | none => rfl
    | some v =>
      show R.bind _ _ = R.bind _ _
      refine bind_ext fun z S3 => ?_; unfold kAug4
      cases augop o v z <;> rfl
theorem x_ife (c : Tm) (a b : Sms) (η : Env) (S : Sto) : ex Φ F (.ife c a b) η S = (ev Φ F c η S).bind (ifK (exs Φ F a η) (exs Φ F b η)) := by
  refine bind_ext fun x S1 => ?_; cases x <;> first | rfl | (rename_i b; cases b <;> rfl)
theorem body_eq (f : Fn) (as : List D) (S : Sto) (h : as.length = f.ps) : body F Φ f as S = (exs Φ F f.body (as.map some ++ List.replicate (f.ns - f.ps) none) S).bind endR := by
  unfold body
  rw [if_pos h]
  refine bind_ext fun fl S1 => ?_; cases fl <;> rfl
theorem run_eq {T : Str → Option Fn} {n : Nat} {x : Str} {f : Fn} {as : List D} {S : Sto} (h : T x = some f) (ho : f.own = false) (ha : as.length = f.ps) : run F T (n + 1) x as S = (exs (run F T n) F f.body (as.map some ++ List.replicate (f.ns - f.ps) none) S).bind endR := by
  have e : run F T (n + 1) x as S = callF F (run F T n) f as S := by
    conv => lhs; unfold run
    rw [h]
  rw [e]
  unfold callF
  rw [ho]
  exact body_eq f as S ha
/-- .. of a def that throws away what it makes -/
theorem run_own {T : Str → Option Fn} {n : Nat} {x : Str} {f : Fn} {as : List D} {S S' : Sto} {d : D} (h : T x = some f) (ho : f.own = true) (ha : as.length = f.ps) (e : (exs (run F T n) F f.body (as.map some ++ List.replicate (f.ns - f.ps) none) S).bind endR = .ok d S') (ht : S'.take S.length = S) (hd : d.low S.length = true) : run F T (n + 1) x as S = .ok d S := by
  have e1 : run F T (n + 1) x as S = callF F (run F T n) f as S := by
    conv => lhs; unfold run
    rw [h]
  rw [e1]
  unfold callF
  rw [ho, if_pos rfl, body_eq f as S ha, e]
  unfold trunc
  exact if_pos ⟨ht, hd⟩
theorem sat_own {T : Str → Option Fn} {n : Nat} {x : Str} {f : Fn} {as : List D} {S : Sto} {d : D} (h : T x = some f) (ho : f.own = true) (ha : as.length = f.ps) (hd : d.low S.length = true) (e : sat ((exs (run F T n) F f.body (as.map some ++ List.replicate (f.ns - f.ps) none) S).bind endR) fun d' S' => d' = d ∧ ∃ g, S' = S ++ g) : run F T (n + 1) x as S = .ok d S := by
  obtain ⟨d', S', e, rfl, g, rfl⟩ := e
  exact run_own h ho ha e (by simp) hd
end

/-! ### loops -/
section
variable {k : Wk} {t : Tg}
theorem ok_none {its : List D} {S : Sto} : (⟨its, none⟩ : Wk).ok S := trivial
/-- a comprehension that changes nothing -/
theorem comp_pure {α : Type} {c e : Env → Sto → R D} {η : Env} {S : Sto} {g : α → D} (p : α → Bool) (f : α → D) (hk : k.ok S) : ∀ (l : List α) (acc : List D), (∀ x ∈ l, ∃ η', setTg S t (g x) η = some η' ∧ c η' S = .ok (.bl (p x)) S ∧ (p x = true → e η' S = .ok (f x) S)) → acc.length + l.length ≤ big →
    compL k t c e η (l.map g) acc S = .ok (acc ++ (l.filter p).map f) S
  | [], acc, _, _ => by
    rw [List.map_nil]
    unfold compL
    rw [if_pos hk]
    simp
  | x :: l, acc, h, hb => by
    obtain ⟨η', h1, h2, h3⟩ := h x List.mem_cons_self
    have hb' : acc.length + (l.length + 1) ≤ big := hb
    rw [List.map_cons]
    unfold compL
    rw [if_pos hk, h1]
    dsimp only
    rw [h2, R.bind_ok]
    cases hp : p x with
    | true =>
      dsimp only
      rw [h3 hp, R.bind_ok, if_pos (by omega), comp_pure p f hk l _ (fun y hy => h y (List.mem_cons_of_mem _ hy)) (by rw [List.length_append, List.length_singleton]; omega), List.filter_cons_of_pos hp]
      simp
    | false =>
      dsimp only
      rw [comp_pure p f hk l _ (fun y hy => h y (List.mem_cons_of_mem _ hy)) (by omega), List.filter_cons_of_neg (by rw [hp]; exact Bool.false_ne_true)]
/-- a comprehension with an invariant: what is left, what was made, the store -/
theorem comp_inv {c e : Env → Sto → R D} {η : Env} (I : List D → List D → Sto → Prop) (hk : ∀ r acc S, I r acc S → k.ok S) (hb : ∀ r acc S, I r acc S → acc.length + r.length ≤ big)
    (hs : ∀ x r acc S, I (x :: r) acc S → ∃ η' b S1, setTg S t x η = some η' ∧ c η' S = .ok (.bl b) S1 ∧ (b = true → ∃ y S2, e η' S1 = .ok y S2 ∧ I r (acc ++ [y]) S2) ∧ (b = false → I r acc S1)) :
    ∀ (l acc : List D) (S : Sto), I l acc S → ∃ ys S', compL k t c e η l acc S = .ok ys S' ∧ I [] ys S'
  | [], acc, S, h => ⟨acc, S, by unfold compL; rw [if_pos (hk _ _ _ h)], h⟩
  | x :: l, acc, S, h => by
    obtain ⟨η', b, S1, h1, h2, h3, h4⟩ := hs x l acc S h
    have hb1 := hb _ _ _ h
    rw [List.length_cons] at hb1
    unfold compL
    rw [if_pos (hk _ _ _ h), h1]
    dsimp only
    rw [h2, R.bind_ok]
    cases b with
    | true =>
      obtain ⟨y, S2, h5, h6⟩ := h3 rfl
      obtain ⟨ys, S', h7, h8⟩ := comp_inv I hk hb hs l _ _ h6
      refine ⟨ys, S', ?_, h8⟩
      dsimp only
      rw [h5, R.bind_ok, if_pos (by omega), h7]
    | false =>
      obtain ⟨ys, S', h7, h8⟩ := comp_inv I hk hb hs l _ _ (h4 rfl)
      exact ⟨ys, S', h7, h8⟩
/-- a for loop that goes to its end -/
theorem for_inv {b : Env → Sto → R Fl} (I : List D → Env → Sto → Prop) (hk : ∀ r η S, I r η S → k.ok S)
    (hs : ∀ x r η S, I (x :: r) η S → ∃ η1 η2 S2, setTg S t x η = some η1 ∧ (b η1 S = .ok (.nx η2) S2 ∨ b η1 S = .ok (.ct η2) S2) ∧ I r η2 S2) :
    ∀ (l : List D) (η : Env) (S : Sto), I l η S → ∃ η' S', forL k t b l η S = .ok (.nx η') S' ∧ I [] η' S'
  | [], η, S, h => ⟨η, S, by unfold forL; rw [if_pos (hk _ _ _ h)], h⟩
  | x :: l, η, S, h => by
    obtain ⟨η1, η2, S2, h1, h2, h3⟩ := hs x l η S h
    obtain ⟨η', S', h4, h5⟩ := for_inv I hk hs l η2 S2 h3
    refine ⟨η', S', ?_, h5⟩
    unfold forL
    rw [if_pos (hk _ _ _ h), h1]
    dsimp only
    rcases h2 with h2 | h2 <;> rw [h2, R.bind_ok] <;> exact h4
/-- .. that may end before: P holds of what it gives back -/
theorem for_ret {b : Env → Sto → R Fl} (I : List D → Env → Sto → Prop) (P : Fl → Sto → Prop) (hk : ∀ r η S, I r η S → k.ok S)
    (hs : ∀ x r η S, I (x :: r) η S → ∃ η1 fl S2, setTg S t x η = some η1 ∧ b η1 S = .ok fl S2 ∧ (match fl with
      | .nx η2 => I r η2 S2
      | .ct η2 => I r η2 S2
      | .bk η2 => P (.nx η2) S2
      | .rt d => P (.rt d) S2)) (he : ∀ η S, I [] η S → P (.nx η) S) :
    ∀ (l : List D) (η : Env) (S : Sto), I l η S → ∃ fl S', forL k t b l η S = .ok fl S' ∧ P fl S'
  | [], η, S, h => ⟨_, S, by unfold forL; rw [if_pos (hk _ _ _ h)], he _ _ h⟩
  | x :: l, η, S, h => by
    obtain ⟨η1, fl, S2, h1, h2, h3⟩ := hs x l η S h
    unfold forL
    rw [if_pos (hk _ _ _ h), h1]
    dsimp only
    rw [h2, R.bind_ok]
    cases fl with
    | nx η2 =>
      obtain ⟨fl, S', h4, h5⟩ := for_ret I P hk hs he l η2 S2 h3
      exact ⟨fl, S', h4, h5⟩
    | ct η2 =>
      obtain ⟨fl, S', h4, h5⟩ := for_ret I P hk hs he l η2 S2 h3
      exact ⟨fl, S', h4, h5⟩
    | bk η2 => exact ⟨_, _, rfl, h3⟩
    | rt d => exact ⟨_, _, rfl, h3⟩
/-- a while loop, by a measure -/
theorem while_n {c : Env → Sto → R D} {b : Env → Sto → R Fl} {n : Nat} {η : Env} {S : Sto} {r : R Fl} (h : whileN c b n η S = some r) : whileL c b η S = r := by
  unfold whileL
  have hx : ∃ n r, whileN c b n η S = some r := ⟨n, r, h⟩
  rw [dif_pos hx]
  have e := (Classical.choose_spec hx).choose_spec
  have mono : ∀ (n m : Nat) (η : Env) (S : Sto) (r s : R Fl), whileN c b n η S = some r → whileN c b m η S = some s → r = s := by
    intro n
    induction n with
    | zero => intro m η S r s h1; simp [whileN] at h1
    | succ n ih =>
      intro m η S r s h1 h2
      cases m with
      | zero => simp [whileN] at h2
      | succ m =>
        unfold whileN at h1 h2
        cases hc : c η S with
        | no => simp only [hc] at h1 h2; cases h1; cases h2; rfl
        | ex x S1 => simp only [hc] at h1 h2; cases h1; cases h2; rfl
        | ok d S1 =>
          simp only [hc] at h1 h2
          cases d with
          | bl bb =>
            cases bb with
            | false => cases h1; cases h2; rfl
            | true =>
              dsimp only at h1 h2
              cases hb : b η S1 with
              | no => simp only [hb] at h1 h2; cases h1; cases h2; rfl
              | ex x S2 => simp only [hb] at h1 h2; cases h1; cases h2; rfl
              | ok f S2 =>
                simp only [hb] at h1 h2
                cases f with
                | nx η2 => exact ih m _ _ _ _ h1 h2
                | ct η2 => exact ih m _ _ _ _ h1 h2
                | bk η2 => cases h1; cases h2; rfl
                | rt d => cases h1; cases h2; rfl
          | _ => cases h1; cases h2; rfl
  exact mono _ _ _ _ _ _ e h
theorem while_inv {c : Env → Sto → R D} {b : Env → Sto → R Fl} (I : Nat → Env → Sto → Prop) (P : Fl → Sto → Prop)
    (hs : ∀ n η S, I n η S → ∃ bb S1, c η S = .ok (.bl bb) S1 ∧ (bb = false → P (.nx η) S1) ∧ (bb = true → ∃ fl S2, b η S1 = .ok fl S2 ∧ (match fl with
      | .nx η2 => ∃ m < n, I m η2 S2
      | .ct η2 => ∃ m < n, I m η2 S2
      | .bk η2 => P (.nx η2) S2
      | .rt d => P (.rt d) S2))) (n : Nat) (η : Env) (S : Sto) (h : I n η S) : ∃ fl S', whileL c b η S = .ok fl S' ∧ P fl S' := by
  have key : ∀ n η S, I n η S → ∃ k fl S', whileN c b k η S = some (.ok fl S') ∧ P fl S' := by
    intro n
    induction n using Nat.strongRecOn with
    | ind n ih =>
      intro η S h
      obtain ⟨bb, S1, h1, h2, h3⟩ := hs n η S h
      cases bb with
      | false => exact ⟨1, _, _, by unfold whileN; rw [h1], h2 rfl⟩
      | true =>
        obtain ⟨fl, S2, h4, h5⟩ := h3 rfl
        cases fl with
        | nx η2 =>
          obtain ⟨m, hm, h6⟩ := h5
          obtain ⟨k, fl, S', h7, h8⟩ := ih m hm η2 S2 h6
          exact ⟨k + 1, fl, S', by unfold whileN; rw [h1]; dsimp only; rw [h4]; exact h7, h8⟩
        | ct η2 =>
          obtain ⟨m, hm, h6⟩ := h5
          obtain ⟨k, fl, S', h7, h8⟩ := ih m hm η2 S2 h6
          exact ⟨k + 1, fl, S', by unfold whileN; rw [h1]; dsimp only; rw [h4]; exact h7, h8⟩
        | bk η2 => exact ⟨1, _, _, by unfold whileN; rw [h1]; dsimp only; rw [h4], h5⟩
        | rt d => exact ⟨1, _, _, by unfold whileN; rw [h1]; dsimp only; rw [h4], h5⟩
  obtain ⟨k, fl, S', h1, h2⟩ := key n η S h
  exact ⟨fl, S', while_n h1, h2⟩
end
end MP

set_option Elab.async false
set_option linter.all false
set_option maxRecDepth 100000
set_option maxHeartbeats 4000000
/-! W1: typed data. -/
namespace MP
open PySem L2 PySem.W PyProof.Rows
theorem optMap_map {α β γ : Type} {h : β → Option γ} {f : α → β} {g : α → γ} : ∀ {l : List α}, (∀ a ∈ l, h (f a) = some (g a)) → optMap h (l.map f) = some (l.map g)
  | [], _ => rfl
  | a :: l, e => by
    rw [List.map_cons]
    unfold optMap
    rw [e a List.mem_cons_self]
    dsimp only
    rw [optMap_map fun b hb => e b (List.mem_cons_of_mem _ hb)]
    rfl
/-- a type of plain data -/
class Enc (α : Type) [DecidableEq α] where
  enc : α → D
  dat : α → PyData
  dep : Nat
  pd_ok : ∀ (S : Sto) (n : Nat) (a : α), dep ≤ n → pdN S n (enc a) = some (dat a)
  eqv_ok : ∀ a b : α, PyData.eqv (dat a) (dat b) = decide (a = b)
  low_ok : ∀ (n : Nat) (a : α), (enc a).low n = true
open Enc
/-- the data of a list, as a tuple -/
def tpl {α : Type} [DecidableEq α] [Enc α] (l : List α) : D := .tup (l.map enc)
/-- .. as a list that nobody changes -/
def lsl {α : Type} [DecidableEq α] [Enc α] (l : List α) : D := .lst (l.map enc)
instance : Enc Int where
  enc := .int
  dat := .int
  dep := 1
  low_ok := fun n a => by simp only [D.low]
  pd_ok := fun S n a h => by obtain ⟨m, rfl⟩ : ∃ m, n = m + 1 := ⟨n - 1, by omega⟩; rfl
  eqv_ok := fun a b => by simp only [PyData.eqv]; rfl
instance : Enc Nat where
  enc := fun n => .int (n : Int)
  dat := fun n => .int (n : Int)
  dep := 1
  low_ok := fun n a => by simp only [D.low]
  pd_ok := fun S n a h => by obtain ⟨m, rfl⟩ : ∃ m, n = m + 1 := ⟨n - 1, by omega⟩; rfl
  eqv_ok := fun a b => by
    simp only [PyData.eqv]
    rw [Bool.eq_iff_iff]
    simp only [beq_iff_eq, decide_eq_true_eq]
    omega
instance : Enc Bool where
  enc := .bl
  dat := .bool
  dep := 1
  low_ok := fun n a => by simp only [D.low]
  pd_ok := fun S n a h => by obtain ⟨m, rfl⟩ : ∃ m, n = m + 1 := ⟨n - 1, by omega⟩; rfl
  eqv_ok := fun a b => by simp only [PyData.eqv]; cases a <;> cases b <;> rfl
instance : Enc (Option Int) where
  enc := fun o => match o with
    | none => .non
    | some a => .int a
  dat := fun o => match o with
    | none => .none
    | some a => .int a
  dep := 1
  low_ok := fun n a => by cases a <;> simp only [D.low]
  pd_ok := fun S n a h => by
    obtain ⟨m, rfl⟩ : ∃ m, n = m + 1 := ⟨n - 1, by omega⟩
    cases a <;> rfl
  eqv_ok := fun a b => by
    cases a <;> cases b <;> simp only [PyData.eqv] <;> first | rfl | (rw [Bool.eq_iff_iff]; simp)
/-- a name: 1 to 10 letters from a to z -/
def nmB (s : Str) : Bool := decide (1 ≤ s.cps.size) && decide (s.cps.size ≤ 10) && s.cps.toList.all fun c => decide (97 ≤ c) && decide (c ≤ 122)
abbrev Nm := {s : Str // nmB s = true}
theorem Nm.spec (x : Nm) : 1 ≤ x.1.cps.size ∧ x.1.cps.size ≤ 10 ∧ ∀ c ∈ x.1.cps.toList, 97 ≤ c ∧ c ≤ 122 := by
  have h := x.2
  unfold nmB at h
  simp only [Bool.and_eq_true, decide_eq_true_eq, List.all_eq_true] at h
  exact ⟨h.1.1, h.1.2, h.2⟩
theorem nm_strOk {s : Str} (h : nmB s = true) : PySem.PyData.strOk s = true := by
  have h := (Nm.spec ⟨s, h⟩).2.2
  unfold PySem.PyData.strOk
  rw [Array.all_eq_true_iff_forall_mem]
  intro c hc
  have := h c (by simpa using hc)
  simp only [decide_eq_true_eq]
  have h2 := this.2
  omega
instance : Enc Nm where
  enc := fun x => .str x.1
  dat := fun x => .str x.1
  dep := 1
  low_ok := fun n a => by simp only [D.low]
  pd_ok := fun S n a h => by
    obtain ⟨m, rfl⟩ : ∃ m, n = m + 1 := ⟨n - 1, by omega⟩
    unfold pdN
    dsimp only
    rw [if_pos (nm_strOk a.2)]
  eqv_ok := fun a b => by
    simp only [PyData.eqv]
    rw [Bool.eq_iff_iff]
    simp only [beq_iff_eq, decide_eq_true_eq]
    exact ⟨Subtype.ext, fun h => by rw [h]⟩
section
variable {α β : Type} [DecidableEq α] [Enc α] [DecidableEq β] [Enc β]
instance : Enc (α × β) where
  enc := fun p => .tup [enc p.1, enc p.2]
  dat := fun p => .tuple [dat p.1, dat p.2]
  dep := max (dep α) (dep β) + 1
  low_ok := fun n a => by simp only [D.low, lowAll, low_ok, Bool.and_self]
  pd_ok := fun S n a h => by
    obtain ⟨m, rfl⟩ : ∃ m, n = m + 1 := ⟨n - 1, by omega⟩
    unfold pdN
    simp only [optMap]
    rw [pd_ok S m a.1 (by omega), pd_ok S m a.2 (by omega)]
    rfl
  eqv_ok := fun a b => by
    simp only [PyData.eqv, PyData.eqvAll, eqv_ok, Bool.and_true]
    rw [Bool.eq_iff_iff]
    simp only [Bool.and_eq_true, decide_eq_true_eq]
    exact ⟨fun ⟨h1, h2⟩ => Prod.ext h1 h2, fun h => by rw [h]; exact ⟨rfl, rfl⟩⟩
theorem lowAll_map (n : Nat) : ∀ l : List α, lowAll n (l.map enc) = true
  | [] => by simp only [List.map_nil, lowAll]
  | a :: l => by rw [List.map_cons, lowAll, low_ok, lowAll_map n l]; rfl
theorem eqvAll_map : ∀ l m : List α, PyData.eqvAll (l.map dat) (m.map dat) = decide (l = m)
  | [], [] => by simp [PyData.eqvAll]
  | [], b :: m => by simp [PyData.eqvAll]
  | a :: l, [] => by simp [PyData.eqvAll]
  | a :: l, b :: m => by
    rw [List.map_cons, List.map_cons, eqv_all_cons, eqv_ok, eqvAll_map l m, Bool.eq_iff_iff]
    simp
instance : Enc (List α) where
  enc := tpl
  dat := fun l => .tuple (l.map dat)
  dep := dep α + 1
  low_ok := fun n a => by unfold tpl; rw [D.low]; exact lowAll_map n a
  pd_ok := fun S n a h => by
    obtain ⟨m, rfl⟩ : ∃ m, n = m + 1 := ⟨n - 1, by omega⟩
    unfold pdN tpl
    dsimp only
    rw [optMap_map fun b _ => pd_ok S m b (by omega)]
    rfl
  eqv_ok := fun a b => by simp only [PyData.eqv]; exact eqvAll_map a b
/-! what is equal, what is in -/
theorem pd_enc {S : Sto} {a : α} (h : dep α ≤ 20) : pd S (enc a) = some (dat a) := pd_ok S 20 a h
theorem dat_str {S : Sto} {a : α} {x : Str} (h : dep α ≤ 20) (e : (enc a : D) = .str x) : (dat a : PyData) = .str x := by
  have q := pd_enc (S := S) (a := a) h
  rw [e] at q
  have q : (if PySem.PyData.strOk x then some (PyData.str x) else none) = some (dat a) := q
  split at q
  · exact (Option.some.inj q).symm
  · cases q
theorem eqop_enc {S : Sto} {a b : α} (h : dep α ≤ 20) : eqop S (enc a) (enc b) = some (decide (a = b)) := by
  unfold eqop
  split
  · rename_i x y e1 e2
    have q := eqv_ok a b
    rw [dat_str (S := S) h e1, dat_str (S := S) h e2] at q
    simp only [PyData.eqv] at q
    rw [← q]; rfl
  · rw [pd_enc h, pd_enc h]
    simp only [eqv_ok]
theorem eq_enc {S : Sto} {a b : α} (h : dep α ≤ 20) : cmpop .Eq S (enc a) (enc b) = some (decide (a = b)) := eqop_enc h
theorem ne_enc {S : Sto} {a b : α} (h : dep α ≤ 20) : cmpop .NotEq S (enc a) (enc b) = some (!decide (a = b)) := by
  unfold cmpop
  dsimp only
  rw [eqop_enc h]
  rfl
theorem eq_str {S : Sto} {x y : Str} : cmpop .Eq S (.str x) (.str y) = some (decide (x = y)) := rfl
theorem ne_str {S : Sto} {x y : Str} : cmpop .NotEq S (.str x) (.str y) = some (!decide (x = y)) := rfl
/-- is it there -/
def mb {α : Type} [DecidableEq α] (a : α) (l : List α) : Bool := decide (a ∈ l)
theorem mb_iff {α : Type} [DecidableEq α] {a : α} {l : List α} : mb a l = true ↔ a ∈ l := by unfold mb; exact decide_eq_true_iff
theorem mb_not {α : Type} [DecidableEq α] {a : α} {l : List α} : mb a l = false ↔ a ∉ l := by unfold mb; exact decide_eq_false_iff_not
theorem mb_t {α : Type} [DecidableEq α] {a : α} {l : List α} (h : a ∈ l) : mb a l = true := mb_iff.mpr h
theorem mb_f {α : Type} [DecidableEq α] {a : α} {l : List α} (h : a ∉ l) : mb a l = false := mb_not.mpr h
theorem any_eqv (a : α) : ∀ l : List α, (l.map dat).any (fun e => PyData.eqv e (dat a)) = mb a l
  | [] => by simp [mb]
  | b :: l => by
    rw [List.map_cons, List.any_cons, any_eqv a l, eqv_ok, Bool.eq_iff_iff]
    simp only [Bool.or_eq_true, decide_eq_true_eq, List.mem_cons, mb_iff]
    exact or_congr eq_comm Iff.rfl
theorem in_tpl {S : Sto} {a : α} {l : List α} (h : dep α ≤ 20) : isIn S (enc a) (tpl l) = some (mb a l) := by
  unfold isIn tpl
  simp only [seqOf]
  rw [pd_enc h, optMap_map fun b _ => pd_enc h]
  simp only [any_eqv]
theorem in_lsl {S : Sto} {a : α} {l : List α} (h : dep α ≤ 20) : isIn S (enc a) (lsl l) = some (mb a l) := by
  unfold isIn lsl
  simp only [seqOf]
  rw [pd_enc h, optMap_map fun b _ => pd_enc h]
  simp only [any_eqv]
theorem in_ref {S : Sto} {a : α} {l : List α} {r : Nat} (h : dep α ≤ 20) (hr : S[r]? = some (.lst (l.map enc))) : isIn S (enc a) (.ref r) = some (mb a l) := by
  unfold isIn
  simp only [hr]
  rw [pd_enc h, optMap_map fun b _ => pd_enc h]
  simp only [any_eqv]
end
/-! ### order -/
/-- data that can be compared, place by place -/
class EncO (α : Type) [DecidableEq α] [Enc α] where
  alike_ok : ∀ a b : α, alike (dat a) (dat b) = true
  kind : (∀ a : α, ∃ x r, (dat a : PyData) = .tuple (x :: r)) ∨ ∀ a : α, (dat a : PyData) ≠ .none ∧ ∀ xs, (dat a : PyData) ≠ .tuple xs
open EncO
instance : EncO Int where
  alike_ok := fun a b => rfl
  kind := .inr fun a => ⟨(fun h => nomatch h), (fun xs h => nomatch h)⟩
instance : EncO Nat where
  alike_ok := fun a b => rfl
  kind := .inr fun a => ⟨(fun h => nomatch h), (fun xs h => nomatch h)⟩
instance : EncO Nm where
  alike_ok := fun a b => rfl
  kind := .inr fun a => ⟨(fun h => nomatch h), (fun xs h => nomatch h)⟩
instance {α β : Type} [DecidableEq α] [Enc α] [EncO α] [DecidableEq β] [Enc β] [EncO β] : EncO (α × β) where
  alike_ok := fun a b => by
    show alike (.tuple [dat a.1, dat a.2]) (.tuple [dat b.1, dat b.2]) = true
    simp only [alike, alikeAll, alike_ok, Bool.and_true]
  kind := .inl fun a => ⟨_, _, rfl⟩
section
variable {α : Type} [DecidableEq α] [Enc α] [EncO α]
/-- less, as data -/
def lt (a b : α) : Bool := dataLt (dat a) (dat b)
theorem lt_irrefl (a : α) : lt a a = false := (listOrd itemOrd).irrefl _
theorem lt_trans {a b c : α} (h : lt a b = true) (h2 : lt b c = true) : lt a c = true := (listOrd itemOrd).trans _ _ _ h h2
theorem lt_neg {a b c : α} (h : lt a c = true) : lt a b = true ∨ lt b c = true := (listOrd itemOrd).negTrans _ _ _ h
theorem lt_asymm {a b : α} (h : lt a b = true) : lt b a = false := by
  cases e : lt b a with
  | false => rfl
  | true => rw [← lt_irrefl a, lt_trans h e]
theorem lt_total {a b : α} (h : lt a b = false) (h2 : lt b a = false) : a = b := by
  have e : keyToks (dat a) = keyToks (dat b) := (listOrd itemOrd).total _ _ h h2
  cases q : PyData.eqv (dat a) (dat b) with
  | true => rw [eqv_ok] at q; exact of_decide_eq_true q
  | false =>
    have := (toks_eqv _ _ (alike_ok a b)).2 q [] [.inl 0]
    rw [e, lex_pre, lex_irrefl] at this
    exact absurd this (by simp [PyProof.Rows.lexLt])
/-- ascending, without duplicates -/
def Rising (l : List α) : Prop := l.Pairwise fun a b => lt a b = true
instance (l : List α) : Decidable (Rising l) := by unfold Rising; infer_instance
theorem Rising.nodup {l : List α} (h : Rising l) : l.Nodup := List.Pairwise.imp (fun {a b} e q => by subst q; rw [lt_irrefl] at e; cases e) h
theorem Rising.filter {l : List α} (h : Rising l) (p : α → Bool) : Rising (l.filter p) := List.Pairwise.filter p h
/-- two ascending rows of the same things -/
theorem Rising.ext : ∀ {l m : List α}, Rising l → Rising m → (∀ a, a ∈ l ↔ a ∈ m) → l = m
  | [], [], _, _, _ => rfl
  | [], b :: m, _, _, h => absurd ((h b).mpr List.mem_cons_self) (by simp)
  | a :: l, [], _, _, h => absurd ((h a).mp List.mem_cons_self) (by simp)
  | a :: l, b :: m, h1, h2, h => by
    have h1' := List.pairwise_cons.mp h1
    have h2' := List.pairwise_cons.mp h2
    have e : a = b := by
      rcases List.mem_cons.mp ((h a).mp List.mem_cons_self) with e | e
      · exact e
      · rcases List.mem_cons.mp ((h b).mpr List.mem_cons_self) with e2 | e2
        · exact e2.symm
        · have q1 := h2'.1 a e
          have q2 := h1'.1 b e2
          rw [lt_asymm q1] at q2; cases q2
    subst e
    have na : a ∉ l := fun q => by have := h1'.1 a q; rw [lt_irrefl] at this; cases this
    have nb : a ∉ m := fun q => by have := h2'.1 a q; rw [lt_irrefl] at this; cases this
    rw [Rising.ext h1'.2 h2'.2 fun x => ?_]
    constructor
    · intro q
      rcases List.mem_cons.mp ((h x).mp (List.mem_cons_of_mem _ q)) with e | e
      · subst e; exact absurd q na
      · exact e
    · intro q
      rcases List.mem_cons.mp ((h x).mpr (List.mem_cons_of_mem _ q)) with e | e
      · subst e; exact absurd q nb
      · exact e
def le (a b : α) : Bool := !lt b a
theorem le_trans (a b c : α) (h : le a b = true) (h2 : le b c = true) : le a c = true := by
  unfold le at *
  cases e : lt c a with
  | false => rfl
  | true =>
    rcases lt_neg (b := b) e with q | q
    · rw [q] at h2; cases h2
    · rw [q] at h; cases h
theorem le_total (a b : α) : (le a b || le b a) = true := by
  unfold le
  cases e : lt b a with
  | false => rfl
  | true => rw [lt_asymm e]; rfl
def srt (l : List α) : List α := l.mergeSort le
theorem srt_perm (l : List α) : (srt l).Perm l := List.mergeSort_perm _ _
theorem mem_srt {l : List α} {a : α} : a ∈ srt l ↔ a ∈ l := (srt_perm l).mem_iff
theorem srt_length (l : List α) : (srt l).length = l.length := (srt_perm l).length_eq
theorem srt_rising {l : List α} (h : l.Nodup) : Rising (srt l) := by
  have s : (srt l).Pairwise (fun a b => le a b = true) := List.pairwise_mergeSort le_trans le_total l
  have n : (srt l).Nodup := (srt_perm l).nodup_iff.mpr h
  unfold Rising
  refine (s.and n).imp fun {a b} ⟨e, ne⟩ => ?_
  cases q : lt a b with
  | true => rfl
  | false =>
    unfold le at e
    have e : lt b a = false := by simpa using e
    exact absurd (lt_total q e) ne
theorem srt_of_rising {l : List α} (h : Rising l) : srt l = l := (srt_rising h.nodup).ext h fun a => mem_srt
theorem sortD_enc {S : Sto} {l : List α} (hd : dep α ≤ 20) (hl : l.length ≤ big) : sortD S (l.map enc) = some ((srt l).map enc) := by
  unfold sortD
  rw [optMap_map fun b _ => pd_enc hd]
  dsimp only
  have c1 : allAlike (l.map dat) = true := by
    unfold allAlike
    simp only [List.all_eq_true, List.mem_map]
    rintro x ⟨a, _, rfl⟩ y ⟨b, _, rfl⟩
    exact alike_ok a b
  have c2 : sortable (l.map dat) = true := by
    unfold sortable
    rw [Bool.or_eq_true]
    rcases (kind : (∀ a : α, ∃ x r, (dat a : PyData) = .tuple (x :: r)) ∨ _) with h | h
    · left
      simp only [List.all_eq_true, List.mem_map]
      rintro x ⟨a, _, rfl⟩
      obtain ⟨y, r, e⟩ := h a
      rw [e]
    · right
      simp only [List.all_eq_true, List.mem_map]
      rintro x ⟨a, _, rfl⟩
      obtain ⟨h1, h2⟩ := h a
      cases e : (dat a : PyData) <;> first | rfl | exact absurd e h1 | exact absurd e (h2 _)
  rw [if_pos ⟨c1, c2, by rw [List.length_map]; exact hl⟩]
  congr 1
  have e : (l.map enc).zip (l.map dat) = l.map fun a : α => ((enc a, dat a) : D × PyData) := by
    induction l with
    | nil => rfl
    | cons a l ih =>
      rw [List.map_cons, List.map_cons, List.map_cons, List.zip_cons_cons, ih (by rw [List.length_cons] at hl; omega)]
      · unfold allAlike at c1 ⊢
        simp only [List.all_eq_true, List.mem_map] at c1 ⊢
        rintro x ⟨a, _, rfl⟩ y ⟨b, _, rfl⟩
        exact alike_ok a b
      · unfold sortable at c2 ⊢
        rw [List.map_cons, List.all_cons, List.all_cons, Bool.or_eq_true, Bool.and_eq_true, Bool.and_eq_true] at c2
        rw [Bool.or_eq_true]
        exact c2.imp (fun z => z.2) (fun z => z.2)
  rw [e]
  unfold sortP srt
  rw [← List.map_mergeSort (r := le) (s := PySem.W.dataLe false Prod.snd) (f := fun a : α => ((enc a, dat a) : D × PyData)) (fun a _ b _ => ?_), List.map_map]
  · rfl
  · rw [dataLe_eq]
    rfl
/-- one < other, neighbours -/
theorem rising_zip : ∀ l : List α, (l.zip l.tail).all (fun p => lt p.1 p.2) = decide (Rising l)
  | [] => by simp [Rising]
  | [a] => by simp [Rising]
  | a :: b :: l => by
    have ih := rising_zip (b :: l)
    rw [List.tail_cons] at ih
    rw [List.tail_cons, List.zip_cons_cons, List.all_cons, ih, Bool.eq_iff_iff]
    simp only [Bool.and_eq_true, decide_eq_true_eq]
    unfold Rising
    constructor
    · rintro ⟨h1, h2⟩
      refine List.pairwise_cons.mpr ⟨fun c hc => ?_, h2⟩
      rcases List.mem_cons.mp hc with rfl | hc
      · exact h1
      · exact lt_trans h1 ((List.pairwise_cons.mp h2).1 c hc)
    · intro h
      exact ⟨(List.pairwise_cons.mp h).1 b List.mem_cons_self, (List.pairwise_cons.mp h).2⟩
end
theorem lt_int (a b : Int) : lt a b = decide (a < b) := dataLt_int a b
theorem lt_nat (a b : Nat) : lt a b = decide (a < b) := by
  show dataLt (.int (a : Int)) (.int (b : Int)) = _
  rw [dataLt_int, Bool.eq_iff_iff]
  simp
theorem lt_nm (a b : Nm) : lt a b = decide (a.1.cps.toList < b.1.cps.toList) := dataLt_str _ _
theorem lt_pair {α β : Type} [DecidableEq α] [Enc α] [EncO α] [DecidableEq β] [Enc β] [EncO β] (p q : α × β) : lt p q = (lt p.1 q.1 || (decide (p.1 = q.1) && lt p.2 q.2)) := by
  show dataLt (.tuple [dat p.1, dat p.2]) (.tuple [dat q.1, dat q.2]) = _
  rw [dataLt_pair (alike_ok _ _) (alike_ok _ _), eqv_ok, eqv_ok]
  by_cases h1 : p.1 = q.1
  · rw [h1]
    by_cases h2 : p.2 = q.2
    · rw [h2]; simp [lt_irrefl]
    · simp [h2, lt_irrefl]; rfl
  · simp [h1]; rfl
theorem ltop_enc {α : Type} [DecidableEq α] [Enc α] [EncO α] {S : Sto} {a b : α} (h : dep α ≤ 20) (hn : (dat a : PyData) ≠ .none) : cmpop .Lt S (enc a) (enc b) = some (lt a b) := by
  unfold cmpop
  dsimp only
  split
  · rename_i i j e1 e2
    have d1 : (dat a : PyData) = .int i := by
      have q := pd_enc (S := S) (a := a) h
      rw [e1] at q
      exact (Option.some.inj q).symm
    have d2 : (dat b : PyData) = .int j := by
      have q := pd_enc (S := S) (a := b) h
      rw [e2] at q
      exact (Option.some.inj q).symm
    unfold lt
    rw [d1, d2, dataLt_int]
  · rw [pd_enc h, pd_enc h]
    dsimp only
    rw [alike_ok]
    cases e : (dat a : PyData) <;> first | exact absurd e hn | (simp only [notNone, Bool.and_self, if_true]; unfold lt; rw [e])
end MP

set_option Elab.async false
set_option linter.all false
set_option maxRecDepth 100000
set_option maxHeartbeats 4000000
/-! W2: what the operators give. -/
namespace MP
open PySem L2 PySem.W PyProof.Rows
open Enc EncO
/-! encodings -/
theorem enc_int (i : Int) : (enc i : D) = .int i := rfl
theorem enc_nat (i : Nat) : (enc i : D) = .int (i : Int) := rfl
theorem enc_bool (b : Bool) : (enc b : D) = .bl b := rfl
theorem enc_nm (x : Nm) : (enc x : D) = .str x.1 := rfl
section
variable {α β : Type} [DecidableEq α] [Enc α] [DecidableEq β] [Enc β]
theorem enc_pair (p : α × β) : (enc p : D) = .tup [enc p.1, enc p.2] := rfl
theorem enc_mk (a : α) (b : β) : (enc (a, b) : D) = .tup [enc a, enc b] := rfl
theorem enc_list (l : List α) : (enc l : D) = .tup (l.map enc) := rfl
end
/-! kinds -/
theorem ty_int_int {S : Sto} (i : Int) : isTy S (.int i) (.bt .int) = some true := rfl
theorem ty_int_bool {S : Sto} (i : Int) : isTy S (.int i) (.bt .bool) = some false := rfl
theorem ty_int_str {S : Sto} (i : Int) : isTy S (.int i) (.bt .str) = some false := rfl
theorem ty_int_tup {S : Sto} (i : Int) : isTy S (.int i) (.bt .tuple) = some false := rfl
theorem ty_str_str {S : Sto} (i : Str) : isTy S (.str i) (.bt .str) = some true := rfl
theorem ty_str_int {S : Sto} (i : Str) : isTy S (.str i) (.bt .int) = some false := rfl
theorem ty_tup_tup {S : Sto} (xs : List D) : isTy S (.tup xs) (.bt .tuple) = some true := rfl
/-! comparisons of numbers -/
theorem c_lt {S : Sto} (i j : Int) : cmpop .Lt S (.int i) (.int j) = some (decide (i < j)) := rfl
theorem c_le {S : Sto} (i j : Int) : cmpop .LtE S (.int i) (.int j) = some (decide (i ≤ j)) := rfl
theorem c_gt {S : Sto} (i j : Int) : cmpop .Gt S (.int i) (.int j) = some (decide (j < i)) := rfl
theorem c_ge {S : Sto} (i j : Int) : cmpop .GtE S (.int i) (.int j) = some (decide (j ≤ i)) := rfl
theorem c_eq {S : Sto} (i j : Int) : cmpop .Eq S (.int i) (.int j) = some (decide (i = j)) := eq_enc (α := Int) (by decide)
theorem c_ne {S : Sto} (i j : Int) : cmpop .NotEq S (.int i) (.int j) = some (!decide (i = j)) := ne_enc (α := Int) (by decide)
theorem c_in {S : Sto} (a b : D) : cmpop .In S a b = isIn S a b := rfl
theorem c_notin {S : Sto} (a b : D) : cmpop .NotIn S a b = (isIn S a b).map not := rfl
/-! operators -/
theorem b_add {S : Sto} (i j : Int) : binop .Add S (.int i) (.int j) = some (.int (i + j)) := rfl
theorem b_sub {S : Sto} (i j : Int) : binop .Sub S (.int i) (.int j) = some (.int (i - j)) := rfl
theorem b_mod {S : Sto} {i j : Int} (h : 0 < j) : binop .Mod S (.int i) (.int j) = some (.int (i % j)) := if_pos h
theorem b_fdiv {S : Sto} {i j : Int} (h : 0 < j) (h2 : j.natAbs < 2 ^ 8000) : binop .FloorDiv S (.int i) (.int j) = some (.int (i / j)) := if_pos ⟨h, h2⟩
theorem b_mul {S : Sto} {i j : Int} (h : i.natAbs < 2 ^ 600) (h2 : j.natAbs < 2 ^ 600) : binop .Mult S (.int i) (.int j) = some (.int (i * j)) := if_pos (by unfold mulOk; rw [decide_eq_true h, decide_eq_true h2]; rfl)
theorem b_pow {S : Sto} {i j : Int} (h : 0 ≤ j ∧ j ≤ 1000 ∧ i.natAbs < 2 ^ 64) : binop .Pow S (.int i) (.int j) = some (.int (i ^ j.toNat)) := if_pos h
/-! built-ins -/
theorem all_bl {α : Type} {S : Sto} (p : α → Bool) (l : List α) : biop .all S [.lst (l.map fun x => .bl (p x))] = some (.bl (l.all p)) := by
  show ((optMap blOf (l.map fun x => .bl (p x))).map fun bs => D.bl (bs.all id)) = _
  rw [optMap_map (h := blOf) (f := fun x => D.bl (p x)) (g := p) fun _ _ => rfl, Option.map_some, List.all_map]
  rfl
theorem any_bl {α : Type} {S : Sto} (p : α → Bool) (l : List α) : biop .any S [.lst (l.map fun x => .bl (p x))] = some (.bl (l.any p)) := by
  show ((optMap blOf (l.map fun x => .bl (p x))).map fun bs => D.bl (bs.any id)) = _
  rw [optMap_map (h := blOf) (f := fun x => D.bl (p x)) (g := p) fun _ _ => rfl, Option.map_some, List.any_map]
  rfl
theorem all_yes {α : Type} {S : Sto} (l : List α) : biop .all S [.lst (l.map fun _ => D.bl true)] = some (.bl true) := by
  rw [all_bl (fun _ => true)]
  congr 2
  exact List.all_eq_true.mpr fun _ _ => rfl
theorem comp_map {α : Type} {k : Wk} {t : Tg} {c e : Env → Sto → R D} {η : Env} {S : Sto} {g : α → D} (f : α → D) (hk : k.ok S) (l : List α) (h : ∀ x ∈ l, ∃ η', setTg S t (g x) η = some η' ∧ c η' S = .ok (.bl true) S ∧ e η' S = .ok (f x) S) (hl : l.length ≤ big) :
    compL k t c e η (l.map g) [] S = .ok (l.map f) S := by
  have := comp_pure (k := k) (t := t) (c := c) (e := e) (η := η) (S := S) (g := g) (fun _ => true) f hk l [] (fun x hx => by
    obtain ⟨η', h1, h2, h3⟩ := h x hx
    exact ⟨η', h1, h2, fun _ => h3⟩) (by simpa using hl)
  rw [List.filter_eq_self.mpr (fun _ _ => rfl), List.nil_append] at this
  exact this
theorem comp_flt {α : Type} {k : Wk} {t : Tg} {c e : Env → Sto → R D} {η : Env} {S : Sto} {g : α → D} (p : α → Bool) (f : α → D) (hk : k.ok S) (l : List α) (h : ∀ x ∈ l, ∃ η', setTg S t (g x) η = some η' ∧ c η' S = .ok (.bl (p x)) S ∧ (p x = true → e η' S = .ok (f x) S)) (hl : l.length ≤ big) :
    compL k t c e η (l.map g) [] S = .ok ((l.filter p).map f) S := by
  have := comp_pure (k := k) (t := t) (c := c) (e := e) (η := η) (S := S) (g := g) p f hk l [] h (by simpa using hl)
  rw [List.nil_append] at this
  exact this
/-- a for loop, by what is done -/
theorem for_pre {α : Type} {k : Wk} {t : Tg} {b : Env → Sto → R Fl} {g : α → D} {η : Env} {S : Sto} (l : List α) (I : List α → Env → Sto → Prop) (h0 : I [] η S) (hk : ∀ d η S, I d η S → k.ok S)
    (hs : ∀ d x r η S, l = d ++ x :: r → I d η S → ∃ η1 η2 S2, setTg S t (g x) η = some η1 ∧ (b η1 S = .ok (.nx η2) S2 ∨ b η1 S = .ok (.ct η2) S2) ∧ I (d ++ [x]) η2 S2) :
    ∃ η' S', forL k t b (l.map g) η S = .ok (.nx η') S' ∧ I l η' S' := by
  have key : ∀ (r d : List α) (η : Env) (S : Sto), l = d ++ r → I d η S → ∃ η' S', forL k t b (r.map g) η S = .ok (.nx η') S' ∧ I l η' S' := by
    intro r
    induction r with
    | nil =>
      intro d η S e h
      rw [List.append_nil] at e
      subst e
      refine ⟨η, S, ?_, h⟩
      rw [List.map_nil]
      unfold forL
      rw [if_pos (hk _ _ _ h)]
    | cons x r ih =>
      intro d η S e h
      obtain ⟨η1, η2, S2, h1, h2, h3⟩ := hs d x r η S e h
      obtain ⟨η', S', h4, h5⟩ := ih (d ++ [x]) η2 S2 (by rw [e]; simp) h3
      refine ⟨η', S', ?_, h5⟩
      rw [List.map_cons]
      unfold forL
      rw [if_pos (hk _ _ _ h), h1]
      dsimp only
      rcases h2 with h2 | h2 <;> rw [h2, MP.R.bind_ok] <;> exact h4
  exact key l [] η S rfl h0
/-- .. that may end before -/
theorem for_end {α : Type} {k : Wk} {t : Tg} {b : Env → Sto → R Fl} {g : α → D} {η : Env} {S : Sto} (l : List α) (I : List α → Env → Sto → Prop) (P : Fl → Sto → Prop) (h0 : I [] η S) (hk : ∀ d η S, I d η S → k.ok S)
    (hs : ∀ d x r η S, l = d ++ x :: r → I d η S → ∃ η1 fl S2, setTg S t (g x) η = some η1 ∧ b η1 S = .ok fl S2 ∧ (match fl with
      | .nx η2 => I (d ++ [x]) η2 S2
      | .ct η2 => I (d ++ [x]) η2 S2
      | .bk η2 => P (.nx η2) S2
      | .rt v => P (.rt v) S2)) (he : ∀ η S, I l η S → P (.nx η) S) :
    ∃ fl S', forL k t b (l.map g) η S = .ok fl S' ∧ P fl S' := by
  have key : ∀ (r d : List α) (η : Env) (S : Sto), l = d ++ r → I d η S → ∃ fl S', forL k t b (r.map g) η S = .ok fl S' ∧ P fl S' := by
    intro r
    induction r with
    | nil =>
      intro d η S e h
      rw [List.append_nil] at e
      subst e
      refine ⟨_, S, ?_, he _ _ h⟩
      rw [List.map_nil]
      unfold forL
      rw [if_pos (hk _ _ _ h)]
    | cons x r ih =>
      intro d η S e h
      obtain ⟨η1, fl, S2, h1, h2, h3⟩ := hs d x r η S e h
      rw [List.map_cons]
      unfold forL
      rw [if_pos (hk _ _ _ h), h1]
      dsimp only
      rw [h2, MP.R.bind_ok]
      cases fl with
      | nx η2 => exact ih (d ++ [x]) η2 S2 (by rw [e]; simp) h3
      | ct η2 => exact ih (d ++ [x]) η2 S2 (by rw [e]; simp) h3
      | bk η2 => exact ⟨_, _, rfl, h3⟩
      | rt v => exact ⟨_, _, rfl, h3⟩
  exact key l [] η S rfl h0
/-- a comprehension, by what is done and made -/
theorem comp_pre {α : Type} {k : Wk} {t : Tg} {c e : Env → Sto → R D} {g : α → D} {η : Env} {S : Sto} (l : List α) (hl : l.length ≤ big) (I : List α → List D → Sto → Prop) (h0 : I [] [] S) (hk : ∀ d acc S, I d acc S → k.ok S)
    (hs : ∀ d x r acc S, l = d ++ x :: r → I d acc S → ∃ η' b S1, setTg S t (g x) η = some η' ∧ c η' S = .ok (.bl b) S1 ∧ (b = true → ∃ y S2, e η' S1 = .ok y S2 ∧ I (d ++ [x]) (acc ++ [y]) S2) ∧ (b = false → I (d ++ [x]) acc S1)) :
    ∃ ys S', compL k t c e η (l.map g) [] S = .ok ys S' ∧ I l ys S' := by
  have key : ∀ (r d : List α) (acc : List D) (S : Sto), l = d ++ r → acc.length ≤ d.length → I d acc S → ∃ ys S', compL k t c e η (r.map g) acc S = .ok ys S' ∧ I l ys S' := by
    intro r
    induction r with
    | nil =>
      intro d acc S e _ h
      rw [List.append_nil] at e
      subst e
      refine ⟨acc, S, ?_, h⟩
      rw [List.map_nil]
      unfold compL
      rw [if_pos (hk _ _ _ h)]
    | cons x r ih =>
      intro d acc S e ha h
      obtain ⟨η', b, S1, h1, h2, h3, h4⟩ := hs d x r acc S e h
      have hd : d.length + (r.length + 1) = l.length := by rw [e, List.length_append, List.length_cons]
      rw [List.map_cons]
      unfold compL
      rw [if_pos (hk _ _ _ h), h1]
      dsimp only
      rw [h2, MP.R.bind_ok]
      cases b with
      | true =>
        obtain ⟨y, S2, h5, h6⟩ := h3 rfl
        obtain ⟨ys, S', h7, h8⟩ := ih (d ++ [x]) (acc ++ [y]) S2 (by rw [e]; simp) (by simp; omega) h6
        refine ⟨ys, S', ?_, h8⟩
        dsimp only
        rw [h5, MP.R.bind_ok, if_pos (by omega), h7]
      | false =>
        obtain ⟨ys, S', h7, h8⟩ := ih (d ++ [x]) acc S1 (by rw [e]; simp) (by simp; omega) (h4 rfl)
        exact ⟨ys, S', h7, h8⟩
  exact key l [] [] S rfl (Nat.le_refl _) h0
/-- a for loop, and what is behind it -/
theorem sat_for {α β : Type} {k : Wk} {t : Tg} {b : Env → Sto → R Fl} {g : α → D} {η : Env} {S : Sto} {K : Fl → Sto → R β} {Q : β → Sto → Prop} (l : List α) (I : List α → Env → Sto → Prop) (h0 : I [] η S) (hk : ∀ d η S, I d η S → k.ok S)
    (hs : ∀ d x r η S, l = d ++ x :: r → I d η S → ∃ η1, setTg S t (g x) η = some η1 ∧ sat (b η1 S) fun fl S2 => match fl with
      | .nx η2 => I (d ++ [x]) η2 S2
      | .ct η2 => I (d ++ [x]) η2 S2
      | .bk η2 => sat (K (.nx η2) S2) Q
      | .rt v => sat (K (.rt v) S2) Q) (he : ∀ η S, I l η S → sat (K (.nx η) S) Q) : sat ((forL k t b (l.map g) η S).bind K) Q := by
  obtain ⟨fl, S', e, h⟩ := for_end (k := k) (t := t) (b := b) (g := g) l I (fun fl S' => sat (K fl S') Q) h0 hk (fun d x r η S e h => by
    obtain ⟨η1, h1, fl, S2, h2, h3⟩ := hs d x r η S e h
    refine ⟨η1, fl, S2, h1, h2, ?_⟩
    cases fl <;> exact h3) he
  rw [e]
  exact h
/-- a comprehension, and what is behind it -/
theorem sat_comp {α β : Type} {k : Wk} {t : Tg} {c e : Env → Sto → R D} {g : α → D} {η : Env} {S : Sto} {K : List D → Sto → R β} {Q : β → Sto → Prop} (l : List α) (hl : l.length ≤ big) (I : List α → List D → Sto → Prop) (h0 : I [] [] S) (hk : ∀ d acc S, I d acc S → k.ok S)
    (hs : ∀ d x r acc S, l = d ++ x :: r → I d acc S → ∃ η', setTg S t (g x) η = some η' ∧ sat (c η' S) fun v S1 => ∃ b, v = .bl b ∧ (b = true → sat (e η' S1) fun y S2 => I (d ++ [x]) (acc ++ [y]) S2) ∧ (b = false → I (d ++ [x]) acc S1))
    (he : ∀ ys S, I l ys S → sat (K ys S) Q) : sat ((compL k t c e η (l.map g) [] S).bind K) Q := by
  obtain ⟨ys, S', e1, h⟩ := comp_pre (k := k) (t := t) (c := c) (e := e) (g := g) (η := η) l hl I h0 hk (fun d x r acc S e h => by
    obtain ⟨η', h1, v, S1, h2, b, rfl, h3, h4⟩ := hs d x r acc S e h
    refine ⟨η', b, S1, h1, h2, fun q => ?_, h4⟩
    obtain ⟨y, S2, h5, h6⟩ := h3 q
    exact ⟨y, S2, h5, h6⟩)
  rw [e1]
  exact he ys S' h
theorem sat_while {β : Type} {c : Env → Sto → R D} {b : Env → Sto → R Fl} {K : Fl → Sto → R β} {Q : β → Sto → Prop} (I : Nat → Env → Sto → Prop) (n : Nat) {η : Env} {S : Sto} (h : I n η S)
    (hs : ∀ n η S, I n η S → sat (c η S) fun v S1 => ∃ bb, v = .bl bb ∧ (bb = false → sat (K (.nx η) S1) Q) ∧ (bb = true → sat (b η S1) fun fl S2 => match fl with
      | .nx η2 => ∃ m < n, I m η2 S2
      | .ct η2 => ∃ m < n, I m η2 S2
      | .bk η2 => sat (K (.nx η2) S2) Q
      | .rt v => sat (K (.rt v) S2) Q)) : sat ((whileL c b η S).bind K) Q := by
  obtain ⟨fl, S', e, h⟩ := while_inv I (fun fl S' => sat (K fl S') Q) (fun n η S h => by
    obtain ⟨v, S1, h1, bb, rfl, h2, h3⟩ := hs n η S h
    refine ⟨bb, S1, h1, h2, fun q => ?_⟩
    obtain ⟨fl, S2, h4, h5⟩ := h3 q
    refine ⟨fl, S2, h4, ?_⟩
    cases fl <;> exact h5) n η S h
  rw [e]
  exact h
/-! lists of the store -/
theorem bm_append {S : Sto} {l : Nat} {xs : List D} {d : D} (h : S[l]? = some (.lst xs)) (hl : xs.length < big) : bmop .append S (.ref l) [d] = .ok .non (S.set l (.lst (xs ++ [d]))) := by
  unfold bmop
  simp only [h, if_pos hl]
theorem bm_popAt {S : Sto} {l : Nat} {xs : List D} {i : Nat} (h : S[l]? = some (.lst xs)) (hi : i < xs.length) (h2 : i < 1000) : bmop .popAt S (.ref l) [.int (i : Int)] = .ok xs[i] (S.set l (.lst (xs.eraseIdx i))) := by
  unfold bmop
  simp only [h]
  rw [if_pos (by omega), Int.toNat_natCast, List.getElem?_eq_getElem hi]
theorem bm_extend {S : Sto} {l : Nat} {xs ys : List D} (h : S[l]? = some (.lst xs)) (hl : xs.length + ys.length ≤ big) : bmop .extend S (.ref l) [.lst ys] = .ok .non (S.set l (.lst (xs ++ ys))) := by
  unfold bmop
  simp only [h, if_pos hl]
theorem bm_pop0 {S : Sto} {l : Nat} {xs : List D} {d : D} (h : S[l]? = some (.lst (xs ++ [d]))) : bmop .pop0 S (.ref l) [] = .ok d (S.set l (.lst xs)) := by
  unfold bmop
  simp only [h]
  have e : (xs ++ [d])[(xs ++ [d]).length - 1]? = some d := by simp
  have e2 : (xs ++ [d]).dropLast = xs := by simp
  rw [e, e2]
theorem ty_append {S : Sto} {l : Nat} {xs : List D} (h : S[l]? = some (.lst xs)) : tyBm .append S (.ref l) = true := by unfold tyBm; simp only [h]
theorem ty_popAt {S : Sto} {l : Nat} {xs : List D} (h : S[l]? = some (.lst xs)) : tyBm .popAt S (.ref l) = true := by unfold tyBm; simp only [h]
theorem ty_pop0 {S : Sto} {l : Nat} {xs : List D} (h : S[l]? = some (.lst xs)) : tyBm .pop0 S (.ref l) = true := by unfold tyBm; simp only [h]
theorem ty_extend {S : Sto} {l : Nat} {xs : List D} (h : S[l]? = some (.lst xs)) : tyBm .extend S (.ref l) = true := by unfold tyBm; simp only [h]
/-! dicts of tuple keys: a row of keys, what stands there -/
/-- an edge as a key -/
def ek (e : Nat × Nat) : List Key := [.inl (e.1 : Int), .inl (e.2 : Int)]
theorem ek_inj {e f : Nat × Nat} : ek e = ek f ↔ e = f := by
  constructor
  · intro h
    unfold ek at h
    injection h with h1 h2
    injection h2 with h2 _
    injection h1 with h1
    injection h2 with h2
    exact Prod.ext (by omega) (by omega)
  · rintro rfl; rfl
theorem keyT_edge (e : Nat × Nat) : keyT (enc e) = some (ek e) := rfl
theorem dT_edge (e : Nat × Nat) : MP.dT (ek e) = enc e := rfl
section
variable {α κ : Type} [DecidableEq α] [DecidableEq κ] {key : α → κ}
/-- a dict: keys of a row -/
def dicL (key : α → κ) (l : List α) (f : α → D) : List (κ × D) := l.map fun a => (key a, f a)
theorem dicL_length (l : List α) (f : α → D) : (dicL key l f).length = l.length := List.length_map _
theorem dicL_congr {l : List α} {f g : α → D} (h : ∀ a ∈ l, f a = g a) : dicL key l f = dicL key l g := List.map_congr_left fun a ha => by rw [h a ha]
theorem getA_in (hi : ∀ a b, key a = key b → a = b) {l : List α} {f : α → D} {a : α} (h : a ∈ l) : getA (dicL key l f) (key a) = some (f a) := by
  unfold getA dicL
  induction l with
  | nil => cases h
  | cons b l ih =>
    rw [List.map_cons, List.find?_cons]
    by_cases e : key b = key a
    · have := hi _ _ e
      subst this
      simp
    · simp only [e, decide_false]
      rcases List.mem_cons.mp h with rfl | h
      · exact absurd rfl e
      · exact ih h
theorem getA_out (hi : ∀ a b, key a = key b → a = b) {l : List α} {f : α → D} {a : α} (h : a ∉ l) : getA (dicL key l f) (key a) = none := by
  unfold getA dicL
  rw [Option.map_eq_none_iff, List.find?_eq_none]
  intro x hx
  obtain ⟨b, hb, rfl⟩ := List.mem_map.mp hx
  simp only [decide_eq_true_eq]
  intro e
  have := hi _ _ e
  subst this
  exact h hb
theorem any_in (hi : ∀ a b, key a = key b → a = b) {l : List α} {f : α → D} {a : α} : ((dicL key l f).any fun kv => decide (kv.1 = key a)) = mb a l := by
  unfold dicL
  rw [List.any_map, Bool.eq_iff_iff, List.any_eq_true, mb_iff]
  constructor
  · rintro ⟨b, hb, e⟩
    have := hi _ _ (of_decide_eq_true e)
    subst this; exact hb
  · intro h; exact ⟨a, h, decide_eq_true rfl⟩
theorem putA_in (hi : ∀ a b, key a = key b → a = b) {l : List α} {f : α → D} {a : α} {v : D} (h : a ∈ l) : putA (dicL key l f) (key a) v = dicL key l fun b => if b = a then v else f b := by
  unfold putA
  rw [any_in hi, mb_t h, if_pos rfl]
  unfold dicL
  rw [List.map_map]
  refine List.map_congr_left fun b _ => ?_
  show (if key b = key a then (key b, v) else (key b, f b)) = _
  by_cases e : b = a
  · subst e; simp
  · rw [if_neg (fun q => e (hi _ _ q))]
    dsimp only
    rw [if_neg e]
theorem putA_out (hi : ∀ a b, key a = key b → a = b) {l : List α} {f : α → D} {a : α} {v : D} (h : a ∉ l) : putA (dicL key l f) (key a) v = dicL key (l ++ [a]) fun b => if b = a then v else f b := by
  unfold putA
  rw [any_in hi, mb_f h, if_neg Bool.false_ne_true]
  unfold dicL
  rw [List.map_append]
  congr 1
  · refine List.map_congr_left fun b hb => ?_
    dsimp only
    rw [if_neg]
    rintro rfl
    exact h hb
  · simp
theorem mergeA_row (hi : ∀ a b, key a = key b → a = b) {f : α → D} : ∀ (l d : List α), (d ++ l).Nodup → mergeA (dicL key d f) (dicL key l f) = dicL key (d ++ l) f
  | [], d, _ => by rw [List.append_nil]; rfl
  | a :: l, d, h => by
    have e : mergeA (dicL key d f) (dicL key (a :: l) f) = mergeA (putA (dicL key d f) (key a) (f a)) (dicL key l f) := rfl
    have na : a ∉ d := fun q => by
      rw [List.nodup_append] at h
      exact h.2.2 a q a List.mem_cons_self rfl
    rw [e, putA_out hi na]
    have e2 : dicL key (d ++ [a]) (fun b => if b = a then f a else f b) = dicL key (d ++ [a]) f := dicL_congr fun b _ => by
      by_cases q : b = a
      · rw [if_pos q, q]
      · rw [if_neg q]
    rw [e2, mergeA_row hi l (d ++ [a]) (by rw [List.append_assoc]; exact h), List.append_assoc]
    rfl
end
theorem dicOf_row {l : List (Nat × Nat)} {f : Nat × Nat → D} (hn : l.Nodup) (hl : l.length ≤ 1000) : dicOf (l.map fun e => (enc e, f e)) = some (.dT (dicL ek l f)) := by
  unfold dicOf
  rw [if_pos (by rw [List.length_map]; exact hl)]
  unfold keyed
  rw [optMap_map (h := fun p : D × D => (keyT p.1).map fun k => (k, p.2)) (f := fun e : Nat × Nat => ((enc e, f e) : D × D)) (g := fun e : Nat × Nat => (ek e, f e)) fun e _ => rfl]
  dsimp only
  have := mergeA_row (key := ek) (f := f) (fun a b => ek_inj.mp) l [] (by simpa using hn)
  rw [List.nil_append] at this
  exact congrArg (fun z => some (Ob.dT z)) this
theorem len_tup {S : Sto} (xs : List D) : biop .len S [.tup xs] = some (.int xs.length) := rfl
theorem len_lst {S : Sto} (xs : List D) : biop .len S [.lst xs] = some (.int xs.length) := rfl
theorem len_str {S : Sto} (s : Str) (h : s.length ≤ big) : biop .len S [.str s] = some (.int s.length) := by
  have e : lenOf S (.str s) = some s.length := if_pos h
  unfold biop
  simp only [one, Option.bind_some, e]
  rfl
theorem len_ref {S : Sto} {l : Nat} {xs : List D} (h : S[l]? = some (.lst xs)) : biop .len S [.ref l] = some (.int xs.length) := by
  have e : lenOf S (.ref l) = some xs.length := by unfold lenOf; simp only [h]
  unfold biop
  simp only [one, Option.bind_some, e]
  rfl
theorem tuple_lst {S : Sto} (xs : List D) : biop .tuple S [.lst xs] = some (.tup xs) := rfl
theorem tuple_tup {S : Sto} (xs : List D) : biop .tuple S [.tup xs] = some (.tup xs) := rfl
theorem tuple_ref {S : Sto} {l : Nat} {xs : List D} (h : S[l]? = some (.lst xs)) : biop .tuple S [.ref l] = some (.tup xs) := by
  show ((seqOf S (.ref l)).map fun ys => D.tup ys) = _
  unfold seqOf
  simp only [h]
  rfl
theorem list_tup {S : Sto} (xs : List D) : biop .list S [.tup xs] = some (.lst xs) := rfl
theorem list_lst {S : Sto} (xs : List D) : biop .list S [.lst xs] = some (.lst xs) := rfl
theorem list_rng {S : Sto} (i j : Int) : biop .list S [.rng i j] = some (.lst (rangeL i j)) := rfl
theorem list_str {S : Sto} (s : Str) (h : s.length ≤ big) : biop .list S [.str s] = some (.lst (signsOf s)) := by
  show ((if s.length ≤ big then some (signsOf s) else none).map D.lst) = _
  rw [if_pos h]; rfl
theorem bi_int {S : Sto} (i : Int) : biop .int S [.int i] = some (.int i) := rfl
theorem bi_max {S : Sto} (i j : Int) : biop .max S [.int i, .int j] = some (.int (if j > i then j else i)) := rfl
theorem bi_min {S : Sto} (i j : Int) : biop .min S [.int i, .int j] = some (.int (if j < i then j else i)) := rfl
theorem sorted_lsl {α : Type} [DecidableEq α] [Enc α] [EncO α] {S : Sto} {l : List α} (hd : dep α ≤ 20) (hl : l.length ≤ big) : biop .sorted S [.lst (l.map enc)] = some (.lst ((srt l).map enc)) := by
  show ((sortD S (l.map enc)).map D.lst) = _
  rw [sortD_enc hd hl]; rfl
theorem sorted_ref {α : Type} [DecidableEq α] [Enc α] [EncO α] {S : Sto} {r : Nat} {l : List α} (hd : dep α ≤ 20) (hl : l.length ≤ big) (h : S[r]? = some (.lst (l.map enc))) : biop .sorted S [.ref r] = some (.lst ((srt l).map enc)) := by
  show ((lstOf S (.ref r)).bind fun xs => (sortD S xs).map D.lst) = _
  unfold lstOf
  simp only [h, Option.bind_some]
  rw [sortD_enc hd hl]; rfl
/-! items -/
theorem atI_nat {xs : List D} {i : Nat} (h : i < xs.length) : atI xs (i : Int) = some xs[i] := by
  unfold atI ixN
  rw [if_pos (by omega), if_pos (by omega)]
  show xs[(i : Int).toNat]? = _
  rw [Int.toNat_natCast, List.getElem?_eq_getElem h]
theorem atI_int {xs : List D} {i : Int} (h0 : 0 ≤ i) (h : i.toNat < xs.length) : atI xs i = some xs[i.toNat] := by
  have e : i = (i.toNat : Int) := by omega
  conv => lhs; rw [e]
  exact atI_nat h
theorem atI_last {xs : List D} (h : xs ≠ []) : atI xs (-1) = some (xs.getLast h) := by
  have hl := List.length_pos_iff.mpr h
  unfold atI ixN
  rw [if_neg (by omega), if_pos (by omega)]
  show xs[((-1 : Int) + xs.length).toNat]? = _
  rw [List.getLast_eq_getElem, List.getElem?_eq_getElem (by omega)]
  congr 1
  congr 1
  omega
theorem ix_tup {S : Sto} (xs : List D) (j : Int) : index S (.tup xs) (.int j) = atI xs j := rfl
theorem ix_lst {S : Sto} (xs : List D) (j : Int) : index S (.lst xs) (.int j) = atI xs j := rfl
theorem ix_ref {S : Sto} {l : Nat} {xs : List D} (j : Int) (h : S[l]? = some (.lst xs)) : index S (.ref l) (.int j) = atI xs j := by
  unfold index
  simp only [seqOf, h]
theorem at_0 (x : D) (xs : List D) : atI (x :: xs) 0 = some x := by
  have := atI_nat (xs := x :: xs) (i := 0) (by simp)
  simpa using this
theorem at_1 (x y : D) (xs : List D) : atI (x :: y :: xs) 1 = some y := by
  have := atI_nat (xs := x :: y :: xs) (i := 1) (by simp)
  simpa using this
theorem at_2 (x y z : D) (xs : List D) : atI (x :: y :: z :: xs) 2 = some z := by
  have := atI_nat (xs := x :: y :: z :: xs) (i := 2) (by simp)
  simpa using this
theorem at_3 (x y z a : D) (xs : List D) : atI (x :: y :: z :: a :: xs) 3 = some a := by
  have := atI_nat (xs := x :: y :: z :: a :: xs) (i := 3) (by simp)
  simpa using this
theorem at_4 (x y z a b : D) (xs : List D) : atI (x :: y :: z :: a :: b :: xs) 4 = some b := by
  have := atI_nat (xs := x :: y :: z :: a :: b :: xs) (i := 4) (by simp)
  simpa using this
/-- the item of typed data -/
theorem atI_enc {α : Type} [DecidableEq α] [Enc α] {l : List α} {i : Nat} (h : i < l.length) : atI (l.map enc) (i : Int) = some (enc l[i]) := by
  rw [atI_nat (by rw [List.length_map]; exact h), List.getElem_map]
/-! slices -/
theorem cut_from {xs : List D} {k : Nat} (h : k ≤ xs.length) : cutD xs (some (k : Int)) none = xs.drop k := by
  unfold cutD
  rw [HT.sIx_nat, HT.sIx_none, Nat.min_eq_left h, List.take_of_length_le (by rw [List.length_drop]; omega)]
theorem cut_to {xs : List D} {k : Nat} (h : k ≤ xs.length) : cutD xs none (some (k : Int)) = xs.take k := by
  unfold cutD
  rw [HT.sIx_nat, HT.sIx_none, Nat.min_eq_left h, Nat.sub_zero]
  rfl
theorem cut_to' {xs : List D} {k : Nat} : cutD xs none (some (k : Int)) = xs.take k := by
  unfold cutD
  rw [HT.sIx_nat, HT.sIx_none, Nat.sub_zero]
  show xs.take (min k xs.length) = _
  rw [List.take_eq_take_iff]
  omega
theorem cut_from' {xs : List D} {k : Nat} : cutD xs (some (k : Int)) none = xs.drop k := by
  unfold cutD
  rw [HT.sIx_nat, HT.sIx_none]
  by_cases h : k ≤ xs.length
  · rw [Nat.min_eq_left h, List.take_of_length_le (by rw [List.length_drop]; omega)]
  · rw [Nat.min_eq_right (by omega), List.drop_of_length_le (Nat.le_refl _), List.drop_of_length_le (by omega), List.take_nil]
theorem sl_from {S : Sto} (xs : List D) (k : Nat) (z : D) : slice S (.tup xs) true false (.int (k : Int)) z = some (.tup (xs.drop k)) := by
  show some (D.tup (cutD xs (some (k : Int)) none)) = _
  rw [cut_from']
theorem sl_to {S : Sto} (xs : List D) (k : Nat) (z : D) : slice S (.tup xs) false true z (.int (k : Int)) = some (.tup (xs.take k)) := by
  show some (D.tup (cutD xs none (some (k : Int)))) = _
  rw [cut_to']
/-! ranges, numbers, pairs -/
theorem rangeL_nat (k : Nat) : rangeL 0 (k : Int) = (List.range k).map fun i : Nat => D.int (i : Int) := by
  unfold rangeL
  rw [show ((k : Int) - 0).toNat = k by omega]
  refine List.map_congr_left fun i _ => ?_
  rw [Int.zero_add]
theorem rangeL_from (j k : Nat) : rangeL (j : Int) (k : Int) = (List.range' j (k - j)).map fun i : Nat => D.int (i : Int) := by
  unfold rangeL
  rw [show ((k : Int) - j).toNat = k - j by omega, List.range'_eq_map_range, List.map_map]
  refine List.map_congr_left fun i _ => ?_
  show D.int ((j : Int) + (i : Nat)) = D.int ((j + i : Nat) : Int)
  rw [Int.natCast_add]
theorem rng_ok {k : Nat} (h : k ≤ 1000000) : rngOk 0 (k : Int) := ⟨by omega, by omega, by omega, by omega⟩
theorem numbered_map {α : Type} (f : α → D) (l : List α) : numbered (l.map f) = l.zipIdx.map fun p => D.tup [.int p.2, f p.1] := by
  unfold numbered
  rw [List.zipIdx_map, List.map_map]
  rfl
theorem zip_map {α β : Type} (f : α → D) (g : β → D) (l : List α) (m : List β) : ((l.map f).zip (m.map g)).map (fun p => D.tup [p.1, p.2]) = (l.zip m).map fun p => D.tup [f p.1, g p.2] := by
  rw [List.zip_map, List.map_map]
  rfl
end MP

set_option Elab.async false
set_option linter.all false
set_option maxRecDepth 100000
/-! WF: the terms of the defs that the laws share. -/
namespace MP
open PySem L2
/-- is_integer: thing 0 -/
def F_is_integer : Fn := ⟨1, 1, (.cons (.ret (.and (.isa (.var 0) (.bt .int)) (.not (.isa (.var 0) (.bt .bool))))) .nil), false⟩
/-- is_between: thing 0, least 1, most 2 -/
def F_is_between : Fn := ⟨3, 3, (.cons (.ret (.and (.call "is_integer" (.cons (.var 0) .nil) none) (.cmp2 .LtE .LtE (.var 1) (.var 0) (.var 2)))) .nil), false⟩
/-- is_count: thing 0 -/
def F_is_count : Fn := ⟨1, 1, (.cons (.ret (.and (.call "is_integer" (.cons (.var 0) .nil) none) (.cmp .GtE (.var 0) (.cst (.int 0))))) .nil), false⟩
/-- is_name: thing 0, sign 1 -/
def F_is_name : Fn := ⟨1, 2, (.cons (.ret (.and (.isa (.var 0) (.bt .str)) (.and (.cmp2 .LtE .LtE (.cst (.int 1)) (.bi .len false (.cons (.var 0) .nil)) (.cst (.int 10))) (.bi .all false (.cons (.comp false (.nm 1) (.seq (.var 0)) (.cst (.bl true)) (.cmp .In (.var 1) (.cst (.str "abcdefghijklmnopqrstuvwxyz"))) [1]) .nil))))) .nil), false⟩
/-- is_row: thing 0, many 1 -/
def F_is_row : Fn := ⟨2, 2, (.cons (.ret (.and (.isa (.var 0) (.bt .tuple)) (.cmp .Eq (.bi .len false (.cons (.var 0) .nil)) (.var 1)))) .nil), false⟩
/-- is_rising: some 0, one 1, other 2 -/
def F_is_rising : Fn := ⟨1, 3, (.cons (.ret (.bi .all false (.cons (.comp false (.tp [1, 2]) (.zip (.var 0) (.sl (.var 0) true false (.cst (.int 1)) (.cst .non))) (.cst (.bl true)) (.cmp .Lt (.var 1) (.var 2)) [1, 2]) .nil))) .nil), false⟩
/-- are_registers: thing 0, register 1 -/
def F_are_registers : Fn := ⟨1, 2, (.cons (.ret (.and (.isa (.var 0) (.bt .tuple)) (.and (.bi .all false (.cons (.comp false (.nm 1) (.seq (.var 0)) (.cst (.bl true)) (.call "is_name" (.cons (.var 1) .nil) none) [1]) .nil)) (.call "is_rising" (.cons (.var 0) .nil) none)))) .nil), false⟩
/-- is_client: many 0, thing 1, s 2 -/
def F_is_client : Fn := ⟨2, 3, (.cons (.ife (.or (.not (.isa (.var 1) (.bt .tuple))) (.or (.cmp .Lt (.bi .len false (.cons (.var 1) .nil)) (.cst (.int 2))) (.not (.bi .all false (.cons (.comp false (.nm 2) (.seq (.var 1)) (.cst (.bl true)) (.call "is_between" (.cons (.var 2) (.cons (.cst (.int 0)) (.cons (.bin .Sub (.var 0) (.cst (.int 1))) .nil))) none) [2]) .nil))))) (.cons (.ret (.cst (.bl false))) .nil) .nil) (.cons (.ret (.call "is_rising" (.cons (.var 1) .nil) none)) .nil)), false⟩
/-- is_placement_value: thing 0, registers 1, sites 2 -/
def F_is_placement_value : Fn := ⟨1, 3, (.cons (.ife (.or (.not (.call "is_row" (.cons (.var 0) (.cons (.cst (.int 2)) .nil)) none)) (.or (.not (.isa (.ix (.var 0) (.cst (.int 0))) (.bt .tuple))) (.not (.isa (.ix (.var 0) (.cst (.int 1))) (.bt .tuple))))) (.cons (.ret (.cst (.bl false))) .nil) .nil) (.cons (.ife (.not (.bi .all false (.cons (.comp false (.nm 1) (.seq (.ix (.var 0) (.cst (.int 0)))) (.cst (.bl true)) (.call "are_registers" (.cons (.var 1) .nil) none) [1]) .nil))) (.cons (.ret (.cst (.bl false))) .nil) .nil) (.cons (.ret (.bi .all false (.cons (.comp false (.nm 2) (.seq (.ix (.var 0) (.cst (.int 1)))) (.cst (.bl true)) (.call "is_client" (.cons (.bi .len false (.cons (.ix (.var 0) (.cst (.int 0))) .nil)) (.cons (.var 2) .nil)) none) [2]) .nil))) .nil))), false⟩
/-- need_placement: placement 0 -/
def F_need_placement : Fn := ⟨1, 1, (.cons (.ife (.not (.call "is_placement_value" (.cons (.var 0) .nil) none)) (.cons (.raise "" .nil) .nil) .nil) .nil), false⟩
/-- sites_in: placement 0 -/
def F_sites_in : Fn := ⟨1, 1, (.cons (.ret (.bi .len false (.cons (.ix (.var 0) (.cst (.int 0))) .nil))) .nil), false⟩
/-- places_in: placement 0 -/
def F_places_in : Fn := ⟨1, 1, (.cons (.ret (.bin .Add (.bi .len false (.cons (.ix (.var 0) (.cst (.int 0))) .nil)) (.bi .len false (.cons (.ix (.var 0) (.cst (.int 1))) .nil)))) .nil), false⟩
/-- need_site: placement 0, place 1 -/
def F_need_site : Fn := ⟨2, 2, (.cons (.ife (.or (.not (.call "is_count" (.cons (.var 1) .nil) none)) (.cmp .GtE (.var 1) (.call "sites_in" (.cons (.var 0) .nil) none))) (.cons (.raise "" .nil) .nil) .nil) .nil), false⟩
/-- is_site: placement 0, place 1 -/
def F_is_site : Fn := ⟨2, 2, (.cons (.ret (.cmp .Lt (.var 1) (.call "sites_in" (.cons (.var 0) .nil) none))) .nil), false⟩
/-- kept_at: placement 0, place 1 -/
def F_kept_at : Fn := ⟨2, 2, (.cons (.ret (.ite (.call "is_site" (.cons (.var 0) (.cons (.var 1) .nil)) none) (.ix (.ix (.var 0) (.cst (.int 0))) (.var 1)) (.tup .nil))) .nil), false⟩
/-- shared_by: placement 0, one 1, other 2, register 3 -/
def F_shared_by : Fn := ⟨3, 4, (.cons (.ife (.cmp .Eq (.var 1) (.var 2)) (.cons (.ret (.tup .nil)) .nil) .nil) (.cons (.ret (.bi .tuple false (.cons (.comp false (.nm 3) (.seq (.call "kept_at" (.cons (.var 0) (.cons (.var 1) .nil)) none)) (.cmp .In (.var 3) (.call "kept_at" (.cons (.var 0) (.cons (.var 2) .nil)) none)) (.var 3) [3]) .nil))) .nil)), false⟩
/-- is_edge: placement 0, j 1, k 2 -/
def F_is_edge : Fn := ⟨3, 3, (.cons (.ret (.cmp .NotEq (.call "shared_by" (.cons (.var 0) (.cons (.var 1) (.cons (.var 2) .nil))) none) (.tup .nil))) .nil), false⟩
/-- edges_in: placement 0, sites 1, j 2, k 3 -/
def F_edges_in : Fn := ⟨1, 4, (.cons (.asg (.nm 1) (.rngv (.cst (.int 0)) (.call "sites_in" (.cons (.var 0) .nil) none))) (.cons (.ret (.bi .tuple false (.cons (.comp2 (.nm 2) (.seq (.var 1)) (.nm 3) (.seq (.var 1)) (.call "is_edge" (.cons (.var 0) (.cons (.var 2) (.cons (.var 3) .nil))) none) (.tup (.cons (.var 2) (.cons (.var 3) .nil))) [2, 3] [3]) .nil))) .nil)), false⟩
/-- is_edge_value: placement 0, thing 1, s 2 -/
def F_is_edge_value : Fn := ⟨2, 3, (.cons (.ife (.or (.not (.call "is_row" (.cons (.var 1) (.cons (.cst (.int 2)) .nil)) none)) (.not (.bi .all false (.cons (.comp false (.nm 2) (.seq (.var 1)) (.cst (.bl true)) (.call "is_between" (.cons (.var 2) (.cons (.cst (.int 0)) (.cons (.bin .Sub (.call "sites_in" (.cons (.var 0) .nil) none) (.cst (.int 1))) .nil))) none) [2]) .nil)))) (.cons (.ret (.cst (.bl false))) .nil) .nil) (.cons (.ret (.call "is_edge" (.cons (.var 0) (.cons (.ix (.var 1) (.cst (.int 0))) (.cons (.ix (.var 1) (.cst (.int 1))) .nil))) none)) .nil)), false⟩
/-- book_of: plan 0, place 1, counts 2 -/
def F_book_of : Fn := ⟨3, 3, (.cons (.ret (.dicz (.ix (.var 0) (.var 1)) (.var 2))) .nil), false⟩
/-- row_of: plan 0, place 1, book 2, edge 3 -/
def F_row_of : Fn := ⟨3, 4, (.cons (.ret (.bi .tuple false (.cons (.comp false (.nm 3) (.seq (.ix (.var 0) (.var 1))) (.cst (.bl true)) (.ix (.var 2) (.var 3)) [3]) .nil))) .nil), false⟩
/-- is_own: place 0, edge 1 -/
def F_is_own : Fn := ⟨2, 2, (.cons (.ret (.cmp .In (.var 0) (.var 1))) .nil), false⟩
/-- counts_own: placement 0, place 1, counted 2, edge 3 -/
def F_counts_own : Fn := ⟨3, 4, (.cons (.ret (.bi .all false (.cons (.comp false (.nm 3) (.seq (.call "edges_in" (.cons (.var 0) .nil) none)) (.call "is_own" (.cons (.var 1) (.cons (.var 3) .nil)) none) (.cmp .In (.var 3) (.var 2)) [3]) .nil))) .nil), false⟩
/-- is_counted_row: placement 0, place 1, thing 2, edge 3 -/
def F_is_counted_row : Fn := ⟨3, 4, (.cons (.ife (.or (.not (.isa (.var 2) (.bt .tuple))) (.not (.bi .all false (.cons (.comp false (.nm 3) (.seq (.var 2)) (.cst (.bl true)) (.call "is_edge_value" (.cons (.var 0) (.cons (.var 3) .nil)) none) [3]) .nil)))) (.cons (.ret (.cst (.bl false))) .nil) .nil) (.cons (.ret (.and (.call "is_rising" (.cons (.var 2) .nil) none) (.call "counts_own" (.cons (.var 0) (.cons (.var 1) (.cons (.var 2) .nil))) none))) .nil)), false⟩
/-- is_plan_value: placement 0, thing 1, place 2, counted 3 -/
def F_is_plan_value : Fn := ⟨2, 4, (.cons (.ife (.not (.call "is_row" (.cons (.var 1) (.cons (.call "places_in" (.cons (.var 0) .nil) none) .nil)) none)) (.cons (.ret (.cst (.bl false))) .nil) .nil) (.cons (.ret (.bi .all false (.cons (.comp false (.tp [2, 3]) (.enm (.var 1)) (.cst (.bl true)) (.call "is_counted_row" (.cons (.var 0) (.cons (.var 2) (.cons (.var 3) .nil))) none) [2, 3]) .nil))) .nil)), false⟩
/-- need_plan: placement 0, plan 1 -/
def F_need_plan : Fn := ⟨2, 2, (.cons (.expr (.call "need_placement" (.cons (.var 0) .nil) none)) (.cons (.ife (.not (.call "is_plan_value" (.cons (.var 0) (.cons (.var 1) .nil)) none)) (.cons (.raise "" .nil) .nil) .nil) .nil)), false⟩
/-- _law_pick: deck 0, some 1 -/
def F_law_pick : Fn := ⟨2, 2, (.cons (.ret (.ix (.var 1) (.call "_law_draw" (.cons (.var 0) (.cons (.bi .len false (.cons (.var 1) .nil)) .nil)) none))) .nil), false⟩
class GA (T : Str → Option Fn) : Prop where
  is_integer : T "is_integer" = some F_is_integer
  is_between : T "is_between" = some F_is_between
  is_count : T "is_count" = some F_is_count
  is_name : T "is_name" = some F_is_name
  is_row : T "is_row" = some F_is_row
  is_rising : T "is_rising" = some F_is_rising
  are_registers : T "are_registers" = some F_are_registers
  is_client : T "is_client" = some F_is_client
  is_placement_value : T "is_placement_value" = some F_is_placement_value
  need_placement : T "need_placement" = some F_need_placement
  sites_in : T "sites_in" = some F_sites_in
  places_in : T "places_in" = some F_places_in
  need_site : T "need_site" = some F_need_site
  is_site : T "is_site" = some F_is_site
  kept_at : T "kept_at" = some F_kept_at
  shared_by : T "shared_by" = some F_shared_by
  is_edge : T "is_edge" = some F_is_edge
  edges_in : T "edges_in" = some F_edges_in
  is_edge_value : T "is_edge_value" = some F_is_edge_value
  book_of : T "book_of" = some F_book_of
  row_of : T "row_of" = some F_row_of
  is_own : T "is_own" = some F_is_own
  counts_own : T "counts_own" = some F_counts_own
  is_counted_row : T "is_counted_row" = some F_is_counted_row
  is_plan_value : T "is_plan_value" = some F_is_plan_value
  need_plan : T "need_plan" = some F_need_plan
  law_pick : T "_law_pick" = some F_law_pick
/-- need_place: placement 0, place 1 -/
def F_need_place : Fn := ⟨2, 2, (.cons (.ife (.or (.not (.call "is_count" (.cons (.var 1) .nil) none)) (.cmp .GtE (.var 1) (.call "places_in" (.cons (.var 0) .nil) none))) (.cons (.raise "" .nil) .nil) .nil) .nil), false⟩
/-- zeros: plan 0, place 1 -/
def F_zeros : Fn := ⟨2, 2, (.cons (.ret (.bin .Mult (.tup (.cons (.cst (.int 0)) .nil)) (.bi .len false (.cons (.ix (.var 0) (.var 1)) .nil)))) .nil), false⟩
/-- others_with: placement 0, i 1, register 2, k 3 -/
def F_others_with : Fn := ⟨3, 4, (.cons (.ret (.comp false (.nm 3) (.rng1 (.call "sites_in" (.cons (.var 0) .nil) none)) (.and (.cmp .NotEq (.var 3) (.var 1)) (.cmp .In (.var 2) (.call "kept_at" (.cons (.var 0) (.cons (.var 3) .nil)) none))) (.var 3) [3])) .nil), false⟩
/-- written_counts: placement 0, plan 1, i 2, counts 3, register 4, book 5, k 6 -/
def F_written_counts : Fn := ⟨5, 7, (.cons (.asg (.nm 5) (.call "book_of" (.cons (.var 1) (.cons (.var 2) (.cons (.var 3) .nil))) none)) (.cons (.for (.nm 6) (.seq (.call "others_with" (.cons (.var 0) (.cons (.var 2) (.cons (.var 4) .nil))) none)) (.cons (.aug .Add (.var 5) (.tup (.cons (.var 2) (.cons (.var 6) .nil))) (.cst (.int 1))) .nil)) (.cons (.ret (.call "row_of" (.cons (.var 1) (.cons (.var 2) (.cons (.var 5) .nil))) none)) .nil))), true⟩
class GZ (T : Str → Option Fn) : Prop where
  need_place : T "need_place" = some F_need_place
  zeros : T "zeros" = some F_zeros
  others_with : T "others_with" = some F_others_with
  written_counts : T "written_counts" = some F_written_counts
/-- are_counts_value: plan 0, place 1, thing 2, count 3 -/
def F_are_counts_value : Fn := ⟨3, 4, (.cons (.ret (.and (.call "is_row" (.cons (.var 2) (.cons (.bi .len false (.cons (.ix (.var 0) (.var 1)) .nil)) .nil)) none) (.bi .all false (.cons (.comp false (.nm 3) (.seq (.var 2)) (.cst (.bl true)) (.call "is_count" (.cons (.var 3) .nil) none) [3]) .nil)))) .nil), false⟩
/-- need_counts: plan 0, place 1, counts 2 -/
def F_need_counts : Fn := ⟨3, 3, (.cons (.ife (.not (.call "are_counts_value" (.cons (.var 0) (.cons (.var 1) (.cons (.var 2) .nil))) none)) (.cons (.raise "" .nil) .nil) .nil) .nil), false⟩
/-- is_update_value: placement 0, plan 1, thing 2 -/
def F_is_update_value : Fn := ⟨3, 3, (.cons (.ife (.or (.not (.call "is_row" (.cons (.var 2) (.cons (.cst (.int 3)) .nil)) none)) (.or (.not (.call "is_count" (.cons (.ix (.var 2) (.cst (.int 0))) .nil) none)) (.cmp .GtE (.ix (.var 2) (.cst (.int 0))) (.call "sites_in" (.cons (.var 0) .nil) none)))) (.cons (.ret (.cst (.bl false))) .nil) .nil) (.cons (.ife (.or (.not (.isa (.ix (.var 2) (.cst (.int 1))) (.bt .str))) (.cmp .NotIn (.ix (.var 2) (.cst (.int 1))) (.call "kept_at" (.cons (.var 0) (.cons (.ix (.var 2) (.cst (.int 0))) .nil)) none))) (.cons (.ret (.cst (.bl false))) .nil) .nil) (.cons (.ret (.call "are_counts_value" (.cons (.var 1) (.cons (.ix (.var 2) (.cst (.int 0))) (.cons (.ix (.var 2) (.cst (.int 2))) .nil))) none)) .nil))), false⟩
/-- _law_names: deck 0, many 1, left 2, found 3, turn 4, letter 5 -/
def F_law_names : Fn := ⟨2, 6, (.cons (.par [2, 3] (.cons (.bi .list true (.cons (.cst (.str "abcdefghijklmnopqrstuvwxyz")) .nil)) (.cons (.lst true .nil) .nil))) (.cons (.for (.nm 4) (.rng1 (.var 1)) (.cons (.asg (.nm 5) (.bm .popAt (.var 2) (.cons (.call "_law_draw" (.cons (.var 0) (.cons (.bi .len false (.cons (.var 2) .nil)) .nil)) none) .nil))) (.cons (.expr (.bm .append (.var 3) (.cons (.bin .Add (.var 5) (.call "_law_pick" (.cons (.var 0) (.cons (.lst false (.cons (.cst (.str "")) (.cons (.cst (.str "")) (.cons (.cst (.str "")) (.cons (.cst (.str "a")) (.cons (.cst (.str "zz")) (.cons (.bin .Mult (.var 5) (.cst (.int 9))) (.cons (.cst (.str "bc")) .nil)))))))) .nil)) none)) .nil))) .nil))) (.cons (.ret (.var 3)) .nil))), false⟩
/-- _law_some: deck 0, many 1, least 2, left 3, found 4, turn 5 -/
def F_law_some : Fn := ⟨3, 6, (.cons (.par [3, 4] (.cons (.bi .list true (.cons (.rngv (.cst (.int 0)) (.var 1)) .nil)) (.cons (.lst true .nil) .nil))) (.cons (.for (.nm 5) (.rng1 (.bi .min false (.cons (.var 1) (.cons (.bi .max false (.cons (.var 2) (.cons (.call "_law_pick" (.cons (.var 0) (.cons (.lst false (.cons (.cst (.int 2)) (.cons (.cst (.int 2)) (.cons (.cst (.int 3)) (.cons (.cst (.int 2)) (.cons (.cst (.int 2)) (.cons (.cst (.int 3)) (.cons (.cst (.int 1)) (.cons (.var 1) .nil))))))))) .nil)) none) .nil))) .nil)))) (.cons (.expr (.bm .append (.var 4) (.cons (.bm .popAt (.var 3) (.cons (.call "_law_draw" (.cons (.var 0) (.cons (.bi .len false (.cons (.var 3) .nil)) .nil)) none) .nil)) .nil))) .nil)) (.cons (.ret (.bi .tuple false (.cons (.bi .sorted false (.cons (.var 4) .nil)) .nil))) .nil))), false⟩
/-- _law_ring: deck 0, many 1, sites 2, kept 3, visits 4, some 5, clients 6, site 7, other 8, name 9, names 10 -/
def F_law_ring : Fn := ⟨3, 11, (.cons (.par [3, 4, 5] (.cons (.comp false (.nm 7) (.rng1 (.var 2)) (.cst (.bl true)) (.lst true .nil) [7]) (.cons (.lst true .nil) (.cons (.call "_law_names" (.cons (.var 0) (.cons (.bin .Add (.var 2) (.cst (.int 2))) .nil)) none) .nil)))) (.cons (.asg (.nm 6) (.bin .Sub (.var 1) (.var 2))) (.cons (.for (.nm 7) (.rng1 (.var 2)) (.cons (.asg (.nm 8) (.bin .Mod (.bi .int false (.cons (.bin .Add (.var 7) (.cst (.int 1))) .nil)) (.var 2))) (.cons (.ife (.and (.cmp .Gt (.var 6) (.cst (.int 0))) (.cmp .Gt (.var 2) (.cst (.int 1)))) (.cons (.expr (.bm .append (.var 4) (.cons (.bi .tuple false (.cons (.bi .sorted false (.cons (.lst false (.cons (.var 7) (.cons (.var 8) .nil))) .nil)) .nil)) .nil))) (.cons (.asg (.nm 6) (.bin .Sub (.var 6) (.cst (.int 1)))) .nil)) (.cons (.expr (.bm .append (.ix (.var 3) (.var 7)) (.cons (.ix (.var 5) (.var 7)) .nil))) (.cons (.expr (.bm .append (.ix (.var 3) (.var 8)) (.cons (.ix (.var 5) (.var 7)) .nil))) .nil))) .nil))) (.cons (.for (.nm 9) (.seq (.sl (.var 5) true false (.var 2) (.cst .non))) (.cons (.for (.nm 7) (.seq (.call "_law_some" (.cons (.var 0) (.cons (.var 2) (.cons (.cst (.int 1)) .nil))) none)) (.cons (.expr (.bm .append (.ix (.var 3) (.var 7)) (.cons (.var 9) .nil))) .nil)) .nil)) (.cons (.ret (.tup (.cons (.bi .tuple false (.cons (.comp false (.nm 10) (.seq (.var 3)) (.cst (.bl true)) (.bi .tuple false (.cons (.srt false (.var 10)) .nil)) [10]) .nil)) (.cons (.bi .tuple false (.cons (.var 4) .nil)) .nil)))) .nil))))), false⟩
/-- _law_map: placement 0, sites 1, clients 2, n 3, many 4, steps 5, one 6, other 7, both 8, at 9, visits 10, site 11, near 12, name 13 -/
def F_law_map : Fn := ⟨1, 14, (.cons (.asg (.tp [1, 2]) (.var 0)) (.cons (.asg (.tp [3, 4]) (.tup (.cons (.bi .len false (.cons (.var 1) .nil)) (.cons (.bin .Add (.bi .len false (.cons (.var 1) .nil)) (.bi .len false (.cons (.var 2) .nil))) .nil)))) (.cons (.asg (.nm 5) (.dnew true)) (.cons (.for (.nm 6) (.rng1 (.var 3)) (.cons (.for (.nm 7) (.rng1 (.var 3)) (.cons (.asg (.nm 8) (.bi .tuple false (.cons (.comp false (.nm 13) (.seq (.ix (.var 1) (.var 6))) (.cmp .In (.var 13) (.ix (.var 1) (.var 7))) (.var 13) [13]) .nil))) (.cons (.ife (.and (.cmp .NotEq (.var 6) (.var 7)) (.cmp .NotEq (.var 8) (.tup .nil))) (.cons (.asg (.sub (.var 5) (.tup (.cons (.var 6) (.cons (.var 7) .nil)))) (.var 8)) .nil) .nil) .nil))) .nil)) (.cons (.for (.tp [9, 10]) (.enm (.var 2)) (.cons (.for (.nm 11) (.seq (.var 10)) (.cons (.asg (.sub (.var 5) (.tup (.cons (.bin .Add (.var 3) (.var 9)) (.cons (.var 11) .nil)))) (.cst .non)) (.cons (.asg (.sub (.var 5) (.tup (.cons (.var 11) (.cons (.bin .Add (.var 3) (.var 9)) .nil)))) (.cst .non)) .nil))) .nil)) (.cons (.asg (.nm 12) (.comp false (.nm 6) (.rng1 (.var 4)) (.cst (.bl true)) (.comp false (.nm 7) (.rng1 (.var 4)) (.cmp .In (.tup (.cons (.var 6) (.cons (.var 7) .nil))) (.var 5)) (.var 7) [7]) [6])) (.cons (.ret (.dct (.cons (.cst (.str "sites")) (.cons (.var 1) (.cons (.cst (.str "clients")) (.cons (.var 2) (.cons (.cst (.str "n")) (.cons (.var 3) (.cons (.cst (.str "many")) (.cons (.var 4) (.cons (.cst (.str "steps")) (.cons (.var 5) (.cons (.cst (.str "near")) (.cons (.var 12) .nil)))))))))))))) .nil))))))), false⟩
/-- _law_edges: world 0, step 1 -/
def F_law_edges : Fn := ⟨1, 2, (.cons (.ret (.bi .tuple false (.cons (.bi .sorted false (.cons (.comp false (.nm 1) (.dic (.ix (.var 0) (.cst (.str "steps")))) (.cmp .IsNot (.ix (.ix (.var 0) (.cst (.str "steps"))) (.var 1)) (.cst .non)) (.var 1) [1]) .nil)) .nil))) .nil), false⟩
/-- _law_plan: deck 0, world 1, edges 2, found 3, way 4, place 5, few 6, some 7, edge 8 -/
def F_law_plan : Fn := ⟨2, 9, (.cons (.par [2, 3, 4] (.cons (.call "_law_edges" (.cons (.var 1) .nil) none) (.cons (.lst true .nil) (.cons (.call "_law_draw" (.cons (.var 0) (.cons (.cst (.int 6)) .nil)) none) .nil)))) (.cons (.for (.nm 5) (.rng1 (.ix (.var 1) (.cst (.str "many")))) (.cons (.asg (.nm 6) (.ite (.cmp .Eq (.var 4) (.cst (.int 0))) (.cst (.int 0)) (.ite (.cmp .Eq (.var 4) (.cst (.int 1))) (.cst (.int 9)) (.cst (.int 1))))) (.cons (.asg (.nm 7) (.comp false (.nm 8) (.seq (.var 2)) (.or (.cmp .In (.var 5) (.var 8)) (.or (.cmp .Eq (.var 6) (.cst (.int 0))) (.and (.cmp .Eq (.var 6) (.cst (.int 1))) (.cmp .Eq (.call "_law_draw" (.cons (.var 0) (.cons (.cst (.int 2)) .nil)) none) (.cst (.int 0)))))) (.var 8) [8])) (.cons (.expr (.bm .append (.var 3) (.cons (.bi .tuple false (.cons (.var 7) .nil)) .nil))) .nil)))) (.cons (.ret (.bi .tuple false (.cons (.var 3) .nil))) .nil))), false⟩
class GB (T : Str → Option Fn) : Prop where
  are_counts_value : T "are_counts_value" = some F_are_counts_value
  need_counts : T "need_counts" = some F_need_counts
  is_update_value : T "is_update_value" = some F_is_update_value
  law_names : T "_law_names" = some F_law_names
  law_some : T "_law_some" = some F_law_some
  law_ring : T "_law_ring" = some F_law_ring
  law_map : T "_law_map" = some F_law_map
  law_edges : T "_law_edges" = some F_law_edges
  law_plan : T "_law_plan" = some F_law_plan
/-- new_counts: placement 0, plan 1, place 2 -/
def F_new_counts : Fn := ⟨3, 3, (.cons (.expr (.call "need_plan" (.cons (.var 0) (.cons (.var 1) .nil)) none)) (.cons (.expr (.call "need_place" (.cons (.var 0) (.cons (.var 2) .nil)) none)) (.cons (.ret (.call "zeros" (.cons (.var 1) (.cons (.var 2) .nil)) none)) .nil))), false⟩
/-- are_counts: placement 0, plan 1, place 2, thing 3 -/
def F_are_counts : Fn := ⟨4, 4, (.cons (.expr (.call "need_plan" (.cons (.var 0) (.cons (.var 1) .nil)) none)) (.cons (.expr (.call "need_place" (.cons (.var 0) (.cons (.var 2) .nil)) none)) (.cons (.ret (.call "are_counts_value" (.cons (.var 1) (.cons (.var 2) (.cons (.var 3) .nil))) none)) .nil))), false⟩
/-- is_update: placement 0, plan 1, thing 2 -/
def F_is_update : Fn := ⟨3, 3, (.cons (.expr (.call "need_plan" (.cons (.var 0) (.cons (.var 1) .nil)) none)) (.cons (.ret (.call "is_update_value" (.cons (.var 0) (.cons (.var 1) (.cons (.var 2) .nil))) none)) .nil)), false⟩
/-- written: placement 0, plan 1, place 2, counts 3, register 4 -/
def F_written : Fn := ⟨5, 5, (.cons (.expr (.call "need_plan" (.cons (.var 0) (.cons (.var 1) .nil)) none)) (.cons (.expr (.call "need_site" (.cons (.var 0) (.cons (.var 2) .nil)) none)) (.cons (.expr (.call "need_counts" (.cons (.var 1) (.cons (.var 2) (.cons (.var 3) .nil))) none)) (.cons (.ife (.or (.not (.isa (.var 4) (.bt .str))) (.cmp .NotIn (.var 4) (.call "kept_at" (.cons (.var 0) (.cons (.var 2) .nil)) none))) (.cons (.raise "" .nil) .nil) .nil) (.cons (.ret (.call "written_counts" (.cons (.var 0) (.cons (.var 1) (.cons (.var 2) (.cons (.var 3) (.cons (.var 4) .nil))))) none)) .nil))))), false⟩
class GB2 (T : Str → Option Fn) : Prop where
  new_counts : T "new_counts" = some F_new_counts
  are_counts : T "are_counts" = some F_are_counts
  is_update : T "is_update" = some F_is_update
  written : T "written" = some F_written
/-- _law_placement: deck 0, sites 1, clients 2, registers 3, kept 4, some 5, name 6, site 7, visits 8, client 9, names 10 -/
def F_law_placement : Fn := ⟨4, 11, (.cons (.par [4, 5] (.cons (.comp false (.nm 7) (.rng1 (.var 1)) (.cst (.bl true)) (.lst true .nil) [7]) (.cons (.call "_law_names" (.cons (.var 0) (.cons (.var 3) .nil)) none) .nil))) (.cons (.for (.nm 6) (.seq (.var 5)) (.cons (.for (.nm 7) (.seq (.call "_law_some" (.cons (.var 0) (.cons (.var 1) (.cons (.cst (.int 1)) .nil))) none)) (.cons (.expr (.bm .append (.ix (.var 4) (.var 7)) (.cons (.var 6) .nil))) .nil)) .nil)) (.cons (.asg (.nm 8) (.comp false (.nm 9) (.rng1 (.var 2)) (.cst (.bl true)) (.call "_law_some" (.cons (.var 0) (.cons (.var 1) (.cons (.cst (.int 2)) .nil))) none) [9])) (.cons (.ret (.tup (.cons (.bi .tuple false (.cons (.comp false (.nm 10) (.seq (.var 4)) (.cst (.bl true)) (.bi .tuple false (.cons (.bi .sorted false (.cons (.var 10) .nil)) .nil)) [10]) .nil)) (.cons (.bi .tuple false (.cons (.var 8) .nil)) .nil)))) .nil)))), false⟩
/-- _law_tree: deck 0, sites 1, kept 2, some 3, site 4, other 5, names 6 -/
def F_law_tree : Fn := ⟨2, 7, (.cons (.par [2, 3] (.cons (.comp false (.nm 4) (.rng1 (.var 1)) (.cst (.bl true)) (.lst true .nil) [4]) (.cons (.call "_law_names" (.cons (.var 0) (.cons (.var 1) .nil)) none) .nil))) (.cons (.for (.nm 4) (.rng2 (.cst (.int 1)) (.var 1)) (.cons (.ife (.cmp .Gt (.call "_law_draw" (.cons (.var 0) (.cons (.cst (.int 6)) .nil)) none) (.cst (.int 0))) (.cons (.asg (.nm 5) (.call "_law_pick" (.cons (.var 0) (.cons (.lst false (.cons (.bin .Sub (.var 4) (.cst (.int 1))) (.cons (.call "_law_draw" (.cons (.var 0) (.cons (.var 4) .nil)) none) (.cons (.cst (.int 0)) .nil)))) .nil)) none)) (.cons (.expr (.bm .append (.ix (.var 2) (.var 4)) (.cons (.ix (.var 3) (.var 4)) .nil))) (.cons (.expr (.bm .append (.ix (.var 2) (.var 5)) (.cons (.ix (.var 3) (.var 4)) .nil))) .nil))) .nil) .nil)) (.cons (.expr (.bm .append (.ix (.var 2) (.cst (.int 0))) (.cons (.ix (.var 3) (.cst (.int 0))) .nil))) (.cons (.ret (.bi .tuple false (.cons (.comp false (.nm 6) (.seq (.var 2)) (.cst (.bl true)) (.bi .tuple false (.cons (.bi .sorted false (.cons (.var 6) .nil)) .nil)) [6]) .nil))) .nil)))), false⟩
/-- _law_drawn: deck 0, sites 1, way 2, clients 3 -/
def F_law_drawn : Fn := ⟨1, 4, (.cons (.par [1, 2] (.cons (.call "_law_pick" (.cons (.var 0) (.cons (.lst false (.cons (.cst (.int 3)) (.cons (.cst (.int 4)) (.cons (.cst (.int 3)) (.cons (.cst (.int 4)) (.cons (.cst (.int 2)) (.cons (.cst (.int 5)) .nil))))))) .nil)) none) (.cons (.call "_law_draw" (.cons (.var 0) (.cons (.cst (.int 6)) .nil)) none) .nil))) (.cons (.asg (.nm 3) (.ite (.cmp .Lt (.var 1) (.cst (.int 5))) (.call "_law_pick" (.cons (.var 0) (.cons (.lst false (.cons (.cst (.int 0)) (.cons (.cst (.int 1)) (.cons (.cst (.int 0)) (.cons (.cst (.int 1)) (.cons (.cst (.int 2)) .nil)))))) .nil)) none) (.call "_law_pick" (.cons (.var 0) (.cons (.lst false (.cons (.cst (.int 0)) (.cons (.cst (.int 0)) (.cons (.cst (.int 1)) .nil)))) .nil)) none))) (.cons (.ife (.and (.cmp .Lt (.var 2) (.cst (.int 2))) (.cmp .Gt (.var 1) (.cst (.int 2)))) (.cons (.ret (.call "_law_ring" (.cons (.var 0) (.cons (.bin .Add (.var 1) (.bi .min false (.cons (.var 3) (.cons (.bin .Sub (.var 1) (.cst (.int 1))) .nil)))) (.cons (.var 1) .nil))) none)) .nil) .nil) (.cons (.ife (.cmp .Eq (.var 2) (.cst (.int 2))) (.cons (.ret (.tup (.cons (.call "_law_tree" (.cons (.var 0) (.cons (.var 1) .nil)) none) (.cons (.sl (.tup (.cons (.tup (.cons (.cst (.int 0)) (.cons (.bin .Sub (.var 1) (.cst (.int 1))) .nil))) .nil)) false true (.cst .non) (.var 3)) .nil)))) .nil) .nil) (.cons (.ret (.call "_law_placement" (.cons (.var 0) (.cons (.var 1) (.cons (.var 3) (.cons (.ite (.cmp .Lt (.var 1) (.cst (.int 5))) (.call "_law_pick" (.cons (.var 0) (.cons (.lst false (.cons (.cst (.int 3)) (.cons (.cst (.int 4)) (.cons (.cst (.int 5)) (.cons (.cst (.int 2)) (.cons (.cst (.int 6)) (.cons (.cst (.int 8)) .nil))))))) .nil)) none) (.call "_law_pick" (.cons (.var 0) (.cons (.lst false (.cons (.cst (.int 4)) (.cons (.cst (.int 5)) (.cons (.cst (.int 6)) .nil)))) .nil)) none)) .nil)))) none)) .nil))))), false⟩
class GB3 (T : Str → Option Fn) : Prop where
  law_placement : T "_law_placement" = some F_law_placement
  law_tree : T "_law_tree" = some F_law_tree
  law_drawn : T "_law_drawn" = some F_law_drawn
def F_law_deck (left : Str) (m0 m1 m2 m3 : Int) : Fn := ⟨1, 3, (.cons (.asg (.nm 1) (.cst (.int m0))) (.cons (.for (.nm 2) (.seq (.sl (.var 0) false true (.cst .non) (.cst (.int 63)))) (.cons (.asg (.nm 1) (.bin .Mod (.bi .int false (.cons (.bin .Add (.bin .Add (.bin .Mult (.var 1) (.cst (.int 48271))) (.bin .Mod (.bi .int false (.cons (.var 2) .nil)) (.cst (.int m1)))) (.cst (.int m2))) .nil)) (.cst (.int m3)))) .nil)) (.cons (.ret (.dct (.cons (.cst (.str left)) (.cons (.rev true (.bi .list true (.cons (.sl (.var 0) false true (.cst .non) (.cst (.int 63))) .nil))) (.cons (.cst (.str "mixed")) (.cons (.var 1) (.cons (.cst (.str "draws")) (.cons (.cst (.int 0)) .nil)))))))) .nil))), false⟩
def F_law_draw (left : Str) (d0 d1 d2 d3 d4 d5 d6 d7 d8 d9 : Int) : Fn := ⟨2, 4, (.cons (.asg (.sub (.var 0) (.cst (.str "draws"))) (.bin .Add (.ix (.var 0) (.cst (.str "draws"))) (.cst (.int 1)))) (.cons (.asg (.nm 2) (.bin .Add (.ix (.var 0) (.cst (.str "mixed"))) (.bin .Mult (.cst (.int d0)) (.ix (.var 0) (.cst (.str "draws")))))) (.cons (.ife (.cmp .NotEq (.ix (.var 0) (.cst (.str left))) (.lst false .nil)) (.cons (.asg (.nm 3) (.bm .pop0 (.ix (.var 0) (.cst (.str left))) .nil)) (.cons (.ife (.cmp .GtE (.var 3) (.bin .Pow (.cst (.int 10)) (.cst (.int 18)))) (.cons (.expr (.bm .append (.ix (.var 0) (.cst (.str left))) (.cons (.bin .FloorDiv (.var 3) (.bi .max false (.cons (.cst (.int 2)) (.cons (.var 1) .nil)))) .nil))) (.cons (.ret (.bin .Mod (.bi .int false (.cons (.var 3) .nil)) (.var 1))) .nil)) .nil) (.cons (.asg (.nm 2) (.bin .Add (.var 2) (.bin .Mod (.bi .int false (.cons (.var 3) .nil)) (.cst (.int d1))))) .nil))) .nil) (.cons (.asg (.nm 2) (.bin .Mod (.bi .int false (.cons (.bin .Add (.bin .Mult (.var 2) (.cst (.int d2))) (.cst (.int d3))) .nil)) (.cst (.int d4)))) (.cons (.asg (.nm 2) (.bin .Mod (.bi .int false (.cons (.bin .Add (.bin .Add (.bin .Mult (.var 2) (.var 2)) (.bin .Mult (.cst (.int d5)) (.ix (.var 0) (.cst (.str "draws"))))) (.cst (.int d6))) .nil)) (.cst (.int d7)))) (.cons (.asg (.nm 2) (.bin .Mod (.bi .int false (.cons (.bin .Mult (.var 2) (.cst (.int d8))) .nil)) (.cst (.int d9)))) (.cons (.ret (.bin .Mod (.bi .int false (.cons (.bin .FloorDiv (.var 2) (.cst (.int 64))) .nil)) (.var 1))) .nil))))))), false⟩
/-- the numbers of a law's deck -/
structure DeckC where
  left : Str
  m : Int × Int × Int × Int
  d : Int × Int × Int × Int × Int × Int × Int × Int × Int × Int
class GD (c : outParam DeckC) (T : Str → Option Fn) : Prop where
  law_deck : T "_law_deck" = some (F_law_deck c.left c.m.1 c.m.2.1 c.m.2.2.1 c.m.2.2.2)
  law_draw : T "_law_draw" = some (F_law_draw c.left c.d.1 c.d.2.1 c.d.2.2.1 c.d.2.2.2.1 c.d.2.2.2.2.1 c.d.2.2.2.2.2.1 c.d.2.2.2.2.2.2.1 c.d.2.2.2.2.2.2.2.1 c.d.2.2.2.2.2.2.2.2.1 c.d.2.2.2.2.2.2.2.2.2)
end MP

set_option Elab.async false
set_option linter.all false
set_option maxRecDepth 100000
set_option maxHeartbeats 4000000
/-! P1: placements. -/
namespace MP
open PySem L2 PySem.W PyProof.Rows
open Enc EncO
local macro_rules
  | `(tactic| simp! only [$ts,*]) => `(tactic| simp only [MP.R.bind_ok, kk_eq, kk_app, look_z, look_s, setN_z, setN_s, setNs_nil, setNs_cons, setTg_nm, setTg_tp, wipe1_z, wipe1_s, wipeE_nil, wipeE_cons, ifK_t, ifK_f, retK_eq, notK_bl, negK_int, opD_some, mkLd_f, mkLd_t, mkL_f, mkL_t, alloc_eq, opO_some, opE_some, MP.R.of_some, q_kBin2, q_kBin, q_kCmpE, q_kCmp, q_kCmp2b, q_kCmp2dt, q_kCmp2df, q_kCmp2, q_kIx2, q_kIx, q_kSl3, q_kSl2, q_kSl, q_kRev, q_kTup, q_kLst, q_kDct, q_kComp, q_kLs, q_kComp2, q_kDo, q_kDcomp, q_kCall, q_callO, q_kBi, q_kSrt, q_kDicz2, q_kDicz, q_kDicl, q_kDicd, q_kBm2, q_kBm, q_bmTt, q_kIsa, q_kRngv, q_kCons2, q_kCons, q_kAtt, q_attO, q_fldOf, q_kMk2, q_kMk, q_kMth2, q_mthTt, q_mthO, q_kMth, q_kSeq_tup, q_kSeq_lst, q_kSeq_str, q_kSeq_rng, q_kRng2, q_kEnm_tup, q_kEnm_lst, q_kZip2, q_kZip, q_kDic, q_kDicO, seqS_nx, seqS_rt, seqS_bk, seqS_ct, q_kNx, q_kAsg, q_kPar, q_kRt, q_kDrop, q_kUnit, q_kUnitE, q_augP, q_kAug4, q_augV, q_kAug2, q_kAug, q_kFor, q_kSub2, q_kSub, q_kFld, q_kTwo, endR_rt, endR_nx, e_cst, e_bin, e_cmp, e_ix, e_sl, e_tup, e_lst, e_dnewT, e_dnewK, e_comp, e_comp2, e_isa, e_nil, e_cons, e_mk, x_nil, x_asg, x_expr, x_for, x_whl, x_ret, x_retN, x_brk, x_cont, x_pass, a_nm, a_tp, a_sub, a_fld, a_two, permute_none, e_var, e_neg, e_cmp2, e_and, e_or, e_not, e_ite, e_rev, e_dct, e_dcomp, e_call, e_bi, e_srt, e_dicz, e_dicl, e_dicd, e_bm, e_att, e_mth, e_rngv, s_seq, s_rng1, s_rng2, s_enm, s_zip, s_dic, x_cons, x_par, x_aug, x_ife, Option.map_some, Option.bind_some, ty_int_int, ty_int_bool, ty_int_str, ty_int_tup, ty_str_str, ty_str_int, ty_tup_tup, c_lt, c_le, c_gt, c_ge, c_eq, c_ne, c_in, c_notin, b_add, b_sub, Bool.not_true, Bool.not_false, len_tup, len_lst, tuple_lst, tuple_tup, list_tup, list_lst, list_rng, bi_int, bi_max, bi_min, ix_tup, ix_lst, at_0, at_1, at_2, at_3, at_4, decide_true, decide_false, Int.reduceEq, Int.reduceLT, Int.reduceLE, List.length_cons, List.length_nil, Nat.zero_add, Nat.reduceAdd, Int.natCast_zero, Int.cast_ofNat_Int, few_0, few_1, few_2, few_3, few_4, few_5, few_6, few_7, few_8, few_9, few_10, $ts,*])
/-- a comprehension over two sources that changes nothing -/
theorem comp2_pure {α β : Type} {k : Wk} {t t2 : Tg} {sr : Env → Sto → R Wk} {c e : Env → Sto → R D} {η : Env} {w2 : List Nat} {S : Sto} {g : α → D} {g2 : β → D} (m : α → List β) (p : α → β → Bool) (f : α → β → D) (hk : k.ok S) : ∀ (l : List α) (acc : List D),
    (∀ x ∈ l, ∃ η', setTg S t (g x) η = some η' ∧ sr η' S = .ok ⟨(m x).map g2, none⟩ S ∧ ∀ y ∈ m x, ∃ η2, setTg S t2 (g2 y) (wipeE η' w2) = some η2 ∧ c η2 S = .ok (.bl (p x y)) S ∧ (p x y = true → e η2 S = .ok (f x y) S)) →
    acc.length + (l.map fun x => (m x).length).sum ≤ big →
    comp2L k t t2 sr c e η w2 (l.map g) acc S = .ok (acc ++ l.flatMap fun x => ((m x).filter (p x)).map (f x)) S
  | [], acc, _, _ => by
    rw [List.map_nil]
    unfold comp2L
    rw [if_pos hk]
    simp
  | x :: l, acc, h, hb => by
    obtain ⟨η', h1, h2, h3⟩ := h x List.mem_cons_self
    rw [List.map_cons, List.sum_cons] at hb
    rw [List.map_cons]
    unfold comp2L
    rw [if_pos hk, h1]
    dsimp only
    rw [h2, MP.R.bind_ok]
    unfold comp2L.comp1L
    rw [comp_pure (p x) (f x) ok_none (m x) acc h3 (by omega), MP.R.bind_ok, comp2_pure m p f hk l _ (fun y hy => h y (List.mem_cons_of_mem _ hy)) ?_]
    · simp
    · rw [List.length_append, List.length_map]
      have := List.length_filter_le (p x) (m x)
      omega
section
variable {F : Str → Str → Bool} {T : Str → Option Fn} [GA T] {n : Nat} {S : Sto}
theorem r_is_integer (i : Int) : run F T (n + 1) "is_integer" [.int i] S = .ok (.bl true) S := by
  rw [run_eq GA.is_integer rfl rfl]; simp! only [F_is_integer, List.map_cons, List.map_nil, Nat.sub_self, Nat.reduceSub, Nat.reduceAdd, List.replicate_zero, List.replicate_succ, List.append_nil, List.cons_append, List.nil_append]
theorem r_is_count (i : Int) : run F T (n + 2) "is_count" [.int i] S = .ok (.bl (decide (0 ≤ i))) S := by
  rw [run_eq GA.is_count rfl rfl]; simp! only [F_is_count, List.map_cons, List.map_nil, Nat.sub_self, Nat.reduceSub, Nat.reduceAdd, List.replicate_zero, List.replicate_succ, List.append_nil, List.cons_append, List.nil_append, r_is_integer]
theorem r_is_between (i lo hi : Int) : run F T (n + 2) "is_between" [.int i, .int lo, .int hi] S = .ok (.bl (decide (lo ≤ i ∧ i ≤ hi))) S := by
  rw [run_eq GA.is_between rfl rfl]; simp! only [F_is_between, List.map_cons, List.map_nil, Nat.sub_self, Nat.reduceSub, Nat.reduceAdd, List.replicate_zero, List.replicate_succ, List.append_nil, List.cons_append, List.nil_append, r_is_integer]
  by_cases h : lo ≤ i <;> simp! only [h, true_and, false_and]
theorem r_is_row (xs : List D) (k : Int) : run F T (n + 1) "is_row" [.tup xs, .int k] S = .ok (.bl (decide ((xs.length : Int) = k))) S := by
  rw [run_eq GA.is_row rfl rfl]; simp! only [F_is_row, List.map_cons, List.map_nil, Nat.sub_self, Nat.reduceSub, Nat.reduceAdd, List.replicate_zero, List.replicate_succ, List.append_nil, List.cons_append, List.nil_append]
/-- a name -/
theorem sign_in {c : Nat} (h1 : 97 ≤ c) (h2 : c ≤ 122) : isIn S (.str ⟨#[c]⟩) (.str "abcdefghijklmnopqrstuvwxyz") = some true := by
  have : c = 97 ∨ c = 98 ∨ c = 99 ∨ c = 100 ∨ c = 101 ∨ c = 102 ∨ c = 103 ∨ c = 104 ∨ c = 105 ∨ c = 106 ∨ c = 107 ∨ c = 108 ∨ c = 109 ∨ c = 110 ∨ c = 111 ∨ c = 112 ∨ c = 113 ∨ c = 114 ∨ c = 115 ∨ c = 116 ∨ c = 117 ∨ c = 118 ∨ c = 119 ∨ c = 120 ∨ c = 121 ∨ c = 122 := by omega
  unfold isIn
  dsimp only
  rcases this with rfl | rfl | rfl | rfl | rfl | rfl | rfl | rfl | rfl | rfl | rfl | rfl | rfl | rfl | rfl | rfl | rfl | rfl | rfl | rfl | rfl | rfl | rfl | rfl | rfl | rfl <;> decide +kernel
theorem r_is_name (x : Nm) : run F T (n + 1) "is_name" [enc x] S = .ok (.bl true) S := by
  obtain ⟨h1, h2, h3⟩ := x.spec
  have hl : x.1.length = x.1.cps.size := rfl
  have e1 : (1 : Int) ≤ (x.1.length : Nat) := by omega
  have e2 : ((x.1.length : Nat) : Int) ≤ 10 := by omega
  have e3 : compL ⟨signsOf x.1, none⟩ (.nm 1) (ev (run F T n) F (.cst (.bl true))) (ev (run F T n) F (.cmp .In (.var 1) (.cst (.str "abcdefghijklmnopqrstuvwxyz")))) [some (.str x.1), none] (signsOf x.1) [] S = .ok (x.1.cps.toList.map fun _ => .bl true) S := by
    have := comp_pure (k := ⟨signsOf x.1, none⟩) (t := .nm 1) (c := ev (run F T n) F (.cst (.bl true))) (e := ev (run F T n) F (.cmp .In (.var 1) (.cst (.str "abcdefghijklmnopqrstuvwxyz")))) (η := [some (.str x.1), none]) (S := S) (g := fun c => D.str ⟨#[c]⟩) (fun _ => true) (fun _ => .bl true) ok_none x.1.cps.toList [] (fun c hc => ⟨_, rfl, rfl, fun _ => ?_⟩) (by rw [big_eq]; simp; omega)
    · rw [List.filter_eq_self.mpr (fun _ _ => rfl), List.nil_append] at this
      exact this
    · simp! only [setN_s, setN_z, sign_in (h3 c hc).1 (h3 c hc).2]
  have e4 : biop .all S [.lst (x.1.cps.toList.map fun _ => D.bl true)] = some (.bl true) := by
    rw [all_bl (fun _ => true)]
    congr 2
    exact List.all_eq_true.mpr fun _ _ => rfl
  rw [run_eq GA.is_name rfl rfl]; simp! only [F_is_name, List.map_cons, List.map_nil, Nat.sub_self, Nat.reduceSub, Nat.reduceAdd, List.replicate_zero, List.replicate_succ, List.append_nil, List.cons_append, List.nil_append, enc_nm, len_str x.1 (by rw [big_eq]; omega), e1, e2, e3, e4]
theorem sl_1 (xs : List D) (z : D) : slice S (.tup xs) true false (.int 1) z = some (.tup (xs.drop 1)) := sl_from xs 1 z
theorem r_is_rising {α : Type} [DecidableEq α] [Enc α] [EncO α] (l : List α) (hd : dep α ≤ 20) (hn : ∀ a : α, (dat a : PyData) ≠ .none) (hl : l.length ≤ big) : run F T (n + 1) "is_rising" [enc l] S = .ok (.bl (decide (Rising l))) S := by
  have e1 : ((l.map enc).zip ((l.map enc).drop 1)).map (fun p => D.tup [p.1, p.2]) = (l.zip l.tail).map fun p : α × α => D.tup [enc p.1, enc p.2] := by
    rw [← List.map_drop, List.drop_one, zip_map]
  rw [run_eq GA.is_rising rfl rfl]; simp! only [F_is_rising, List.map_cons, List.map_nil, Nat.sub_self, Nat.reduceSub, Nat.reduceAdd, List.replicate_zero, List.replicate_succ, List.append_nil, List.cons_append, List.nil_append, enc_list, sl_1, e1]
  rw [comp_map (fun p : α × α => .bl (lt p.1 p.2)) ok_none]
  · simp! only [all_bl, rising_zip]
  · intro p hp
    refine ⟨_, rfl, rfl, ?_⟩
    simp! only [setN_s, setN_z, ltop_enc hd (hn _)]
  · simp only [List.length_zip, List.length_tail]; omega
theorem nm_nn (a : Nm) : (dat a : PyData) ≠ .none := fun h => nomatch h
theorem nat_nn (a : Nat) : (dat a : PyData) ≠ .none := fun h => nomatch h
theorem pair_nn {α β : Type} [DecidableEq α] [Enc α] [DecidableEq β] [Enc β] (a : α × β) : (dat a : PyData) ≠ .none := fun h => nomatch h
theorem r_are_registers (rs : List Nm) (hr : Rising rs) (hl : rs.length ≤ big) : run F T (n + 2) "are_registers" [enc rs] S = .ok (.bl true) S := by
  rw [run_eq GA.are_registers rfl rfl]; simp! only [F_are_registers, List.map_cons, List.map_nil, Nat.sub_self, Nat.reduceSub, Nat.reduceAdd, List.replicate_zero, List.replicate_succ, List.append_nil, List.cons_append, List.nil_append, enc_list]
  rw [comp_map (fun _ : Nm => .bl true) ok_none]
  · simp! only [all_yes]
    rw [← enc_list, r_is_rising rs (by decide) nm_nn hl, decide_eq_true hr]
    simp! only []
  · intro x hx
    refine ⟨_, rfl, rfl, ?_⟩
    simp! only [setN_s, setN_z, r_is_name]
  · exact hl
/-- clients: at least two sites, ascending -/
theorem r_is_client (k : Nat) (vs : List Nat) (h2 : 2 ≤ vs.length) (hr : Rising vs) (hk : ∀ s ∈ vs, s < k) (hl : vs.length ≤ big) : run F T (n + 3) "is_client" [.int (k : Int), enc vs] S = .ok (.bl true) S := by
  have e1 : ¬ ((vs.length : Int) < 2) := by omega
  rw [run_eq GA.is_client rfl rfl]; simp! only [F_is_client, List.map_cons, List.map_nil, Nat.sub_self, Nat.reduceSub, Nat.reduceAdd, List.replicate_zero, List.replicate_succ, List.append_nil, List.cons_append, List.nil_append, enc_list, List.length_map, e1]
  rw [comp_map (fun _ : Nat => .bl true) ok_none]
  · simp! only [all_yes]
    rw [← enc_list, r_is_rising vs (by decide) nat_nn hl, decide_eq_true hr]
    simp! only []
  · intro x hx
    refine ⟨_, rfl, rfl, ?_⟩
    have := hk x hx
    have e2 : (0 : Int) ≤ (x : Int) ∧ (x : Int) ≤ (k : Int) - 1 := by omega
    simp! only [setN_s, setN_z, r_is_between, enc_nat, e2, and_self]
  · exact hl
abbrev Pl := List (List Nm) × List (List Nat)
/-- a placement -/
structure ValidPl (p : Pl) : Prop where
  regs : ∀ rs ∈ p.1, Rising rs
  cls : ∀ vs ∈ p.2, 2 ≤ vs.length ∧ Rising vs ∧ ∀ s ∈ vs, s < p.1.length
  many : p.1.length ≤ 50 ∧ p.2.length ≤ 50
  few : (∀ rs ∈ p.1, rs.length ≤ 1000) ∧ ∀ vs ∈ p.2, vs.length ≤ 1000
theorem r_is_placement_value (p : Pl) (v : ValidPl p) : run F T (n + 4) "is_placement_value" [enc p] S = .ok (.bl true) S := by
  have b1 := big_eq
  have h1 := v.many.1
  have h2 := v.many.2
  rw [run_eq GA.is_placement_value rfl rfl]; simp! only [F_is_placement_value, List.map_cons, List.map_nil, Nat.sub_self, Nat.reduceSub, Nat.reduceAdd, List.replicate_zero, List.replicate_succ, List.append_nil, List.cons_append, List.nil_append, enc_pair, r_is_row, List.length_cons, List.length_nil, enc_list]
  rw [comp_map (fun _ : List Nm => .bl true) ok_none]
  · simp! only [all_yes, List.length_map]
    rw [comp_map (fun _ : List Nat => .bl true) ok_none]
    · simp! only [all_yes]
    · intro vs hv
      refine ⟨_, rfl, rfl, ?_⟩
      obtain ⟨q1, q2, q3⟩ := v.cls vs hv
      simp! only [setN_s, setN_z, List.length_map]
      have := v.few.2 vs hv
      rw [r_is_client _ vs q1 q2 q3 (by omega)]
    · omega
  · intro rs hr
    refine ⟨_, rfl, rfl, ?_⟩
    simp! only [setN_s, setN_z]
    have := v.few.1 rs hr
    rw [r_are_registers rs (v.regs rs hr) (by omega)]
  · omega
theorem r_need_placement (p : Pl) (v : ValidPl p) : run F T (n + 5) "need_placement" [enc p] S = .ok .non S := by
  rw [run_eq GA.need_placement rfl rfl]; simp! only [F_need_placement, List.map_cons, List.map_nil, Nat.sub_self, Nat.reduceSub, Nat.reduceAdd, List.replicate_zero, List.replicate_succ, List.append_nil, List.cons_append, List.nil_append, r_is_placement_value p v]
theorem r_sites_in (p : Pl) : run F T (n + 1) "sites_in" [enc p] S = .ok (.int (p.1.length : Nat)) S := by
  rw [run_eq GA.sites_in rfl rfl]; simp! only [F_sites_in, List.map_cons, List.map_nil, Nat.sub_self, Nat.reduceSub, Nat.reduceAdd, List.replicate_zero, List.replicate_succ, List.append_nil, List.cons_append, List.nil_append, enc_pair, enc_list, List.length_map]
theorem r_places_in (p : Pl) : run F T (n + 1) "places_in" [enc p] S = .ok (.int ((p.1.length + p.2.length : Nat) : Int)) S := by
  rw [run_eq GA.places_in rfl rfl]; simp! only [F_places_in, List.map_cons, List.map_nil, Nat.sub_self, Nat.reduceSub, Nat.reduceAdd, List.replicate_zero, List.replicate_succ, List.append_nil, List.cons_append, List.nil_append, enc_pair, enc_list, List.length_map, Int.natCast_add]
theorem r_need_site (p : Pl) (i : Nat) (h : i < p.1.length) : run F T (n + 3) "need_site" [enc p, .int (i : Int)] S = .ok .non S := by
  have e1 : (0 : Int) ≤ (i : Int) := by omega
  have e2 : ¬ ((p.1.length : Int) ≤ (i : Int)) := by omega
  rw [run_eq GA.need_site rfl rfl]; simp! only [F_need_site, List.map_cons, List.map_nil, Nat.sub_self, Nat.reduceSub, Nat.reduceAdd, List.replicate_zero, List.replicate_succ, List.append_nil, List.cons_append, List.nil_append, r_is_count, r_sites_in, e1, e2]
theorem r_is_site (p : Pl) (i : Nat) : run F T (n + 2) "is_site" [enc p, .int (i : Int)] S = .ok (.bl (decide (i < p.1.length))) S := by
  rw [run_eq GA.is_site rfl rfl]; simp! only [F_is_site, List.map_cons, List.map_nil, Nat.sub_self, Nat.reduceSub, Nat.reduceAdd, List.replicate_zero, List.replicate_succ, List.append_nil, List.cons_append, List.nil_append, r_sites_in, Int.ofNat_lt]
/-- what a place keeps -/
def keeps (p : Pl) (i : Nat) : List Nm := p.1.getD i []
theorem r_kept_at (p : Pl) (i : Nat) : run F T (n + 3) "kept_at" [enc p, .int (i : Int)] S = .ok (enc (keeps p i)) S := by
  by_cases h : i < p.1.length
  · have e : keeps p i = p.1[i] := by unfold keeps; rw [List.getD_eq_getElem?_getD, List.getElem?_eq_getElem h]; rfl
    rw [run_eq GA.kept_at rfl rfl]; simp! only [F_kept_at, List.map_cons, List.map_nil, Nat.sub_self, Nat.reduceSub, Nat.reduceAdd, List.replicate_zero, List.replicate_succ, List.append_nil, List.cons_append, List.nil_append, r_is_site, h]
    simp! only [enc_pair, enc_list p.1, atI_enc h, e]
  · have e : keeps p i = [] := by unfold keeps; rw [List.getD_eq_getElem?_getD, List.getElem?_eq_none (by omega)]; rfl
    rw [run_eq GA.kept_at rfl rfl]; simp! only [F_kept_at, List.map_cons, List.map_nil, Nat.sub_self, Nat.reduceSub, Nat.reduceAdd, List.replicate_zero, List.replicate_succ, List.append_nil, List.cons_append, List.nil_append, r_is_site, h, e]
    rfl
/-- what two sites share -/
def shared (p : Pl) (i j : Nat) : List Nm := if i = j then [] else (keeps p i).filter fun x => mb x (keeps p j)
theorem keeps_le (p : Pl) (v : ValidPl p) (i : Nat) : (keeps p i).length ≤ 1000 := by
  unfold keeps
  rw [List.getD_eq_getElem?_getD]
  cases e : p.1[i]? with
  | none => simp
  | some rs => exact v.few.1 rs (List.mem_of_getElem? e)
theorem r_shared_by (p : Pl) (v : ValidPl p) (i j : Nat) : run F T (n + 4) "shared_by" [enc p, .int (i : Int), .int (j : Int)] S = .ok (enc (shared p i j)) S := by
  have b1 := big_eq
  have b2 := keeps_le p v i
  by_cases h : i = j
  · rw [run_eq GA.shared_by rfl rfl]; simp! only [F_shared_by, List.map_cons, List.map_nil, Nat.sub_self, Nat.reduceSub, Nat.reduceAdd, List.replicate_zero, List.replicate_succ, List.append_nil, List.cons_append, List.nil_append, h]
    unfold shared
    rw [if_pos rfl]
    rfl
  · have h' : ¬ ((i : Int) = (j : Int)) := by omega
    rw [run_eq GA.shared_by rfl rfl]; simp! only [F_shared_by, List.map_cons, List.map_nil, Nat.sub_self, Nat.reduceSub, Nat.reduceAdd, List.replicate_zero, List.replicate_succ, List.append_nil, List.cons_append, List.nil_append, h', r_kept_at, enc_list]
    rw [comp_flt (fun x => mb x (keeps p j)) (enc : Nm → D) ok_none]
    · simp! only []
      unfold shared
      rw [if_neg h]
    · intro x hx
      refine ⟨_, rfl, ?_, fun _ => ?_⟩
      · simp! only [setN_s, setN_z, r_kept_at, enc_list]
        rw [show D.tup ((keeps p j).map enc) = tpl (keeps p j) from rfl, in_tpl (by decide)]
        simp! only []
      · simp! only [setN_s, setN_z]
    · omega
def isE (p : Pl) (i j : Nat) : Bool := decide (shared p i j ≠ [])
theorem r_is_edge (p : Pl) (v : ValidPl p) (i j : Nat) : run F T (n + 5) "is_edge" [enc p, .int (i : Int), .int (j : Int)] S = .ok (.bl (isE p i j)) S := by
  have e : (D.tup [] : D) = enc ([] : List Nm) := rfl
  rw [run_eq GA.is_edge rfl rfl]; simp! only [F_is_edge, List.map_cons, List.map_nil, Nat.sub_self, Nat.reduceSub, Nat.reduceAdd, List.replicate_zero, List.replicate_succ, List.append_nil, List.cons_append, List.nil_append, r_shared_by p v]
  rw [e, ne_enc (by decide)]
  simp! only []
  unfold isE
  rw [decide_not]
abbrev Edge := Nat × Nat
/-- the edges -/
def edges (p : Pl) : List Edge := (List.range p.1.length).flatMap fun i => ((List.range p.1.length).filter (isE p i)).map fun j => (i, j)
theorem r_edges_in (p : Pl) (v : ValidPl p) : run F T (n + 6) "edges_in" [enc p] S = .ok (enc (edges p)) S := by
  have b1 := big_eq
  have h1 := v.many.1
  rw [run_eq GA.edges_in rfl rfl]; simp! only [F_edges_in, List.map_cons, List.map_nil, Nat.sub_self, Nat.reduceSub, Nat.reduceAdd, List.replicate_zero, List.replicate_succ, List.append_nil, List.cons_append, List.nil_append, r_sites_in, q_kRngv2 (rng_ok (show p.1.length ≤ 1000000 by omega)), rangeL_nat]
  rw [comp2_pure (fun _ : Nat => List.range p.1.length) (g2 := fun i : Nat => D.int (i : Int)) (isE p) (fun i j => enc ((i, j) : Edge)) ok_none]
  · simp! only [List.nil_append]
    unfold edges
    rw [enc_list, List.map_flatMap]
    congr 3
    funext i
    rw [List.map_map]
    rfl
  · intro i hi
    refine ⟨_, rfl, ?_, fun j hj => ⟨_, rfl, ?_, fun _ => ?_⟩⟩
    · simp! only [setN_s, setN_z, rangeL_nat]
    · simp! only [setN_s, setN_z, wipeE_cons, wipeE_nil, wipe1_s, wipe1_z, r_is_edge p v]
    · simp! only [setN_s, setN_z, wipeE_cons, wipeE_nil, wipe1_s, wipe1_z]
      rfl
  · simp only [List.map_const', List.sum_replicate_nat, List.length_range, List.length_nil]
    have : p.1.length * p.1.length ≤ 50 * 50 := Nat.mul_le_mul h1 h1
    omega
end
end MP

set_option Elab.async false
set_option linter.all false
set_option maxRecDepth 100000
set_option maxHeartbeats 4000000
/-! P2: plans, counts. -/
namespace MP
open PySem L2 PySem.W PyProof.Rows
open Enc EncO
local macro_rules
  | `(tactic| simp! only [$ts,*]) => `(tactic| simp only [MP.R.bind_ok, kk_eq, kk_app, look_z, look_s, setN_z, setN_s, setNs_nil, setNs_cons, setTg_nm, setTg_tp, wipe1_z, wipe1_s, wipeE_nil, wipeE_cons, ifK_t, ifK_f, retK_eq, notK_bl, negK_int, opD_some, mkLd_f, mkLd_t, mkL_f, mkL_t, alloc_eq, opO_some, opE_some, MP.R.of_some, q_kBin2, q_kBin, q_kCmpE, q_kCmp, q_kCmp2b, q_kCmp2dt, q_kCmp2df, q_kCmp2, q_kIx2, q_kIx, q_kSl3, q_kSl2, q_kSl, q_kRev, q_kTup, q_kLst, q_kDct, q_kComp, q_kLs, q_kComp2, q_kDo, q_kDcomp, q_kCall, q_callO, q_kBi, q_kSrt, q_kDicz2, q_kDicz, q_kDicl, q_kDicd, q_kBm2, q_kBm, q_bmTt, q_kIsa, q_kRngv, q_kCons2, q_kCons, q_kAtt, q_attO, q_fldOf, q_kMk2, q_kMk, q_kMth2, q_mthTt, q_mthO, q_kMth, q_kSeq_tup, q_kSeq_lst, q_kSeq_str, q_kSeq_rng, q_kRng2, q_kEnm_tup, q_kEnm_lst, q_kZip2, q_kZip, q_kDic, q_kDicO, seqS_nx, seqS_rt, seqS_bk, seqS_ct, q_kNx, q_kAsg, q_kPar, q_kRt, q_kDrop, q_kUnit, q_kUnitE, q_augP, q_kAug4, q_augV, q_kAug2, q_kAug, q_kFor, q_kSub2, q_kSub, q_kFld, q_kTwo, endR_rt, endR_nx, e_cst, e_bin, e_cmp, e_ix, e_sl, e_tup, e_lst, e_dnewT, e_dnewK, e_comp, e_comp2, e_isa, e_nil, e_cons, e_mk, x_nil, x_asg, x_expr, x_for, x_whl, x_ret, x_retN, x_brk, x_cont, x_pass, a_nm, a_tp, a_sub, a_fld, a_two, permute_none, e_var, e_neg, e_cmp2, e_and, e_or, e_not, e_ite, e_rev, e_dct, e_dcomp, e_call, e_bi, e_srt, e_dicz, e_dicl, e_dicd, e_bm, e_att, e_mth, e_rngv, s_seq, s_rng1, s_rng2, s_enm, s_zip, s_dic, x_cons, x_par, x_aug, x_ife, Option.map_some, Option.bind_some, ty_int_int, ty_int_bool, ty_int_str, ty_int_tup, ty_str_str, ty_str_int, ty_tup_tup, c_lt, c_le, c_gt, c_ge, c_eq, c_ne, c_in, c_notin, b_add, b_sub, Bool.not_true, Bool.not_false, len_tup, len_lst, tuple_lst, tuple_tup, list_tup, list_lst, list_rng, bi_int, bi_max, bi_min, ix_tup, ix_lst, at_0, at_1, at_2, at_3, at_4, decide_true, decide_false, Int.reduceEq, Int.reduceLT, Int.reduceLE, List.length_cons, List.length_nil, Nat.zero_add, Nat.reduceAdd, Int.natCast_zero, Int.cast_ofNat_Int, few_0, few_1, few_2, few_3, few_4, few_5, few_6, few_7, few_8, few_9, few_10, $ts,*])
theorem atI_some {α : Type} [DecidableEq α] [Enc α] {l : List α} {i : Nat} {a : α} (h : l[i]? = some a) : atI (l.map enc) (i : Int) = some (enc a) := by
  obtain ⟨h1, h2⟩ := List.getElem?_eq_some_iff.mp h
  rw [atI_enc h1, h2]
theorem get_last {S : Sto} {o : Ob} : (S ++ [o])[S.length]? = some o := by simp
theorem set_last {S : Sto} {o o' : Ob} : (S ++ [o]).set S.length o' = S ++ [o'] := by
  rw [List.set_append_right _ _ (Nat.le_refl _)]
  simp
theorem dicGet_T {S : Sto} {r : Nat} {kvs : List (List Key × D)} {e : Edge} (h : S[r]? = some (.dT kvs)) : dicGet S (.ref r) (enc e) = some (getA kvs (ek e)) := by
  unfold dicGet
  simp only [h]
  rfl
theorem ix_dicT {S : Sto} {r : Nat} {row : List Edge} {f : Edge → D} {e : Edge} (h : S[r]? = some (.dT (dicL ek row f))) (he : e ∈ row) : index S (.ref r) (enc e) = some (f e) := by
  have q := dicGet_T (e := e) h
  rw [getA_in (fun a b => ek_inj.mp) he] at q
  show (dicGet S (.ref r) (enc e)).join = _
  rw [q]; rfl
theorem in_dicT {S : Sto} {r : Nat} {row : List Edge} {f : Edge → D} {e : Edge} (h : S[r]? = some (.dT (dicL ek row f))) : isIn S (enc e) (.ref r) = some (mb e row) := by
  have q := dicGet_T (e := e) h
  unfold isIn
  simp only [h]
  rw [q]
  by_cases he : e ∈ row
  · rw [getA_in (fun a b => ek_inj.mp) he, mb_t he]; rfl
  · rw [getA_out (fun a b => ek_inj.mp) he, mb_f he]; rfl
theorem setItem_T {S : Sto} {r : Nat} {kvs : List (List Key × D)} {e : Edge} {d : D} (h : S[r]? = some (.dT kvs)) (hl : kvs.length < 1000000) : setItem S (.ref r) (enc e) d = .ok () (S.set r (.dT (putA kvs (ek e) d))) := by
  unfold setItem
  simp only [h]
  have : dicPut S r (enc e) d = some (S.set r (.dT (putA kvs (ek e) d))) := by
    unfold dicPut
    simp only [h, keyT_edge, if_pos hl]
  rw [this]
/-- is it an edge of the place -/
def own (i : Nat) (e : Edge) : Bool := mb i [e.1, e.2]
/-- a plan -/
structure ValidPlan (p : Pl) (pl : List (List Edge)) : Prop where
  len : pl.length = p.1.length + p.2.length
  rise : ∀ row ∈ pl, Rising row
  sub : ∀ row ∈ pl, ∀ e ∈ row, e ∈ edges p
  own : ∀ i row, pl[i]? = some row → ∀ e ∈ edges p, own i e = true → e ∈ row
  few : ∀ row ∈ pl, row.length ≤ 1000
theorem mem_edges {p : Pl} {e : Edge} : e ∈ edges p ↔ e.1 < p.1.length ∧ e.2 < p.1.length ∧ isE p e.1 e.2 = true := by
  unfold edges
  simp only [List.mem_flatMap, List.mem_map, List.mem_filter, List.mem_range]
  constructor
  · rintro ⟨i, h1, j, ⟨h2, h3⟩, rfl⟩
    exact ⟨h1, h2, h3⟩
  · rintro ⟨h1, h2, h3⟩
    exact ⟨e.1, h1, e.2, ⟨h2, h3⟩, rfl⟩
theorem sum_le_mul {α : Type} {f : α → Nat} {m : Nat} : ∀ l : List α, (∀ a ∈ l, f a ≤ m) → (l.map f).sum ≤ l.length * m
  | [], _ => by simp
  | a :: l, h => by
    have h1 := h a List.mem_cons_self
    have h2 := sum_le_mul l fun b hb => h b (List.mem_cons_of_mem _ hb)
    rw [List.map_cons, List.sum_cons, List.length_cons, Nat.add_mul]
    omega
theorem edges_le {p : Pl} (v : ValidPl p) : (edges p).length ≤ 2500 := by
  have h1 := v.many.1
  unfold edges
  rw [List.length_flatMap]
  refine Nat.le_trans (sum_le_mul (m := 50) _ fun i _ => ?_) ?_
  · rw [List.length_map]
    exact Nat.le_trans (List.length_filter_le _ _) (by rw [List.length_range]; omega)
  · rw [List.length_range]; omega
section
variable {F : Str → Str → Bool} {T : Str → Option Fn} [GA T] {n : Nat} {S : Sto}
theorem r_is_edge_value (p : Pl) (v : ValidPl p) (e : Edge) (h : e ∈ edges p) : run F T (n + 6) "is_edge_value" [enc p, enc e] S = .ok (.bl true) S := by
  obtain ⟨h1, h2, h3⟩ := mem_edges.mp h
  rw [run_eq GA.is_edge_value rfl rfl]; simp! only [F_is_edge_value, List.map_cons, List.map_nil, Nat.sub_self, Nat.reduceSub, Nat.reduceAdd, List.replicate_zero, List.replicate_succ, List.append_nil, List.cons_append, List.nil_append, enc_pair e, r_is_row, enc_nat]
  have e1 : [D.int (e.1 : Int), D.int (e.2 : Int)] = [e.1, e.2].map fun i : Nat => D.int (i : Int) := rfl
  rw [e1, comp_map (fun _ : Nat => .bl true) ok_none]
  · simp! only [all_yes]
    have e2 : atI (List.map (fun i : Nat => D.int (i : Int)) [e.1, e.2]) 0 = some (.int (e.1 : Int)) := at_0 _ _
    have e3 : atI (List.map (fun i : Nat => D.int (i : Int)) [e.1, e.2]) 1 = some (.int (e.2 : Int)) := at_1 _ _ _
    simp! only [e2, e3, r_is_edge p v, h3]
  · intro i hi
    refine ⟨_, rfl, rfl, ?_⟩
    simp! only [setN_s, setN_z, r_sites_in, r_is_between]
    have : i < p.1.length := by
      simp only [List.mem_cons, List.not_mem_nil, or_false] at hi
      rcases hi with rfl | rfl
      · exact h1
      · exact h2
    rw [decide_eq_true ⟨by omega, by omega⟩]
  · simp only [List.length_cons, List.length_nil]; decide
theorem r_is_own (i : Nat) (e : Edge) : run F T (n + 1) "is_own" [.int (i : Int), enc e] S = .ok (.bl (own i e)) S := by
  have e1 : isIn S (.int (i : Int)) (.tup [.int (e.1 : Int), .int (e.2 : Int)]) = some (own i e) := in_tpl (a := i) (l := [e.1, e.2]) (by decide)
  rw [run_eq GA.is_own rfl rfl]; simp! only [F_is_own, List.map_cons, List.map_nil, Nat.sub_self, Nat.reduceSub, Nat.reduceAdd, List.replicate_zero, List.replicate_succ, List.append_nil, List.cons_append, List.nil_append, enc_pair e, enc_nat, e1]
theorem r_counts_own (p : Pl) (v : ValidPl p) (i : Nat) (row : List Edge) (h : ∀ e ∈ edges p, own i e = true → e ∈ row) : run F T (n + 7) "counts_own" [enc p, .int (i : Int), enc row] S = .ok (.bl true) S := by
  have b1 := big_eq
  have b2 := edges_le v
  rw [run_eq GA.counts_own rfl rfl]; simp! only [F_counts_own, List.map_cons, List.map_nil, Nat.sub_self, Nat.reduceSub, Nat.reduceAdd, List.replicate_zero, List.replicate_succ, List.append_nil, List.cons_append, List.nil_append, r_edges_in p v, enc_list (edges p)]
  rw [comp_flt (own i) (fun _ : Edge => .bl true) ok_none]
  · simp! only [all_yes]
  · intro e he
    refine ⟨_, rfl, ?_, fun ho => ?_⟩
    · simp! only [setN_s, setN_z, r_is_own]
    · simp! only [setN_s, setN_z]
      rw [show (enc row : D) = tpl row from rfl, in_tpl (by decide), mb_t (h e he ho)]
      simp! only []
  · omega
theorem r_is_counted_row (p : Pl) (v : ValidPl p) (i : Nat) (row : List Edge) (hr : Rising row) (hs : ∀ e ∈ row, e ∈ edges p) (hl : row.length ≤ 1000) (h : ∀ e ∈ edges p, own i e = true → e ∈ row) : run F T (n + 8) "is_counted_row" [enc p, .int (i : Int), enc row] S = .ok (.bl true) S := by
  have b1 := big_eq
  rw [run_eq GA.is_counted_row rfl rfl]; simp! only [F_is_counted_row, List.map_cons, List.map_nil, Nat.sub_self, Nat.reduceSub, Nat.reduceAdd, List.replicate_zero, List.replicate_succ, List.append_nil, List.cons_append, List.nil_append, enc_list row]
  rw [comp_map (fun _ : Edge => .bl true) ok_none]
  · simp! only [all_yes]
    rw [← enc_list row, r_is_rising row (by decide) pair_nn (by omega), decide_eq_true hr]
    simp! only [r_counts_own p v i row h]
  · intro e he
    refine ⟨_, rfl, rfl, ?_⟩
    simp! only [setN_s, setN_z, r_is_edge_value p v e (hs e he)]
  · omega
theorem mem_zipIdx {α : Type} {l : List α} {q : α × Nat} (h : q ∈ l.zipIdx) : l[q.2]? = some q.1 := by
  rw [List.mem_zipIdx_iff_getElem?] at h
  exact h
theorem r_is_plan_value (p : Pl) (v : ValidPl p) (pl : List (List Edge)) (w : ValidPlan p pl) : run F T (n + 9) "is_plan_value" [enc p, enc pl] S = .ok (.bl true) S := by
  have b1 := big_eq
  have h1 := v.many
  have e1 : ((pl.length : Nat) : Int) = ((p.1.length + p.2.length : Nat) : Int) := by rw [w.len]
  rw [run_eq GA.is_plan_value rfl rfl]; simp! only [F_is_plan_value, List.map_cons, List.map_nil, Nat.sub_self, Nat.reduceSub, Nat.reduceAdd, List.replicate_zero, List.replicate_succ, List.append_nil, List.cons_append, List.nil_append, r_places_in, enc_list pl, r_is_row, List.length_map, e1, numbered_map]
  rw [comp_map (fun _ : List Edge × Nat => .bl true) ok_none]
  · simp! only [all_yes]
  · intro q hq
    have hq := mem_zipIdx hq
    have hm := List.mem_of_getElem? hq
    refine ⟨_, rfl, rfl, ?_⟩
    simp! only [setN_s, setN_z, r_is_counted_row p v q.2 q.1 (w.rise _ hm) (w.sub _ hm) (w.few _ hm) (w.own _ _ hq)]
  · rw [List.length_zipIdx, w.len]; omega
theorem r_need_plan (p : Pl) (v : ValidPl p) (pl : List (List Edge)) (w : ValidPlan p pl) : run F T (n + 10) "need_plan" [enc p, enc pl] S = .ok .non S := by
  rw [run_eq GA.need_plan rfl rfl]; simp! only [F_need_plan, List.map_cons, List.map_nil, Nat.sub_self, Nat.reduceSub, Nat.reduceAdd, List.replicate_zero, List.replicate_succ, List.append_nil, List.cons_append, List.nil_append, r_need_placement p v, r_is_plan_value p v pl w]
theorem r_book_of (pl : List (List Edge)) (i : Nat) (row : List Edge) (c : Edge → Nat) (h : pl[i]? = some row) (hn : row.Nodup) (hl : row.length ≤ 1000) : run F T (n + 1) "book_of" [enc pl, .int (i : Int), enc (row.map c)] S = .ok (.ref S.length) (S ++ [.dT (dicL ek row fun e => enc (c e))]) := by
  rw [run_eq GA.book_of rfl rfl]; simp! only [F_book_of, List.map_cons, List.map_nil, Nat.sub_self, Nat.reduceSub, Nat.reduceAdd, List.replicate_zero, List.replicate_succ, List.append_nil, List.cons_append, List.nil_append, enc_list pl, atI_some h, enc_list row, enc_list (row.map c), List.map_map]
  rw [List.zip_map']
  rw [show (row.map fun a => ((enc a : D), (enc ∘ c) a)) = row.map fun e => ((enc e : D), (fun e => (enc (c e) : D)) e) from rfl, dicOf_row hn hl]
  simp! only []
theorem r_row_of (pl : List (List Edge)) (i : Nat) (row : List Edge) (f : Edge → D) (r : Nat) (h : pl[i]? = some row) (hl : row.length ≤ 1000) (hr : S[r]? = some (.dT (dicL ek row f))) : run F T (n + 1) "row_of" [enc pl, .int (i : Int), .ref r] S = .ok (.tup (row.map f)) S := by
  have b1 := big_eq
  rw [run_eq GA.row_of rfl rfl]; simp! only [F_row_of, List.map_cons, List.map_nil, Nat.sub_self, Nat.reduceSub, Nat.reduceAdd, List.replicate_zero, List.replicate_succ, List.append_nil, List.cons_append, List.nil_append, enc_list pl, atI_some h, enc_list row]
  rw [comp_map f ok_none]
  · simp! only []
  · intro e he
    refine ⟨_, rfl, rfl, ?_⟩
    simp! only [setN_s, setN_z, ix_dicT hr he]
  · omega
variable [GZ T]
theorem r_need_place (p : Pl) (i : Nat) (h : i < p.1.length + p.2.length) : run F T (n + 3) "need_place" [enc p, .int (i : Int)] S = .ok .non S := by
  have e1 : (0 : Int) ≤ (i : Int) := by omega
  have e2 : ¬ (((p.1.length + p.2.length : Nat) : Int) ≤ (i : Int)) := by omega
  rw [run_eq GZ.need_place rfl rfl]; simp! only [F_need_place, List.map_cons, List.map_nil, Nat.sub_self, Nat.reduceSub, Nat.reduceAdd, List.replicate_zero, List.replicate_succ, List.append_nil, List.cons_append, List.nil_append, r_is_count, r_places_in, e1, e2]
theorem b_rep0 (xs : List D) (k : Nat) (hx : 0 < xs.length) (h1 : xs.length ≤ 1000) (h2 : k ≤ 1000) : binop .Mult S (.tup xs) (.int (k : Int)) = some (.tup (List.replicate k xs).flatten) := by
  show (if 0 ≤ (k : Int) ∧ (k : Int) ≤ 1000 ∧ xs.length ≤ 1000 ∧ 0 < xs.length then some (D.tup (List.replicate (k : Int).toNat xs).flatten) else none) = _
  rw [if_pos ⟨by omega, by omega, h1, hx⟩, Int.toNat_natCast]
theorem rep_zero (row : List Edge) : (List.replicate row.length [D.int 0]).flatten = (row.map fun _ => (0 : Nat)).map (enc : Nat → D) := by
  induction row with
  | nil => rfl
  | cons a row ih => rw [List.length_cons, List.replicate_succ, List.flatten_cons, ih]; rfl
theorem r_zeros (pl : List (List Edge)) (i : Nat) (row : List Edge) (h : pl[i]? = some row) (hl : row.length ≤ 1000) : run F T (n + 1) "zeros" [enc pl, .int (i : Int)] S = .ok (enc (row.map fun _ => (0 : Nat))) S := by
  rw [run_eq GZ.zeros rfl rfl]; simp! only [F_zeros, List.map_cons, List.map_nil, Nat.sub_self, Nat.reduceSub, Nat.reduceAdd, List.replicate_zero, List.replicate_succ, List.append_nil, List.cons_append, List.nil_append, enc_list pl, atI_some h, enc_list row, List.length_map]
  rw [b_rep0 _ _ (by simp) (by simp) hl, rep_zero]
  simp! only []
  rfl
/-- the other sites that keep a register -/
def others (p : Pl) (i : Nat) (x : Nm) : List Nat := (List.range p.1.length).filter fun k => !decide (k = i) && mb x (keeps p k)
theorem dec_nat (a b : Nat) : decide ((a : Int) = (b : Int)) = decide (a = b) := by
  rw [Bool.eq_iff_iff]; simp only [decide_eq_true_eq]; omega
theorem r_others_with (p : Pl) (v : ValidPl p) (i : Nat) (x : Nm) : run F T (n + 4) "others_with" [enc p, .int (i : Int), enc x] S = .ok (.lst ((others p i x).map enc)) S := by
  have b1 := big_eq
  have h1 := v.many.1
  rw [run_eq GZ.others_with rfl rfl]; simp! only [F_others_with, List.map_cons, List.map_nil, Nat.sub_self, Nat.reduceSub, Nat.reduceAdd, List.replicate_zero, List.replicate_succ, List.append_nil, List.cons_append, List.nil_append, r_sites_in, q_kRng1 (rng_ok (show p.1.length ≤ 1000000 by omega)), rangeL_nat]
  rw [comp_flt (fun k => !decide (k = i) && mb x (keeps p k)) (enc : Nat → D) ok_none]
  · simp! only []
    rfl
  · intro k hk
    refine ⟨_, rfl, ?_, fun _ => ?_⟩
    · simp! only [setN_s, setN_z, dec_nat]
      by_cases e : k = i
      · simp! only [e, Bool.false_and]
      · simp! only [e, r_kept_at, Bool.true_and]
        rw [show (enc (keeps p k) : D) = tpl (keeps p k) from rfl, in_tpl (by decide)]
        simp! only []
    · simp! only [setN_s, setN_z]
      rfl
  · rw [List.length_range]; omega
theorem aug_add (i j : Int) : augop .Add (.int i) (.int j) = some (.int (i + j)) := rfl
/-- the counts behind a write -/
def bump (p : Pl) (i : Nat) (x : Nm) (c : Edge → Nat) (e : Edge) : Nat := c e + if e.1 = i ∧ x ∈ keeps p e.2 then 1 else 0
theorem mem_keeps {p : Pl} {i : Nat} {x : Nm} (h : x ∈ keeps p i) : i < p.1.length := by
  unfold keeps at h
  rw [List.getD_eq_getElem?_getD] at h
  cases e : p.1[i]? with
  | none => rw [e] at h; cases h
  | some rs => exact (List.getElem?_eq_some_iff.mp e).1
theorem others_edge {p : Pl} {i k : Nat} {x : Nm} (hx : x ∈ keeps p i) (hk : k ∈ others p i x) : (i, k) ∈ edges p := by
  unfold others at hk
  rw [List.mem_filter, List.mem_range, Bool.and_eq_true, Bool.not_eq_true', decide_eq_false_iff_not, mb_iff] at hk
  obtain ⟨h1, h2, h3⟩ := hk
  refine mem_edges.mpr ⟨mem_keeps hx, h1, ?_⟩
  unfold isE shared
  rw [decide_eq_true_iff, if_neg (fun q => h2 q.symm)]
  intro e
  have := List.mem_filter (p := fun y => mb y (keeps p k)).mpr ⟨hx, mb_t h3⟩
  rw [e] at this
  cases this
theorem edge_ne {p : Pl} {e : Edge} (h : e ∈ edges p) : e.1 ≠ e.2 := by
  obtain ⟨_, _, h3⟩ := mem_edges.mp h
  unfold isE shared at h3
  intro q
  rw [if_pos q] at h3
  simp at h3
theorem r_written_counts (p : Pl) (v : ValidPl p) (pl : List (List Edge)) (w : ValidPlan p pl) (i : Nat) (row : List Edge) (h : pl[i]? = some row) (c : Edge → Nat) (x : Nm) (hx : x ∈ keeps p i) :
    run F T (n + 5) "written_counts" [enc p, enc pl, .int (i : Int), enc (row.map c), enc x] S = .ok (enc (row.map (bump p i x c))) S := by
  have hm := List.mem_of_getElem? h
  have hn := (w.rise _ hm).nodup
  have hl := w.few _ hm
  have inr : ∀ k ∈ others p i x, (i, k) ∈ row := fun k hk => w.own i row h _ (others_edge hx hk) (mb_t (by simp))
  refine sat_own GZ.written_counts rfl rfl ?low ?_; case low => exact low_ok _ _
  simp! only [F_written_counts, List.map_cons, List.map_nil, Nat.sub_self, Nat.reduceSub, Nat.reduceAdd, List.replicate_zero, List.replicate_succ, List.append_nil, List.cons_append, List.nil_append, r_book_of pl i row c h hn hl, r_others_with p v]
  refine sat_for (others p i x) (fun d η S' => ∃ z, η = [some (enc p), some (enc pl), some (.int (i : Int)), some (enc (row.map c)), some (enc x), some (.ref S.length), z] ∧ S' = S ++ [.dT (dicL ek row fun e => enc (c e + if e.1 = i ∧ e.2 ∈ d then 1 else 0))]) ⟨none, rfl, by simp⟩ (fun _ _ _ _ => trivial) ?_ ?_
  · rintro d k r η S' hd ⟨z, rfl, rfl⟩
    have hk : k ∈ others p i x := by rw [hd]; simp
    have hkd : k ∉ d := by
      have : (others p i x).Nodup := List.Pairwise.filter _ List.nodup_range
      rw [hd, List.nodup_append] at this
      exact fun q => this.2.2 k q k List.mem_cons_self rfl
    refine ⟨_, rfl, ?_⟩
    simp! only [setN_s, setN_z]
    have e3 : (D.tup [D.int (i : Int), enc k] : D) = enc ((i, k) : Edge) := rfl
    rw [e3, dicGet_T get_last, getA_in (fun a b => ek_inj.mp) (inr k hk)]
    simp! only [enc_nat, aug_add]
    rw [setItem_T get_last (by rw [dicL_length]; omega), putA_in (fun a b => ek_inj.mp) (inr k hk), set_last]
    simp! only []
    rw [sat_ok]
    refine ⟨some (enc k), rfl, ?_⟩
    congr 3
    refine dicL_congr fun e he => ?_
    by_cases q : e = (i, k)
    · subst q
      rw [if_pos rfl]
      simp [hkd]
    · rw [if_neg q]
      congr 2
      have : (e.1 = i ∧ e.2 ∈ d ++ [k]) ↔ (e.1 = i ∧ e.2 ∈ d) := by
        rw [List.mem_append, List.mem_singleton]
        constructor
        · rintro ⟨a, b | b⟩
          · exact ⟨a, b⟩
          · exact absurd (Prod.ext a b) q
        · rintro ⟨a, b⟩; exact ⟨a, .inl b⟩
      simp only [this]
  · rintro η S' ⟨z, rfl, rfl⟩
    have e1 : (dicL ek row fun e => (enc (c e + if e.1 = i ∧ e.2 ∈ others p i x then 1 else 0) : D)) = dicL ek row fun e => enc (bump p i x c e) := dicL_congr fun e he => by
      have ne := edge_ne (w.sub _ hm e he)
      have : (e.1 = i ∧ e.2 ∈ others p i x) ↔ (e.1 = i ∧ x ∈ keeps p e.2) := by
        unfold others
        rw [List.mem_filter, List.mem_range, Bool.and_eq_true, Bool.not_eq_true', decide_eq_false_iff_not, mb_iff]
        constructor
        · rintro ⟨a, _, _, b⟩; exact ⟨a, b⟩
        · rintro ⟨a, b⟩; exact ⟨a, mem_keeps b, fun q => ne (a.trans q.symm), b⟩
      unfold bump
      simp only [this]
    rw [e1]
    simp! only [r_row_of pl i row _ S.length h hl get_last]
    rw [sat_ok]
    refine ⟨?_, _, rfl⟩
    rw [enc_list, List.map_map]
    rfl
end
end MP

set_option Elab.async false
set_option linter.all false
set_option maxRecDepth 100000
set_option maxHeartbeats 4000000
/-! P3: the functions of counts (k18). -/
namespace MP
open PySem L2 PySem.W PyProof.Rows
open Enc EncO
local macro_rules
  | `(tactic| simp! only [$ts,*]) => `(tactic| simp only [MP.R.bind_ok, kk_eq, kk_app, look_z, look_s, setN_z, setN_s, setNs_nil, setNs_cons, setTg_nm, setTg_tp, wipe1_z, wipe1_s, wipeE_nil, wipeE_cons, ifK_t, ifK_f, retK_eq, notK_bl, negK_int, opD_some, mkLd_f, mkLd_t, mkL_f, mkL_t, alloc_eq, opO_some, opE_some, MP.R.of_some, q_kBin2, q_kBin, q_kCmpE, q_kCmp, q_kCmp2b, q_kCmp2dt, q_kCmp2df, q_kCmp2, q_kIx2, q_kIx, q_kSl3, q_kSl2, q_kSl, q_kRev, q_kTup, q_kLst, q_kDct, q_kComp, q_kLs, q_kComp2, q_kDo, q_kDcomp, q_kCall, q_callO, q_kBi, q_kSrt, q_kDicz2, q_kDicz, q_kDicl, q_kDicd, q_kBm2, q_kBm, q_bmTt, q_kIsa, q_kRngv, q_kCons2, q_kCons, q_kAtt, q_attO, q_fldOf, q_kMk2, q_kMk, q_kMth2, q_mthTt, q_mthO, q_kMth, q_kSeq_tup, q_kSeq_lst, q_kSeq_str, q_kSeq_rng, q_kRng2, q_kEnm_tup, q_kEnm_lst, q_kZip2, q_kZip, q_kDic, q_kDicO, seqS_nx, seqS_rt, seqS_bk, seqS_ct, q_kNx, q_kAsg, q_kPar, q_kRt, q_kDrop, q_kUnit, q_kUnitE, q_augP, q_kAug4, q_augV, q_kAug2, q_kAug, q_kFor, q_kSub2, q_kSub, q_kFld, q_kTwo, endR_rt, endR_nx, e_cst, e_bin, e_cmp, e_ix, e_sl, e_tup, e_lst, e_dnewT, e_dnewK, e_comp, e_comp2, e_isa, e_nil, e_cons, e_mk, x_nil, x_asg, x_expr, x_for, x_whl, x_ret, x_retN, x_brk, x_cont, x_pass, a_nm, a_tp, a_sub, a_fld, a_two, permute_none, e_var, e_neg, e_cmp2, e_and, e_or, e_not, e_ite, e_rev, e_dct, e_dcomp, e_call, e_bi, e_srt, e_dicz, e_dicl, e_dicd, e_bm, e_att, e_mth, e_rngv, s_seq, s_rng1, s_rng2, s_enm, s_zip, s_dic, x_cons, x_par, x_aug, x_ife, Option.map_some, Option.bind_some, ty_int_int, ty_int_bool, ty_int_str, ty_int_tup, ty_str_str, ty_str_int, ty_tup_tup, c_lt, c_le, c_gt, c_ge, c_eq, c_ne, c_in, c_notin, b_add, b_sub, Bool.not_true, Bool.not_false, len_tup, len_lst, tuple_lst, tuple_tup, list_tup, list_lst, list_rng, bi_int, bi_max, bi_min, ix_tup, ix_lst, at_0, at_1, at_2, at_3, at_4, decide_true, decide_false, Int.reduceEq, Int.reduceLT, Int.reduceLE, List.length_cons, List.length_nil, Nat.zero_add, Nat.reduceAdd, Int.natCast_zero, Int.cast_ofNat_Int, few_0, few_1, few_2, few_3, few_4, few_5, few_6, few_7, few_8, few_9, few_10, $ts,*])
section
variable {F : Str → Str → Bool} {T : Str → Option Fn} [GA T] [GZ T] [GB T] {n : Nat} {S : Sto}
theorem r_are_counts_value (pl : List (List Edge)) (i : Nat) (row : List Edge) (c : Edge → Nat) (h : pl[i]? = some row) (hl : row.length ≤ 1000) : run F T (n + 3) "are_counts_value" [enc pl, .int (i : Int), enc (row.map c)] S = .ok (.bl true) S := by
  have b1 := big_eq
  rw [run_eq GB.are_counts_value rfl rfl]; simp! only [F_are_counts_value, List.map_cons, List.map_nil, Nat.sub_self, Nat.reduceSub, Nat.reduceAdd, List.replicate_zero, List.replicate_succ, List.append_nil, List.cons_append, List.nil_append, enc_list pl, atI_some h, enc_list row, enc_list (row.map c), r_is_row, List.length_map]
  rw [comp_map (fun _ : Nat => .bl true) ok_none]
  · simp! only [all_yes]
  · intro k hk
    refine ⟨_, rfl, rfl, ?_⟩
    have e1 : (0 : Int) ≤ (k : Int) := by omega
    simp! only [setN_s, setN_z, enc_nat, r_is_count, e1]
  · rw [List.length_map]; omega
theorem r_need_counts (pl : List (List Edge)) (i : Nat) (row : List Edge) (c : Edge → Nat) (h : pl[i]? = some row) (hl : row.length ≤ 1000) : run F T (n + 4) "need_counts" [enc pl, .int (i : Int), enc (row.map c)] S = .ok .non S := by
  rw [run_eq GB.need_counts rfl rfl]; simp! only [F_need_counts, List.map_cons, List.map_nil, Nat.sub_self, Nat.reduceSub, Nat.reduceAdd, List.replicate_zero, List.replicate_succ, List.append_nil, List.cons_append, List.nil_append, r_are_counts_value pl i row c h hl]
theorem r_is_update_value (p : Pl) (v : ValidPl p) (pl : List (List Edge)) (i : Nat) (row : List Edge) (c : Edge → Nat) (x : Nm) (h : pl[i]? = some row) (hl : row.length ≤ 1000) (hx : x ∈ keeps p i) :
    run F T (n + 4) "is_update_value" [enc p, enc pl, .tup [.int (i : Int), enc x, enc (row.map c)]] S = .ok (.bl true) S := by
  have hi := mem_keeps hx
  have e1 : (0 : Int) ≤ (i : Int) := by omega
  have e2 : ¬ ((p.1.length : Int) ≤ (i : Int)) := by omega
  have e3 : isIn S (.str x.1) (enc (keeps p i)) = some true := by
    rw [show (D.str x.1) = enc x from rfl, show (enc (keeps p i) : D) = tpl (keeps p i) from rfl, in_tpl (by decide), mb_t hx]
  rw [run_eq GB.is_update_value rfl rfl]; simp! only [F_is_update_value, List.map_cons, List.map_nil, Nat.sub_self, Nat.reduceSub, Nat.reduceAdd, List.replicate_zero, List.replicate_succ, List.append_nil, List.cons_append, List.nil_append, r_is_row, r_is_count, r_sites_in, e1, e2, enc_nm, r_kept_at, e3, r_are_counts_value pl i row c h hl]
variable [GB2 T]
theorem r_new_counts (p : Pl) (v : ValidPl p) (pl : List (List Edge)) (w : ValidPlan p pl) (i : Nat) (row : List Edge) (h : pl[i]? = some row) : run F T (n + 11) "new_counts" [enc p, enc pl, .int (i : Int)] S = .ok (enc (row.map fun _ => (0 : Nat))) S := by
  have hi : i < p.1.length + p.2.length := by rw [← w.len]; exact (List.getElem?_eq_some_iff.mp h).1
  rw [run_eq GB2.new_counts rfl rfl]; simp! only [F_new_counts, List.map_cons, List.map_nil, Nat.sub_self, Nat.reduceSub, Nat.reduceAdd, List.replicate_zero, List.replicate_succ, List.append_nil, List.cons_append, List.nil_append, r_need_plan p v pl w, r_need_place p i hi, r_zeros pl i row h (w.few _ (List.mem_of_getElem? h))]
theorem r_are_counts (p : Pl) (v : ValidPl p) (pl : List (List Edge)) (w : ValidPlan p pl) (i : Nat) (row : List Edge) (c : Edge → Nat) (h : pl[i]? = some row) : run F T (n + 11) "are_counts" [enc p, enc pl, .int (i : Int), enc (row.map c)] S = .ok (.bl true) S := by
  have hi : i < p.1.length + p.2.length := by rw [← w.len]; exact (List.getElem?_eq_some_iff.mp h).1
  rw [run_eq GB2.are_counts rfl rfl]; simp! only [F_are_counts, List.map_cons, List.map_nil, Nat.sub_self, Nat.reduceSub, Nat.reduceAdd, List.replicate_zero, List.replicate_succ, List.append_nil, List.cons_append, List.nil_append, r_need_plan p v pl w, r_need_place p i hi, r_are_counts_value pl i row c h (w.few _ (List.mem_of_getElem? h))]
theorem r_is_update (p : Pl) (v : ValidPl p) (pl : List (List Edge)) (w : ValidPlan p pl) (i : Nat) (row : List Edge) (c : Edge → Nat) (x : Nm) (h : pl[i]? = some row) (hx : x ∈ keeps p i) :
    run F T (n + 11) "is_update" [enc p, enc pl, .tup [.int (i : Int), enc x, enc (row.map c)]] S = .ok (.bl true) S := by
  rw [run_eq GB2.is_update rfl rfl]; simp! only [F_is_update, List.map_cons, List.map_nil, Nat.sub_self, Nat.reduceSub, Nat.reduceAdd, List.replicate_zero, List.replicate_succ, List.append_nil, List.cons_append, List.nil_append, r_need_plan p v pl w, r_is_update_value p v pl i row c x h (w.few _ (List.mem_of_getElem? h)) hx]
theorem r_written (p : Pl) (v : ValidPl p) (pl : List (List Edge)) (w : ValidPlan p pl) (i : Nat) (row : List Edge) (c : Edge → Nat) (x : Nm) (h : pl[i]? = some row) (hx : x ∈ keeps p i) :
    run F T (n + 11) "written" [enc p, enc pl, .int (i : Int), enc (row.map c), enc x] S = .ok (enc (row.map (bump p i x c))) S := by
  have hi := mem_keeps hx
  have e3 : isIn S (enc x) (enc (keeps p i)) = some true := by
    rw [show (enc (keeps p i) : D) = tpl (keeps p i) from rfl, in_tpl (by decide), mb_t hx]
  have e4 : isTy S (enc x) (.bt .str) = some true := rfl
  rw [run_eq GB2.written rfl rfl]; simp! only [F_written, List.map_cons, List.map_nil, Nat.sub_self, Nat.reduceSub, Nat.reduceAdd, List.replicate_zero, List.replicate_succ, List.append_nil, List.cons_append, List.nil_append, r_need_plan p v pl w, r_need_site p i hi, r_need_counts pl i row c h (w.few _ (List.mem_of_getElem? h)), e4, r_kept_at, e3, r_written_counts p v pl w i row h c x hx]
end
end MP

set_option Elab.async false
set_option linter.all false
set_option maxRecDepth 100000
set_option maxHeartbeats 4000000
/-! L1: the deck of a law. -/
namespace MP
open PySem L2 PySem.W PyProof.Rows
open Enc EncO
local macro_rules
  | `(tactic| simp! only [$ts,*]) => `(tactic| simp only [MP.R.bind_ok, kk_eq, kk_app, look_z, look_s, setN_z, setN_s, setNs_nil, setNs_cons, setTg_nm, setTg_tp, wipe1_z, wipe1_s, wipeE_nil, wipeE_cons, ifK_t, ifK_f, retK_eq, notK_bl, negK_int, opD_some, mkLd_f, mkLd_t, mkL_f, mkL_t, alloc_eq, opO_some, opE_some, MP.R.of_some, q_kBin2, q_kBin, q_kCmpE, q_kCmp, q_kCmp2b, q_kCmp2dt, q_kCmp2df, q_kCmp2, q_kIx2, q_kIx, q_kSl3, q_kSl2, q_kSl, q_kRev, q_kTup, q_kLst, q_kDct, q_kComp, q_kLs, q_kComp2, q_kDo, q_kDcomp, q_kCall, q_callO, q_kBi, q_kSrt, q_kDicz2, q_kDicz, q_kDicl, q_kDicd, q_kBm2, q_kBm, q_bmTt, q_kIsa, q_kRngv, q_kCons2, q_kCons, q_kAtt, q_attO, q_fldOf, q_kMk2, q_kMk, q_kMth2, q_mthTt, q_mthO, q_kMth, q_kSeq_tup, q_kSeq_lst, q_kSeq_str, q_kSeq_rng, q_kRng2, q_kEnm_tup, q_kEnm_lst, q_kZip2, q_kZip, q_kDic, q_kDicO, seqS_nx, seqS_rt, seqS_bk, seqS_ct, q_kNx, q_kAsg, q_kPar, q_kRt, q_kDrop, q_kUnit, q_kUnitE, q_augP, q_kAug4, q_augV, q_kAug2, q_kAug, q_kFor, q_kSub2, q_kSub, q_kFld, q_kTwo, endR_rt, endR_nx, e_cst, e_bin, e_cmp, e_ix, e_sl, e_tup, e_lst, e_dnewT, e_dnewK, e_comp, e_comp2, e_isa, e_nil, e_cons, e_mk, x_nil, x_asg, x_expr, x_for, x_whl, x_ret, x_retN, x_brk, x_cont, x_pass, a_nm, a_tp, a_sub, a_fld, a_two, permute_none, e_var, e_neg, e_cmp2, e_and, e_or, e_not, e_ite, e_rev, e_dct, e_dcomp, e_call, e_bi, e_srt, e_dicz, e_dicl, e_dicd, e_bm, e_att, e_mth, e_rngv, s_seq, s_rng1, s_rng2, s_enm, s_zip, s_dic, x_cons, x_par, x_aug, x_ife, Option.map_some, Option.bind_some, ty_int_int, ty_int_bool, ty_int_str, ty_int_tup, ty_str_str, ty_str_int, ty_tup_tup, c_lt, c_le, c_gt, c_ge, c_eq, c_ne, c_in, c_notin, b_add, b_sub, Bool.not_true, Bool.not_false, len_tup, len_lst, tuple_lst, tuple_tup, list_tup, list_lst, list_rng, bi_int, bi_max, bi_min, ix_tup, ix_lst, at_0, at_1, at_2, at_3, at_4, decide_true, decide_false, Int.reduceEq, Int.reduceLT, Int.reduceLE, List.length_cons, List.length_nil, Nat.zero_add, Nat.reduceAdd, Int.natCast_zero, Int.cast_ofNat_Int, few_0, few_1, few_2, few_3, few_4, few_5, few_6, few_7, few_8, few_9, few_10, $ts,*])
/-- so many bits -/
def bnd (a : Int) (k : Nat) : Prop := a.natAbs < 2 ^ k
theorem bnd_mono {a : Int} {k l : Nat} (h : bnd a k) (hl : k ≤ l) : bnd a l := Nat.lt_of_lt_of_le h (Nat.pow_le_pow_right (by decide) hl)
theorem bnd_add {a b : Int} {k : Nat} (h : bnd a k) (h2 : bnd b k) : bnd (a + b) (k + 1) := by
  unfold bnd at *
  rw [Nat.pow_succ]
  omega
theorem bnd_mul {a b : Int} {k l : Nat} (h : bnd a k) (h2 : bnd b l) : bnd (a * b) (k + l) := by
  unfold bnd at *
  rw [Int.natAbs_mul, Nat.pow_add]
  exact Nat.mul_lt_mul'' h h2
theorem bnd_mod {a m : Int} {k : Nat} (hm : 0 < m) (h : bnd m k) : bnd (a % m) k := by
  unfold bnd at *
  have h1 := Int.emod_nonneg a (by omega : m ≠ 0)
  have h2 := Int.emod_lt_of_pos a hm
  omega
theorem bnd_nat {a : Nat} {k : Nat} (h : a < 2 ^ k) : bnd (a : Int) k := by
  unfold bnd
  omega
theorem b_mulB {S : Sto} {i j : Int} (h : bnd i 300) (h2 : bnd j 300) : binop .Mult S (.int i) (.int j) = some (.int (i * j)) := b_mul (bnd_mono h (by decide)) (bnd_mono h2 (by decide))
/-- the numbers of a deck are as they should be -/
structure DeckC.Ok (c : DeckC) : Prop where
  n1 : c.left ≠ "mixed"
  n2 : c.left ≠ "draws"
  m0 : bnd c.m.1 40 ∧ 0 ≤ c.m.1
  m1 : 0 < c.m.2.1 ∧ bnd c.m.2.1 40
  m2 : bnd c.m.2.2.1 40
  m3 : 0 < c.m.2.2.2 ∧ bnd c.m.2.2.2 40
  d0 : bnd c.d.1 40
  d1 : 0 < c.d.2.1 ∧ bnd c.d.2.1 40
  d2 : bnd c.d.2.2.1 40
  d3 : bnd c.d.2.2.2.1 40
  d4 : 0 < c.d.2.2.2.2.1 ∧ bnd c.d.2.2.2.2.1 40
  d5 : bnd c.d.2.2.2.2.2.1 40
  d6 : bnd c.d.2.2.2.2.2.2.1 40
  d7 : 0 < c.d.2.2.2.2.2.2.2.1 ∧ bnd c.d.2.2.2.2.2.2.2.1 40
  d8 : bnd c.d.2.2.2.2.2.2.2.2.1 40
  d9 : 0 < c.d.2.2.2.2.2.2.2.2.2 ∧ bnd c.d.2.2.2.2.2.2.2.2.2 40
/-- a deck: what is at its places -/
structure DK where
  g : Ob
  left : List Int
  mixed : Int
  draws : Nat
/-- the store with a deck at its places 1, 2 -/
def DS (c : DeckC) (k : DK) (r : Sto) : Sto := k.g :: .lst (k.left.map .int) :: .dK [(.inr c.left, .ref 1), (.inr "mixed", .int k.mixed), (.inr "draws", .int (k.draws : Int))] :: r
/-- a deck that may be drawn from; so many draws at most -/
structure DOk (k : DK) (b : Nat) : Prop where
  few : k.left.length ≤ 63
  mix : bnd k.mixed 40
  most : k.draws ≤ b
theorem DOk.mono {k : DK} {b b' : Nat} (h : DOk k b) (hb : b ≤ b') : DOk k b' := ⟨h.few, h.mix, Nat.le_trans h.most hb⟩
section
variable {c : DeckC} {k : DK} {r : Sto}
theorem mx_ne_dr : ("mixed" : Str) ≠ "draws" := by decide
theorem ds_len : (DS c k r).length = r.length + 3 := rfl
theorem dg_left : index (DS c k r) (.ref 2) (.str c.left) = some (.ref 1) := by
  show (some ((List.find? (fun kv : Key × D => decide (kv.1 = .inr c.left)) [(.inr c.left, .ref 1), (.inr "mixed", .int k.mixed), (.inr "draws", .int (k.draws : Int))]).map (·.2))).join = _
  simp
theorem dg_mixed (o : c.Ok) : index (DS c k r) (.ref 2) (.str "mixed") = some (.int k.mixed) := by
  show (some ((List.find? (fun kv : Key × D => decide (kv.1 = .inr ("mixed" : Str))) [(.inr c.left, .ref 1), (.inr "mixed", .int k.mixed), (.inr "draws", .int (k.draws : Int))]).map (·.2))).join = _
  have h := o.n1
  simp [h]
theorem dg_draws (o : c.Ok) : index (DS c k r) (.ref 2) (.str "draws") = some (.int (k.draws : Int)) := by
  show (some ((List.find? (fun kv : Key × D => decide (kv.1 = .inr ("draws" : Str))) [(.inr c.left, .ref 1), (.inr "mixed", .int k.mixed), (.inr "draws", .int (k.draws : Int))]).map (·.2))).join = _
  have h := o.n2
  have h2 := mx_ne_dr
  simp [h, h2]
theorem dset_draws (o : c.Ok) (v : Nat) : setItem (DS c k r) (.ref 2) (.str "draws") (.int (v : Int)) = .ok () (DS c { k with draws := v } r) := by
  have h := o.n2
  have h2 := mx_ne_dr
  have e : putA [(.inr c.left, .ref 1), (.inr "mixed", .int k.mixed), (.inr "draws", .int (k.draws : Int))] (.inr ("draws" : Str) : Key) (.int (v : Int)) = [(.inr c.left, .ref 1), (.inr "mixed", .int k.mixed), (.inr "draws", .int (v : Int))] := by
    unfold putA
    simp [h, h2]
  have q : setItem (DS c k r) (.ref 2) (.str "draws") (.int (v : Int)) = .ok () (k.g :: .lst (k.left.map .int) :: .dK (putA [(.inr c.left, .ref 1), (.inr "mixed", .int k.mixed), (.inr "draws", .int (k.draws : Int))] (.inr ("draws" : Str) : Key) (.int (v : Int))) :: r) := rfl
  rw [q, e]
  rfl
theorem dset_draws1 (o : c.Ok) : setItem (DS c k r) (.ref 2) (.str "draws") (.int ((k.draws : Int) + 1)) = .ok () (DS c { k with draws := k.draws + 1 } r) := dset_draws o (k.draws + 1)
theorem dleft_get : (DS c k r)[1]? = some (.lst (k.left.map .int)) := rfl
theorem dty {b : Bm} (h : b = .append ∨ b = .pop0) : tyBm b (DS c k r) (.ref 1) = true := by
  rcases h with rfl | rfl <;> rfl
theorem dpop {l : List Int} {x : Int} (h : k.left = l ++ [x]) : bmop .pop0 (DS c k r) (.ref 1) [] = .ok (.int x) (DS c { k with left := l } r) := by
  unfold bmop
  simp only [dleft_get]
  have e : (k.left.map D.int)[(k.left.map D.int).length - 1]? = some (.int x) := by
    rw [h]; simp
  have e2 : (k.left.map D.int).dropLast = l.map D.int := by rw [h]; simp
  rw [e]
  dsimp only
  rw [e2]
  rfl
theorem dpop' {l : List Int} {x : Int} (g : Ob) (mi : Int) (dr : Nat) : bmop .pop0 (DS c ⟨g, l ++ [x], mi, dr⟩ r) (.ref 1) [] = .ok (.int x) (DS c ⟨g, l, mi, dr⟩ r) := dpop (k := ⟨g, l ++ [x], mi, dr⟩) rfl
theorem dpush {x : Int} (h : k.left.length ≤ 63) : bmop .append (DS c k r) (.ref 1) [.int x] = .ok .non (DS c { k with left := k.left ++ [x] } r) := by
  unfold bmop
  simp only [dleft_get]
  rw [if_pos (by rw [List.length_map, big_eq]; omega)]
  have e2 : k.left.map D.int ++ [D.int x] = (k.left ++ [x]).map D.int := by simp
  rw [e2]
  rfl
end
section
variable {c : DeckC} {F : Str → Str → Bool} {T : Str → Option Fn} [GA T] [GD c T] {n : Nat}
theorem ne_lsl {S : Sto} {l : Nat} {xs : List Int} (h : S[l]? = some (.lst (xs.map .int))) : cmpop .NotEq S (.ref l) (.lst []) = some (!decide (xs = [])) := by
  have e1 : pd S (.ref l) = some (.list (xs.map .int)) := by
    show pdN S 20 (.ref l) = _
    unfold pdN
    simp only [h]
    rw [optMap_map (h := pdN S 19) (f := D.int) (g := PyData.int) fun _ _ => rfl]
    rfl
  have e2 : pd S (.lst []) = some (.list []) := rfl
  show (eqop S (.ref l) (.lst [])).map not = _
  unfold eqop
  simp only [e1, e2]
  cases xs with
  | nil => rfl
  | cons a xs => simp [PyData.eqv, PyData.eqvAll]
theorem pow18 {S : Sto} : binop .Pow S (.int 10) (.int 18) = some (.int (10 ^ 18)) := b_pow (by decide)
def Sms.hd : Sms → Sm
  | .cons s _ => s
  | .nil => .pass
def Sms.tl : Sms → Sms
  | .cons _ t => t
  | .nil => .nil
abbrev drawF (c : DeckC) : Fn := F_law_draw c.left c.d.1 c.d.2.1 c.d.2.2.1 c.d.2.2.2.1 c.d.2.2.2.2.1 c.d.2.2.2.2.2.1 c.d.2.2.2.2.2.2.1 c.d.2.2.2.2.2.2.2.1 c.d.2.2.2.2.2.2.2.2.1 c.d.2.2.2.2.2.2.2.2.2
def drawTail (c : DeckC) : Sms := (drawF c).body.tl.tl.tl
theorem draw_body (c : DeckC) : (drawF c).body = .cons (drawF c).body.hd (.cons (drawF c).body.tl.hd (.cons (drawF c).body.tl.tl.hd (drawTail c))) := rfl
theorem p40 : (2 : Nat) ^ 40 = 1099511627776 := by decide
theorem r_tail (o : c.Ok) (k : DK) (b : Nat) (hk : DOk k b) (hb : b < 500000000001) (m : Nat) (hm : 0 < m) (r : Sto) (fig : Int) (hf : bnd fig 130) (z : Option D) :
    sat ((exs (run F T n) F (drawTail c) [some (.ref 2), some (.int (m : Int)), some (.int fig), z] (DS c k r)).bind endR) fun d S' => ∃ k' i, d = .int ((i : Nat) : Int) ∧ i < m ∧ S' = DS c k' r ∧ DOk k' b := by
  have bd : bnd (k.draws : Int) 40 := bnd_nat (by rw [p40]; have := hk.most; omega)
  have f1 : bnd ((fig * c.d.2.2.1 + c.d.2.2.2.1) % c.d.2.2.2.2.1) 40 := bnd_mod o.d4.1 o.d4.2
  have f2 : bnd ((((fig * c.d.2.2.1 + c.d.2.2.2.1) % c.d.2.2.2.2.1) * ((fig * c.d.2.2.1 + c.d.2.2.2.1) % c.d.2.2.2.2.1) + c.d.2.2.2.2.2.1 * (k.draws : Int) + c.d.2.2.2.2.2.2.1) % c.d.2.2.2.2.2.2.2.1) 40 := bnd_mod o.d7.1 o.d7.2
  have e1 : ∀ i : Int, binop .FloorDiv (DS c k r) (.int i) (.int 64) = some (.int (i / 64)) := fun i => b_fdiv (by decide) (by decide +kernel)
  have hm' : (0 : Int) < (m : Int) := by omega
  simp! only [drawTail, drawF, F_law_draw, Sms.tl, b_mulB (bnd_mono hf (by decide)) (bnd_mono o.d2 (by decide)), b_mod o.d4.1, b_mulB (bnd_mono f1 (by decide)) (bnd_mono f1 (by decide)), dg_draws o, b_mulB (bnd_mono o.d5 (by decide)) (bnd_mono bd (by decide)), b_mod o.d7.1,
    b_mulB (bnd_mono f2 (by decide)) (bnd_mono o.d8 (by decide)), b_mod o.d9.1, e1, b_mod hm']
  rw [sat_ok]
  have q1 := Int.emod_nonneg (((((fig * c.d.2.2.1 + c.d.2.2.2.1) % c.d.2.2.2.2.1) * ((fig * c.d.2.2.1 + c.d.2.2.2.1) % c.d.2.2.2.2.1) + c.d.2.2.2.2.2.1 * (k.draws : Int) + c.d.2.2.2.2.2.2.1) % c.d.2.2.2.2.2.2.2.1 * c.d.2.2.2.2.2.2.2.2.1 % c.d.2.2.2.2.2.2.2.2.2) / 64) (by omega : (m : Int) ≠ 0)
  have q2 := Int.emod_lt_of_pos (((((fig * c.d.2.2.1 + c.d.2.2.2.1) % c.d.2.2.2.2.1) * ((fig * c.d.2.2.1 + c.d.2.2.2.1) % c.d.2.2.2.2.1) + c.d.2.2.2.2.2.1 * (k.draws : Int) + c.d.2.2.2.2.2.2.1) % c.d.2.2.2.2.2.2.2.1 * c.d.2.2.2.2.2.2.2.2.1 % c.d.2.2.2.2.2.2.2.2.2) / 64) hm'
  generalize ((((fig * c.d.2.2.1 + c.d.2.2.2.1) % c.d.2.2.2.2.1) * ((fig * c.d.2.2.1 + c.d.2.2.2.1) % c.d.2.2.2.2.1) + c.d.2.2.2.2.2.1 * (k.draws : Int) + c.d.2.2.2.2.2.2.1) % c.d.2.2.2.2.2.2.2.1 * c.d.2.2.2.2.2.2.2.2.1 % c.d.2.2.2.2.2.2.2.2.2) / 64 % (m : Int) = v at q1 q2 ⊢
  exact ⟨k, v.toNat, by rw [Int.toNat_of_nonneg q1], by omega, rfl, hk⟩
theorem r_draw (o : c.Ok) (k : DK) (b : Nat) (hk : DOk k b) (hb : b < 500000000000) (m : Nat) (hm : 0 < m) (hm2 : m < 500000000000) (r : Sto) :
    sat (run F T (n + 1) "_law_draw" [.ref 2, .int (m : Int)] (DS c k r)) fun d S' => ∃ k' i, d = .int ((i : Nat) : Int) ∧ i < m ∧ S' = DS c k' r ∧ DOk k' (b + 1) := by
  obtain ⟨h1, h2, h3⟩ := hk
  have bd : bnd ((k.draws : Int) + 1) 40 := bnd_nat (a := k.draws + 1) (by rw [p40]; omega)
  have bm := bnd_add (bnd_mono h2 (show 40 ≤ 80 by decide)) (bnd_mul o.d0 bd)
  rw [run_eq GD.law_draw rfl rfl]
  rw [show (F_law_draw c.left c.d.1 c.d.2.1 c.d.2.2.1 c.d.2.2.2.1 c.d.2.2.2.2.1 c.d.2.2.2.2.2.1 c.d.2.2.2.2.2.2.1 c.d.2.2.2.2.2.2.2.1 c.d.2.2.2.2.2.2.2.2.1 c.d.2.2.2.2.2.2.2.2.2).body = _ from draw_body c]
  rcases List.eq_nil_or_concat k.left with he | ⟨l, x, he⟩
  · simp! only [F_law_draw, Sms.hd, Sms.tl, List.map_cons, List.map_nil, Nat.sub_self, Nat.reduceSub, Nat.reduceAdd, List.replicate_zero, List.replicate_succ, List.append_nil, List.cons_append, List.nil_append, dg_draws o, dset_draws1 o, dg_mixed o, b_mulB (bnd_mono o.d0 (by decide)) (bnd_mono bd (by decide)), dg_left, Int.natCast_add, ne_lsl dleft_get, he, mkL_f]
    refine r_tail (T := T) o ⟨k.g, [], k.mixed, k.draws + 1⟩ (b + 1) ⟨?_, h2, ?_⟩ (by omega) m hm r _ (bnd_mono bm (by decide)) none
    · exact Nat.zero_le _
    · exact Nat.succ_le_succ h3
  · rw [List.concat_eq_append] at he
    have hne : ¬ (l ++ [x] = []) := by simp
    have hl : l.length ≤ 62 := by rw [he] at h1; simp at h1; omega
    have hm' : (0 : Int) < (m : Int) := by omega
    have hmx : (0 : Int) < (if (m : Int) > 2 then (m : Int) else 2) := by split <;> omega
    have hmy : (if (m : Int) > 2 then (m : Int) else 2).natAbs < 2 ^ 8000 := Nat.lt_of_lt_of_le (show _ < 2 ^ 40 by rw [p40]; split <;> omega) (Nat.pow_le_pow_right (by decide) (by decide))
    by_cases hx : (10 : Int) ^ 18 ≤ x
    · simp! only [F_law_draw, Sms.hd, Sms.tl, List.map_cons, List.map_nil, Nat.sub_self, Nat.reduceSub, Nat.reduceAdd, List.replicate_zero, List.replicate_succ, List.append_nil, List.cons_append, List.nil_append, dg_draws o, dset_draws1 o, dg_mixed o, b_mulB (bnd_mono o.d0 (by decide)) (bnd_mono bd (by decide)), dg_left, Int.natCast_add, ne_lsl dleft_get, mkL_f, he, hne, dty (.inl rfl), dty (.inr rfl), dpop', pow18, hx,
        b_fdiv hmx hmy, dpush (k := ⟨k.g, l, k.mixed, k.draws + 1⟩) (r := r) (c := c) (show l.length ≤ 63 by omega), b_mod hm']
      rw [sat_ok]
      have q1 := Int.emod_nonneg x (by omega : (m : Int) ≠ 0)
      have q2 := Int.emod_lt_of_pos x hm'
      exact ⟨_, (x % (m : Int)).toNat, by rw [Int.toNat_of_nonneg q1], by omega, rfl, by simp; omega, h2, Nat.succ_le_succ h3⟩
    · have fx : bnd (x % c.d.2.1) 81 := bnd_mono (bnd_mod o.d1.1 o.d1.2) (by decide)
      simp! only [F_law_draw, Sms.hd, Sms.tl, List.map_cons, List.map_nil, Nat.sub_self, Nat.reduceSub, Nat.reduceAdd, List.replicate_zero, List.replicate_succ, List.append_nil, List.cons_append, List.nil_append, dg_draws o, dset_draws1 o, dg_mixed o, b_mulB (bnd_mono o.d0 (by decide)) (bnd_mono bd (by decide)), dg_left, Int.natCast_add, ne_lsl dleft_get, mkL_f, he, hne, dty (.inl rfl), dty (.inr rfl), dpop', pow18, hx, b_mod o.d1.1]
      refine r_tail (T := T) o ⟨k.g, l, k.mixed, k.draws + 1⟩ (b + 1) ⟨?_, h2, ?_⟩ (by omega) m hm r _ (bnd_mono (bnd_add bm fx) (by decide)) _
      · show l.length ≤ 63; omega
      · exact Nat.succ_le_succ h3
end
end MP

set_option Elab.async false
set_option linter.all false
set_option maxRecDepth 100000
set_option maxHeartbeats 4000000
/-! L2d: the deck is made; picks. -/
namespace MP
open PySem L2 PySem.W PyProof.Rows
open Enc EncO
local macro_rules
  | `(tactic| simp! only [$ts,*]) => `(tactic| simp only [MP.R.bind_ok, kk_eq, kk_app, look_z, look_s, setN_z, setN_s, setNs_nil, setNs_cons, setTg_nm, setTg_tp, wipe1_z, wipe1_s, wipeE_nil, wipeE_cons, ifK_t, ifK_f, retK_eq, notK_bl, negK_int, opD_some, mkLd_f, mkLd_t, mkL_f, mkL_t, alloc_eq, opO_some, opE_some, MP.R.of_some, q_kBin2, q_kBin, q_kCmpE, q_kCmp, q_kCmp2b, q_kCmp2dt, q_kCmp2df, q_kCmp2, q_kIx2, q_kIx, q_kSl3, q_kSl2, q_kSl, q_kRev, q_kTup, q_kLst, q_kDct, q_kComp, q_kLs, q_kComp2, q_kDo, q_kDcomp, q_kCall, q_callO, q_kBi, q_kSrt, q_kDicz2, q_kDicz, q_kDicl, q_kDicd, q_kBm2, q_kBm, q_bmTt, q_kIsa, q_kRngv, q_kCons2, q_kCons, q_kAtt, q_attO, q_fldOf, q_kMk2, q_kMk, q_kMth2, q_mthTt, q_mthO, q_kMth, q_kSeq_tup, q_kSeq_lst, q_kSeq_str, q_kSeq_rng, q_kRng2, q_kEnm_tup, q_kEnm_lst, q_kZip2, q_kZip, q_kDic, q_kDicO, seqS_nx, seqS_rt, seqS_bk, seqS_ct, q_kNx, q_kAsg, q_kPar, q_kRt, q_kDrop, q_kUnit, q_kUnitE, q_augP, q_kAug4, q_augV, q_kAug2, q_kAug, q_kFor, q_kSub2, q_kSub, q_kFld, q_kTwo, endR_rt, endR_nx, e_cst, e_bin, e_cmp, e_ix, e_sl, e_tup, e_lst, e_dnewT, e_dnewK, e_comp, e_comp2, e_isa, e_nil, e_cons, e_mk, x_nil, x_asg, x_expr, x_for, x_whl, x_ret, x_retN, x_brk, x_cont, x_pass, a_nm, a_tp, a_sub, a_fld, a_two, permute_none, e_var, e_neg, e_cmp2, e_and, e_or, e_not, e_ite, e_rev, e_dct, e_dcomp, e_call, e_bi, e_srt, e_dicz, e_dicl, e_dicd, e_bm, e_att, e_mth, e_rngv, s_seq, s_rng1, s_rng2, s_enm, s_zip, s_dic, x_cons, x_par, x_aug, x_ife, Option.map_some, Option.bind_some, ty_int_int, ty_int_bool, ty_int_str, ty_int_tup, ty_str_str, ty_str_int, ty_tup_tup, c_lt, c_le, c_gt, c_ge, c_eq, c_ne, c_in, c_notin, b_add, b_sub, Bool.not_true, Bool.not_false, len_tup, len_lst, tuple_lst, tuple_tup, list_tup, list_lst, list_rng, bi_int, bi_max, bi_min, ix_tup, ix_lst, at_0, at_1, at_2, at_3, at_4, decide_true, decide_false, Int.reduceEq, Int.reduceLT, Int.reduceLE, List.length_cons, List.length_nil, Nat.zero_add, Nat.reduceAdd, Int.natCast_zero, Int.cast_ofNat_Int, few_0, few_1, few_2, few_3, few_4, few_5, few_6, few_7, few_8, few_9, few_10, List.cons_append, List.nil_append, $ts,*])
section
variable {c : DeckC} {k : DK} {r t : Sto} {a b o : Ob}
theorem ds_app : DS c k r ++ [o] = DS c k (r ++ [o]) := rfl
theorem ds_at0 : (DS c k (r ++ a :: t))[r.length + 3]? = some a := by
  show (r ++ a :: t)[r.length]? = _
  simp
theorem ds_at1 : (DS c k (r ++ a :: b :: t))[r.length + 4]? = some b := by
  show (r ++ a :: b :: t)[r.length + 1]? = _
  rw [List.getElem?_append_right (by omega)]
  simp
theorem ds_set0 : (DS c k (r ++ a :: t)).set (r.length + 3) o = DS c k (r ++ o :: t) := by
  show k.g :: _ :: _ :: (r ++ a :: t).set r.length o = _
  rw [List.set_append_right _ _ (Nat.le_refl _)]
  simp [DS]
theorem ds_set1 : (DS c k (r ++ a :: b :: t)).set (r.length + 4) o = DS c k (r ++ a :: o :: t) := by
  show k.g :: _ :: _ :: (r ++ a :: b :: t).set (r.length + 1) o = _
  rw [List.set_append_right _ _ (by omega), show r.length + 1 - r.length = 1 by omega]
  rfl
theorem ds_at2 {o2 : Ob} : (DS c k (r ++ a :: b :: o2 :: t))[r.length + 5]? = some o2 := by
  show (r ++ a :: b :: o2 :: t)[r.length + 2]? = _
  rw [List.getElem?_append_right (by omega), show r.length + 2 - r.length = 2 by omega]
  rfl
theorem ds_set2 {o2 : Ob} : (DS c k (r ++ a :: b :: o2 :: t)).set (r.length + 5) o = DS c k (r ++ a :: b :: o :: t) := by
  show k.g :: _ :: _ :: (r ++ a :: b :: o2 :: t).set (r.length + 2) o = _
  rw [List.set_append_right _ _ (by omega), show r.length + 2 - r.length = 2 by omega]
  rfl
theorem ds_len1 : (DS c k (r ++ [a])).length = r.length + 4 := by rw [ds_len, List.length_append]; rfl
theorem ds_len2 : (DS c k (r ++ [a, b])).length = r.length + 5 := by rw [ds_len, List.length_append]; rfl
theorem len_a1 : (r ++ [a]).length + 3 = r.length + 4 := by rw [List.length_append]; rfl
theorem len_a2 : (r ++ [a, b]).length + 3 = r.length + 5 := by rw [List.length_append]; rfl
theorem app_2 : r ++ [a] ++ [b] = r ++ [a, b] := by simp
end
section
variable {c : DeckC} {F : Str → Str → Bool} {T : Str → Option Fn} [GA T] [GD c T] {n : Nat}
theorem r_deck (o : c.Ok) (ns : List Int) : sat (run F T (n + 1) "_law_deck" [.scr ns] []) fun d S' => ∃ k, d = .ref 2 ∧ S' = DS c k [] ∧ DOk k 0 := by
  have e1 : ∀ S : Sto, slice S (.scr ns) false true .non (.int 63) = some (.lst ((ns.take 63).map .int)) := fun S => by
    show some (D.lst (cutD (ns.map .int) none (some ((63 : Nat) : Int)))) = _
    rw [cut_to', List.map_take]
  rw [run_eq GD.law_deck rfl rfl]
  simp! only [F_law_deck, List.map_cons, List.map_nil, Nat.sub_self, Nat.reduceSub, Nat.reduceAdd, List.replicate_zero, List.replicate_succ, List.append_nil, List.cons_append, List.nil_append, e1]
  refine sat_for (ns.take 63) (fun _ η S => S = [] ∧ ∃ m z, η = [some (.scr ns), some (.int m), z] ∧ bnd m 40) ⟨rfl, _, _, rfl, o.m0.1⟩ (fun _ _ _ _ => trivial) ?_ ?_
  · rintro d x rr η S _ ⟨rfl, m, z, rfl, hm⟩
    refine ⟨_, rfl, ?_⟩
    have f1 : bnd (x % c.m.2.1) 40 := bnd_mod o.m1.1 o.m1.2
    have f2 : bnd (48271 : Int) 20 := by unfold bnd; decide
    simp! only [setN_s, setN_z, b_mulB (bnd_mono hm (by decide)) (bnd_mono f2 (by decide)), b_mod o.m1.1, b_mod o.m3.1]
    rw [sat_ok]
    exact ⟨rfl, _, _, rfl, bnd_mod o.m3.1 o.m3.2⟩
  · rintro η S ⟨rfl, m, z, rfl, hm⟩
    have e2 : dicOfK [(.str c.left, .ref 1), (.str "mixed", .int m), (.str "draws", .int 0)] = some (.dK [(.inr c.left, .ref 1), (.inr "mixed", .int m), (.inr "draws", .int 0)]) := by
      have h1 := o.n1
      have h2 := o.n2
      have h3 := mx_ne_dr
      unfold dicOfK
      rw [if_pos (by simp)]
      simp [keyed, optMap, keyK, mergeA, putA, h1, h2, h3]
    have e3 : revOf [Ob.lst ((ns.take 63).map .int)] (.ref 0) = some (.lst ((ns.take 63).map .int).reverse) := rfl
    have e4 : ∀ (x y z w u v : D), pairsOf [x, y, z, w, u, v] = some [(x, y), (z, w), (u, v)] := fun x y z w u v => rfl
    simp! only [e1, e3, e4, e2]
    rw [sat_ok]
    refine ⟨⟨.lst ((ns.take 63).map .int), (ns.take 63).reverse, m, 0⟩, rfl, ?_, ?_, hm, Nat.le_refl _⟩
    · unfold DS
      simp
    · simp only [List.length_reverse, List.length_take]
      omega
/-- a pick of a list, a tuple -/
theorem r_pick (o : c.Ok) (k : DK) (b : Nat) (hk : DOk k b) (hb : b < 500000000000) (d : D) (xs : List D) (hd : d = .lst xs ∨ d = .tup xs) (hx : 0 < xs.length) (hx2 : xs.length < 500000000000) (r : Sto) :
    sat (run F T (n + 2) "_law_pick" [.ref 2, d] (DS c k r)) fun v S' => ∃ k' i, ∃ h : i < xs.length, v = xs[i] ∧ S' = DS c k' r ∧ DOk k' (b + 1) := by
  have e1 : biop .len (DS c k r) [d] = some (.int (xs.length : Nat)) := by rcases hd with rfl | rfl <;> rfl
  rw [run_eq GA.law_pick rfl rfl]; simp! only [F_law_pick, List.map_cons, List.map_nil, Nat.sub_self, Nat.reduceSub, Nat.reduceAdd, List.replicate_zero, List.replicate_succ, List.append_nil, List.cons_append, List.nil_append, e1]
  refine sat_bind (r_draw o k b hk hb xs.length hx hx2 r) ?_
  rintro v S' ⟨k', i, rfl, hi, rfl, hk'⟩
  have e2 : index (DS c k' r) d (.int (i : Int)) = some xs[i] := by
    rcases hd with rfl | rfl
    · rw [ix_lst, atI_nat hi]
    · rw [ix_tup, atI_nat hi]
  simp! only [e2]
  rw [sat_ok]
  exact ⟨k', i, hi, rfl, rfl, hk'⟩
theorem r_pickM {α : Type} (f : α → D) (l : List α) (o : c.Ok) (k : DK) (b : Nat) (hk : DOk k b) (hb : b < 500000000000) (d : D) (hd : d = .lst (l.map f) ∨ d = .tup (l.map f)) (hx : 0 < l.length) (hx2 : l.length < 500000000000) (r : Sto) :
    sat (run F T (n + 2) "_law_pick" [.ref 2, d] (DS c k r)) fun v S' => ∃ k', ∃ a ∈ l, v = f a ∧ S' = DS c k' r ∧ DOk k' (b + 1) := by
  refine sat_mono (r_pick o k b hk hb d (l.map f) hd (by rw [List.length_map]; exact hx) (by rw [List.length_map]; exact hx2) r) ?_
  rintro v S' ⟨k', i, hi, rfl, rfl, hk'⟩
  rw [List.length_map] at hi
  exact ⟨k', l[i], List.getElem_mem hi, by rw [List.getElem_map], rfl, hk'⟩
end
end MP

set_option Elab.async false
set_option linter.all false
set_option maxRecDepth 100000
set_option maxHeartbeats 4000000
/-! L3: names, some numbers. -/
namespace MP
open PySem L2 PySem.W PyProof.Rows
open Enc EncO
local macro_rules
  | `(tactic| simp! only [$ts,*]) => `(tactic| simp only [MP.R.bind_ok, kk_eq, kk_app, look_z, look_s, setN_z, setN_s, setNs_nil, setNs_cons, setTg_nm, setTg_tp, wipe1_z, wipe1_s, wipeE_nil, wipeE_cons, ifK_t, ifK_f, retK_eq, notK_bl, negK_int, opD_some, mkLd_f, mkLd_t, mkL_f, mkL_t, alloc_eq, opO_some, opE_some, MP.R.of_some, q_kBin2, q_kBin, q_kCmpE, q_kCmp, q_kCmp2b, q_kCmp2dt, q_kCmp2df, q_kCmp2, q_kIx2, q_kIx, q_kSl3, q_kSl2, q_kSl, q_kRev, q_kTup, q_kLst, q_kDct, q_kComp, q_kLs, q_kComp2, q_kDo, q_kDcomp, q_kCall, q_callO, q_kBi, q_kSrt, q_kDicz2, q_kDicz, q_kDicl, q_kDicd, q_kBm2, q_kBm, q_bmTt, q_kIsa, q_kRngv, q_kCons2, q_kCons, q_kAtt, q_attO, q_fldOf, q_kMk2, q_kMk, q_kMth2, q_mthTt, q_mthO, q_kMth, q_kSeq_tup, q_kSeq_lst, q_kSeq_str, q_kSeq_rng, q_kRng2, q_kEnm_tup, q_kEnm_lst, q_kZip2, q_kZip, q_kDic, q_kDicO, seqS_nx, seqS_rt, seqS_bk, seqS_ct, q_kNx, q_kAsg, q_kPar, q_kRt, q_kDrop, q_kUnit, q_kUnitE, q_augP, q_kAug4, q_augV, q_kAug2, q_kAug, q_kFor, q_kSub2, q_kSub, q_kFld, q_kTwo, endR_rt, endR_nx, e_cst, e_bin, e_cmp, e_ix, e_sl, e_tup, e_lst, e_dnewT, e_dnewK, e_comp, e_comp2, e_isa, e_nil, e_cons, e_mk, x_nil, x_asg, x_expr, x_for, x_whl, x_ret, x_retN, x_brk, x_cont, x_pass, a_nm, a_tp, a_sub, a_fld, a_two, permute_none, e_var, e_neg, e_cmp2, e_and, e_or, e_not, e_ite, e_rev, e_dct, e_dcomp, e_call, e_bi, e_srt, e_dicz, e_dicl, e_dicd, e_bm, e_att, e_mth, e_rngv, s_seq, s_rng1, s_rng2, s_enm, s_zip, s_dic, x_cons, x_par, x_aug, x_ife, Option.map_some, Option.bind_some, ty_int_int, ty_int_bool, ty_int_str, ty_int_tup, ty_str_str, ty_str_int, ty_tup_tup, c_lt, c_le, c_gt, c_ge, c_eq, c_ne, c_in, c_notin, b_add, b_sub, Bool.not_true, Bool.not_false, len_tup, len_lst, tuple_lst, tuple_tup, list_tup, list_lst, list_rng, bi_int, bi_max, bi_min, ix_tup, ix_lst, at_0, at_1, at_2, at_3, at_4, decide_true, decide_false, Int.reduceEq, Int.reduceLT, Int.reduceLE, List.length_cons, List.length_nil, Nat.zero_add, Nat.reduceAdd, Int.natCast_zero, Int.cast_ofNat_Int, few_0, few_1, few_2, few_3, few_4, few_5, few_6, few_7, few_8, few_9, few_10, List.cons_append, List.nil_append, $ts,*])
def ltr (c : Nat) : D := .str ⟨#[c]⟩
def sfxs (c : Nat) : List Str := ["", "", "", "a", "zz", ⟨(List.replicate 9 #[c]).foldl (· ++ ·) #[]⟩, "bc"]
theorem sfx_ok {c : Nat} (h : 97 ≤ c ∧ c ≤ 122) : ∀ s ∈ sfxs c, s.cps.size ≤ 9 ∧ ∀ x ∈ s.cps.toList, 97 ≤ x ∧ x ≤ 122 := by
  intro s hs
  unfold sfxs at hs
  have e0 : (("" : Str).cps.toList) = [] := by decide
  have e1 : (("a" : Str).cps.toList) = [97] := by decide
  have e2 : (("zz" : Str).cps.toList) = [122, 122] := by decide
  have e3 : (("bc" : Str).cps.toList) = [98, 99] := by decide
  have e4 : ((List.replicate 9 #[c]).foldl (· ++ ·) #[]).toList = [c, c, c, c, c, c, c, c, c] := by
    simp [List.replicate_succ]
  simp only [List.mem_cons, List.not_mem_nil, or_false] at hs
  rcases hs with rfl | rfl | rfl | rfl | rfl | rfl | rfl
  · rw [← Array.length_toList, e0]; simp
  · rw [← Array.length_toList, e0]; simp
  · rw [← Array.length_toList, e0]; simp
  · rw [← Array.length_toList, e1]; simp
  · rw [← Array.length_toList, e2]; simp
  · show Array.size ((List.replicate 9 #[c]).foldl (· ++ ·) #[]) ≤ 9 ∧ ∀ x ∈ ((List.replicate 9 #[c]).foldl (· ++ ·) #[]).toList, 97 ≤ x ∧ x ≤ 122
    rw [← Array.length_toList, e4]
    simp
    omega
  · rw [← Array.length_toList, e3]; simp
theorem name_ok {c : Nat} (h : 97 ≤ c ∧ c ≤ 122) {s : Str} (hs : s.cps.size ≤ 9 ∧ ∀ x ∈ s.cps.toList, 97 ≤ x ∧ x ≤ 122) : nmB ((⟨#[c]⟩ : Str) ++ s) = true := by
  have e : ((⟨#[c]⟩ : Str) ++ s) = ⟨#[c] ++ s.cps⟩ := rfl
  rw [e]
  unfold nmB
  simp only [Bool.and_eq_true, decide_eq_true_eq, List.all_eq_true, Array.size_append, Array.toList_append]
  refine ⟨⟨?_, ?_⟩, fun x hx => ?_⟩
  · simp
  · have := hs.1; simp; omega
  · rcases List.mem_append.mp hx with q | q
    · simp at q; subst q; exact h
    · exact hs.2 x q
theorem not_mem_erase {α : Type} {l : List α} (h : l.Nodup) {i : Nat} (hi : i < l.length) : l[i] ∉ l.eraseIdx i := by
  intro q
  obtain ⟨j, hj, ne, e⟩ := List.mem_eraseIdx_iff_getElem.mp q
  exact ne ((List.getElem_inj h).mp e)
theorem map_erase {α β : Type} (f : α → β) : ∀ (l : List α) (i : Nat), (l.map f).eraseIdx i = (l.eraseIdx i).map f
  | [], _ => rfl
  | _ :: _, 0 => rfl
  | a :: l, i + 1 => by rw [List.map_cons, List.eraseIdx_cons_succ, map_erase f l i, List.eraseIdx_cons_succ, List.map_cons]
theorem b_mul9 {S : Sto} (c : Nat) : binop .Mult S (ltr c) (.int 9) = some (.str ⟨(List.replicate 9 #[c]).foldl (· ++ ·) #[]⟩) := by
  show (if (⟨#[c]⟩ : Str).length = 1 ∧ (9 : Int) = 9 then some (D.str ⟨(List.replicate 9 #[c]).foldl (· ++ ·) #[]⟩) else none) = _
  rw [if_pos ⟨rfl, rfl⟩]
theorem cat_head {c : Nat} {s : Str} : ((⟨#[c]⟩ : Str) ++ s).cps.toList.head? = some c := by
  show (#[c] ++ s.cps).toList.head? = _
  simp
theorem nodup_of_map {α β : Type} {f : α → β} {l : List α} (h : (l.map f).Nodup) : l.Nodup := by
  unfold List.Nodup at *
  rw [List.pairwise_map] at h
  exact h.imp fun {a b} q e => q (by rw [e])
theorem b_cat {S : Sto} {x y : Str} (h : x.length + y.length ≤ big) : binop .Add S (.str x) (.str y) = some (.str (x ++ y)) := if_pos h
section
variable {c : DeckC} {F : Str → Str → Bool} {T : Str → Option Fn} [GA T] [GD c T] [GB T] {n : Nat}
theorem r_names (o : c.Ok) (k : DK) (b : Nat) (hk : DOk k b) (hb : b < 400000000000) (m : Nat) (hm : m ≤ 26) (r : Sto) :
    sat (run F T (n + 3) "_law_names" [.ref 2, .int (m : Int)] (DS c k r)) fun v S' => ∃ k' g, ∃ fnd : List Nm, v = .ref (r.length + 4) ∧ S' = DS c k' (r ++ [g, .lst (fnd.map enc)]) ∧ DOk k' (b + 2 * m) ∧ fnd.length = m ∧ fnd.Nodup := by
  have e1 : signsOf "abcdefghijklmnopqrstuvwxyz" = ((List.range 26).map (97 + ·)).map ltr := by
    unfold signsOf
    rw [show (("abcdefghijklmnopqrstuvwxyz" : Str).cps.toList) = (List.range 26).map (97 + ·) by decide]
    rfl
  rw [run_eq GB.law_names rfl rfl]; simp! only [F_law_names, List.map_cons, List.map_nil, Nat.sub_self, Nat.reduceSub, Nat.reduceAdd, List.replicate_zero, List.replicate_succ, List.append_nil, List.cons_append, List.nil_append, list_str (S := DS c k r) "abcdefghijklmnopqrstuvwxyz" (by decide), e1, ds_app, ds_len, len_a1, app_2, q_kRng1 (rng_ok (show m ≤ 1000000 by omega)), rangeL_nat]
  refine sat_for (List.range m) (fun d η S => ∃ (ls : List Nat) (fnd : List Nm) (k' : DK) (z1 z2 : Option D), S = DS c k' (r ++ [.lst (ls.map ltr), .lst (fnd.map enc)]) ∧ η = [some (.ref 2), some (.int (m : Int)), some (.ref (r.length + 3)), some (.ref (r.length + 4)), z1, z2] ∧ DOk k' (b + 2 * d.length) ∧ ls.length + d.length = 26 ∧ ls.Nodup ∧ (∀ x ∈ ls, 97 ≤ x ∧ x ≤ 122) ∧ fnd.length = d.length ∧ (∀ f ∈ fnd, ∀ x ∈ ls, f.1.cps.toList.head? ≠ some x) ∧ (fnd.map fun f => f.1.cps.toList.head?).Nodup) ?_ (fun _ _ _ _ => trivial) ?_ ?_
  · refine ⟨(List.range 26).map (97 + ·), [], k, none, none, rfl, rfl, hk.mono (Nat.le_add_right _ _), rfl, by decide, ?_, rfl, (fun f hf => nomatch hf), List.nodup_nil⟩
    intro x hx
    obtain ⟨y, hy, rfl⟩ := List.mem_map.mp hx
    rw [List.mem_range] at hy
    omega
  · rintro d x rr η S hd ⟨ls, fnd, k', z1, z2, rfl, rfl, hk', h1, h2, h3, h4, h5, h6⟩
    have hdl : d.length < m := by
      have := congrArg List.length hd
      rw [List.length_range, List.length_append, List.length_cons] at this
      omega
    refine ⟨_, rfl, ?_⟩
    simp! only [setN_s, setN_z, ty_popAt ds_at0, len_ref ds_at0, List.length_map]
    refine sat_bind (r_draw o k' _ hk' (by omega) ls.length (by omega) (by omega) _) ?_
    rintro v S' ⟨k2, i, rfl, hi, rfl, hk2⟩
    simp! only [bm_popAt ds_at0 (show i < (ls.map ltr).length by rw [List.length_map]; exact hi) (show i < 1000 by omega), ds_set0, List.getElem_map, ty_append ds_at1, b_mul9]
    refine sat_bind (r_pick o k2 _ hk2 (by omega) _ ((sfxs ls[i]).map .str) (.inl rfl) (by simp [sfxs]) (by simp [sfxs]) _) ?_
    rintro v S' ⟨k3, j, hj, rfl, rfl, hk3⟩
    rw [List.length_map] at hj
    have hl := h3 _ (List.getElem_mem hi)
    have hs := sfx_ok hl _ (List.getElem_mem hj)
    have e2 : binop .Add (DS c k3 (r ++ [.lst ((ls.map ltr).eraseIdx i), .lst (fnd.map enc)])) (ltr ls[i]) (.str ((sfxs ls[i])[j])) = some (.str ((⟨#[ls[i]]⟩ : Str) ++ (sfxs ls[i])[j])) := b_cat (by
      rw [big_eq]
      have q : ((sfxs ls[i])[j]).length ≤ 9 := hs.1
      show 1 + _ ≤ _
      omega)
    simp! only [List.getElem_map, e2, bm_append ds_at1 (show (fnd.map (enc : Nm → D)).length < big by rw [List.length_map, big_eq]; omega), ds_set1]
    rw [sat_ok]
    refine ⟨ls.eraseIdx i, fnd ++ [⟨_, name_ok hl hs⟩], k3, _, _, ?_, rfl, hk3.mono ?_, ?_, ?_, ?_, ?_, ?_, ?_⟩
    · rw [map_erase, List.map_append]; rfl
    · rw [List.length_append, List.length_singleton]; omega
    · rw [List.length_eraseIdx_of_lt hi, List.length_append, List.length_singleton]; omega
    · exact List.Nodup.sublist (List.eraseIdx_sublist _ _) h2
    · intro y hy; exact h3 y (List.mem_of_mem_eraseIdx hy)
    · simp [h4]
    · intro f hf y hy
      rcases List.mem_append.mp hf with q | q
      · exact h5 f q y (List.mem_of_mem_eraseIdx hy)
      · rw [List.mem_singleton] at q
        subst q
        intro e
        rw [cat_head] at e
        have e' : ls[i] = y := Option.some.inj e
        subst e'
        exact not_mem_erase h2 hi hy
    · rw [List.map_append, List.nodup_append]
      refine ⟨h6, by simp, fun u hu w hw e => ?_⟩
      obtain ⟨f, hf, rfl⟩ := List.mem_map.mp hu
      simp only [List.map_cons, List.map_nil, List.mem_singleton] at hw
      subst hw
      exact h5 f hf _ (List.getElem_mem hi) (e.trans cat_head)
  · rintro η S ⟨ls, fnd, k', z1, z2, rfl, rfl, hk', h1, h2, h3, h4, h5, h6⟩
    rw [List.length_range] at hk' h4
    simp! only []
    rw [sat_ok]
    refine ⟨k', _, fnd, rfl, rfl, hk', h4, ?_⟩
    exact nodup_of_map h6
theorem min_max (m l w : Nat) : (if (if (w : Int) > (l : Int) then (w : Int) else (l : Int)) < (m : Int) then (if (w : Int) > (l : Int) then (w : Int) else (l : Int)) else (m : Int)) = ((min m (max l w) : Nat) : Int) := by
  split <;> split <;> omega
theorem r_some (o : c.Ok) (k : DK) (b : Nat) (hk : DOk k b) (hb : b < 400000000000) (m : Nat) (hm : m ≤ 50) (hm0 : 0 < m) (l : Nat) (r : Sto) :
    sat (run F T (n + 3) "_law_some" [.ref 2, .int (m : Int), .int (l : Int)] (DS c k r)) fun v S' => ∃ k' g1 g2, ∃ w : List Nat, v = enc w ∧ S' = DS c k' (r ++ [g1, g2]) ∧ DOk k' (b + 60) ∧ Rising w ∧ (∀ x ∈ w, x < m) ∧ min m l ≤ w.length ∧ w.length ≤ m := by
  rw [run_eq GB.law_some rfl rfl]; simp! only [F_law_some, List.map_cons, List.map_nil, Nat.sub_self, Nat.reduceSub, Nat.reduceAdd, List.replicate_zero, List.replicate_succ, List.append_nil, List.cons_append, List.nil_append, ds_app, ds_len, len_a1, app_2, q_kRngv2 (rng_ok (show m ≤ 1000000 by omega)), rangeL_nat]
  refine sat_bind (r_pickM (enc : Nat → D) [2, 2, 3, 2, 2, 3, 1, m] o k b hk (by omega) _ (.inl rfl) (by simp) (by simp) _) ?_
  rintro v S' ⟨k1, w, _, rfl, rfl, hk1⟩
  have ht : min m (max l w) ≤ 50 := by omega
  generalize e1 : min m (max l w) = t at ht
  simp! only [enc_nat, min_max, e1, q_kRng1 (rng_ok (show t ≤ 1000000 by omega)), rangeL_nat]
  refine sat_for (List.range t) (fun d η S => ∃ (ls fnd : List Nat) (k' : DK) (z : Option D), S = DS c k' (r ++ [.lst (ls.map enc), .lst (fnd.map enc)]) ∧ η = [some (.ref 2), some (.int (m : Int)), some (.int (l : Int)), some (.ref (r.length + 3)), some (.ref (r.length + 4)), z] ∧ DOk k' (b + 1 + d.length) ∧ ls.length + d.length = m ∧ fnd.length = d.length ∧ (ls ++ fnd).Nodup ∧ (∀ x ∈ ls ++ fnd, x < m)) ?_ (fun _ _ _ _ => trivial) ?_ ?_
  · refine ⟨List.range m, [], k1, none, rfl, rfl, hk1, by simp, rfl, by simp [List.nodup_range], by simp⟩
  · rintro d x rr η S hd ⟨ls, fnd, k', z, rfl, rfl, hk', h1, h2, h3, h4⟩
    have hdl : d.length < t := by
      have := congrArg List.length hd
      rw [List.length_range, List.length_append, List.length_cons] at this
      omega
    refine ⟨_, rfl, ?_⟩
    simp! only [setN_s, setN_z, ty_append ds_at1, ty_popAt ds_at0, len_ref ds_at0, List.length_map]
    refine sat_bind (r_draw o k' _ hk' (by omega) ls.length (by omega) (by omega) _) ?_
    rintro v S' ⟨k2, i, rfl, hi, rfl, hk2⟩
    simp! only [bm_popAt ds_at0 (show i < (ls.map (enc : Nat → D)).length by rw [List.length_map]; exact hi) (show i < 1000 by omega), ds_set0, List.getElem_map, bm_append ds_at1 (show (fnd.map (enc : Nat → D)).length < big by rw [List.length_map, big_eq]; omega), ds_set1]
    rw [sat_ok]
    refine ⟨ls.eraseIdx i, fnd ++ [ls[i]], k2, _, ?_, rfl, hk2.mono ?_, ?_, ?_, ?_, ?_⟩
    · rw [map_erase, List.map_append]; rfl
    · rw [List.length_append, List.length_singleton]; omega
    · rw [List.length_eraseIdx_of_lt hi, List.length_append, List.length_singleton]; omega
    · simp [h2]
    · rw [List.nodup_append] at h3 ⊢
      refine ⟨List.Nodup.sublist (List.eraseIdx_sublist _ _) h3.1, ?_, ?_⟩
      · rw [List.nodup_append]
        refine ⟨h3.2.1, by simp, fun u hu w hw e => ?_⟩
        rw [List.mem_singleton] at hw
        exact h3.2.2 ls[i] (List.getElem_mem hi) u hu (by rw [e, hw])
      · intro u hu w hw e
        rcases List.mem_append.mp hw with q | q
        · exact h3.2.2 u (List.mem_of_mem_eraseIdx hu) w q e
        · rw [List.mem_singleton] at q
          exact not_mem_erase h3.1 hi (by rw [← q, ← e]; exact hu)
    · intro y hy
      refine h4 y ?_
      rcases List.mem_append.mp hy with q | q
      · exact List.mem_append_left _ (List.mem_of_mem_eraseIdx q)
      · rcases List.mem_append.mp q with q | q
        · exact List.mem_append_right _ q
        · rw [List.mem_singleton] at q
          rw [q]; exact List.mem_append_left _ (List.getElem_mem hi)
  · rintro η S ⟨ls, fnd, k', z, rfl, rfl, hk', h1, h2, h3, h4⟩
    rw [List.length_range] at hk' h2
    simp! only [sorted_ref (α := Nat) (by decide) (show fnd.length ≤ big by rw [big_eq]; omega) ds_at1]
    rw [sat_ok]
    rw [List.nodup_append] at h3
    refine ⟨k', _, _, srt fnd, rfl, rfl, hk'.mono (by omega), srt_rising h3.2.1, fun x hx => h4 x (List.mem_append_right _ (mem_srt.mp hx)), ?_, ?_⟩
    · rw [srt_length]; omega
    · rw [srt_length]; omega
end
end MP

set_option Elab.async false
set_option linter.all false
set_option maxRecDepth 100000
set_option maxHeartbeats 4000000
/-! L4: drawn placements: any. -/
namespace MP
open PySem L2 PySem.W PyProof.Rows
open Enc EncO
local macro_rules
  | `(tactic| simp! only [$ts,*]) => `(tactic| simp only [MP.R.bind_ok, kk_eq, kk_app, look_z, look_s, setN_z, setN_s, setNs_nil, setNs_cons, setTg_nm, setTg_tp, wipe1_z, wipe1_s, wipeE_nil, wipeE_cons, ifK_t, ifK_f, retK_eq, notK_bl, negK_int, opD_some, mkLd_f, mkLd_t, mkL_f, mkL_t, alloc_eq, opO_some, opE_some, MP.R.of_some, q_kBin2, q_kBin, q_kCmpE, q_kCmp, q_kCmp2b, q_kCmp2dt, q_kCmp2df, q_kCmp2, q_kIx2, q_kIx, q_kSl3, q_kSl2, q_kSl, q_kRev, q_kTup, q_kLst, q_kDct, q_kComp, q_kLs, q_kComp2, q_kDo, q_kDcomp, q_kCall, q_callO, q_kBi, q_kSrt, q_kDicz2, q_kDicz, q_kDicl, q_kDicd, q_kBm2, q_kBm, q_bmTt, q_kIsa, q_kRngv, q_kCons2, q_kCons, q_kAtt, q_attO, q_fldOf, q_kMk2, q_kMk, q_kMth2, q_mthTt, q_mthO, q_kMth, q_kSeq_tup, q_kSeq_lst, q_kSeq_str, q_kSeq_rng, q_kRng2, q_kEnm_tup, q_kEnm_lst, q_kZip2, q_kZip, q_kDic, q_kDicO, seqS_nx, seqS_rt, seqS_bk, seqS_ct, q_kNx, q_kAsg, q_kPar, q_kRt, q_kDrop, q_kUnit, q_kUnitE, q_augP, q_kAug4, q_augV, q_kAug2, q_kAug, q_kFor, q_kSub2, q_kSub, q_kFld, q_kTwo, endR_rt, endR_nx, e_cst, e_bin, e_cmp, e_ix, e_sl, e_tup, e_lst, e_dnewT, e_dnewK, e_comp, e_comp2, e_isa, e_nil, e_cons, e_mk, x_nil, x_asg, x_expr, x_for, x_whl, x_ret, x_retN, x_brk, x_cont, x_pass, a_nm, a_tp, a_sub, a_fld, a_two, permute_none, e_var, e_neg, e_cmp2, e_and, e_or, e_not, e_ite, e_rev, e_dct, e_dcomp, e_call, e_bi, e_srt, e_dicz, e_dicl, e_dicd, e_bm, e_att, e_mth, e_rngv, s_seq, s_rng1, s_rng2, s_enm, s_zip, s_dic, x_cons, x_par, x_aug, x_ife, Option.map_some, Option.bind_some, ty_int_int, ty_int_bool, ty_int_str, ty_int_tup, ty_str_str, ty_str_int, ty_tup_tup, c_lt, c_le, c_gt, c_ge, c_eq, c_ne, c_in, c_notin, b_add, b_sub, Bool.not_true, Bool.not_false, len_tup, len_lst, tuple_lst, tuple_tup, list_tup, list_lst, list_rng, bi_int, bi_max, bi_min, ix_tup, ix_lst, at_0, at_1, at_2, at_3, at_4, decide_true, decide_false, Int.reduceEq, Int.reduceLT, Int.reduceLE, List.length_cons, List.length_nil, Nat.zero_add, Nat.reduceAdd, Int.natCast_zero, Int.cast_ofNat_Int, few_0, few_1, few_2, few_3, few_4, few_5, few_6, few_7, few_8, few_9, few_10, List.cons_append, List.nil_append, $ts,*])
/-- the lists of what sites keep, in the store -/
def rowsOb (n : Nat) (rows : Nat → List Nm) : Sto := (List.range n).map fun s => Ob.lst ((rows s).map enc)
theorem rowsOb_length (n : Nat) (rows : Nat → List Nm) : (rowsOb n rows).length = n := by unfold rowsOb; rw [List.length_map, List.length_range]
theorem rowsOb_congr {n : Nat} {f g : Nat → List Nm} (h : ∀ s < n, f s = g s) : rowsOb n f = rowsOb n g := List.map_congr_left fun s hs => by rw [h s (List.mem_range.mp hs)]
def keptD (a n : Nat) : D := .lst ((List.range n).map fun s => .ref (a + s))
section
variable {c : DeckC} {k : DK} {r t : Sto} {n : Nat} {rows : Nat → List Nm} {g o : Ob}
theorem rw_get {s : Nat} (hs : s < n) : (rowsOb n rows ++ t)[s]? = some (.lst ((rows s).map enc)) := by
  rw [List.getElem?_append_left (by rw [rowsOb_length]; exact hs)]
  unfold rowsOb
  rw [List.getElem?_map, List.getElem?_range hs]
  rfl
theorem rw_at {s : Nat} (hs : s < n) : (DS c k (r ++ (rowsOb n rows ++ t)))[r.length + 3 + s]? = some (.lst ((rows s).map enc)) := by
  have e : (DS c k (r ++ (rowsOb n rows ++ t)))[r.length + 3 + s]? = (r ++ (rowsOb n rows ++ t))[r.length + s]? := by
    rw [show r.length + 3 + s = r.length + s + 3 by omega]; rfl
  rw [e, List.getElem?_append_right (by omega), show r.length + s - r.length = s by omega]
  exact rw_get hs
theorem rw_set {s : Nat} (hs : s < n) (l : List Nm) : (DS c k (r ++ (rowsOb n rows ++ t))).set (r.length + 3 + s) (.lst (l.map enc)) = DS c k (r ++ (rowsOb n (fun j => if j = s then l else rows j) ++ t)) := by
  have e : (DS c k (r ++ (rowsOb n rows ++ t))).set (r.length + 3 + s) (.lst (l.map enc)) = DS c k ((r ++ (rowsOb n rows ++ t)).set (r.length + s) (.lst (l.map enc))) := by
    rw [show r.length + 3 + s = r.length + s + 3 by omega]; rfl
  rw [e, List.set_append_right _ _ (by omega), show r.length + s - r.length = s by omega, List.set_append_left _ _ (by rw [rowsOb_length]; exact hs)]
  congr 3
  refine List.ext_getElem? fun i => ?_
  rw [List.getElem?_set]
  by_cases hi : i < n
  · have e1 : ∀ f : Nat → List Nm, (rowsOb n f)[i]? = some (.lst ((f i).map enc)) := fun f => by
      have := rw_get (t := []) (rows := f) hi
      rw [List.append_nil] at this
      exact this
    rw [e1, e1]
    by_cases q : s = i
    · subst q
      rw [if_pos rfl, if_pos (by rw [rowsOb_length]; exact hs), if_pos rfl]
    · rw [if_neg q, if_neg (fun z => q z.symm)]
  · rw [if_neg (by omega), List.getElem?_eq_none (by rw [rowsOb_length]; omega), List.getElem?_eq_none (by rw [rowsOb_length]; omega)]
theorem nm_at : (DS c k (r ++ (rowsOb n rows ++ g :: o :: t)))[r.length + n + 4]? = some o := by
  show (r ++ (rowsOb n rows ++ g :: o :: t))[r.length + n + 1]? = _
  rw [List.getElem?_append_right (by omega), List.getElem?_append_right (by rw [rowsOb_length]; omega), rowsOb_length, show r.length + n + 1 - r.length - n = 1 by omega]
  rfl
theorem kept_ix {S : Sto} {a s : Nat} (hs : s < n) : index S (keptD a n) (.int (s : Int)) = some (.ref (a + s)) := by
  unfold keptD
  rw [ix_lst, atI_nat (by rw [List.length_map, List.length_range]; exact hs), List.getElem_map, List.getElem_range]
end
/-- one more empty list -/
theorem kept_step {c : DeckC} {k : DK} {r : Sto} {α : Type} {d : List α} {x : α} : (List.range d.length).map (fun s => D.ref (r.length + 3 + s)) ++ [.ref (DS c k (r ++ (rowsOb d.length (fun _ => []) ++ []))).length] = (List.range (d ++ [x]).length).map (fun s => D.ref (r.length + 3 + s)) ∧
    DS c k (r ++ (rowsOb d.length (fun _ => []) ++ [])) ++ [.lst []] = DS c k (r ++ (rowsOb (d ++ [x]).length (fun _ => []) ++ [])) := by
  have e1 : (DS c k (r ++ (rowsOb d.length (fun _ => []) ++ []))).length = r.length + 3 + d.length := by
    rw [ds_len, List.append_nil, List.length_append, rowsOb_length]; omega
  refine ⟨?_, ?_⟩
  · rw [e1, List.length_append, List.length_singleton, List.range_succ, List.map_append]
    rfl
  · rw [ds_app, List.length_append, List.length_singleton]
    congr 1
    rw [List.append_nil, List.append_nil, List.append_assoc]
    congr 1
    unfold rowsOb
    rw [List.range_succ, List.map_append]
    rfl
/-- what is drawn: sites, clients, and someone keeps something -/
structure Drawn (p : Pl) (n : Nat) (m : Nat) : Prop where
  v : ValidPl p
  sites : p.1.length = n
  clients : p.2.length = m
  some : ∃ s, keeps p s ≠ []
section
variable {c : DeckC} {F : Str → Str → Bool} {T : Str → Option Fn} [GA T] [GD c T] [GB T] [GB3 T] {n : Nat}
theorem r_placement (o : c.Ok) (k : DK) (b : Nat) (hk : DOk k b) (hb : b < 300000000000) (si cl re : Nat) (h1 : 2 ≤ si ∧ si ≤ 5) (h2 : cl ≤ 3) (h3 : 1 ≤ re ∧ re ≤ 8) (r : Sto) :
    sat (run F T (n + 4) "_law_placement" [.ref 2, .int (si : Int), .int (cl : Int), .int (re : Int)] (DS c k r)) fun v S' => ∃ k' g, ∃ p : Pl, v = enc p ∧ S' = DS c k' (r ++ g) ∧ DOk k' (b + 1000) ∧ Drawn p si cl := by
  rw [run_eq GB3.law_placement rfl rfl]; simp! only [F_law_placement, List.map_cons, List.map_nil, Nat.sub_self, Nat.reduceSub, Nat.reduceAdd, List.replicate_zero, List.replicate_succ, List.append_nil, List.cons_append, List.nil_append, q_kRng1 (rng_ok (show si ≤ 1000000 by omega)), rangeL_nat]
  refine sat_comp (List.range si) (by rw [List.length_range, big_eq]; omega) (fun d acc S => acc = (List.range d.length).map (fun s => D.ref (r.length + 3 + s)) ∧ S = DS c k (r ++ (rowsOb d.length (fun _ => []) ++ []))) ⟨rfl, by simp [rowsOb]⟩ (fun _ _ _ _ => trivial) ?_ ?_
  · rintro d x rr acc S hd ⟨rfl, rfl⟩
    refine ⟨_, rfl, ?_⟩
    simp! only [setN_s, setN_z]
    rw [sat_ok]
    refine ⟨true, rfl, fun _ => ?_, fun h => nomatch h⟩
    rw [sat_ok]
    exact kept_step
  · rintro acc S ⟨rfl, rfl⟩
    rw [List.length_range, List.append_nil]
    simp! only []
    refine sat_bind (r_names o k b hk (by omega) re (by omega) _) ?_
    rintro v S' ⟨k1, g, nms, rfl, rfl, hk1, hl, hn⟩
    have e1 : (r ++ rowsOb si fun _ => []).length + 4 = r.length + si + 4 := by rw [List.length_append, rowsOb_length]
    have e2 : (r ++ rowsOb si fun _ => []) ++ [g, .lst (nms.map enc)] = r ++ (rowsOb si (fun _ => []) ++ g :: .lst (nms.map enc) :: []) := by rw [List.append_assoc]
    rw [e1, e2]
    have e3 : D.lst ((List.range si).map fun s => .ref (r.length + 3 + s)) = keptD (r.length + 3) si := rfl
    simp! only [e3, kSeq_ref nm_at]
    refine sat_for nms (fun d η S => ∃ (k' : DK) (rows : Nat → List Nm) (t : Sto) (z1 z2 : Option D), S = DS c k' (r ++ (rowsOb si rows ++ g :: .lst (nms.map enc) :: t)) ∧ η = [some (.ref 2), some (.int (si : Int)), some (.int (cl : Int)), some (.int (re : Int)), some (keptD (r.length + 3) si), some (.ref (r.length + si + 4)), z1, z2, none, none, none] ∧ DOk k' (b + 2 * re + 60 * d.length) ∧ (∀ s, (rows s).Nodup ∧ ∀ x ∈ rows s, x ∈ d) ∧ (d ≠ [] → ∃ s < si, rows s ≠ [])) ?_ ?_ ?_ ?_
    · exact ⟨k1, fun _ => [], [], none, none, rfl, rfl, hk1, fun s => ⟨List.nodup_nil, fun x hx => nomatch hx⟩, fun h => absurd rfl h⟩
    · rintro d η S ⟨k', rows, t, z1, z2, rfl, rfl, _⟩
      exact nm_at
    · rintro d x rr η S hd ⟨k', rows, t, z1, z2, rfl, rfl, hk', hr, hne⟩
      have hdl : d.length < re := by
        have := congrArg List.length hd
        rw [hl, List.length_append, List.length_cons] at this
        omega
      have hxd : x ∉ d := by
        rw [hd, List.nodup_append] at hn
        exact fun q => hn.2.2 x q x List.mem_cons_self rfl
      refine ⟨_, rfl, ?_⟩
      simp! only [setN_s, setN_z]
      refine sat_bind (r_some o k' _ hk' (by omega) si (by omega) (by omega) 1 _) ?_
      rintro v S' ⟨k2, g1, g2, w, rfl, rfl, hk2, hw, hwl, hw1, hw2⟩
      have e5 : r ++ (rowsOb si rows ++ g :: .lst (nms.map enc) :: t) ++ [g1, g2] = r ++ (rowsOb si rows ++ g :: .lst (nms.map enc) :: (t ++ [g1, g2])) := by simp
      rw [e5]
      simp! only [enc_list w]
      refine sat_for w (fun e η S => ∃ (rows' : Nat → List Nm) (z2 : Option D), S = DS c k2 (r ++ (rowsOb si rows' ++ g :: .lst (nms.map enc) :: (t ++ [g1, g2]))) ∧ η = [some (.ref 2), some (.int (si : Int)), some (.int (cl : Int)), some (.int (re : Int)), some (keptD (r.length + 3) si), some (.ref (r.length + si + 4)), some (enc x), z2, none, none, none] ∧ ∀ s, rows' s = if s ∈ e then rows s ++ [x] else rows s) ?_ (fun _ _ _ _ => trivial) ?_ ?_
      · exact ⟨rows, z2, rfl, rfl, fun s => rfl⟩
      · rintro e s rr2 η S he ⟨rows', z2, rfl, rfl, hq⟩
        have hs : s < si := hwl s (by rw [he]; simp)
        have hse : s ∉ e := by
          have := hw.nodup
          rw [he, List.nodup_append] at this
          exact fun q => this.2.2 s q s List.mem_cons_self rfl
        refine ⟨_, rfl, ?_⟩
        have hlen : (rows' s).length ≤ re := by
          rw [hq s, if_neg hse]
          have h1 := (hr s).1.length_le_of_subset (hr s).2
          omega
        simp! only [setN_s, setN_z, enc_nat, kept_ix hs, ty_append (rw_at hs), bm_append (rw_at hs) (show ((rows' s).map (enc : Nm → D)).length < big by rw [List.length_map, big_eq]; omega)]
        rw [sat_ok]
        have e6 : (rows' s).map enc ++ [enc x] = (rows' s ++ [x]).map (enc : Nm → D) := by simp
        rw [e6, rw_set hs]
        refine ⟨_, _, rfl, rfl, fun j => ?_⟩
        by_cases q : j = s
        · subst q
          rw [if_pos rfl, if_pos (by simp), hq j, if_neg hse]
        · rw [if_neg q, hq j]
          simp [q]
      · rintro η S ⟨rows', z2, rfl, rfl, hq⟩
        simp! only []
        rw [sat_ok]
        refine ⟨k2, rows', _, _, _, rfl, rfl, hk2.mono ?_, fun s => ?_, fun _ => ?_⟩
        · rw [List.length_append, List.length_singleton]; omega
        · rw [hq s]
          split
          · refine ⟨?_, fun y hy => ?_⟩
            · rw [List.nodup_append]
              refine ⟨(hr s).1, by simp, fun u hu v hv e => ?_⟩
              rw [List.mem_singleton] at hv
              exact hxd (by rw [← hv, ← e]; exact (hr s).2 u hu)
            · rcases List.mem_append.mp hy with q | q
              · exact List.mem_append_left _ ((hr s).2 y q)
              · exact List.mem_append_right _ q
          · exact ⟨(hr s).1, fun y hy => List.mem_append_left _ ((hr s).2 y hy)⟩
        · have : w ≠ [] := fun q => by rw [q] at hw1; simp at hw1; omega
          obtain ⟨s, hs⟩ := List.exists_mem_of_ne_nil w this
          exact ⟨s, hwl s hs, by rw [hq s, if_pos hs]; simp⟩
    · rintro η S ⟨k', rows, t, z1, z2, rfl, rfl, hk', hr, hne⟩
      rw [hl] at hk'
      simp! only [q_kRng1 (rng_ok (show cl ≤ 1000000 by omega)), rangeL_nat]
      refine sat_comp (List.range cl) (by rw [List.length_range, big_eq]; omega) (fun d acc S => ∃ (vs : List (List Nat)) (k2 : DK) (t2 : Sto), acc = vs.map enc ∧ vs.length = d.length ∧ S = DS c k2 (r ++ (rowsOb si rows ++ g :: .lst (nms.map enc) :: t2)) ∧ DOk k2 (b + 2 * re + 60 * re + 60 * d.length) ∧ ∀ u ∈ vs, 2 ≤ u.length ∧ Rising u ∧ (∀ x ∈ u, x < si) ∧ u.length ≤ si) ⟨[], k', t, rfl, rfl, rfl, hk', fun u hu => nomatch hu⟩ (fun _ _ _ _ => trivial) ?_ ?_
      · rintro d x rr acc S hd ⟨vs, k2, t2, rfl, hv, rfl, hk2, hu⟩
        have hdl : d.length < cl := by
          have := congrArg List.length hd
          rw [List.length_range, List.length_append, List.length_cons] at this
          omega
        refine ⟨_, rfl, ?_⟩
        simp! only [setN_s, setN_z]
        rw [sat_ok]
        refine ⟨true, rfl, fun _ => ?_, fun h => nomatch h⟩
        refine sat_mono (r_some o k2 _ hk2 (by omega) si (by omega) (by omega) 2 _) ?_
        rintro v S' ⟨k3, g1, g2, w, rfl, rfl, hk3, hw, hwl, hw1, hw2⟩
        have e5 : r ++ (rowsOb si rows ++ g :: .lst (nms.map enc) :: t2) ++ [g1, g2] = r ++ (rowsOb si rows ++ g :: .lst (nms.map enc) :: (t2 ++ [g1, g2])) := by simp
        rw [e5]
        refine ⟨vs ++ [w], k3, _, by simp, by simp [hv], rfl, hk3.mono ?_, fun u hu' => ?_⟩
        · rw [List.length_append, List.length_singleton]; omega
        · rcases List.mem_append.mp hu' with q | q
          · exact hu u q
          · rw [List.mem_singleton] at q
            subst q
            exact ⟨by omega, hw, hwl, hw2⟩
      · rintro acc S ⟨vs, k2, t2, rfl, hv, rfl, hk2, hu⟩
        rw [List.length_range] at hv hk2
        have hrl : ∀ s, (rows s).length ≤ re := fun s => by
          have h1 := (hr s).1.length_le_of_subset (hr s).2
          omega
        simp! only [keptD]
        rw [comp_map (fun s => enc (srt (rows s))) ok_none]
        · simp! only []
          rw [sat_ok]
          refine ⟨k2, _, ((List.range si).map fun s => srt (rows s), vs), ?_, rfl, hk2.mono (by omega), ?_⟩
          · rw [enc_mk, enc_list, enc_list, List.map_map]
            rfl
          · refine ⟨⟨?_, ?_, ⟨?_, ?_⟩, ?_, ?_⟩, ?_, hv, ?_⟩
            · intro rs hrs
              obtain ⟨s, _, rfl⟩ := List.mem_map.mp hrs
              exact srt_rising (hr s).1
            · intro u hu'
              obtain ⟨q1, q2, q3, q4⟩ := hu u hu'
              refine ⟨q1, q2, fun x hx => ?_⟩
              rw [List.length_map, List.length_range]
              exact q3 x hx
            · rw [List.length_map, List.length_range]; omega
            · rw [hv]; omega
            · intro rs hrs
              obtain ⟨s, _, rfl⟩ := List.mem_map.mp hrs
              rw [srt_length]
              have := hrl s
              omega
            · intro u hu'
              have := (hu u hu').2.2.2
              omega
            · rw [List.length_map, List.length_range]
            · obtain ⟨s, hs, hne'⟩ := hne (fun q => by rw [q] at hl; simp at hl; omega)
              refine ⟨s, fun q => hne' ?_⟩
              unfold keeps at q
              rw [List.getD_eq_getElem?_getD, List.getElem?_map, List.getElem?_range hs] at q
              have q : srt (rows s) = [] := q
              have := srt_length (rows s)
              rw [q] at this
              exact List.length_eq_zero_iff.mp this.symm
        · intro s hs
          rw [List.mem_range] at hs
          refine ⟨_, rfl, rfl, ?_⟩
          simp! only [setN_s, setN_z, sorted_ref (α := Nm) (by decide) (show (rows s).length ≤ big by have := hrl s; rw [big_eq]; omega) (rw_at hs)]
          rfl
        · rw [List.length_range, big_eq]; omega
end
end MP

set_option Elab.async false
set_option linter.all false
set_option maxRecDepth 100000
set_option maxHeartbeats 4000000
/-! L5: drawn placements: trees, rings. -/
namespace MP
open PySem L2 PySem.W PyProof.Rows
open Enc EncO
local macro_rules
  | `(tactic| simp! only [$ts,*]) => `(tactic| simp only [MP.R.bind_ok, kk_eq, kk_app, look_z, look_s, setN_z, setN_s, setNs_nil, setNs_cons, setTg_nm, setTg_tp, wipe1_z, wipe1_s, wipeE_nil, wipeE_cons, ifK_t, ifK_f, retK_eq, notK_bl, negK_int, opD_some, mkLd_f, mkLd_t, mkL_f, mkL_t, alloc_eq, opO_some, opE_some, MP.R.of_some, q_kBin2, q_kBin, q_kCmpE, q_kCmp, q_kCmp2b, q_kCmp2dt, q_kCmp2df, q_kCmp2, q_kIx2, q_kIx, q_kSl3, q_kSl2, q_kSl, q_kRev, q_kTup, q_kLst, q_kDct, q_kComp, q_kLs, q_kComp2, q_kDo, q_kDcomp, q_kCall, q_callO, q_kBi, q_kSrt, q_kDicz2, q_kDicz, q_kDicl, q_kDicd, q_kBm2, q_kBm, q_bmTt, q_kIsa, q_kRngv, q_kCons2, q_kCons, q_kAtt, q_attO, q_fldOf, q_kMk2, q_kMk, q_kMth2, q_mthTt, q_mthO, q_kMth, q_kSeq_tup, q_kSeq_lst, q_kSeq_str, q_kSeq_rng, q_kRng2, q_kEnm_tup, q_kEnm_lst, q_kZip2, q_kZip, q_kDic, q_kDicO, seqS_nx, seqS_rt, seqS_bk, seqS_ct, q_kNx, q_kAsg, q_kPar, q_kRt, q_kDrop, q_kUnit, q_kUnitE, q_augP, q_kAug4, q_augV, q_kAug2, q_kAug, q_kFor, q_kSub2, q_kSub, q_kFld, q_kTwo, endR_rt, endR_nx, e_cst, e_bin, e_cmp, e_ix, e_sl, e_tup, e_lst, e_dnewT, e_dnewK, e_comp, e_comp2, e_isa, e_nil, e_cons, e_mk, x_nil, x_asg, x_expr, x_for, x_whl, x_ret, x_retN, x_brk, x_cont, x_pass, a_nm, a_tp, a_sub, a_fld, a_two, permute_none, e_var, e_neg, e_cmp2, e_and, e_or, e_not, e_ite, e_rev, e_dct, e_dcomp, e_call, e_bi, e_srt, e_dicz, e_dicl, e_dicd, e_bm, e_att, e_mth, e_rngv, s_seq, s_rng1, s_rng2, s_enm, s_zip, s_dic, x_cons, x_par, x_aug, x_ife, Option.map_some, Option.bind_some, ty_int_int, ty_int_bool, ty_int_str, ty_int_tup, ty_str_str, ty_str_int, ty_tup_tup, c_lt, c_le, c_gt, c_ge, c_eq, c_ne, c_in, c_notin, b_add, b_sub, Bool.not_true, Bool.not_false, len_tup, len_lst, tuple_lst, tuple_tup, list_tup, list_lst, list_rng, bi_int, bi_max, bi_min, ix_tup, ix_lst, at_0, at_1, at_2, at_3, at_4, decide_true, decide_false, Int.reduceEq, Int.reduceLT, Int.reduceLE, List.length_cons, List.length_nil, Nat.zero_add, Nat.reduceAdd, Int.natCast_zero, Int.cast_ofNat_Int, few_0, few_1, few_2, few_3, few_4, few_5, few_6, few_7, few_8, few_9, few_10, List.cons_append, List.nil_append, $ts,*])
theorem eraseDups_nodup {α : Type} [BEq α] [LawfulBEq α] : ∀ (n : Nat) (l : List α), l.length ≤ n → l.eraseDups.Nodup
  | _, [], _ => by rw [List.eraseDups_nil]; exact List.nodup_nil
  | 0, _ :: _, h => absurd h (by simp)
  | n + 1, a :: l, h => by
    rw [List.eraseDups_cons, List.nodup_cons]
    refine ⟨fun q => ?_, eraseDups_nodup n _ ?_⟩
    · rw [List.mem_eraseDups, List.mem_filter] at q
      simp at q
    · have := List.length_filter_le (fun b => !b == a) l
      rw [List.length_cons] at h
      omega
theorem str_ext {a b : Str} (h : a.cps.toList = b.cps.toList) : a = b := by
  cases a; cases b
  rw [Array.toList_inj] at h
  simp only at h
  rw [h]
/-- the texts of a row, sorted, once each -/
def setR (l : List Nm) : List Str := (l.map (·.1)).eraseDups.mergeSort leS
theorem mem_setR {l : List Nm} {s : Str} : s ∈ setR l ↔ ∃ x ∈ l, x.1 = s := by
  unfold setR
  rw [(List.mergeSort_perm _ leS).mem_iff, List.mem_eraseDups, List.mem_map]
theorem setR_ok (l : List Nm) : ∀ s ∈ setR l, nmB s = true := fun s hs => by
  obtain ⟨x, _, rfl⟩ := mem_setR.mp hs
  exact x.2
def setS (l : List Nm) : List Nm := (setR l).pmap (fun s h => ⟨s, h⟩) (setR_ok l)
theorem mem_setS {l : List Nm} {x : Nm} : x ∈ setS l ↔ x ∈ l := by
  unfold setS
  rw [List.mem_pmap]
  constructor
  · rintro ⟨s, hs, rfl⟩
    obtain ⟨y, hy, e⟩ := mem_setR.mp hs
    have : y = ⟨s, setR_ok l s hs⟩ := Subtype.ext e
    rw [← this]; exact hy
  · intro hx
    exact ⟨x.1, mem_setR.mpr ⟨x, hx, rfl⟩, rfl⟩
theorem setS_rising (l : List Nm) : Rising (setS l) := by
  unfold Rising setS
  rw [List.pairwise_pmap]
  have s1 : (setR l).Pairwise (fun a b => leS a b = true) := List.pairwise_mergeSort (fun a b c h1 h2 => by
    unfold leS at *
    exact decide_eq_true (List.le_trans (of_decide_eq_true h1) (of_decide_eq_true h2))) (fun a b => by
    unfold leS
    rw [Bool.or_eq_true, decide_eq_true_iff, decide_eq_true_iff]
    exact List.le_total _ _) _
  have s2 : (setR l).Nodup := (List.mergeSort_perm _ leS).nodup_iff.mpr (eraseDups_nodup _ _ (Nat.le_refl _))
  refine (s1.and s2).imp fun {a b} ⟨e, ne⟩ ha hb => ?_
  rw [lt_nm, decide_eq_true_iff]
  have e := of_decide_eq_true e
  by_cases q : a.cps.toList < b.cps.toList
  · exact q
  · exact absurd (str_ext (List.le_antisymm e (List.not_lt.mp q))) ne
theorem setS_length (l : List Nm) : (setS l).length ≤ l.length := (setS_rising l).nodup.length_le_of_subset fun x hx => mem_setS.mp hx
theorem sortSet_ref {S : Sto} {a : Nat} {l : List Nm} (h : S[a]? = some (.lst (l.map enc))) (hl : l.length < 64) : sortSet S (.ref a) = some (.lst ((setS l).map enc)) := by
  unfold sortSet lstOf
  simp only [h, Option.bind_some]
  rw [optMap_map (h := strOf) (f := (enc : Nm → D)) (g := (·.1)) fun _ _ => rfl]
  simp only [Option.bind_some]
  rw [if_pos (by rw [List.length_map]; exact hl)]
  congr 2
  unfold setS
  rw [List.map_pmap]
  have : ((setR l).pmap (fun a h => (enc (⟨a, h⟩ : Nm) : D)) (setR_ok l)) = (setR l).map D.str := by
    rw [← List.pmap_eq_map (p := fun s => nmB s = true) (setR_ok l)]
    rfl
  exact this.symm
theorem rangeL_1 (k : Nat) : rangeL 1 (k : Int) = (List.range' 1 (k - 1)).map fun i : Nat => D.int (i : Int) := rangeL_from 1 k
theorem rng_ok1 {k : Nat} (h : k ≤ 1000000) : rngOk 1 (k : Int) := ⟨by omega, by omega, by omega, by omega⟩
section
variable {c : DeckC} {F : Str → Str → Bool} {T : Str → Option Fn} [GA T] [GD c T] [GB T] [GB3 T] {n : Nat}
/-- a row gets a name -/
def addR (rows : Nat → List Nm) (s : Nat) (x : Nm) : Nat → List Nm := fun j => if j = s then rows s ++ [x] else rows j
theorem bm_row {k : DK} {r t : Sto} {m s : Nat} {rows : Nat → List Nm} {x : Nm} (hs : s < m) (hl : (rows s).length ≤ 1000) : bmop .append (DS c k (r ++ (rowsOb m rows ++ t))) (.ref (r.length + 3 + s)) [enc x] = .ok .non (DS c k (r ++ (rowsOb m (addR rows s x) ++ t))) := by
  rw [bm_append (rw_at hs) (by rw [List.length_map, big_eq]; omega)]
  have e6 : (rows s).map enc ++ [enc x] = (rows s ++ [x]).map (enc : Nm → D) := by simp
  rw [e6, rw_set hs]
  rfl
theorem nm_ix {k : DK} {r t : Sto} {m s : Nat} {rows : Nat → List Nm} {g : Ob} {nms : List Nm} (hs : s < nms.length) : index (DS c k (r ++ (rowsOb m rows ++ g :: .lst (nms.map enc) :: t))) (.ref (r.length + m + 4)) (.int (s : Int)) = some (enc nms[s]) := by
  rw [ix_ref _ nm_at, atI_enc hs]
theorem r_tree (o : c.Ok) (k : DK) (b : Nat) (hk : DOk k b) (hb : b < 300000000000) (si : Nat) (h1 : 2 ≤ si ∧ si ≤ 5) (r : Sto) :
    sat (run F T (n + 4) "_law_tree" [.ref 2, .int (si : Int)] (DS c k r)) fun v S' => ∃ k' g, ∃ rs : List (List Nm), v = enc rs ∧ S' = DS c k' (r ++ g) ∧ DOk k' (b + 1000) ∧ rs.length = si ∧ (∀ l ∈ rs, Rising l ∧ l.length ≤ 1000) ∧ ∃ s, rs.getD s [] ≠ [] := by
  rw [run_eq GB3.law_tree rfl rfl]; simp! only [F_law_tree, List.map_cons, List.map_nil, Nat.sub_self, Nat.reduceSub, Nat.reduceAdd, List.replicate_zero, List.replicate_succ, List.append_nil, List.cons_append, List.nil_append, q_kRng1 (rng_ok (show si ≤ 1000000 by omega)), rangeL_nat]
  refine sat_comp (List.range si) (by rw [List.length_range, big_eq]; omega) (fun d acc S => acc = (List.range d.length).map (fun s => D.ref (r.length + 3 + s)) ∧ S = DS c k (r ++ (rowsOb d.length (fun _ => []) ++ []))) ⟨rfl, by simp [rowsOb]⟩ (fun _ _ _ _ => trivial) ?_ ?_
  · rintro d x rr acc S hd ⟨rfl, rfl⟩
    refine ⟨_, rfl, ?_⟩
    simp! only [setN_s, setN_z]
    rw [sat_ok]
    refine ⟨true, rfl, fun _ => ?_, fun h => nomatch h⟩
    rw [sat_ok]
    exact kept_step
  · rintro acc S ⟨rfl, rfl⟩
    rw [List.length_range, List.append_nil]
    simp! only []
    refine sat_bind (r_names o k b hk (by omega) si (by omega) _) ?_
    rintro v S' ⟨k1, g, nms, rfl, rfl, hk1, hl, hn⟩
    have e1 : (r ++ rowsOb si fun _ => []).length + 4 = r.length + si + 4 := by rw [List.length_append, rowsOb_length]
    have e2 : (r ++ rowsOb si fun _ => []) ++ [g, .lst (nms.map enc)] = r ++ (rowsOb si (fun _ => []) ++ g :: .lst (nms.map enc) :: []) := by rw [List.append_assoc]
    rw [e1, e2]
    have e3 : D.lst ((List.range si).map fun s => .ref (r.length + 3 + s)) = keptD (r.length + 3) si := rfl
    simp! only [e3, q_kRng2b (rng_ok1 (show si ≤ 1000000 by omega)), rangeL_1]
    refine sat_for (List.range' 1 (si - 1)) (fun d η S => ∃ (k' : DK) (rows : Nat → List Nm) (z1 z2 : Option D), S = DS c k' (r ++ (rowsOb si rows ++ g :: .lst (nms.map enc) :: [])) ∧ η = [some (.ref 2), some (.int (si : Int)), some (keptD (r.length + 3) si), some (.ref (r.length + si + 4)), z1, z2, none] ∧ DOk k' (b + 2 * si + 3 * d.length) ∧ (∀ s, (rows s).Nodup ∧ ∀ x ∈ rows s, ∃ j ∈ d, nms[j]? = some x)) ?_ (fun _ _ _ _ => trivial) ?_ ?_
    · exact ⟨k1, fun _ => [], none, none, rfl, rfl, hk1, fun s => ⟨List.nodup_nil, fun x hx => nomatch hx⟩⟩
    · rintro d x rr η S hd ⟨k', rows, z1, z2, rfl, rfl, hk', hr⟩
      have hxm : x ∈ List.range' 1 (si - 1) := by rw [hd]; simp
      rw [List.mem_range'_1] at hxm
      have hxs : x < si := by omega
      have hxl : x < nms.length := by omega
      have hxd : x ∉ d := by
        have : (List.range' 1 (si - 1)).Nodup := List.nodup_range'
        rw [hd, List.nodup_append] at this
        exact fun q => this.2.2 x q x List.mem_cons_self rfl
      have hdl : d.length < si := by
        have := congrArg List.length hd
        rw [List.length_range', List.length_append, List.length_cons] at this
        omega
      have hfresh : ∀ s, nms[x] ∉ rows s := fun s q => by
        obtain ⟨j, hj, e⟩ := (hr s).2 _ q
        obtain ⟨hj2, e⟩ := List.getElem?_eq_some_iff.mp e
        have := (List.getElem_inj hn).mp e
        rw [this] at hj
        exact hxd hj
      have hrl : ∀ s, (rows s).length ≤ 100 := fun s => by
        have h1 := (hr s).1.length_le_of_subset (l₂ := nms) fun y hy => by
          obtain ⟨j, _, e⟩ := (hr s).2 y hy
          exact List.mem_of_getElem? e
        omega
      have hadd : ∀ (rows : Nat → List Nm) (s : Nat), (∀ j, (rows j).Nodup ∧ ∀ y ∈ rows j, ∃ i ∈ d ++ [x], nms[i]? = some y) → nms[x] ∉ rows s → ∀ j, (addR rows s nms[x] j).Nodup ∧ ∀ y ∈ addR rows s nms[x] j, ∃ i ∈ d ++ [x], nms[i]? = some y := by
        intro rows s h hf j
        unfold addR
        split
        · refine ⟨?_, fun y hy => ?_⟩
          · rw [List.nodup_append]
            refine ⟨(h s).1, by simp, fun u hu v hv e => ?_⟩
            rw [List.mem_singleton] at hv
            rw [e, hv] at hu
            exact hf hu
          · rcases List.mem_append.mp hy with q | q
            · exact (h s).2 y q
            · rw [List.mem_singleton] at q
              exact ⟨x, by simp, by rw [q, List.getElem?_eq_getElem hxl]⟩
        · exact h j
      have hr' : ∀ j, (rows j).Nodup ∧ ∀ y ∈ rows j, ∃ i ∈ d ++ [x], nms[i]? = some y := fun j => ⟨(hr j).1, fun y hy => by
        obtain ⟨i, hi, e⟩ := (hr j).2 y hy
        exact ⟨i, List.mem_append_left _ hi, e⟩⟩
      have ex : ((x : Int) - 1) = ((x - 1 : Nat) : Int) := by omega
      refine ⟨_, rfl, ?_⟩
      simp! only [setN_s, setN_z]
      refine sat_bind (r_draw o k' _ hk' (by omega) 6 (by omega) (by omega) _) ?_
      rintro v S' ⟨k2, i, rfl, hi, rfl, hk2⟩
      by_cases hi0 : (0 : Int) < (i : Int)
      · simp! only [hi0, ex]
        refine sat_bind (r_draw o k2 _ hk2 (by omega) x (by omega) (by omega) _) ?_
        rintro v S' ⟨k3, i2, rfl, hi2, rfl, hk3⟩
        simp! only []
        refine sat_bind (r_pickM (enc : Nat → D) [x - 1, i2, 0] o k3 _ hk3 (by omega) _ (.inl rfl) (by simp) (by simp) _) ?_
        rintro v S' ⟨k4, w, hw, rfl, rfl, hk4⟩
        have hwx : w < x := by
          simp only [List.mem_cons, List.not_mem_nil, or_false] at hw
          rcases hw with rfl | rfl | rfl <;> omega
        have hl1 : (addR rows x nms[x] w).length ≤ 1000 := by
          unfold addR
          rw [if_neg (by omega)]
          have := hrl w
          omega
        have hf1 : nms[x] ∉ addR rows x nms[x] w := by
          unfold addR
          rw [if_neg (by omega)]
          exact hfresh w
        simp! only [enc_nat, kept_ix hxs, ty_append (rw_at hxs), nm_ix hxl, bm_row hxs (show (rows x).length ≤ 1000 by have := hrl x; omega), kept_ix (show w < si by omega), ty_append (rw_at (show w < si by omega)), bm_row (show w < si by omega) hl1]
        rw [sat_ok]
        refine ⟨k4, _, _, _, rfl, rfl, hk4.mono ?_, hadd _ w (hadd rows x hr' (hfresh x)) hf1⟩
        rw [List.length_append, List.length_singleton]; omega
      · simp! only [hi0]
        rw [sat_ok]
        refine ⟨k2, rows, _, _, rfl, rfl, hk2.mono ?_, hr'⟩
        rw [List.length_append, List.length_singleton]; omega
    · rintro η S ⟨k', rows, z1, z2, rfl, rfl, hk', hr⟩
      rw [List.length_range'] at hk'
      have h0 : 0 < si := by omega
      have h0l : 0 < nms.length := by omega
      have hf0 : nms[0] ∉ rows 0 := fun q => by
        obtain ⟨j, hj, e⟩ := (hr 0).2 _ q
        obtain ⟨hj2, e⟩ := List.getElem?_eq_some_iff.mp e
        have := (List.getElem_inj hn).mp e
        rw [this, List.mem_range'_1] at hj
        omega
      have hrl : ∀ s, (rows s).length ≤ 100 := fun s => by
        have h1 := (hr s).1.length_le_of_subset (l₂ := nms) fun y hy => by
          obtain ⟨j, _, e⟩ := (hr s).2 y hy
          exact List.mem_of_getElem? e
        omega
      have hr2 : ∀ s, (addR rows 0 nms[0] s).Nodup ∧ (addR rows 0 nms[0] s).length ≤ 101 := fun s => by
        unfold addR
        split
        · refine ⟨?_, ?_⟩
          · rw [List.nodup_append]
            refine ⟨(hr 0).1, by simp, fun u hu v hv e => ?_⟩
            rw [List.mem_singleton] at hv
            rw [e, hv] at hu
            exact hf0 hu
          · have := hrl 0
            simp; omega
        · have := hrl s
          exact ⟨(hr s).1, by omega⟩
      have i0 : ∀ S : Sto, index S (keptD (r.length + 3) si) (.int 0) = some (.ref (r.length + 3 + 0)) := fun S => kept_ix (s := 0) h0
      have i1 : ∀ (k' : DK) (rows : Nat → List Nm), index (DS c k' (r ++ (rowsOb si rows ++ [g, .lst (nms.map enc)]))) (.ref (r.length + si + 4)) (.int 0) = some (enc nms[0]) := fun k' rows => nm_ix (s := 0) h0l
      simp! only [i0, ty_append (rw_at h0), i1, bm_row h0 (show (rows 0).length ≤ 1000 by have := hrl 0; omega)]
      simp! only [keptD]
      rw [comp_map (fun s => enc (srt (addR rows 0 nms[0] s))) ok_none]
      · simp! only []
        rw [sat_ok]
        refine ⟨k', _, (List.range si).map fun s => srt (addR rows 0 nms[0] s), ?_, rfl, hk'.mono (by omega), by simp, ?_, 0, ?_⟩
        · rw [enc_list, List.map_map]
          rfl
        · intro l hl'
          obtain ⟨s, _, rfl⟩ := List.mem_map.mp hl'
          rw [srt_length]
          have := (hr2 s).2
          exact ⟨srt_rising (hr2 s).1, by omega⟩
        · intro q
          rw [List.getD_eq_getElem?_getD, List.getElem?_map, List.getElem?_range h0] at q
          have q : srt (addR rows 0 nms[0] 0) = [] := q
          have := srt_length (addR rows 0 nms[0] 0)
          rw [q] at this
          unfold addR at this
          simp at this
      · intro s hs
        rw [List.mem_range] at hs
        refine ⟨_, rfl, rfl, ?_⟩
        simp! only [setN_s, setN_z, sorted_ref (α := Nm) (by decide) (show (addR rows 0 nms[0] s).length ≤ big by have := (hr2 s).2; rw [big_eq]; omega) (rw_at hs)]
        rfl
      · rw [List.length_range, big_eq]; omega
end
end MP

set_option Elab.async false
set_option linter.all false
set_option maxRecDepth 100000
set_option maxHeartbeats 4000000
/-! L6: drawn placements: rings; the choice. -/
namespace MP
open PySem L2 PySem.W PyProof.Rows
open Enc EncO
local macro_rules
  | `(tactic| simp! only [$ts,*]) => `(tactic| simp only [MP.R.bind_ok, kk_eq, kk_app, look_z, look_s, setN_z, setN_s, setNs_nil, setNs_cons, setTg_nm, setTg_tp, wipe1_z, wipe1_s, wipeE_nil, wipeE_cons, ifK_t, ifK_f, retK_eq, notK_bl, negK_int, opD_some, mkLd_f, mkLd_t, mkL_f, mkL_t, alloc_eq, opO_some, opE_some, MP.R.of_some, q_kBin2, q_kBin, q_kCmpE, q_kCmp, q_kCmp2b, q_kCmp2dt, q_kCmp2df, q_kCmp2, q_kIx2, q_kIx, q_kSl3, q_kSl2, q_kSl, q_kRev, q_kTup, q_kLst, q_kDct, q_kComp, q_kLs, q_kComp2, q_kDo, q_kDcomp, q_kCall, q_callO, q_kBi, q_kSrt, q_kDicz2, q_kDicz, q_kDicl, q_kDicd, q_kBm2, q_kBm, q_bmTt, q_kIsa, q_kRngv, q_kCons2, q_kCons, q_kAtt, q_attO, q_fldOf, q_kMk2, q_kMk, q_kMth2, q_mthTt, q_mthO, q_kMth, q_kSeq_tup, q_kSeq_lst, q_kSeq_str, q_kSeq_rng, q_kRng2, q_kEnm_tup, q_kEnm_lst, q_kZip2, q_kZip, q_kDic, q_kDicO, seqS_nx, seqS_rt, seqS_bk, seqS_ct, q_kNx, q_kAsg, q_kPar, q_kRt, q_kDrop, q_kUnit, q_kUnitE, q_augP, q_kAug4, q_augV, q_kAug2, q_kAug, q_kFor, q_kSub2, q_kSub, q_kFld, q_kTwo, endR_rt, endR_nx, e_cst, e_bin, e_cmp, e_ix, e_sl, e_tup, e_lst, e_dnewT, e_dnewK, e_comp, e_comp2, e_isa, e_nil, e_cons, e_mk, x_nil, x_asg, x_expr, x_for, x_whl, x_ret, x_retN, x_brk, x_cont, x_pass, a_nm, a_tp, a_sub, a_fld, a_two, permute_none, e_var, e_neg, e_cmp2, e_and, e_or, e_not, e_ite, e_rev, e_dct, e_dcomp, e_call, e_bi, e_srt, e_dicz, e_dicl, e_dicd, e_bm, e_att, e_mth, e_rngv, s_seq, s_rng1, s_rng2, s_enm, s_zip, s_dic, x_cons, x_par, x_aug, x_ife, Option.map_some, Option.bind_some, ty_int_int, ty_int_bool, ty_int_str, ty_int_tup, ty_str_str, ty_str_int, ty_tup_tup, c_lt, c_le, c_gt, c_ge, c_eq, c_ne, c_in, c_notin, b_add, b_sub, Bool.not_true, Bool.not_false, len_tup, len_lst, tuple_lst, tuple_tup, list_tup, list_lst, list_rng, bi_int, bi_max, bi_min, ix_tup, ix_lst, at_0, at_1, at_2, at_3, at_4, decide_true, decide_false, Int.reduceEq, Int.reduceLT, Int.reduceLE, List.length_cons, List.length_nil, Nat.zero_add, Nat.reduceAdd, Int.natCast_zero, Int.cast_ofNat_Int, few_0, few_1, few_2, few_3, few_4, few_5, few_6, few_7, few_8, few_9, few_10, List.cons_append, List.nil_append, $ts,*])
section
variable {c : DeckC} {k : DK} {r t : Sto} {n : Nat} {rows : Nat → List Nm} {g o o' v : Ob}
theorem vis_at : (DS c k (r ++ (rowsOb n rows ++ v :: t)))[r.length + n + 3]? = some v := by
  show (r ++ (rowsOb n rows ++ v :: t))[r.length + n]? = _
  rw [List.getElem?_append_right (by omega), List.getElem?_append_right (by rw [rowsOb_length]; omega), rowsOb_length, show r.length + n - r.length - n = 0 by omega]
  rfl
theorem vis_set : (DS c k (r ++ (rowsOb n rows ++ v :: t))).set (r.length + n + 3) o = DS c k (r ++ (rowsOb n rows ++ o :: t)) := by
  show k.g :: _ :: _ :: (r ++ (rowsOb n rows ++ v :: t)).set (r.length + n) o = _
  rw [List.set_append_right _ _ (by omega), List.set_append_right _ _ (by rw [rowsOb_length]; omega), rowsOb_length, show r.length + n - r.length - n = 0 by omega]
  rfl
theorem nm_at2 : (DS c k (r ++ (rowsOb n rows ++ v :: g :: o :: t)))[r.length + n + 5]? = some o := by
  show (r ++ (rowsOb n rows ++ v :: g :: o :: t))[r.length + n + 2]? = _
  rw [List.getElem?_append_right (by omega), List.getElem?_append_right (by rw [rowsOb_length]; omega), rowsOb_length, show r.length + n + 2 - r.length - n = 2 by omega]
  rfl
end
section
variable {c : DeckC} {F : Str → Str → Bool} {T : Str → Option Fn} [GA T] [GD c T] [GB T] {n : Nat}
theorem addR_len {rows : Nat → List Nm} {s j : Nat} {x : Nm} {b : Nat} (h : ∀ j, (rows j).length ≤ b) : (addR rows s x j).length ≤ b + 1 := by
  unfold addR
  split
  · have := h s; rw [List.length_append, List.length_singleton]; omega
  · have := h j; omega
theorem r_ring (o : c.Ok) (k : DK) (b : Nat) (hk : DOk k b) (hb : b < 300000000000) (si cl : Nat) (h1 : 3 ≤ si ∧ si ≤ 5) (h2 : cl < si) (r : Sto) :
    sat (run F T (n + 4) "_law_ring" [.ref 2, .int ((si + cl : Nat) : Int), .int (si : Int)] (DS c k r)) fun v S' => ∃ k' g, ∃ p : Pl, v = enc p ∧ S' = DS c k' (r ++ g) ∧ DOk k' (b + 1000) ∧ Drawn p si cl := by
  have es : ((si : Int) + 2) = ((si + 2 : Nat) : Int) := by omega
  have ec : (((si + cl : Nat) : Int) - (si : Int)) = (cl : Int) := by omega
  rw [run_eq GB.law_ring rfl rfl]; simp! only [F_law_ring, List.map_cons, List.map_nil, Nat.sub_self, Nat.reduceSub, Nat.reduceAdd, List.replicate_zero, List.replicate_succ, List.append_nil, List.cons_append, List.nil_append, q_kRng1 (rng_ok (show si ≤ 1000000 by omega)), rangeL_nat]
  refine sat_comp (List.range si) (by rw [List.length_range, big_eq]; omega) (fun d acc S => acc = (List.range d.length).map (fun s => D.ref (r.length + 3 + s)) ∧ S = DS c k (r ++ (rowsOb d.length (fun _ => []) ++ []))) ⟨rfl, by simp [rowsOb]⟩ (fun _ _ _ _ => trivial) ?_ ?_
  · rintro d x rr acc S hd ⟨rfl, rfl⟩
    refine ⟨_, rfl, ?_⟩
    simp! only [setN_s, setN_z]
    rw [sat_ok]
    refine ⟨true, rfl, fun _ => ?_, fun h => nomatch h⟩
    rw [sat_ok]
    exact kept_step
  · rintro acc S ⟨rfl, rfl⟩
    rw [List.length_range, List.append_nil]
    have e3 : D.lst ((List.range si).map fun s => .ref (r.length + 3 + s)) = keptD (r.length + 3) si := rfl
    have e4 : (r ++ rowsOb si fun _ => []).length + 3 = r.length + si + 3 := by rw [List.length_append, rowsOb_length]
    simp! only [e3, ds_len, e4, ds_app, es]
    refine sat_bind (r_names o k b hk (by omega) (si + 2) (by omega) _) ?_
    rintro v S' ⟨k1, g, nms, rfl, rfl, hk1, hl, hn⟩
    have e1 : ((r ++ rowsOb si fun _ => []) ++ [Ob.lst []]).length + 4 = r.length + si + 5 := by rw [List.length_append, List.length_append, rowsOb_length]; rfl
    have e2 : (r ++ rowsOb si fun _ => []) ++ [Ob.lst []] ++ [g, .lst (nms.map enc)] = r ++ (rowsOb si (fun _ => []) ++ Ob.lst [] :: g :: .lst (nms.map enc) :: []) := by simp
    rw [e1, e2]
    simp! only [ec, q_kRng1 (rng_ok (show si ≤ 1000000 by omega)), rangeL_nat]
    refine sat_for (List.range si) (fun d η S => ∃ (rows : Nat → List Nm) (vs : List (List Nat)) (z1 z2 : Option D), S = DS c k1 (r ++ (rowsOb si rows ++ .lst (vs.map enc) :: g :: .lst (nms.map enc) :: [])) ∧ η = [some (.ref 2), some (.int ((si + cl : Nat) : Int)), some (.int (si : Int)), some (keptD (r.length + 3) si), some (.ref (r.length + si + 3)), some (.ref (r.length + si + 5)), some (.int ((cl - d.length : Nat) : Int)), z1, z2, none, none] ∧ (∀ s, (rows s).length ≤ 2 * d.length) ∧ vs.length = min d.length cl ∧ ∀ u ∈ vs, u.length = 2 ∧ Rising u ∧ ∀ y ∈ u, y < si) ?_ (fun _ _ _ _ => trivial) ?_ ?_
    · exact ⟨fun _ => [], [], none, none, rfl, rfl, fun s => Nat.le_refl _, by simp, fun u hu => nomatch hu⟩
    · rintro d x rr η S hd ⟨rows, vs, z1, z2, rfl, rfl, hr, hv, hu⟩
      have hxs : x < si := by
        have : x ∈ List.range si := by rw [hd]; simp
        exact List.mem_range.mp this
      have hdl : d.length < si := by
        have := congrArg List.length hd
        rw [List.length_range, List.length_append, List.length_cons] at this
        omega
      have hsi : (0 : Int) < (si : Int) := by omega
      have eo : ((x : Int) + 1) % (si : Int) = (((x + 1) % si : Nat) : Int) := (Int.natCast_emod (x + 1) si).symm
      have hos : (x + 1) % si < si := Nat.mod_lt _ (by omega)
      have hox : (x + 1) % si ≠ x := by
        by_cases q : x + 1 < si
        · rw [Nat.mod_eq_of_lt q]; omega
        · rw [show x + 1 = si by omega, Nat.mod_self]; omega
      refine ⟨_, rfl, ?_⟩
      have s1 : (1 : Int) < (si : Int) := by omega
      by_cases hc : d.length < cl
      · have c0 : (0 : Int) < ((cl - d.length : Nat) : Int) := by omega
        have c1 : (((cl - d.length : Nat) : Int) - 1) = ((cl - (d.length + 1) : Nat) : Int) := by omega
        have el : [D.int (x : Int), D.int (((x + 1) % si : Nat) : Int)] = [x, (x + 1) % si].map (enc : Nat → D) := rfl
        have es2 : ∀ S : Sto, biop .sorted S [.lst [D.int (x : Int), D.int (((x + 1) % si : Nat) : Int)]] = some (.lst ((srt [x, (x + 1) % si]).map enc)) := fun S => sorted_lsl (α := Nat) (l := [x, (x + 1) % si]) (by decide) (by rw [List.length_cons, List.length_cons, List.length_nil, big_eq]; omega)
        have ea : bmop .append (DS c k1 (r ++ (rowsOb si rows ++ .lst (vs.map enc) :: g :: .lst (nms.map enc) :: []))) (.ref (r.length + si + 3)) [.tup ((srt [x, (x + 1) % si]).map enc)] = .ok .non (DS c k1 (r ++ (rowsOb si rows ++ .lst ((vs ++ [srt [x, (x + 1) % si]]).map enc) :: g :: .lst (nms.map enc) :: []))) := by
          rw [bm_append vis_at (by rw [List.length_map, big_eq]; omega), vis_set]
          rw [List.map_append]
          rfl
        simp! only [setN_s, setN_z, b_mod hsi, eo, c0, s1, ty_append vis_at, es2, ea, c1]
        rw [sat_ok]
        refine ⟨rows, vs ++ [srt [x, (x + 1) % si]], some (.int (x : Int)), some (.int (((x + 1) % si : Nat) : Int)), rfl, ?_, fun s => ?_, ?_, fun u hu' => ?_⟩
        · rw [List.length_append, List.length_singleton]
        · have := hr s
          rw [List.length_append, List.length_singleton]; omega
        · rw [List.length_append, List.length_append, List.length_singleton, List.length_singleton]; omega
        · rcases List.mem_append.mp hu' with q | q
          · exact hu u q
          · rw [List.mem_singleton] at q
            subst q
            refine ⟨by rw [srt_length]; rfl, srt_rising ?_, fun y hy => ?_⟩
            · simp only [List.nodup_cons, List.mem_singleton, List.not_mem_nil, not_false_eq_true, List.nodup_nil, and_true]
              exact fun q => hox q.symm
            · rw [mem_srt] at hy
              simp only [List.mem_cons, List.not_mem_nil, or_false] at hy
              rcases hy with rfl | rfl
              · exact hxs
              · exact hos
      · have c0 : ¬ ((0 : Int) < ((cl - d.length : Nat) : Int)) := by omega
        have hxl : x < nms.length := by omega
        have i1 : ∀ (rows : Nat → List Nm), index (DS c k1 (r ++ (rowsOb si rows ++ .lst (vs.map enc) :: g :: .lst (nms.map enc) :: []))) (.ref (r.length + si + 5)) (.int (x : Int)) = some (enc nms[x]) := fun rows => by rw [ix_ref _ nm_at2, atI_enc hxl]
        have hrl : ∀ s, (rows s).length ≤ 1000 := fun s => by have := hr s; omega
        have hrl2 : ∀ s, (addR rows x nms[x] s).length ≤ 1000 := fun s => by have := addR_len (s := x) (x := nms[x]) (j := s) hr; omega
        simp! only [setN_s, setN_z, b_mod hsi, eo, c0, enc_nat, kept_ix hxs, kept_ix hos, ty_append (rw_at hxs), ty_append (rw_at hos), i1, bm_row hxs (hrl x), bm_row hos (hrl2 _)]
        rw [sat_ok]
        refine ⟨_, vs, some (.int (x : Int)), some (.int (((x + 1) % si : Nat) : Int)), rfl, ?_, fun s => ?_, ?_, hu⟩
        · have : ((cl - (d ++ [x]).length : Nat) : Int) = ((cl - d.length : Nat) : Int) := by rw [List.length_append, List.length_singleton]; omega
          rw [this]
        · have := addR_len (s := (x + 1) % si) (x := nms[x]) (j := s) (fun j => addR_len (s := x) (x := nms[x]) (j := j) hr)
          rw [List.length_append, List.length_singleton]; omega
        · rw [List.length_append, List.length_singleton]; omega
    · rintro η S ⟨rows, vs, z1, z2, rfl, rfl, hr, hv, hu⟩
      rw [List.length_range] at hv hr ⊢
      have hv : vs.length = cl := by omega
      have esl : ∀ (S : Sto) (z : D), S[r.length + si + 5]? = some (.lst (nms.map enc)) → slice S (.ref (r.length + si + 5)) true false (.int (si : Int)) z = some (.lst ((nms.drop si).map enc)) := fun S z h => by
        unfold slice
        simp only [part, h]
        rw [cut_from', List.map_drop]
      simp! only [esl _ _ nm_at2]
      refine sat_for (nms.drop si) (fun d η S => ∃ (k' : DK) (rows' : Nat → List Nm) (t : Sto) (z1 z2 z3 z4 : Option D), S = DS c k' (r ++ (rowsOb si rows' ++ .lst (vs.map enc) :: t)) ∧ η = [some (.ref 2), some (.int ((si + cl : Nat) : Int)), some (.int (si : Int)), some (keptD (r.length + 3) si), some (.ref (r.length + si + 3)), some (.ref (r.length + si + 5)), z3, z1, z2, z4, none] ∧ DOk k' (b + 2 * (si + 2) + 60 * d.length) ∧ (∀ s, (rows' s).length ≤ 2 * si + d.length) ∧ (d ≠ [] → ∃ s < si, rows' s ≠ [])) ?_ (fun _ _ _ _ => trivial) ?_ ?_
      · exact ⟨k1, rows, _, _, _, _, _, rfl, rfl, hk1, fun s => by have := hr s; simpa using this, fun h => absurd rfl h⟩
      · rintro d x rr η S hd ⟨k', rows', t, z1, z2, z3, z4, rfl, rfl, hk', hr', hne⟩
        have hdl : d.length < 2 := by
          have := congrArg List.length hd
          rw [List.length_drop, hl, List.length_append, List.length_cons] at this
          omega
        refine ⟨_, rfl, ?_⟩
        simp! only [setN_s, setN_z]
        refine sat_bind (r_some o k' _ hk' (by omega) si (by omega) (by omega) 1 _) ?_
        rintro v S' ⟨k2, g1, g2, w, rfl, rfl, hk2, hw, hwl, hw1, hw2⟩
        have e5 : r ++ (rowsOb si rows' ++ .lst (vs.map enc) :: t) ++ [g1, g2] = r ++ (rowsOb si rows' ++ .lst (vs.map enc) :: (t ++ [g1, g2])) := by simp
        rw [e5]
        simp! only [enc_list w]
        refine sat_for w (fun e η S => ∃ (rows2 : Nat → List Nm) (z1 : Option D), S = DS c k2 (r ++ (rowsOb si rows2 ++ .lst (vs.map enc) :: (t ++ [g1, g2]))) ∧ η = [some (.ref 2), some (.int ((si + cl : Nat) : Int)), some (.int (si : Int)), some (keptD (r.length + 3) si), some (.ref (r.length + si + 3)), some (.ref (r.length + si + 5)), z3, z1, z2, some (enc x), none] ∧ ∀ s, rows2 s = if s ∈ e then rows' s ++ [x] else rows' s) ?_ (fun _ _ _ _ => trivial) ?_ ?_
        · exact ⟨rows', z1, rfl, rfl, fun s => rfl⟩
        · rintro e s rr2 η S he ⟨rows2, z1, rfl, rfl, hq⟩
          have hs : s < si := hwl s (by rw [he]; simp)
          have hse : s ∉ e := by
            have := hw.nodup
            rw [he, List.nodup_append] at this
            exact fun q => this.2.2 s q s List.mem_cons_self rfl
          refine ⟨_, rfl, ?_⟩
          have hlen : (rows2 s).length ≤ 1000 := by
            rw [hq s, if_neg hse]
            have := hr' s
            omega
          simp! only [setN_s, setN_z, enc_nat, kept_ix hs, ty_append (rw_at hs), bm_row hs hlen]
          rw [sat_ok]
          refine ⟨_, _, rfl, rfl, fun j => ?_⟩
          unfold addR
          by_cases q : j = s
          · subst q
            rw [if_pos rfl, if_pos (by simp), hq j, if_neg hse]
          · rw [if_neg q, hq j]
            simp [q]
        · rintro η S ⟨rows2, z1, rfl, rfl, hq⟩
          simp! only []
          rw [sat_ok]
          refine ⟨k2, rows2, _, _, _, _, _, rfl, rfl, hk2.mono ?_, fun s => ?_, fun _ => ?_⟩
          · rw [List.length_append, List.length_singleton]; omega
          · have := hr' s
            rw [hq s, List.length_append, List.length_singleton]
            split
            · rw [List.length_append, List.length_singleton]; omega
            · omega
          · have : w ≠ [] := fun q => by rw [q] at hw1; simp at hw1; omega
            obtain ⟨s, hs⟩ := List.exists_mem_of_ne_nil w this
            exact ⟨s, hwl s hs, by rw [hq s, if_pos hs]; simp⟩
      · rintro η S ⟨k', rows', t, z1, z2, z3, z4, rfl, rfl, hk', hr', hne⟩
        have hdl : (nms.drop si).length = 2 := by rw [List.length_drop]; omega
        rw [hdl] at hk' hr'
        have hrl : ∀ s, (rows' s).length ≤ 12 := fun s => by have := hr' s; omega
        simp! only [keptD]
        rw [comp_map (fun s => enc (setS (rows' s))) ok_none]
        · simp! only [tuple_ref vis_at]
          rw [sat_ok]
          refine ⟨k', _, ((List.range si).map fun s => setS (rows' s), vs), ?_, rfl, hk'.mono (by omega), ?_⟩
          · rw [enc_mk, enc_list, enc_list, List.map_map]
            rfl
          · refine ⟨⟨?_, ?_, ⟨?_, ?_⟩, ?_, ?_⟩, ?_, hv, ?_⟩
            · intro rs hrs
              obtain ⟨s, _, rfl⟩ := List.mem_map.mp hrs
              exact setS_rising _
            · intro u hu'
              obtain ⟨q1, q2, q3⟩ := hu u hu'
              refine ⟨by omega, q2, fun x hx => ?_⟩
              rw [List.length_map, List.length_range]
              exact q3 x hx
            · rw [List.length_map, List.length_range]; omega
            · rw [hv]; omega
            · intro rs hrs
              obtain ⟨s, _, rfl⟩ := List.mem_map.mp hrs
              have := setS_length (rows' s)
              have := hrl s
              omega
            · intro u hu'
              have := (hu u hu').1
              omega
            · rw [List.length_map, List.length_range]
            · obtain ⟨s, hs, hne'⟩ := hne (fun q => by rw [q] at hdl; simp at hdl)
              obtain ⟨x, hx⟩ := List.exists_mem_of_ne_nil _ hne'
              refine ⟨s, fun q => ?_⟩
              unfold keeps at q
              rw [List.getD_eq_getElem?_getD, List.getElem?_map, List.getElem?_range hs] at q
              have q : setS (rows' s) = [] := q
              have := mem_setS.mpr hx
              rw [q] at this
              cases this
        · intro s hs
          rw [List.mem_range] at hs
          refine ⟨_, rfl, rfl, ?_⟩
          simp! only [setN_s, setN_z, sortSet_ref (rw_at hs) (show (rows' s).length < 64 by have := hrl s; omega)]
          rfl
        · rw [List.length_range, big_eq]; omega
variable [GB3 T]
def drawnTail : Sms := F_law_drawn.body.tl.tl
theorem drawn_body : F_law_drawn.body = .cons F_law_drawn.body.hd (.cons F_law_drawn.body.tl.hd drawnTail) := rfl
def drawnTail2 : Sms := drawnTail.tl
def drawnTail3 : Sms := drawnTail2.tl
def drawnH1 : Sm := drawnTail.hd
def drawnH2 : Sm := drawnTail2.hd
theorem dt1 : drawnTail = .cons drawnH1 drawnTail2 := rfl
theorem dt2 : drawnTail2 = .cons drawnH2 drawnTail3 := rfl
abbrev DrawnQ (c : DeckC) (r : Sto) (b : Nat) : D → Sto → Prop := fun v S' => ∃ k' g, ∃ p : Pl, v = enc p ∧ S' = DS c k' (r ++ g) ∧ DOk k' (b + 2000) ∧ 2 ≤ p.1.length ∧ p.1.length ≤ 5 ∧ p.2.length ≤ 3 ∧ Drawn p p.1.length p.2.length
theorem drawn_done {c : DeckC} {r : Sto} {b si : Nat} (h1 : 2 ≤ si ∧ si ≤ 5) {v : D} {S' : Sto} {k' : DK} {g : Sto} {p : Pl} {m : Nat} (hv : v = enc p) (hS : S' = DS c k' (r ++ g)) (h3 : DOk k' (b + 2000)) (h4 : m ≤ 3) (h5 : Drawn p si m) : DrawnQ c r b v S' := by
  refine ⟨k', g, p, hv, hS, h3, by rw [h5.sites]; omega, by rw [h5.sites]; omega, by rw [h5.clients]; omega, ?_⟩
  rw [h5.sites, h5.clients]
  exact h5
theorem r_drawnTail (o : c.Ok) (k : DK) (b : Nat) (hk : DOk k (b + 3)) (hb : b < 200000000000) (r : Sto) (si way cl : Nat) (hsi : 2 ≤ si ∧ si ≤ 5) (hcl : cl ≤ 2) :
    sat ((exs (run F T (n + 4)) F drawnTail [some (.ref 2), some (.int (si : Int)), some (.int (way : Int)), some (.int (cl : Int))] (DS c k r)).bind endR) (DrawnQ c r b) := by
  have any : ∀ (k4 : DK) (re : Nat), DOk k4 (b + 4) → 1 ≤ re ∧ re ≤ 8 → sat (run F T (n + 4) "_law_placement" [.ref 2, .int (si : Int), .int (cl : Int), .int (re : Int)] (DS c k4 r)) (DrawnQ c r b) := by
    intro k4 re hk4 hre
    refine sat_mono (r_placement o k4 _ hk4 (by omega) si cl re hsi (by omega) hre r) ?_
    rintro v S' ⟨k', g, p, rfl, rfl, hk', hp⟩
    exact drawn_done hsi rfl rfl (hk'.mono (by omega)) (by omega) hp
  have low : ∀ (k4 : DK), DOk k4 (b + 3) → ¬ (way : Int) = 2 → sat ((exs (run F T (n + 4)) F drawnTail3 [some (.ref 2), some (.int (si : Int)), some (.int (way : Int)), some (.int (cl : Int))] (DS c k4 r)).bind endR) (DrawnQ c r b) := by
    intro k4 hk4 hw
    by_cases h5 : (si : Int) < 5
    · simp! only [drawnTail3, drawnTail2, drawnTail, F_law_drawn, Sms.tl, h5]
      refine sat_bind (r_pickM (enc : Nat → D) [3, 4, 5, 2, 6, 8] o k4 _ hk4 (by omega) _ (.inl rfl) (by simp) (by simp) _) ?_
      rintro v S' ⟨k5, re, hre, rfl, rfl, hk5⟩
      have hre : 1 ≤ re ∧ re ≤ 8 := by
        simp only [List.mem_cons, List.not_mem_nil, or_false] at hre
        omega
      simp! only [enc_nat]
      refine sat_bind (any k5 re hk5 hre) ?_
      rintro v S' h
      simp! only []
      exact sat_ok.mpr h
    · simp! only [drawnTail3, drawnTail2, drawnTail, F_law_drawn, Sms.tl, h5]
      refine sat_bind (r_pickM (enc : Nat → D) [4, 5, 6] o k4 _ hk4 (by omega) _ (.inl rfl) (by simp) (by simp) _) ?_
      rintro v S' ⟨k5, re, hre, rfl, rfl, hk5⟩
      have hre : 1 ≤ re ∧ re ≤ 8 := by
        simp only [List.mem_cons, List.not_mem_nil, or_false] at hre
        omega
      simp! only [enc_nat]
      refine sat_bind (any k5 re hk5 hre) ?_
      rintro v S' h
      simp! only []
      exact sat_ok.mpr h
  have mid : ∀ (k4 : DK), DOk k4 (b + 3) → sat ((exs (run F T (n + 4)) F drawnTail2 [some (.ref 2), some (.int (si : Int)), some (.int (way : Int)), some (.int (cl : Int))] (DS c k4 r)).bind endR) (DrawnQ c r b) := by
    intro k4 hk4
    by_cases hw : (way : Int) = 2
    · have es : ((si : Int) - 1) = ((si - 1 : Nat) : Int) := by omega
      rw [dt2]
      simp! only [drawnH2, drawnTail2, drawnTail, F_law_drawn, Sms.tl, Sms.hd, hw]
      refine sat_bind (r_tree o k4 _ hk4 (by omega) si hsi r) ?_
      rintro v S' ⟨k', g, rs, rfl, rfl, hk', hl, hr, hne⟩
      simp! only [es, sl_to]
      rw [sat_ok]
      refine drawn_done (p := (rs, ([[0, si - 1]] : List (List Nat)).take cl)) (m := min cl 1) hsi ?_ rfl (hk'.mono (by omega)) (by omega) ⟨⟨fun l hl' => (hr l hl').1, ?_, ⟨(show rs.length ≤ 50 by omega), ?_⟩, fun l hl' => (hr l hl').2, ?_⟩, hl, ?_, hne⟩
      · rw [enc_mk, enc_list rs, enc_list (List.take cl [[0, si - 1]]), List.map_take]
        rfl
      · intro u hu
        have hu := List.mem_of_mem_take hu
        rw [List.mem_singleton] at hu
        subst hu
        refine ⟨by simp, ?_, fun x hx => ?_⟩
        · unfold Rising
          rw [List.pairwise_cons]
          refine ⟨fun y hy => ?_, by simp⟩
          rw [List.mem_singleton] at hy
          subst hy
          rw [lt_nat, decide_eq_true_iff]
          omega
        · simp only [List.mem_cons, List.not_mem_nil, or_false] at hx
          show x < rs.length
          omega
      · show (([[0, si - 1]] : List (List Nat)).take cl).length ≤ 50
        rw [List.length_take]; simp; omega
      · intro u hu
        have hu := List.mem_of_mem_take hu
        rw [List.mem_singleton] at hu
        subst hu
        simp
      · show (([[0, si - 1]] : List (List Nat)).take cl).length = _
        rw [List.length_take]; simp
    · rw [dt2]
      simp! only [drawnH2, drawnTail2, drawnTail, F_law_drawn, Sms.tl, Sms.hd, hw]
      exact low k4 hk4 hw
  by_cases hw2 : (way : Int) < 2
  · by_cases hs2 : (2 : Int) < (si : Int)
    · have em : ((si : Int) + (if ((si : Int) - 1) < (cl : Int) then ((si : Int) - 1) else (cl : Int))) = ((si + min cl (si - 1) : Nat) : Int) := by split <;> omega
      rw [dt1]
      simp! only [drawnH1, drawnTail, F_law_drawn, Sms.tl, Sms.hd, hw2, hs2, em]
      refine sat_bind (r_ring o k _ hk (by omega) si (min cl (si - 1)) (by omega) (by omega) _) ?_
      rintro v S' ⟨k', g, p, rfl, rfl, hk', hp⟩
      simp! only []
      rw [sat_ok]
      exact drawn_done hsi rfl rfl (hk'.mono (by omega)) (by omega) hp
    · rw [dt1]
      simp! only [drawnH1, drawnTail, F_law_drawn, Sms.tl, Sms.hd, hw2, hs2]
      exact mid k hk
  · rw [dt1]
    simp! only [drawnH1, drawnTail, F_law_drawn, Sms.tl, Sms.hd, hw2]
    exact mid k hk
theorem r_drawn (o : c.Ok) (k : DK) (b : Nat) (hk : DOk k b) (hb : b < 200000000000) (r : Sto) :
    sat (run F T (n + 5) "_law_drawn" [.ref 2] (DS c k r)) (DrawnQ c r b) := by
  rw [run_eq GB3.law_drawn rfl rfl, drawn_body]
  simp! only [F_law_drawn, Sms.hd, Sms.tl, List.map_cons, List.map_nil, Nat.sub_self, Nat.reduceSub, Nat.reduceAdd, List.replicate_zero, List.replicate_succ, List.append_nil, List.cons_append, List.nil_append]
  refine sat_bind (r_pickM (enc : Nat → D) [3, 4, 3, 4, 2, 5] o k b hk (by omega) _ (.inl rfl) (by simp) (by simp) _) ?_
  rintro v S' ⟨k1, si, hsi, rfl, rfl, hk1⟩
  have hsi : 2 ≤ si ∧ si ≤ 5 := by
    simp only [List.mem_cons, List.not_mem_nil, or_false] at hsi
    omega
  simp! only []
  refine sat_bind (r_draw o k1 _ hk1 (by omega) 6 (by omega) (by omega) _) ?_
  rintro v S' ⟨k2, way, rfl, hway, rfl, hk2⟩
  by_cases h5 : (si : Int) < 5
  · simp! only [enc_nat, h5]
    refine sat_bind (r_pickM (enc : Nat → D) [0, 1, 0, 1, 2] o k2 _ hk2 (by omega) _ (.inl rfl) (by simp) (by simp) _) ?_
    rintro v S' ⟨k3, cl, hcl, rfl, rfl, hk3⟩
    have hcl : cl ≤ 2 := by
      simp only [List.mem_cons, List.not_mem_nil, or_false] at hcl
      omega
    simp! only [enc_nat]
    exact r_drawnTail o k3 b hk3 hb r si way cl hsi hcl
  · simp! only [enc_nat, h5]
    refine sat_bind (r_pickM (enc : Nat → D) [0, 0, 1] o k2 _ hk2 (by omega) _ (.inl rfl) (by simp) (by simp) _) ?_
    rintro v S' ⟨k3, cl, hcl, rfl, rfl, hk3⟩
    have hcl : cl ≤ 2 := by
      simp only [List.mem_cons, List.not_mem_nil, or_false] at hcl
      omega
    simp! only [enc_nat]
    exact r_drawnTail o k3 b hk3 hb r si way cl hsi hcl
end
end MP

set_option Elab.async false
set_option linter.all false
set_option maxRecDepth 100000
set_option maxHeartbeats 4000000
/-! L7: the map of a placement, its edges, a plan. -/
namespace MP
open PySem L2 PySem.W PyProof.Rows
open Enc EncO
local macro_rules
  | `(tactic| simp! only [$ts,*]) => `(tactic| simp only [MP.R.bind_ok, kk_eq, kk_app, look_z, look_s, setN_z, setN_s, setNs_nil, setNs_cons, setTg_nm, setTg_tp, wipe1_z, wipe1_s, wipeE_nil, wipeE_cons, ifK_t, ifK_f, retK_eq, notK_bl, negK_int, opD_some, mkLd_f, mkLd_t, mkL_f, mkL_t, alloc_eq, opO_some, opE_some, MP.R.of_some, q_kBin2, q_kBin, q_kCmpE, q_kCmp, q_kCmp2b, q_kCmp2dt, q_kCmp2df, q_kCmp2, q_kIx2, q_kIx, q_kSl3, q_kSl2, q_kSl, q_kRev, q_kTup, q_kLst, q_kDct, q_kComp, q_kLs, q_kComp2, q_kDo, q_kDcomp, q_kCall, q_callO, q_kBi, q_kSrt, q_kDicz2, q_kDicz, q_kDicl, q_kDicd, q_kBm2, q_kBm, q_bmTt, q_kIsa, q_kRngv, q_kCons2, q_kCons, q_kAtt, q_attO, q_fldOf, q_kMk2, q_kMk, q_kMth2, q_mthTt, q_mthO, q_kMth, q_kSeq_tup, q_kSeq_lst, q_kSeq_str, q_kSeq_rng, q_kRng2, q_kEnm_tup, q_kEnm_lst, q_kZip2, q_kZip, q_kDic, q_kDicO, seqS_nx, seqS_rt, seqS_bk, seqS_ct, q_kNx, q_kAsg, q_kPar, q_kRt, q_kDrop, q_kUnit, q_kUnitE, q_augP, q_kAug4, q_augV, q_kAug2, q_kAug, q_kFor, q_kSub2, q_kSub, q_kFld, q_kTwo, endR_rt, endR_nx, e_cst, e_bin, e_cmp, e_ix, e_sl, e_tup, e_lst, e_dnewT, e_dnewK, e_comp, e_comp2, e_isa, e_nil, e_cons, e_mk, x_nil, x_asg, x_expr, x_for, x_whl, x_ret, x_retN, x_brk, x_cont, x_pass, a_nm, a_tp, a_sub, a_fld, a_two, permute_none, e_var, e_neg, e_cmp2, e_and, e_or, e_not, e_ite, e_rev, e_dct, e_dcomp, e_call, e_bi, e_srt, e_dicz, e_dicl, e_dicd, e_bm, e_att, e_mth, e_rngv, s_seq, s_rng1, s_rng2, s_enm, s_zip, s_dic, x_cons, x_par, x_aug, x_ife, Option.map_some, Option.bind_some, ty_int_int, ty_int_bool, ty_int_str, ty_int_tup, ty_str_str, ty_str_int, ty_tup_tup, c_lt, c_le, c_gt, c_ge, c_eq, c_ne, c_in, c_notin, b_add, b_sub, Bool.not_true, Bool.not_false, len_tup, len_lst, tuple_lst, tuple_tup, list_tup, list_lst, list_rng, bi_int, bi_max, bi_min, ix_tup, ix_lst, at_0, at_1, at_2, at_3, at_4, decide_true, decide_false, Int.reduceEq, Int.reduceLT, Int.reduceLE, List.length_cons, List.length_nil, Nat.zero_add, Nat.reduceAdd, Int.natCast_zero, Int.cast_ofNat_Int, few_0, few_1, few_2, few_3, few_4, few_5, few_6, few_7, few_8, few_9, few_10, List.cons_append, List.nil_append, $ts,*])
/-- what stands at a step -/
def stepV (p : Pl) (e : Edge) : D := if isE p e.1 e.2 then enc (shared p e.1 e.2) else .non
theorem shared_in {p : Pl} {i j : Nat} {x : Nm} (h : x ∈ shared p i j) : i ≠ j ∧ x ∈ keeps p i ∧ x ∈ keeps p j := by
  unfold shared at h
  split at h
  · cases h
  · rename_i ne
    obtain ⟨h1, h2⟩ := List.mem_filter.mp h
    exact ⟨ne, h1, mb_iff.mp h2⟩
theorem isE_out {p : Pl} {i j : Nat} (h : p.1.length ≤ i ∨ p.1.length ≤ j) : isE p i j = false := by
  unfold isE
  rw [decide_eq_false_iff_not, Decidable.not_not]
  refine List.eq_nil_iff_forall_not_mem.mpr fun x hx => ?_
  obtain ⟨_, h1, h2⟩ := shared_in hx
  have := mem_keeps h1
  have := mem_keeps h2
  omega
theorem edges_rising (p : Pl) : Rising (edges p) := by
  have key : ∀ l : List Nat, l.Pairwise (· < ·) → Rising (l.flatMap fun i => ((List.range p.1.length).filter (isE p i)).map fun j => ((i, j) : Edge)) := by
    intro l
    induction l with
    | nil => intro _; exact List.Pairwise.nil
    | cons i l ih =>
      intro h
      rw [List.pairwise_cons] at h
      rw [List.flatMap_cons]
      unfold Rising
      rw [List.pairwise_append]
      refine ⟨?_, ih h.2, ?_⟩
      · rw [List.pairwise_map]
        refine (List.Pairwise.filter _ List.pairwise_lt_range).imp fun {a b} q => ?_
        rw [lt_pair, lt_nat, lt_nat]
        simp [q]
      · intro a ha b hb
        obtain ⟨j, _, rfl⟩ := List.mem_map.mp ha
        obtain ⟨i', hi', hb⟩ := List.mem_flatMap.mp hb
        obtain ⟨j', _, rfl⟩ := List.mem_map.mp hb
        have := h.1 i' hi'
        rw [lt_pair, lt_nat]
        simp [this]
  exact key _ List.pairwise_lt_range
theorem put_step {p : Pl} {L : List Edge} {e : Edge} : putA (dicL ek L (stepV p)) (ek e) (stepV p e) = dicL ek (if e ∈ L then L else L ++ [e]) (stepV p) := by
  by_cases h : e ∈ L
  · rw [if_pos h, putA_in (fun a b => ek_inj.mp) h]
    refine dicL_congr fun b _ => ?_
    split
    · rename_i q; rw [q]
    · rfl
  · rw [if_neg h, putA_out (fun a b => ek_inj.mp) h]
    refine dicL_congr fun b _ => ?_
    split
    · rename_i q; rw [q]
    · rfl
theorem setItem_ij {S : Sto} {r : Nat} {kvs : List (List Key × D)} {a b : Nat} {d : D} (h : S[r]? = some (.dT kvs)) (hl : kvs.length < 1000000) : setItem S (.ref r) (.tup [.int (a : Int), .int (b : Int)]) d = .ok () (S.set r (.dT (putA kvs (ek (a, b)) d))) := setItem_T (e := (a, b)) h hl
def worldKV (p : Pl) (st : Nat) (near : D) : List (Key × D) := [(.inr "sites", enc p.1), (.inr "clients", enc p.2), (.inr "n", .int (p.1.length : Int)), (.inr "many", .int ((p.1.length + p.2.length : Nat) : Int)), (.inr "steps", .ref st), (.inr "near", near)]
theorem world_dct (a b c d e f : D) : (pairsOf [.str "sites", a, .str "clients", b, .str "n", c, .str "many", d, .str "steps", e, .str "near", f]).bind dicOfK = some (.dK [(.inr "sites", a), (.inr "clients", b), (.inr "n", c), (.inr "many", d), (.inr "steps", e), (.inr "near", f)]) := by
  have h1 : ("sites" : Str) ≠ "clients" := by decide
  have h2 : ("sites" : Str) ≠ "n" := by decide
  have h3 : ("sites" : Str) ≠ "many" := by decide
  have h4 : ("sites" : Str) ≠ "steps" := by decide
  have h5 : ("sites" : Str) ≠ "near" := by decide
  have h6 : ("clients" : Str) ≠ "n" := by decide
  have h7 : ("clients" : Str) ≠ "many" := by decide
  have h8 : ("clients" : Str) ≠ "steps" := by decide
  have h9 : ("clients" : Str) ≠ "near" := by decide
  have i1 : ("n" : Str) ≠ "many" := by decide
  have i2 : ("n" : Str) ≠ "steps" := by decide
  have i3 : ("n" : Str) ≠ "near" := by decide
  have i4 : ("many" : Str) ≠ "steps" := by decide
  have i5 : ("many" : Str) ≠ "near" := by decide
  have i6 : ("steps" : Str) ≠ "near" := by decide
  simp only [pairsOf, Option.bind_some]
  unfold dicOfK
  rw [if_pos (by simp)]
  simp [keyed, optMap, keyK, mergeA, putA, h1, h2, h3, h4, h5, h6, h7, h8, h9, i1, i2, i3, i4, i5, i6]
section
variable {F : Str → Str → Bool} {T : Str → Option Fn} [GA T] [GB T] {n : Nat} {S : Sto}
theorem r_map (p : Pl) (v : ValidPl p) : sat (run F T (n + 1) "_law_map" [enc p] S) fun d S' => ∃ L near, d = .ref (S.length + 1) ∧ S' = S ++ [.dT (dicL ek L (stepV p)), .dK (worldKV p S.length near)] ∧ L.filter (fun e => isE p e.1 e.2) = edges p ∧ L.length ≤ 200000 := by
  have b1 := big_eq
  obtain ⟨m1, m2⟩ := v.many
  rw [run_eq GB.law_map rfl rfl]; simp! only [F_law_map, List.map_cons, List.map_nil, Nat.sub_self, Nat.reduceSub, Nat.reduceAdd, List.replicate_zero, List.replicate_succ, List.append_nil, List.cons_append, List.nil_append, enc_pair p, enc_list p.1, enc_list p.2, List.length_map, q_kRng1 (rng_ok (show p.1.length ≤ 1000000 by omega)), rangeL_nat]
  refine sat_for (List.range p.1.length) (fun d η S' => ∃ z1 z2 z3, η = [some (.tup [.tup (p.1.map enc), .tup (p.2.map enc)]), some (.tup (p.1.map enc)), some (.tup (p.2.map enc)), some (.int (p.1.length : Int)), some (.int ((p.1.length : Int) + (p.2.length : Int))), some (.ref S.length), z1, z2, z3, none, none, none, none, none] ∧ S' = S ++ [.dT (dicL ek (d.flatMap fun i => ((List.range p.1.length).filter (isE p i)).map fun j => ((i, j) : Edge)) (stepV p))]) ⟨none, none, none, rfl, rfl⟩ (fun _ _ _ _ => trivial) ?_ ?_
  · rintro d i rr η S' hd ⟨z1, z2, z3, rfl, rfl⟩
    have hi : i < p.1.length := by
      have : i ∈ List.range p.1.length := by rw [hd]; simp
      exact List.mem_range.mp this
    have hid : i ∉ d := by
      have := List.nodup_range (n := p.1.length)
      rw [hd, List.nodup_append] at this
      exact fun q => this.2.2 i q i List.mem_cons_self rfl
    refine ⟨_, rfl, ?_⟩
    simp! only [setN_s, setN_z, q_kRng1 (rng_ok (show p.1.length ≤ 1000000 by omega)), rangeL_nat]
    refine sat_for (List.range p.1.length) (fun d2 η S' => ∃ z2 z3, η = [some (.tup [.tup (p.1.map enc), .tup (p.2.map enc)]), some (.tup (p.1.map enc)), some (.tup (p.2.map enc)), some (.int (p.1.length : Int)), some (.int ((p.1.length : Int) + (p.2.length : Int))), some (.ref S.length), some (.int (i : Int)), z2, z3, none, none, none, none, none] ∧ S' = S ++ [.dT (dicL ek ((d.flatMap fun i => ((List.range p.1.length).filter (isE p i)).map fun j => ((i, j) : Edge)) ++ (d2.filter (isE p i)).map fun j => ((i, j) : Edge)) (stepV p))]) ⟨_, _, rfl, by simp⟩ (fun _ _ _ _ => trivial) ?_ ?_
    · rintro d2 j rr2 η S' hd2 ⟨z2, z3, rfl, rfl⟩
      have hj : j < p.1.length := by
        have : j ∈ List.range p.1.length := by rw [hd2]; simp
        exact List.mem_range.mp this
      have hjd : j ∉ d2 := by
        have := List.nodup_range (n := p.1.length)
        rw [hd2, List.nodup_append] at this
        exact fun q => this.2.2 j q j List.mem_cons_self rfl
      have ki : keeps p i = p.1[i] := by unfold keeps; rw [List.getD_eq_getElem?_getD, List.getElem?_eq_getElem hi]; rfl
      have kj : keeps p j = p.1[j] := by unfold keeps; rw [List.getD_eq_getElem?_getD, List.getElem?_eq_getElem hj]; rfl
      refine ⟨_, rfl, ?_⟩
      simp! only [setN_s, setN_z, atI_enc hi, enc_list p.1[i]]
      rw [comp_flt (fun x => mb x p.1[j]) (enc : Nm → D) ok_none]
      · generalize hB : p.1[i].filter (fun x => mb x p.1[j]) = B
        have nB : ∀ S : Sto, cmpop .NotEq S (.tup (B.map enc)) (.tup []) = some (!decide (B = [])) := fun S => ne_enc (a := B) (b := []) (by decide)
        have key : ∀ S2 : Sto, isE p i j = false → S2 = S ++ [.dT (dicL ek ((d.flatMap fun i => ((List.range p.1.length).filter (isE p i)).map fun j => ((i, j) : Edge)) ++ (d2.filter (isE p i)).map fun j => ((i, j) : Edge)) (stepV p))] → S2 = S ++ [.dT (dicL ek ((d.flatMap fun i => ((List.range p.1.length).filter (isE p i)).map fun j => ((i, j) : Edge)) ++ ((d2 ++ [j]).filter (isE p i)).map fun j => ((i, j) : Edge)) (stepV p))] := by
          intro S2 h e
          rw [e, List.filter_append, List.filter_cons_of_neg (by rw [h]; exact Bool.false_ne_true), List.filter_nil, List.append_nil]
        by_cases hij : i = j
        · have h0 : isE p i j = false := by unfold isE shared; rw [if_pos hij]; simp
          simp! only [dec_nat, hij]
          rw [sat_ok]
          refine ⟨_, _, rfl, ?_⟩
          rw [← hij]
          exact key _ (by rw [← hij] at h0; rw [← hij]; exact h0) rfl |>.trans (by rw [hij])
        · have hs : shared p i j = B := by unfold shared; rw [if_neg hij, ki, kj]; exact hB
          by_cases hb : B = []
          · have h0 : isE p i j = false := by unfold isE; rw [hs]; simp [hb]
            simp! only [dec_nat, hij, nB, decide_eq_true hb]
            rw [sat_ok]
            exact ⟨_, _, rfl, key _ h0 rfl⟩
          · have h0 : isE p i j = true := by unfold isE; rw [hs]; simp [hb]
            have hv : (D.tup (B.map enc) : D) = stepV p (i, j) := by unfold stepV; rw [if_pos h0, hs]; rfl
            have hnew : ((i, j) : Edge) ∉ (d.flatMap fun i => ((List.range p.1.length).filter (isE p i)).map fun j => ((i, j) : Edge)) ++ (d2.filter (isE p i)).map fun j => ((i, j) : Edge) := by
              intro q
              rcases List.mem_append.mp q with q | q
              · obtain ⟨i', hi', q⟩ := List.mem_flatMap.mp q
                obtain ⟨j', _, e⟩ := List.mem_map.mp q
                have := congrArg Prod.fst e
                dsimp only at this
                rw [this] at hi'
                exact hid hi'
              · obtain ⟨j', hj', e⟩ := List.mem_map.mp q
                have := congrArg Prod.snd e
                dsimp only at this
                rw [this] at hj'
                exact hjd (List.mem_filter.mp hj').1
            have hlen : (dicL ek ((d.flatMap fun i => ((List.range p.1.length).filter (isE p i)).map fun j => ((i, j) : Edge)) ++ (d2.filter (isE p i)).map fun j => ((i, j) : Edge)) (stepV p)).length < 1000000 := by
              rw [dicL_length, List.length_append, List.length_flatMap, List.length_map]
              have h1 : ((d.map fun i => (((List.range p.1.length).filter (isE p i)).map fun j => ((i, j) : Edge)).length).sum) ≤ d.length * 50 := sum_le_mul _ fun i _ => by
                rw [List.length_map]
                exact Nat.le_trans (List.length_filter_le _ _) (by rw [List.length_range]; omega)
              have h2 := List.length_filter_le (isE p i) d2
              have h3 : d2.length ≤ 50 := by
                have := congrArg List.length hd2
                rw [List.length_range, List.length_append] at this
                omega
              have h4 : d.length ≤ 50 := by
                have := congrArg List.length hd
                rw [List.length_range, List.length_append] at this
                omega
              omega
            simp! only [dec_nat, hij, nB, decide_eq_false hb]
            rw [hv, setItem_ij get_last hlen, put_step, if_neg hnew, set_last]
            simp! only []
            rw [sat_ok]
            refine ⟨_, _, rfl, ?_⟩
            rw [List.filter_append, List.filter_cons_of_pos h0, List.filter_nil, List.map_append, List.append_assoc]
            rfl
      · intro x hx
        refine ⟨_, rfl, ?_, fun _ => ?_⟩
        · simp! only [setN_s, setN_z, atI_enc hj]
          rw [show (enc p.1[j] : D) = tpl p.1[j] from rfl, in_tpl (by decide)]
          simp! only []
        · simp! only [setN_s, setN_z]
      · have := v.few.1 _ (List.getElem_mem hi); omega
    · rintro η S' ⟨z2, z3, rfl, rfl⟩
      simp! only []
      rw [sat_ok]
      refine ⟨_, _, _, rfl, ?_⟩
      rw [List.flatMap_append, List.flatMap_cons, List.flatMap_nil, List.append_nil]
  · rintro η S' ⟨z1, z2, z3, rfl, rfl⟩
    have E : ((List.range p.1.length).flatMap fun i => ((List.range p.1.length).filter (isE p i)).map fun j => ((i, j) : Edge)) = edges p := rfl
    rw [E]
    have hE : (edges p).filter (fun e => isE p e.1 e.2) = edges p := List.filter_eq_self.mpr fun e he => (mem_edges.mp he).2.2
    have hEl := edges_le v
    simp! only [numbered_map]
    refine sat_for p.2.zipIdx (fun d η S' => ∃ z1 z2 z3 z4 z5 z6 L, η = [some (.tup [.tup (p.1.map enc), .tup (p.2.map enc)]), some (.tup (p.1.map enc)), some (.tup (p.2.map enc)), some (.int (p.1.length : Int)), some (.int ((p.1.length : Int) + (p.2.length : Int))), some (.ref S.length), z1, z2, z3, z4, z5, z6, none, none] ∧ S' = S ++ [.dT (dicL ek L (stepV p))] ∧ L.filter (fun e => isE p e.1 e.2) = edges p ∧ L.length ≤ 2500 + 2000 * d.length) ⟨_, _, _, _, _, _, edges p, rfl, rfl, hE, by simpa using hEl⟩ (fun _ _ _ _ => trivial) ?_ ?_
    · rintro d q rr η S' hd ⟨z1, z2, z3, z4, z5, z6, L, rfl, rfl, hL, hLl⟩
      have hq := mem_zipIdx (show q ∈ p.2.zipIdx by rw [hd]; simp)
      have hql := v.few.2 _ (List.mem_of_getElem? hq)
      have hdl : d.length ≤ 50 := by
        have := congrArg List.length hd
        rw [List.length_zipIdx, List.length_append] at this
        omega
      have en : (p.1.length : Int) + (q.2 : Int) = ((p.1.length + q.2 : Nat) : Int) := by omega
      refine ⟨_, rfl, ?_⟩
      simp! only [setN_s, setN_z, enc_list q.1]
      refine sat_for q.1 (fun d2 η S' => ∃ z6 L, η = [some (.tup [.tup (p.1.map enc), .tup (p.2.map enc)]), some (.tup (p.1.map enc)), some (.tup (p.2.map enc)), some (.int (p.1.length : Int)), some (.int ((p.1.length : Int) + (p.2.length : Int))), some (.ref S.length), z1, z2, z3, some (.int (q.2 : Int)), some (.tup (q.1.map enc)), z6, none, none] ∧ S' = S ++ [.dT (dicL ek L (stepV p))] ∧ L.filter (fun e => isE p e.1 e.2) = edges p ∧ L.length ≤ 2500 + 2000 * d.length + 2 * d2.length) ⟨_, L, rfl, rfl, hL, by simpa using hLl⟩ (fun _ _ _ _ => trivial) ?_ ?_
      · rintro d2 x rr2 η S' hd2 ⟨z6, L, rfl, rfl, hL, hLl⟩
        have hd2l : d2.length ≤ 1000 := by
          have := congrArg List.length hd2
          rw [List.length_append] at this
          omega
        have step : ∀ (L : List Edge) (e : Edge), isE p e.1 e.2 = false → L.filter (fun e => isE p e.1 e.2) = edges p → (if e ∈ L then L else L ++ [e]).filter (fun e => isE p e.1 e.2) = edges p := by
          intro L e h1 h2
          split
          · exact h2
          · rw [List.filter_append, h2, List.filter_cons_of_neg (by rw [h1]; exact Bool.false_ne_true), List.filter_nil, List.append_nil]
        have leng : ∀ (L : List Edge) (e : Edge), (if e ∈ L then L else L ++ [e]).length ≤ L.length + 1 := by
          intro L e
          split
          · omega
          · rw [List.length_append, List.length_singleton]; exact Nat.le_refl _
        have g1 : isE p (p.1.length + q.2) x = false := isE_out (.inl (by omega))
        have g2 : isE p x (p.1.length + q.2) = false := isE_out (.inr (by omega))
        have s1 : (D.non : D) = stepV p (p.1.length + q.2, x) := by unfold stepV; rw [if_neg (by rw [g1]; exact Bool.false_ne_true)]
        have s2 : (D.non : D) = stepV p (x, p.1.length + q.2) := by unfold stepV; rw [if_neg (by rw [g2]; exact Bool.false_ne_true)]
        have w1 : ∀ L : List Edge, L.length ≤ 200000 → setItem (S ++ [.dT (dicL ek L (stepV p))]) (.ref S.length) (.tup [.int ((p.1.length + q.2 : Nat) : Int), .int (x : Int)]) .non = .ok () (S ++ [.dT (dicL ek (if ((p.1.length + q.2, x) : Edge) ∈ L then L else L ++ [(p.1.length + q.2, x)]) (stepV p))]) := fun L h => by
          rw [setItem_ij get_last (by rw [dicL_length]; omega), s1, put_step, set_last]
        have w2 : ∀ L : List Edge, L.length ≤ 200000 → setItem (S ++ [.dT (dicL ek L (stepV p))]) (.ref S.length) (.tup [.int (x : Int), .int ((p.1.length + q.2 : Nat) : Int)]) .non = .ok () (S ++ [.dT (dicL ek (if ((x, p.1.length + q.2) : Edge) ∈ L then L else L ++ [(x, p.1.length + q.2)]) (stepV p))]) := fun L h => by
          rw [setItem_ij get_last (by rw [dicL_length]; omega), s2, put_step, set_last]
        have l1 := leng L (p.1.length + q.2, x)
        have l2 := leng (if ((p.1.length + q.2, x) : Edge) ∈ L then L else L ++ [(p.1.length + q.2, x)]) (x, p.1.length + q.2)
        refine ⟨_, rfl, ?_⟩
        simp! only [setN_s, setN_z, enc_nat, en, w1 L (by omega), w2 _ (show (if ((p.1.length + q.2, x) : Edge) ∈ L then L else L ++ [(p.1.length + q.2, x)]).length ≤ 200000 by omega)]
        rw [sat_ok]
        refine ⟨_, _, rfl, rfl, step _ _ g2 (step _ _ g1 hL), ?_⟩
        have : (d2 ++ [x]).length = d2.length + 1 := by simp
        omega
      · rintro η S' ⟨z6, L, rfl, rfl, hL, hLl⟩
        simp! only []
        rw [sat_ok]
        refine ⟨_, _, _, _, _, _, L, rfl, rfl, hL, ?_⟩
        have : (d ++ [q]).length = d.length + 1 := by simp
        omega
    · rintro η S' ⟨z1, z2, z3, z4, z5, z6, L, rfl, rfl, hL, hLl⟩
      rw [List.length_zipIdx] at hLl
      have em : (p.1.length : Int) + (p.2.length : Int) = ((p.1.length + p.2.length : Nat) : Int) := by omega
      simp! only [em, q_kRng1 (rng_ok (show p.1.length + p.2.length ≤ 1000000 by omega)), rangeL_nat]
      rw [comp_map (fun i => D.lst (((List.range (p.1.length + p.2.length)).filter fun j => mb ((i, j) : Edge) L).map enc)) ok_none]
      · simp! only [world_dct]
        rw [sat_ok]
        refine ⟨L, .lst ((List.range (p.1.length + p.2.length)).map fun i => D.lst (((List.range (p.1.length + p.2.length)).filter fun j => mb ((i, j) : Edge) L).map enc)), ?_, ?_, hL, by omega⟩
        · simp
        · rw [List.append_assoc]
          rfl
      · intro i hi
        refine ⟨_, rfl, rfl, ?_⟩
        simp! only [setN_s, setN_z, q_kRng1 (rng_ok (show p.1.length + p.2.length ≤ 1000000 by omega)), rangeL_nat]
        rw [comp_flt (fun j => mb ((i, j) : Edge) L) (enc : Nat → D) ok_none]
        · simp! only []
        · intro j hj
          refine ⟨_, rfl, ?_, fun _ => ?_⟩
          · simp! only [setN_s, setN_z]
            rw [show (D.tup [.int (i : Int), .int (j : Int)]) = enc ((i, j) : Edge) from rfl, in_dicT get_last]
            simp! only []
          · simp! only [setN_s, setN_z]
            rfl
        · rw [List.length_range]; omega
      · rw [List.length_range]; omega
theorem wg_n {S : Sto} {w : Nat} {p : Pl} {st : Nat} {near : D} (h : S[w]? = some (.dK (worldKV p st near))) : index S (.ref w) (.str "n") = some (.int (p.1.length : Int)) := by
  unfold index dicGet
  simp only [h]
  rfl
theorem wg_many {S : Sto} {w : Nat} {p : Pl} {st : Nat} {near : D} (h : S[w]? = some (.dK (worldKV p st near))) : index S (.ref w) (.str "many") = some (.int ((p.1.length + p.2.length : Nat) : Int)) := by
  unfold index dicGet
  simp only [h]
  rfl
theorem wg_steps {S : Sto} {w : Nat} {p : Pl} {st : Nat} {near : D} (h : S[w]? = some (.dK (worldKV p st near))) : index S (.ref w) (.str "steps") = some (.ref st) := by
  unfold index dicGet
  simp only [h]
  rfl
theorem wg_sites {S : Sto} {w : Nat} {p : Pl} {st : Nat} {near : D} (h : S[w]? = some (.dK (worldKV p st near))) : index S (.ref w) (.str "sites") = some (enc p.1) := by
  unfold index dicGet
  simp only [h]
  rfl
theorem c_isnot {S : Sto} {p : Pl} {e : Edge} : cmpop .IsNot S (stepV p e) .non = some (isE p e.1 e.2) := by
  unfold stepV
  cases h : isE p e.1 e.2
  · rw [if_neg Bool.false_ne_true]; rfl
  · rw [if_pos rfl]; rfl
theorem r_edges (p : Pl) (v : ValidPl p) (L : List Edge) (w st : Nat) (near : D) (hw : S[w]? = some (.dK (worldKV p st near))) (hst : S[st]? = some (.dT (dicL ek L (stepV p)))) (hL : L.filter (fun e => isE p e.1 e.2) = edges p) (hl : L.length ≤ 200000) :
    run F T (n + 1) "_law_edges" [.ref w] S = .ok (enc (edges p)) S := by
  have b1 := big_eq
  have h2 := edges_le v
  have e1 : srcDic S (.ref st) = some (L.map (enc : Edge → D)) := by
    unfold srcDic
    simp only [hst]
    unfold dicL
    rw [List.map_map]
    rfl
  rw [run_eq GB.law_edges rfl rfl]; simp! only [F_law_edges, List.map_cons, List.map_nil, Nat.sub_self, Nat.reduceSub, Nat.reduceAdd, List.replicate_zero, List.replicate_succ, List.append_nil, List.cons_append, List.nil_append, wg_steps hw, e1]
  rw [comp_flt (fun e : Edge => isE p e.1 e.2) (enc : Edge → D) ok_none]
  · simp! only [hL, sorted_lsl (α := Edge) (by decide) (show (edges p).length ≤ big by omega), srt_of_rising (edges_rising p)]
    rfl
  · intro e he
    refine ⟨_, rfl, ?_, fun _ => ?_⟩
    · simp! only [setN_s, setN_z, wg_steps hw, ix_dicT hst he, c_isnot]
    · simp! only [setN_s, setN_z]
  · omega
end
section
variable {c : DeckC} {F : Str → Str → Bool} {T : Str → Option Fn} [GA T] [GD c T] [GB T] {n : Nat}
def planB : Sms := match F_law_plan.body.tl.hd with
  | .for _ _ b => b
  | _ => .nil
def planH : Sm := planB.hd
def planT : Sms := planB.tl
theorem planB_eq : planB = .cons planH planT := rfl
theorem r_plan (o : c.Ok) (k : DK) (b : Nat) (hk : DOk k b) (hb : b < 100000000000) (p : Pl) (v : ValidPl p) (hp : p.1.length + p.2.length ≤ 10) (L : List Edge) (r : Sto) (near : D) (hL : L.filter (fun e => isE p e.1 e.2) = edges p) (hl : L.length ≤ 200000) :
    sat (run F T (n + 2) "_law_plan" [.ref 2, .ref (r.length + 4)] (DS c k (r ++ [.dT (dicL ek L (stepV p)), .dK (worldKV p (r.length + 3) near)]))) fun d S' => ∃ k' g, ∃ pl : List (List Edge), d = enc pl ∧ S' = DS c k' (r ++ (.dT (dicL ek L (stepV p)) :: .dK (worldKV p (r.length + 3) near) :: g)) ∧ DOk k' (b + 100000) ∧ ValidPlan p pl := by
  have b1 := big_eq
  have h2 := edges_le v
  have hE : ∀ (k : DK) (t : Sto), run F T (n + 1) "_law_edges" [.ref (r.length + 4)] (DS c k (r ++ .dT (dicL ek L (stepV p)) :: .dK (worldKV p (r.length + 3) near) :: t)) = .ok (enc (edges p)) (DS c k (r ++ .dT (dicL ek L (stepV p)) :: .dK (worldKV p (r.length + 3) near) :: t)) := fun k t => r_edges p v L _ _ near ds_at1 ds_at0 hL hl
  have hEl : (edges p).length ≤ 100 := by
    unfold edges
    rw [List.length_flatMap]
    refine Nat.le_trans (sum_le_mul (m := 10) _ fun i _ => ?_) ?_
    · rw [List.length_map]
      exact Nat.le_trans (List.length_filter_le _ _) (by rw [List.length_range]; omega)
    · rw [List.length_range]; omega
  have gl : (r ++ [Ob.dT (dicL ek L (stepV p)), .dK (worldKV p (r.length + 3) near)]).length + 3 = r.length + 5 := len_a2
  have ga : ∀ x : Ob, r ++ [Ob.dT (dicL ek L (stepV p)), .dK (worldKV p (r.length + 3) near)] ++ [x] = r ++ Ob.dT (dicL ek L (stepV p)) :: .dK (worldKV p (r.length + 3) near) :: [x] := fun x => by simp
  rw [run_eq GB.law_plan rfl rfl]; simp! only [F_law_plan, List.map_cons, List.map_nil, Nat.sub_self, Nat.reduceSub, Nat.reduceAdd, List.replicate_zero, List.replicate_succ, List.append_nil, List.cons_append, List.nil_append, hE, ds_app, ds_len, gl, ga]
  refine sat_bind (r_draw o k _ hk (by omega) 6 (by omega) (by omega) _) ?_
  rintro v' S' ⟨k1, way, rfl, hway, rfl, hk1⟩
  simp! only [wg_many ds_at1, q_kRng1 (rng_ok (show p.1.length + p.2.length ≤ 1000000 by omega)), rangeL_nat]
  refine sat_for (List.range (p.1.length + p.2.length)) (fun d η S' => ∃ (pl : List (List Edge)) (k' : DK) (z1 z2 z3 : Option D), η = [some (.ref 2), some (.ref (r.length + 4)), some (enc (edges p)), some (.ref (r.length + 5)), some (.int (way : Int)), z1, z2, z3, none] ∧ S' = DS c k' (r ++ Ob.dT (dicL ek L (stepV p)) :: .dK (worldKV p (r.length + 3) near) :: [.lst (pl.map enc)]) ∧ DOk k' (b + 1 + 100 * d.length) ∧ pl.length = d.length ∧ (∀ row ∈ pl, row.Sublist (edges p)) ∧ ∀ i row, pl[i]? = some row → ∀ e ∈ edges p, own i e = true → e ∈ row) ⟨[], k1, _, _, _, rfl, rfl, hk1, rfl, (fun row h => nomatch h), (fun i row h => nomatch h)⟩ (fun _ _ _ _ => trivial) ?_ ?_
  · rintro d i rr η S' hd ⟨pl, k', z1, z2, z3, rfl, rfl, hk', hpl, hsub, hown⟩
    have hdl : d.length < p.1.length + p.2.length := by
      have := congrArg List.length hd
      rw [List.length_range, List.length_append, List.length_cons] at this
      omega
    have hid : i = d.length := by
      have h1 : (List.range (p.1.length + p.2.length))[d.length]? = some i := by rw [hd]; simp
      rw [List.getElem?_range hdl] at h1
      exact (Option.some.inj h1).symm
    have fin : ∀ (few : Int) (z3 : Option D), sat ((exs (run F T (n + 1)) F planT [some (.ref 2), some (.ref (r.length + 4)), some (enc (edges p)), some (.ref (r.length + 5)), some (.int (way : Int)), some (.int (i : Int)), some (.int few), z3, none] (DS c k' (r ++ Ob.dT (dicL ek L (stepV p)) :: .dK (worldKV p (r.length + 3) near) :: [.lst (pl.map enc)]))))
        fun fl S2 => ∃ (z2 z3 : Option D) (k2 : DK) (row : List Edge), fl = .nx [some (.ref 2), some (.ref (r.length + 4)), some (enc (edges p)), some (.ref (r.length + 5)), some (.int (way : Int)), some (.int (i : Int)), z2, z3, none] ∧ S2 = DS c k2 (r ++ Ob.dT (dicL ek L (stepV p)) :: .dK (worldKV p (r.length + 3) near) :: [.lst ((pl ++ [row]).map enc)]) ∧ DOk k2 (b + 1 + 100 * d.length + 100) ∧ row.Sublist (edges p) ∧ ∀ e ∈ edges p, own i e = true → e ∈ row := by
      intro few z3
      simp! only [planT, planB, F_law_plan, Sms.hd, Sms.tl, enc_list (edges p)]
      refine sat_comp (edges p) (by omega) (fun e acc S' => ∃ (row : List Edge) (k2 : DK), acc = row.map enc ∧ S' = DS c k2 (r ++ Ob.dT (dicL ek L (stepV p)) :: .dK (worldKV p (r.length + 3) near) :: [.lst (pl.map enc)]) ∧ DOk k2 (b + 1 + 100 * d.length + e.length) ∧ row.Sublist e ∧ ∀ e' ∈ e, own i e' = true → e' ∈ row) ⟨[], k', rfl, rfl, hk', List.Sublist.refl _, (fun e' h => nomatch h)⟩ (fun _ _ _ _ => trivial) ?_ ?_
      · rintro e x rr2 acc S' he ⟨row, k2, rfl, rfl, hk2, hs, ho⟩
        have hel : e.length < 100 := by
          have := congrArg List.length he
          rw [List.length_append, List.length_cons] at this
          omega
        refine ⟨_, rfl, ?_⟩
        have eo : ∀ S : Sto, isIn S (.int (i : Int)) (enc x) = some (own i x) := fun S => in_tpl (a := i) (l := [x.1, x.2]) (by decide)
        have yes : ∀ k3, DOk k3 (b + 1 + 100 * d.length + e.length + 1) → ∃ (row' : List Edge) (k2' : DK), row.map enc ++ [enc x] = row'.map (enc : Edge → D) ∧ DS c k3 (r ++ Ob.dT (dicL ek L (stepV p)) :: .dK (worldKV p (r.length + 3) near) :: [.lst (pl.map enc)]) = DS c k2' (r ++ Ob.dT (dicL ek L (stepV p)) :: .dK (worldKV p (r.length + 3) near) :: [.lst (pl.map enc)]) ∧ DOk k2' (b + 1 + 100 * d.length + (e ++ [x]).length) ∧ row'.Sublist (e ++ [x]) ∧ ∀ e' ∈ e ++ [x], own i e' = true → e' ∈ row' := by
          intro k3 hk3
          refine ⟨row ++ [x], k3, by simp, rfl, ?_, ?_, fun e' he' q => ?_⟩
          · rw [List.length_append, List.length_singleton]; exact hk3
          · exact hs.append (List.Sublist.refl _)
          · rcases List.mem_append.mp he' with z | z
            · exact List.mem_append_left _ (ho e' z q)
            · exact List.mem_append_right _ z
        have noo : own i x = false → ∀ k3, DOk k3 (b + 1 + 100 * d.length + e.length + 1) → ∃ (row' : List Edge) (k2' : DK), row.map enc = row'.map (enc : Edge → D) ∧ DS c k3 (r ++ Ob.dT (dicL ek L (stepV p)) :: .dK (worldKV p (r.length + 3) near) :: [.lst (pl.map enc)]) = DS c k2' (r ++ Ob.dT (dicL ek L (stepV p)) :: .dK (worldKV p (r.length + 3) near) :: [.lst (pl.map enc)]) ∧ DOk k2' (b + 1 + 100 * d.length + (e ++ [x]).length) ∧ row'.Sublist (e ++ [x]) ∧ ∀ e' ∈ e ++ [x], own i e' = true → e' ∈ row' := by
          intro hx k3 hk3
          refine ⟨row, k3, rfl, rfl, ?_, ?_, fun e' he' q => ?_⟩
          · rw [List.length_append, List.length_singleton]; exact hk3
          · exact hs.trans (List.sublist_append_left _ _)
          · rcases List.mem_append.mp he' with z | z
            · exact ho e' z q
            · rw [List.mem_singleton] at z
              rw [z, hx] at q; cases q
        simp only [setN_s, setN_z, wipeE_cons, wipeE_nil, wipe1_s, wipe1_z]
        cases ho1 : own i x with
        | true =>
          simp! only [eo, ho1]
          rw [sat_ok]
          exact ⟨true, rfl, fun _ => sat_ok.mpr (yes _ (hk2.mono (by omega))), fun h => nomatch h⟩
        | false =>
          by_cases hf0 : few = 0
          · simp! only [eo, ho1, hf0]
            rw [sat_ok]
            exact ⟨true, rfl, fun _ => sat_ok.mpr (yes _ (hk2.mono (by omega))), fun h => nomatch h⟩
          · by_cases hf1 : few = 1
            · simp! only [eo, ho1, hf1]
              refine sat_bind (r_draw o k2 _ hk2 (by omega) 2 (by omega) (by omega) _) ?_
              rintro v' S' ⟨k3, j, rfl, hj, rfl, hk3⟩
              by_cases hj0 : (j : Int) = 0
              · simp! only [hj0]
                rw [sat_ok]
                exact ⟨true, rfl, fun _ => sat_ok.mpr (yes _ hk3), fun h => nomatch h⟩
              · simp! only [hj0]
                rw [sat_ok]
                exact ⟨false, rfl, fun h => (nomatch h), fun _ => noo ho1 _ hk3⟩
            · simp! only [eo, ho1, hf0, hf1]
              rw [sat_ok]
              exact ⟨false, rfl, fun h => (nomatch h), fun _ => noo ho1 _ (hk2.mono (by omega))⟩
      · rintro acc S' ⟨row, k2, rfl, rfl, hk2, hs, ho⟩
        have hap : (DS c k2 (r ++ Ob.dT (dicL ek L (stepV p)) :: .dK (worldKV p (r.length + 3) near) :: [.lst (pl.map enc ++ [.tup (row.map enc)])])) = DS c k2 (r ++ Ob.dT (dicL ek L (stepV p)) :: .dK (worldKV p (r.length + 3) near) :: [.lst ((pl ++ [row]).map enc)]) := by
          rw [List.map_append]; rfl
        simp! only [ty_append ds_at2, bm_append ds_at2 (show (pl.map (enc : List Edge → D)).length < big by rw [List.length_map]; omega), ds_set2, hap]
        rw [sat_ok]
        exact ⟨_, _, k2, row, rfl, rfl, hk2.mono (by omega), hs, ho⟩
    have hfin : ∀ (few : Int) (z3 : Option D), sat ((exs (run F T (n + 1)) F planT [some (.ref 2), some (.ref (r.length + 4)), some (enc (edges p)), some (.ref (r.length + 5)), some (.int (way : Int)), some (.int (i : Int)), some (.int few), z3, none] (DS c k' (r ++ Ob.dT (dicL ek L (stepV p)) :: .dK (worldKV p (r.length + 3) near) :: [.lst (pl.map enc)]))))
        fun fl S2 => match fl with
          | .nx η2 => ∃ (pl : List (List Edge)) (k' : DK) (z1 z2 z3 : Option D), η2 = [some (.ref 2), some (.ref (r.length + 4)), some (enc (edges p)), some (.ref (r.length + 5)), some (.int (way : Int)), z1, z2, z3, none] ∧ S2 = DS c k' (r ++ Ob.dT (dicL ek L (stepV p)) :: .dK (worldKV p (r.length + 3) near) :: [.lst (pl.map enc)]) ∧ DOk k' (b + 1 + 100 * (d ++ [i]).length) ∧ pl.length = (d ++ [i]).length ∧ (∀ row ∈ pl, row.Sublist (edges p)) ∧ ∀ i row, pl[i]? = some row → ∀ e ∈ edges p, own i e = true → e ∈ row
          | _ => False := by
      intro few z3
      refine sat_mono (fin few z3) ?_
      rintro fl S2 ⟨z2, z3, k2, row, rfl, rfl, hk2, hs, ho⟩
      refine ⟨pl ++ [row], k2, _, _, _, rfl, rfl, hk2.mono ?_, ?_, ?_, ?_⟩
      · rw [List.length_append, List.length_singleton]; omega
      · rw [List.length_append, List.length_append, hpl]; rfl
      · intro row' hr'
        rcases List.mem_append.mp hr' with q | q
        · exact hsub row' q
        · rw [List.mem_singleton] at q; rw [q]; exact hs
      · intro i' row' hr'
        by_cases hi' : i' < pl.length
        · rw [List.getElem?_append_left hi'] at hr'
          exact hown i' row' hr'
        · rw [List.getElem?_append_right (by omega)] at hr'
          have : i' - pl.length = 0 := by
            by_cases z : i' - pl.length = 0
            · exact z
            · rw [List.getElem?_eq_none (by rw [List.length_singleton]; omega)] at hr'
              cases hr'
          rw [this] at hr'
          cases hr'
          rw [show i' = i by omega]
          exact ho
    refine ⟨_, rfl, ?_⟩
    simp only [setN_s, setN_z]
    have go : ∀ (few : Int), sat (ex (run F T (n + 1)) F planH [some (.ref 2), some (.ref (r.length + 4)), some (enc (edges p)), some (.ref (r.length + 5)), some (.int (way : Int)), some (.int (i : Int)), z2, z3, none] (DS c k' (r ++ Ob.dT (dicL ek L (stepV p)) :: .dK (worldKV p (r.length + 3) near) :: [.lst (pl.map enc)]))) (fun fl S2 => ∃ few, fl = .nx [some (.ref 2), some (.ref (r.length + 4)), some (enc (edges p)), some (.ref (r.length + 5)), some (.int (way : Int)), some (.int (i : Int)), some (.int few), z3, none] ∧ S2 = DS c k' (r ++ Ob.dT (dicL ek L (stepV p)) :: .dK (worldKV p (r.length + 3) near) :: [.lst (pl.map enc)])) := by
      intro _
      by_cases w0 : (way : Int) = 0
      · simp! only [planH, planB, F_law_plan, Sms.hd, Sms.tl, w0]
        rw [sat_ok]; exact ⟨_, rfl, rfl⟩
      · by_cases w1 : (way : Int) = 1
        · simp! only [planH, planB, F_law_plan, Sms.hd, Sms.tl, w1]
          rw [sat_ok]; exact ⟨_, rfl, rfl⟩
        · simp! only [planH, planB, F_law_plan, Sms.hd, Sms.tl, w0, w1]
          rw [sat_ok]; exact ⟨_, rfl, rfl⟩
    refine show sat (exs (run F T (n + 1)) F planB _ _) _ from ?_
    rw [planB_eq, x_cons]
    refine sat_bind (go 0) ?_
    rintro fl S2 ⟨few, rfl, rfl⟩
    rw [seqS_nx]
    refine sat_mono (hfin few z3) ?_
    intro fl S2 h
    cases fl with
    | nx η2 => exact h
    | _ => exact h.elim
  · rintro η S' ⟨pl, k', z1, z2, z3, rfl, rfl, hk', hpl, hsub, hown⟩
    rw [List.length_range] at hk' hpl
    simp! only [tuple_ref ds_at2]
    rw [sat_ok]
    refine ⟨k', _, pl, rfl, rfl, hk'.mono (by omega), hpl, fun row hr => ?_, fun row hr e he => (hsub row hr).subset he, hown, fun row hr => ?_⟩
    · exact List.Pairwise.sublist (hsub row hr) (edges_rising p)
    · have := (hsub row hr).length_le; omega
end
end MP

set_option Elab.async false
set_option linter.all false
set_option maxRecDepth 100000
set_option maxHeartbeats 4000000
/-! W3: repr. -/
namespace MP
open PySem L2 PySem.W PyProof.Rows
open Enc EncO
mutual
/-- numbers of at most twelve digits, no dict -/
def tame : PyData → Bool
  | .none | .bool _ | .str _ => true
  | .int i => decide (i.natAbs < 10 ^ 12)
  | .list xs => tameAll xs
  | .tuple xs => tameAll xs
  | .dict _ => false
def tameAll : List PyData → Bool
  | [] => true
  | x :: xs => tame x && tameAll xs
end
mutual
theorem tame_ok : ∀ d : PyData, tame d = true → d.intsShort 13 = true ∧ d.showable = true
  | .none, _ => ⟨rfl, rfl⟩
  | .bool _, _ => ⟨rfl, rfl⟩
  | .str _, _ => ⟨rfl, rfl⟩
  | .int i, h => by
    have h : i.natAbs < 10 ^ 12 := by simpa only [tame, decide_eq_true_eq] using h
    refine ⟨?_, ?_⟩
    · simp only [PyData.intsShort, decide_eq_true_eq]
      exact PyData.shown_int_le h
    · simp only [PyData.showable, decide_eq_true_eq]
      have h2 : i.natAbs < 2 ^ 40 := Nat.lt_of_lt_of_le h (by decide)
      by_cases h0 : i.natAbs = 0
      · rw [h0]; decide
      · have := (Nat.log2_lt h0).mpr h2
        omega
  | .list xs, h => by
    have := tameAll_ok xs (by simpa only [tame] using h)
    simpa only [PyData.intsShort, PyData.showable] using this
  | .tuple xs, h => by
    have := tameAll_ok xs (by simpa only [tame] using h)
    simpa only [PyData.intsShort, PyData.showable] using this
  | .dict _, h => by simp [tame] at h
theorem tameAll_ok : ∀ xs : List PyData, tameAll xs = true → PyData.intsShortAll 13 xs = true ∧ PyData.showableAll xs = true
  | [], _ => ⟨rfl, rfl⟩
  | x :: xs, h => by
    simp only [tameAll, Bool.and_eq_true] at h
    obtain ⟨a1, a2⟩ := tame_ok x h.1
    obtain ⟨b1, b2⟩ := tameAll_ok xs h.2
    simp only [PyData.intsShortAll, PyData.showableAll, a1, a2, b1, b2, Bool.and_self, and_self]
end
theorem repr_ok {S : Sto} {d : D} {e : PyData} (h : pd S d = some e) (ht : tame e = true) (hw : e.weight ≤ 60000) : biop .repr S [d] = some (.str e.shown) := by
  obtain ⟨h1, h2⟩ := tame_ok e ht
  have h3 := (pd_shape (S := S) 20 d e h).1
  have h4 := PyData.shown_le 13 (by decide) e (PyData.leavesShort_of_canLay0 13 e h3 h1)
  show reprOf S d = _
  unfold reprOf
  rw [h, Option.bind_some, if_pos ⟨h2, by rw [big_eq]; omega⟩]
theorem tameAll_map {α : Type} {f : α → PyData} : ∀ {l : List α}, (∀ a ∈ l, tame (f a) = true) → tameAll (l.map f) = true
  | [], _ => rfl
  | a :: l, h => by
    rw [List.map_cons, tameAll, h a List.mem_cons_self, tameAll_map fun b hb => h b (List.mem_cons_of_mem _ hb)]
    rfl
theorem weight_map {α : Type} {f : α → PyData} {m : Nat} : ∀ {l : List α}, (∀ a ∈ l, (f a).weight ≤ m) → PyData.weightAll (l.map f) ≤ l.length * (m + 1)
  | [], _ => by simp [PyData.weightAll]
  | a :: l, h => by
    have h1 := h a List.mem_cons_self
    have h2 := weight_map fun b hb => h b (List.mem_cons_of_mem _ hb)
    rw [List.map_cons, PyData.weightAll, List.length_cons, Nat.add_mul]
    omega
theorem weight_int {i : Int} (h : i.natAbs < 10 ^ 12) : (PyData.int i).weight ≤ 40 := by
  simp only [PyData.weight]
  split
  · omega
  · rename_i q
    have h0 : i.natAbs ≠ 0 := by simpa using q
    have h2 : i.natAbs < 2 ^ 40 := Nat.lt_of_lt_of_le h (by decide)
    have := (Nat.log2_lt h0).mpr h2
    omega
/-- the text of a row of numbers -/
theorem repr_nats {S : Sto} {l : List Nat} (h : ∀ x ∈ l, x < 1000000) (hl : l.length ≤ 1000) : biop .repr S [enc l] = some (.str (dat l : PyData).shown) := by
  have q : ∀ x ∈ l, ((x : Nat) : Int).natAbs < 10 ^ 12 := fun x hx => by
    have := h x hx
    rw [Int.natAbs_natCast]
    exact Nat.lt_of_lt_of_le this (by decide)
  refine repr_ok (pd_enc (by decide)) ?_ ?_
  · show tame (.tuple (l.map dat)) = true
    rw [tame]
    refine tameAll_map fun x hx => ?_
    show tame (.int (x : Int)) = true
    rw [tame]
    exact decide_eq_true (q x hx)
  · show (PyData.tuple (l.map dat)).weight ≤ 60000
    rw [PyData.weight]
    refine Nat.le_trans (weight_map (m := 40) fun x hx => weight_int (q x hx)) ?_
    omega
theorem ix_last {S : Sto} {l : Nat} {xs : List D} {d : D} (h : S[l]? = some (.lst (xs ++ [d]))) : index S (.ref l) (.int (-1)) = some d := by
  rw [ix_ref _ h, atI_last (by simp)]
  simp
end MP

set_option Elab.async false
set_option linter.all false
set_option maxRecDepth 100000
set_option maxHeartbeats 4000000
/-! K18m: the law k18 over the small language. -/
namespace MP
open PySem L2 PySem.W PyProof.Rows
open Enc EncO
local macro_rules
  | `(tactic| simp! only [$ts,*]) => `(tactic| simp only [MP.R.bind_ok, kk_eq, kk_app, look_z, look_s, setN_z, setN_s, setNs_nil, setNs_cons, setTg_nm, setTg_tp, wipe1_z, wipe1_s, wipeE_nil, wipeE_cons, ifK_t, ifK_f, retK_eq, notK_bl, negK_int, opD_some, mkLd_f, mkLd_t, mkL_f, mkL_t, alloc_eq, opO_some, opE_some, MP.R.of_some, q_kBin2, q_kBin, q_kCmpE, q_kCmp, q_kCmp2b, q_kCmp2dt, q_kCmp2df, q_kCmp2, q_kIx2, q_kIx, q_kSl3, q_kSl2, q_kSl, q_kRev, q_kTup, q_kLst, q_kDct, q_kComp, q_kLs, q_kComp2, q_kDo, q_kDcomp, q_kCall, q_callO, q_kBi, q_kSrt, q_kDicz2, q_kDicz, q_kDicl, q_kDicd, q_kBm2, q_kBm, q_bmTt, q_kIsa, q_kRngv, q_kCons2, q_kCons, q_kAtt, q_attO, q_fldOf, q_kMk2, q_kMk, q_kMth2, q_mthTt, q_mthO, q_kMth, q_kSeq_tup, q_kSeq_lst, q_kSeq_str, q_kSeq_rng, q_kRng2, q_kEnm_tup, q_kEnm_lst, q_kZip2, q_kZip, q_kDic, q_kDicO, seqS_nx, seqS_rt, seqS_bk, seqS_ct, q_kNx, q_kAsg, q_kPar, q_kRt, q_kDrop, q_kUnit, q_kUnitE, q_augP, q_kAug4, q_augV, q_kAug2, q_kAug, q_kFor, q_kSub2, q_kSub, q_kFld, q_kTwo, endR_rt, endR_nx, e_cst, e_bin, e_cmp, e_ix, e_sl, e_tup, e_lst, e_dnewT, e_dnewK, e_comp, e_comp2, e_isa, e_nil, e_cons, e_mk, x_nil, x_asg, x_expr, x_for, x_whl, x_ret, x_retN, x_brk, x_cont, x_pass, a_nm, a_tp, a_sub, a_fld, a_two, permute_none, e_var, e_neg, e_cmp2, e_and, e_or, e_not, e_ite, e_rev, e_dct, e_dcomp, e_call, e_bi, e_srt, e_dicz, e_dicl, e_dicd, e_bm, e_att, e_mth, e_rngv, s_seq, s_rng1, s_rng2, s_enm, s_zip, s_dic, x_cons, x_par, x_aug, x_ife, Option.map_some, Option.bind_some, ty_int_int, ty_int_bool, ty_int_str, ty_int_tup, ty_str_str, ty_str_int, ty_tup_tup, c_lt, c_le, c_gt, c_ge, c_eq, c_ne, c_in, c_notin, b_add, b_sub, Bool.not_true, Bool.not_false, len_tup, len_lst, tuple_lst, tuple_tup, list_tup, list_lst, list_rng, bi_int, bi_max, bi_min, ix_tup, ix_lst, at_0, at_1, at_2, at_3, at_4, decide_true, decide_false, Int.reduceEq, Int.reduceLT, Int.reduceLE, List.length_cons, List.length_nil, Nat.zero_add, Nat.reduceAdd, Int.natCast_zero, Int.cast_ofNat_Int, few_0, few_1, few_2, few_3, few_4, few_5, few_6, few_7, few_8, few_9, few_10, List.cons_append, List.nil_append, $ts,*])
/-- law: script 0, deck 1, turn 2, placement 3, world 4, plan 5, place 6, zeros_v 7, told 8, sites 9, site 10, done 11, counts 12, go 13, due 14, edge 15, kept 16, update 17, name 18 -/
def F18 : Fn := ⟨1, 19, (.cons (.asg (.nm 1) (.call "_law_deck" (.cons (.var 0) .nil) none)) (.cons (.for (.nm 2) (.rng1 (.cst (.int 2))) (.cons (.asg (.nm 3) (.call "_law_drawn" (.cons (.var 1) .nil) none)) (.cons (.asg (.nm 4) (.call "_law_map" (.cons (.var 3) .nil) none)) (.cons (.asg (.nm 5) (.call "_law_plan" (.cons (.var 1) (.cons (.var 4) .nil)) none)) (.cons (.for (.nm 6) (.rng1 (.ix (.var 4) (.cst (.str "many")))) (.cons (.asg (.nm 7) (.bin .Mult (.tup (.cons (.cst (.int 0)) .nil)) (.bi .len false (.cons (.ix (.var 5) (.var 6)) .nil)))) (.cons (.asg (.nm 8) (.ite (.cmp .Gt (.var 6) (.cst (.int 0))) (.call "new_counts" (.cons (.var 3) (.cons (.var 5) (.cons (.var 6) .nil))) none) (.call "new_counts" (.cons (.var 6) (.cons (.var 5) (.cons (.var 3) .nil))) (some [2, 1, 0])))) (.cons (.ife (.cmp .NotEq (.bi .repr false (.cons (.var 8) .nil)) (.bi .repr false (.cons (.var 7) .nil))) (.cons (.ret (.cst (.bl false))) .nil) .nil) .nil)))) (.cons (.asg (.nm 9) (.comp false (.nm 10) (.rng1 (.ix (.var 4) (.cst (.str "n")))) (.cmp .NotEq (.ix (.ix (.var 3) (.cst (.int 0))) (.var 10)) (.tup .nil)) (.var 10) [10])) (.cons (.asg (.tp [10, 11]) (.tup (.cons (.call "_law_pick" (.cons (.var 1) (.cons (.var 9) .nil)) none) (.cons (.lst true .nil) .nil)))) (.cons (.asg (.nm 12) (.bin .Mult (.tup (.cons (.cst (.int 0)) .nil)) (.bi .len false (.cons (.ix (.var 5) (.var 10)) .nil)))) (.cons (.for (.nm 13) (.rng1 (.call "_law_pick" (.cons (.var 1) (.cons (.lst false (.cons (.cst (.int 6)) (.cons (.cst (.int 4)) (.cons (.cst (.int 9)) (.cons (.cst (.int 12)) .nil))))) .nil)) none)) (.cons (.expr (.bm .append (.var 11) (.cons (.call "_law_pick" (.cons (.var 1) (.cons (.ix (.ix (.var 3) (.cst (.int 0))) (.var 10)) .nil)) none) .nil))) (.cons (.asg (.nm 8) (.call "written" (.cons (.var 3) (.cons (.var 5) (.cons (.var 10) (.cons (.var 12) (.cons (.ix (.var 11) (.neg (.cst (.int 1)))) .nil))))) none)) (.cons (.ife (.cmp .Eq (.var 13) (.cst (.int 0))) (.cons (.asg (.nm 8) (.call "written" (.cons (.ix (.var 11) (.neg (.cst (.int 1)))) (.cons (.var 12) (.cons (.var 10) (.cons (.var 5) (.cons (.var 3) .nil))))) (some [4, 3, 2, 1, 0]))) .nil) .nil) (.cons (.asg (.nm 14) (.lst true .nil)) (.cons (.for (.nm 15) (.seq (.ix (.var 5) (.var 10))) (.cons (.asg (.nm 16) (.ix (.ix (.var 3) (.cst (.int 0))) (.ix (.var 15) (.cst (.int 1))))) (.cons (.expr (.bm .append (.var 14) (.cons (.bi .len false (.cons (.comp false (.nm 18) (.seq (.var 11)) (.and (.cmp .Eq (.ix (.var 15) (.cst (.int 0))) (.var 10)) (.cmp .In (.var 18) (.var 16))) (.var 18) [18]) .nil)) .nil))) .nil))) (.cons (.ife (.cmp .NotEq (.bi .repr false (.cons (.var 8) .nil)) (.bi .repr false (.cons (.bi .tuple false (.cons (.var 14) .nil)) .nil))) (.cons (.ret (.cst (.bl false))) .nil) .nil) (.cons (.asg (.nm 12) (.bi .tuple false (.cons (.var 14) .nil))) (.cons (.asg (.nm 17) (.tup (.cons (.var 10) (.cons (.ix (.var 11) (.neg (.cst (.int 1)))) (.cons (.var 12) .nil))))) (.cons (.ife (.cmp .NotEq (.bi .repr false (.cons (.tup (.cons (.call "are_counts" (.cons (.var 3) (.cons (.var 5) (.cons (.var 10) (.cons (.var 12) .nil)))) none) (.cons (.call "is_update" (.cons (.var 3) (.cons (.var 5) (.cons (.var 17) .nil))) none) .nil))) .nil)) (.cst (.str "(True, True)"))) (.cons (.ret (.cst (.bl false))) .nil) .nil) .nil)))))))))) .nil))))))))) (.cons (.ret (.cst (.bl true))) .nil))), false⟩

def for18 : Sm := F18.body.tl.hd
def b18 : Sms := match for18 with
  | .for _ _ b => b
  | _ => .nil
def pl18 : Sms := match b18.tl.tl.tl.hd with
  | .for _ _ b => b
  | _ => .nil
def go18 : Sms := match b18.tl.tl.tl.tl.tl.tl.tl.hd with
  | .for _ _ b => b
  | _ => .nil
theorem ok_ref {its : List D} {l : Nat} {xs : List D} {S : Sto} (h : S[l]? = some (.lst xs)) : (⟨its, some (l, xs)⟩ : Wk).ok S := h
def goT : Sms := go18.tl.tl.tl
def goH1 : Sm := go18.hd
def goH2 : Sm := go18.tl.hd
def goH3 : Sm := go18.tl.tl.hd
theorem go18_eq : go18 = .cons goH1 (.cons goH2 (.cons goH3 goT)) := rfl
section
variable {c : DeckC} {k : DK} {r t : Sto} {a o x : Ob}
theorem ds_end : (DS c k (r ++ a :: (t ++ [x])))[r.length + t.length + 4]? = some x := by
  show (r ++ a :: (t ++ [x]))[r.length + t.length + 1]? = _
  rw [List.getElem?_append_right (by omega), show r.length + t.length + 1 - r.length = t.length + 1 by omega, List.getElem?_cons_succ]
  simp
theorem ds_end_set : (DS c k (r ++ a :: (t ++ [x]))).set (r.length + t.length + 4) o = DS c k (r ++ a :: (t ++ [o])) := by
  show k.g :: _ :: _ :: (r ++ a :: (t ++ [x])).set (r.length + t.length + 1) o = _
  rw [List.set_append_right _ _ (by omega), show r.length + t.length + 1 - r.length = t.length + 1 by omega, List.set_cons_succ, List.set_append_right _ _ (Nat.le_refl _)]
  simp [DS]
end
/-- how many of the writes count for an edge -/
def cnt (p : Pl) (s : Nat) (dn : List Nm) (e : Edge) : Nat := (dn.filter fun x => decide (e.1 = s) && mb x (keeps p e.2)).length
theorem cnt_bump (p : Pl) (s : Nat) (dn : List Nm) (x : Nm) (e : Edge) : bump p s x (cnt p s dn) e = cnt p s (dn ++ [x]) e := by
  unfold bump cnt
  rw [List.filter_append, List.length_append]
  congr 1
  by_cases h1 : e.1 = s
  · by_cases h2 : x ∈ keeps p e.2
    · simp [h1, h2, mb]
    · simp [h1, h2, mb]
  · simp [h1]
theorem cnt_le (p : Pl) (s : Nat) (dn : List Nm) (e : Edge) : cnt p s dn e ≤ dn.length := List.length_filter_le _ _
theorem perm3 (a b d : D) : permute (some [2, 1, 0]) [a, b, d] = some [d, b, a] := rfl
theorem perm5 (a b d e f : D) : permute (some [4, 3, 2, 1, 0]) [a, b, d, e, f] = some [f, e, d, b, a] := rfl
section
variable {c : DeckC} {F : Str → Str → Bool} {T : Str → Option Fn} [GA T] [GZ T] [GD c T] [GB T] [GB2 T] [GB3 T] {n : Nat}
theorem keeps_some {p : Pl} {i : Nat} (h : i < p.1.length) : p.1[i]? = some (keeps p i) := by
  unfold keeps
  rw [List.getD_eq_getElem?_getD, List.getElem?_eq_getElem h]; rfl
/-- the counts of all places, new -/
theorem places18 (p : Pl) (v : ValidPl p) (pl : List (List Edge)) (w : ValidPlan p pl) (i : Nat) (row : List Edge) (h : pl[i]? = some row) (S : Sto) (η1 η2 : Env) (z0 z1 z2 z3 z4 z5 : Option D) (tl : Env) :
    exs (run F T (n + 11)) F pl18 (z0 :: z1 :: z2 :: some (enc p) :: z3 :: some (enc pl) :: some (.int (i : Int)) :: z4 :: z5 :: tl) S = .ok (.nx (z0 :: z1 :: z2 :: some (enc p) :: z3 :: some (enc pl) :: some (.int (i : Int)) :: some (enc (row.map fun _ => (0 : Nat))) :: some (enc (row.map fun _ => (0 : Nat))) :: tl)) S := by
  have hl := w.few _ (List.mem_of_getElem? h)
  have e1 : (List.replicate row.length [D.int 0]).flatten = (row.map fun _ => (0 : Nat)).map (enc : Nat → D) := rep_zero row
  have e2 : binop .Mult S (.tup [.int 0]) (.int (row.length : Int)) = some (enc (row.map fun _ => (0 : Nat))) := by
    rw [b_rep0 _ _ (by simp) (by simp) hl, e1]; rfl
  have e3 : biop .repr S [enc (row.map fun _ => (0 : Nat))] = some (.str (dat (row.map fun _ => (0 : Nat)) : PyData).shown) := repr_nats (fun x hx => by
    obtain ⟨_, _, rfl⟩ := List.mem_map.mp hx
    decide) (by rw [List.length_map]; exact hl)
  have e5 : index S (enc pl) (.int (i : Int)) = some (enc row) := by rw [enc_list, ix_tup, atI_some h]
  have e6 : biop .len S [enc row] = some (.int (row.length : Int)) := by rw [enc_list, len_tup, List.length_map]
  by_cases h0 : (0 : Int) < (i : Int)
  · simp! only [pl18, b18, for18, F18, Sms.hd, Sms.tl, e5, e6, e2, h0, r_new_counts p v pl w i row h, e3, ne_str]
  · simp! only [pl18, b18, for18, F18, Sms.hd, Sms.tl, e5, e6, e2, h0, perm3, r_new_counts p v pl w i row h, e3, ne_str]
theorem app_in {r t : Sto} {a x : Ob} : (r ++ a :: t) ++ [x] = r ++ a :: (t ++ [x]) := by simp
theorem len_in {r t : Sto} {a : Ob} : (r ++ a :: t).length + 3 = r.length + t.length + 4 := by rw [List.length_append, List.length_cons]; omega
theorem pix0 {S : Sto} {p : Pl} : index S (enc p) (.int 0) = some (enc p.1) := by rw [enc_pair, ix_tup, at_0]
theorem pixs {S : Sto} {p : Pl} {i : Nat} (h : i < p.1.length) : index S (enc p.1) (.int (i : Int)) = some (enc (keeps p i)) := by rw [enc_list, ix_tup, atI_some (keeps_some h)]
theorem go_step (o : c.Ok) (k : DK) (b : Nat) (hk : DOk k b) (hb : b < 500000000000) (p : Pl) (v : ValidPl p) (pl : List (List Edge)) (w : ValidPlan p pl) (s : Nat) (row : List Edge) (h : pl[s]? = some row) (hs : s < p.1.length) (hne : keeps p s ≠ []) (dn : List Nm) (hdn : ∀ x ∈ dn, x ∈ keeps p s) (hdl : dn.length ≤ 20) (g : Nat) (R t : Sto)
    (z0 z2 z4 z6 z7 z8 z9 z14 z15 z16 z17 : Option D) :
    sat (exs (run F T (n + 11)) F go18 [z0, some (.ref 2), z2, some (enc p), z4, some (enc pl), z6, z7, z8, z9, some (.int (s : Int)), some (.ref (R.length + 3)), some (enc (row.map (cnt p s dn))), some (.int (g : Int)), z14, z15, z16, z17, none] (DS c k (R ++ .lst (dn.map enc) :: t)))
      fun fl S2 => ∃ x ∈ keeps p s, ∃ k' t', ∃ (z8 z14 z15 z16 z17 : Option D), fl = .nx [z0, some (.ref 2), z2, some (enc p), z4, some (enc pl), z6, z7, z8, z9, some (.int (s : Int)), some (.ref (R.length + 3)), some (enc (row.map (cnt p s (dn ++ [x])))), some (.int (g : Int)), z14, z15, z16, z17, none] ∧ S2 = DS c k' (R ++ .lst ((dn ++ [x]).map enc) :: t') ∧ DOk k' (b + 1) := by
  have b1 := big_eq
  have hl := w.few _ (List.mem_of_getElem? h)
  have hkl := keeps_le p v s
  have hkp : 0 < (keeps p s).length := List.length_pos_iff.mpr hne
  have e5 : ∀ S : Sto, index S (enc pl) (.int (s : Int)) = some (enc row) := fun S => by rw [enc_list, ix_tup, atI_some h]
  have hsub := w.sub _ (List.mem_of_getElem? h)
  rw [go18_eq]
  simp! only [goH1, goH2, goH3, go18, b18, for18, F18, Sms.hd, Sms.tl, ty_append ds_at0, pix0, pixs hs]
  refine sat_bind (r_pickM (enc : Nm → D) (keeps p s) o k b hk hb _ (.inr rfl) hkp (by omega) _) ?_
  rintro v' S' ⟨k1, x, hx, rfl, rfl, hk1⟩
  have el : dn.map enc ++ [enc x] = (dn ++ [x]).map (enc : Nm → D) := by simp
  have hla : ∀ (k : DK) (t : Sto), index (DS c k (R ++ .lst ((dn ++ [x]).map enc) :: t)) (.ref (R.length + 3)) (.int (-1)) = some (enc x) := fun k t => by
    have : (DS c k (R ++ .lst ((dn ++ [x]).map enc) :: t))[R.length + 3]? = some (.lst (dn.map enc ++ [enc x])) := by rw [ds_at0, el]
    exact ix_last this
  have hwr : ∀ S : Sto, run F T (n + 11) "written" [enc p, enc pl, .int (s : Int), enc (row.map (cnt p s dn)), enc x] S = .ok (enc (row.map (cnt p s (dn ++ [x])))) S := fun S => by
    rw [r_written p v pl w s row (cnt p s dn) x h hx]
    congr 3
    funext e
    exact cnt_bump p s dn x e
  have hin1 : (-(1 : Int)) = -1 := rfl
  have tail : ∀ (z8 : Option D), z8 = some (enc (row.map (cnt p s (dn ++ [x])))) → sat (exs (run F T (n + 11)) F goT [z0, some (.ref 2), z2, some (enc p), z4, some (enc pl), z6, z7, z8, z9, some (.int (s : Int)), some (.ref (R.length + 3)), some (enc (row.map (cnt p s dn))), some (.int (g : Int)), z14, z15, z16, z17, none] (DS c k1 (R ++ .lst ((dn ++ [x]).map enc) :: t)))
      fun fl S2 => ∃ x ∈ keeps p s, ∃ k' t', ∃ (z8 z14 z15 z16 z17 : Option D), fl = .nx [z0, some (.ref 2), z2, some (enc p), z4, some (enc pl), z6, z7, z8, z9, some (.int (s : Int)), some (.ref (R.length + 3)), some (enc (row.map (cnt p s (dn ++ [x])))), some (.int (g : Int)), z14, z15, z16, z17, none] ∧ S2 = DS c k' (R ++ .lst ((dn ++ [x]).map enc) :: t') ∧ DOk k' (b + 1) := by
    intro z8 hz8
    subst hz8
    simp! only [goT, go18, b18, for18, F18, Sms.hd, Sms.tl, ds_app, ds_len, app_in, len_in, e5, enc_list row]
    refine sat_for row (fun d η S => ∃ (z15 z16 : Option D), η = [z0, some (.ref 2), z2, some (enc p), z4, some (enc pl), z6, z7, some (enc (row.map (cnt p s (dn ++ [x])))), z9, some (.int (s : Int)), some (.ref (R.length + 3)), some (enc (row.map (cnt p s dn))), some (.int (g : Int)), some (.ref (R.length + t.length + 4)), z15, z16, z17, none] ∧ S = DS c k1 (R ++ .lst ((dn ++ [x]).map enc) :: (t ++ [.lst ((d.map (cnt p s (dn ++ [x]))).map enc)]))) ⟨_, _, rfl, rfl⟩ (fun _ _ _ _ => trivial) ?_ ?_
    · rintro d e rr η S hd ⟨z15, z16, rfl, rfl⟩
      have he : e ∈ row := by rw [hd]; simp
      obtain ⟨he1, he2, _⟩ := mem_edges.mp (hsub e he)
      have hdl2 : d.length < row.length := by
        have := congrArg List.length hd
        rw [List.length_append, List.length_cons] at this
        omega
      have ei0 : ∀ S : Sto, index S (enc e) (.int 0) = some (.int (e.1 : Int)) := fun S => by rw [enc_pair, ix_tup, at_0]; rfl
      have ei1 : ∀ S : Sto, index S (enc e) (.int 1) = some (.int (e.2 : Int)) := fun S => by rw [enc_pair, ix_tup, at_1]; rfl
      refine ⟨_, rfl, ?_⟩
      simp! only [setN_s, setN_z, pix0, ei1, pixs he2, ty_append ds_end, kSeq_ref ds_at0]
      rw [comp_flt (fun x => decide (e.1 = s) && mb x (keeps p e.2)) (enc : Nm → D) (ok_ref ds_at0)]
      · simp! only [List.length_map, bm_append ds_end (show ((d.map (cnt p s (dn ++ [x]))).map (enc : Nat → D)).length < big by rw [List.length_map, List.length_map]; omega), ds_end_set]
        rw [sat_ok]
        refine ⟨_, _, rfl, ?_⟩
        have q : ((d ++ [e]).map (cnt p s (dn ++ [x]))).map (enc : Nat → D) = (d.map (cnt p s (dn ++ [x]))).map enc ++ [.int ((cnt p s (dn ++ [x]) e : Nat) : Int)] := by
          rw [List.map_append, List.map_append]; rfl
        rw [q]
        rfl
      · intro y hy
        refine ⟨_, rfl, ?_, fun _ => ?_⟩
        · simp! only [setN_s, setN_z, ei0, dec_nat]
          by_cases q : e.1 = s
          · simp! only [q, Bool.true_and]
            rw [show (enc (keeps p e.2) : D) = tpl (keeps p e.2) from rfl, in_tpl (by decide)]
            simp! only []
          · simp! only [q, Bool.false_and]
        · simp! only [setN_s, setN_z]
      · rw [List.length_append, List.length_singleton]; omega
    · rintro η S ⟨z15, z16, rfl, rfl⟩
      have hrp : ∀ S : Sto, biop .repr S [enc (row.map (cnt p s (dn ++ [x])))] = some (.str (dat (row.map (cnt p s (dn ++ [x]))) : PyData).shown) := fun S => repr_nats (fun y hy => by
        obtain ⟨e, _, rfl⟩ := List.mem_map.mp hy
        have := cnt_le p s (dn ++ [x]) e
        rw [List.length_append, List.length_singleton] at this
        omega) (by rw [List.length_map]; exact hl)
      have htu : biop .tuple (DS c k1 (R ++ .lst ((dn ++ [x]).map enc) :: (t ++ [.lst ((row.map (cnt p s (dn ++ [x]))).map enc)]))) [.ref (R.length + t.length + 4)] = some (enc (row.map (cnt p s (dn ++ [x])))) := tuple_ref ds_end
      have hrt : ∀ S : Sto, biop .repr S [.tup [.bl true, .bl true]] = some (.str "(True, True)") := fun S => by
        have := repr_ok (S := S) (d := .tup [.bl true, .bl true]) (e := .tuple [.bool true, .bool true]) rfl rfl (by decide)
        rw [this]
        congr 2
      have hu : ∀ S : Sto, run F T (n + 11) "is_update" [enc p, enc pl, .tup [.int (s : Int), enc x, enc (row.map (cnt p s (dn ++ [x])))]] S = .ok (.bl true) S := fun S => r_is_update p v pl w s row _ x h hx
      simp! only [hrp, htu, ne_str, hla, r_are_counts p v pl w s row _ h, hu, hrt, Int.reduceNeg]
      rw [sat_ok]
      exact ⟨x, hx, k1, _, _, _, _, _, _, rfl, rfl, hk1⟩
  by_cases hg : (g : Int) = 0
  · simp! only [bm_append ds_at0 (show (dn.map (enc : Nm → D)).length < big by rw [List.length_map]; omega), ds_set0, el, hin1, hla, hwr, hg, perm5]
    rw [← hg]
    exact tail _ rfl
  · simp! only [bm_append ds_at0 (show (dn.map (enc : Nm → D)).length < big by rw [List.length_map]; omega), ds_set0, el, hin1, hla, hwr, hg]
    exact tail _ rfl
theorem ds_apps {k : DK} {r l : Sto} : DS c k r ++ l = DS c k (r ++ l) := rfl
theorem rng2 : kRng1 (.int 2) = fun S => (.ok ⟨(List.range 2).map fun i : Nat => D.int (i : Int), none⟩ S : R Wk) := by
  funext S
  exact (q_kRng1 (rng_ok (k := 2) (by decide)) S).trans (by rw [rangeL_nat])
abbrev env18 (ns : List Int) (zs : List (Option D)) : Env := some (.scr ns) :: some (.ref 2) :: zs
theorem turn18 (o : c.Ok) (ns : List Int) (k : DK) (b : Nat) (hk : DOk k b) (hb : b < 10000000000) (R : Sto) (z2 z3 z4 z5 z6 z7 z8 z9 z10 z11 z12 z13 z14 z15 z16 z17 : Option D) :
    sat (exs (run F T (n + 11)) F b18 [some (.scr ns), some (.ref 2), z2, z3, z4, z5, z6, z7, z8, z9, z10, z11, z12, z13, z14, z15, z16, z17, none] (DS c k R))
      fun fl S2 => ∃ k' R' z3 z4 z5 z6 z7 z8 z9 z10 z11 z12 z13 z14 z15 z16 z17, fl = .nx [some (.scr ns), some (.ref 2), z2, z3, z4, z5, z6, z7, z8, z9, z10, z11, z12, z13, z14, z15, z16, z17, none] ∧ S2 = DS c k' R' ∧ DOk k' (b + 1000000) := by
  have b1 := big_eq
  simp! only [b18, for18, F18, Sms.hd, Sms.tl]
  refine sat_bind (r_drawn o k b hk (by omega) R) ?_
  rintro v' S' ⟨k1, g, p, rfl, rfl, hk1, p1, p2, p3, dr⟩
  have v := dr.v
  simp! only [setN_s, setN_z]
  refine sat_bind (r_map p v) ?_
  rintro v' S' ⟨L, near, rfl, rfl, hL, hLl⟩
  rw [ds_apps, ds_len]
  simp! only []
  have el : (R ++ g).length + 3 + 1 = (R ++ g).length + 4 := rfl
  rw [el]
  refine sat_bind (r_plan o k1 _ hk1 (by omega) p v (by omega) L (R ++ g) near hL hLl) ?_
  rintro v' S' ⟨k2, g2, pl, rfl, rfl, hk2, w⟩
  generalize R ++ g = R1
  simp! only [wg_many ds_at1, q_kRng1 (rng_ok (show p.1.length + p.2.length ≤ 1000000 by omega)), rangeL_nat]
  refine sat_for (List.range (p.1.length + p.2.length)) (fun d η S => ∃ z6 z7 z8, η = [some (.scr ns), some (.ref 2), z2, some (enc p), some (.ref (R1.length + 4)), some (enc pl), z6, z7, z8, z9, z10, z11, z12, z13, z14, z15, z16, z17, none] ∧ S = DS c k2 (R1 ++ .dT (dicL ek L (stepV p)) :: .dK (worldKV p (R1.length + 3) near) :: g2)) ⟨_, _, _, rfl, rfl⟩ (fun _ _ _ _ => trivial) ?_ ?_
  · rintro d i rr η S hd ⟨z6, z7, z8, rfl, rfl⟩
    have hi : i < pl.length := by
      have : i ∈ List.range (p.1.length + p.2.length) := by rw [hd]; simp
      rw [w.len]; exact List.mem_range.mp this
    refine ⟨_, rfl, ?_⟩
    simp only [setN_s, setN_z]
    show sat (exs (run F T (n + 11)) F pl18 _ _) _
    rw [places18 p v pl w i pl[i] (List.getElem?_eq_getElem hi) _ [] []]
    rw [sat_ok]
    exact ⟨_, _, _, rfl, rfl⟩
  · rintro η S ⟨z6, z7, z8, rfl, rfl⟩
    simp! only [wg_n ds_at1, q_kRng1 (rng_ok (show p.1.length ≤ 1000000 by omega)), rangeL_nat]
    rw [comp_flt (fun s => !decide (keeps p s = [])) (enc : Nat → D) ok_none]
    · simp! only []
      obtain ⟨s0, hs0⟩ := dr.some
      have hs0m : s0 ∈ (List.range p.1.length).filter fun s => !decide (keeps p s = []) := by
        refine List.mem_filter.mpr ⟨List.mem_range.mpr ?_, by simp [hs0]⟩
        obtain ⟨x, hx⟩ := List.exists_mem_of_ne_nil _ hs0
        exact mem_keeps hx
      refine sat_bind (r_pickM (enc : Nat → D) ((List.range p.1.length).filter fun s => !decide (keeps p s = [])) o k2 _ hk2 (by omega) _ (.inl rfl) (List.length_pos_of_mem hs0m) (Nat.lt_of_le_of_lt (List.length_filter_le _ _) (by rw [List.length_range]; omega)) _) ?_
      rintro v' S' ⟨k3, s, hs, rfl, rfl, hk3⟩
      rw [List.mem_filter, List.mem_range, Bool.not_eq_true', decide_eq_false_iff_not] at hs
      have hsl : s < pl.length := by rw [w.len]; omega
      have hrow : pl[s]? = some pl[s] := List.getElem?_eq_getElem hsl
      have hl := w.few _ (List.getElem_mem hsl)
      have e5 : ∀ S : Sto, index S (enc pl) (.int (s : Int)) = some (enc pl[s]) := fun S => by rw [enc_list, ix_tup, atI_some hrow]
      have e6 : ∀ S : Sto, biop .len S [enc pl[s]] = some (.int (pl[s].length : Int)) := fun S => by rw [enc_list, len_tup, List.length_map]
      have e2 : ∀ S : Sto, binop .Mult S (.tup [.int 0]) (.int (pl[s].length : Int)) = some (enc (pl[s].map (cnt p s []))) := fun S => by
        rw [b_rep0 _ _ (by simp) (by simp) hl, rep_zero]; rfl
      generalize R1 ++ .dT (dicL ek L (stepV p)) :: .dK (worldKV p (R1.length + 3) near) :: g2 = R2
      simp! only [enc_nat, e5, e6, e2, ds_app, ds_len]
      refine sat_bind (r_pickM (enc : Nat → D) [6, 4, 9, 12] o k3 _ hk3 (by omega) _ (.inl rfl) (by simp) (by simp) _) ?_
      rintro v' S' ⟨k4, m, hm, rfl, rfl, hk4⟩
      have hm : m ≤ 12 := by
        simp only [List.mem_cons, List.not_mem_nil, or_false] at hm
        omega
      simp! only [enc_nat, q_kRng1 (rng_ok (show m ≤ 1000000 by omega)), rangeL_nat]
      refine sat_for (List.range m) (fun d η S => ∃ (dn : List Nm) (k' : DK) (t' : Sto) (z6 z7 z8 z9 z13 z14 z15 z16 z17 : Option D), η = [some (.scr ns), some (.ref 2), z2, some (enc p), some (.ref (R1.length + 4)), some (enc pl), z6, z7, z8, z9, some (.int (s : Int)), some (.ref (R2.length + 3)), some (enc (pl[s].map (cnt p s dn))), z13, z14, z15, z16, z17, none] ∧ S = DS c k' (R2 ++ .lst (dn.map enc) :: t') ∧ dn.length = d.length ∧ (∀ x ∈ dn, x ∈ keeps p s) ∧ DOk k' (b + 2000 + 100000 + 2 + d.length)) ?_ (fun _ _ _ _ => trivial) ?_ ?_
      · exact ⟨[], k4, [], _, _, _, _, _, _, _, _, _, rfl, rfl, rfl, (fun x hx => nomatch hx), hk4.mono (by simp)⟩
      · rintro d i rr η S hd ⟨dn, k', t', z6, z7, z8, z9, z13, z14, z15, z16, z17, rfl, rfl, hdl, hdn, hk'⟩
        have hdm : d.length < m := by
          have := congrArg List.length hd
          rw [List.length_range, List.length_append, List.length_cons] at this
          omega
        refine ⟨_, rfl, ?_⟩
        simp only [setN_s, setN_z]
        show sat (exs (run F T (n + 11)) F go18 _ _) _
        refine sat_mono (go_step o k' _ hk' (by omega) p v pl w s pl[s] hrow hs.1 hs.2 dn hdn (by omega) i R2 t' _ _ _ _ _ _ _ _ _ _ _) ?_
        rintro fl S2 ⟨x, hx, k5, t5, y8, y14, y15, y16, y17, rfl, rfl, hk5⟩
        refine ⟨dn ++ [x], k5, t5, _, _, _, _, _, _, _, _, _, rfl, rfl, ?_, fun y hy => ?_, hk5.mono ?_⟩
        · rw [List.length_append, List.length_append, hdl]; rfl
        · rcases List.mem_append.mp hy with q | q
          · exact hdn y q
          · rw [List.mem_singleton] at q; rw [q]; exact hx
        · rw [List.length_append, List.length_singleton]; omega
      · rintro η S ⟨dn, k', t', z6, z7, z8, z9, z13, z14, z15, z16, z17, rfl, rfl, hdl, hdn, hk'⟩
        rw [List.length_range] at hk'
        simp! only []
        rw [sat_ok]
        exact ⟨k', _, _, _, _, _, _, _, _, _, _, _, _, _, _, _, _, rfl, rfl, hk'.mono (by omega)⟩
    · intro s hs
      rw [List.mem_range] at hs
      refine ⟨_, rfl, ?_, fun _ => ?_⟩
      · simp! only [setN_s, setN_z, wipeE_cons, wipeE_nil, wipe1_s, wipe1_z, pix0, pixs hs]
        rw [show (D.tup [] : D) = enc ([] : List Nm) from rfl, ne_enc (by decide)]
        simp! only []
      · simp! only [setN_s, setN_z, wipeE_cons, wipeE_nil, wipe1_s, wipe1_z]
        rfl
    · rw [List.length_range]; omega
theorem law18 (hl : T "law" = some F18) (o : c.Ok) (ns : List Int) : ∃ S, run F T (n + 12) "law" [.scr ns] [] = .ok (.bl true) S := by
  have key : sat (run F T (n + 12) "law" [.scr ns] []) fun v _ => v = .bl true := by
    rw [run_eq hl rfl rfl]
    have e : F18.body = .cons F18.body.hd (.cons for18 F18.body.tl.tl) := rfl
    rw [e]
    simp! only [F18, Sms.hd, Sms.tl, List.map_cons, List.map_nil, Nat.sub_self, Nat.reduceSub, Nat.reduceAdd, List.replicate_zero, List.replicate_succ, List.append_nil, List.cons_append, List.nil_append]
    refine sat_bind (r_deck o ns) ?_
    rintro v S ⟨k, rfl, rfl, hk⟩
    have e2 : for18 = .for (.nm 2) (.rng1 (.cst (.int 2))) b18 := rfl
    simp! only [e2, rng2]
    refine sat_for (List.range 2) (fun d η S => ∃ (k' : DK) (R : Sto) (z2 z3 z4 z5 z6 z7 z8 z9 z10 z11 z12 z13 z14 z15 z16 z17 : Option D), η = [some (.scr ns), some (.ref 2), z2, z3, z4, z5, z6, z7, z8, z9, z10, z11, z12, z13, z14, z15, z16, z17, none] ∧ S = DS c k' R ∧ DOk k' (1000000 * d.length)) ⟨k, [], _, _, _, _, _, _, _, _, _, _, _, _, _, _, _, _, rfl, rfl, hk⟩ (fun _ _ _ _ => trivial) ?_ ?_
    · rintro d i rr η S hd ⟨k', R, z2, z3, z4, z5, z6, z7, z8, z9, z10, z11, z12, z13, z14, z15, z16, z17, rfl, rfl, hk'⟩
      have hdl : d.length < 2 := by
        have := congrArg List.length hd
        rw [List.length_range, List.length_append, List.length_cons] at this
        omega
      refine ⟨_, rfl, ?_⟩
      simp only [setN_s, setN_z]
      refine sat_mono (turn18 o ns k' _ hk' (by omega) R _ _ _ _ _ _ _ _ _ _ _ _ _ _ _ _) ?_
      rintro fl S2 ⟨k2, R2, y3, y4, y5, y6, y7, y8, y9, y10, y11, y12, y13, y14, y15, y16, y17, rfl, rfl, hk2⟩
      refine ⟨k2, R2, _, _, _, _, _, _, _, _, _, _, _, _, _, _, _, _, rfl, rfl, hk2.mono ?_⟩
      rw [List.length_append, List.length_singleton]; omega
    · rintro η S ⟨k', R, z2, z3, z4, z5, z6, z7, z8, z9, z10, z11, z12, z13, z14, z15, z16, z17, rfl, rfl, hk'⟩
      simp! only []
      rw [sat_ok]
  obtain ⟨v, S, e, rfl⟩ := key
  exact ⟨S, e⟩
end
end MP

set_option Elab.async false
set_option linter.all false
set_option maxRecDepth 100000
set_option maxHeartbeats 4000000
/-! K18a: the table of k18. -/
namespace CL
open PySem PySem.Spec PyProof.Rows L2
abbrev Pr : Program := PySem.Challenge.pw_causeloops_k18_whole_counts_of_writes_by
def rows0 : List (Str × List Str × List Str × Bool) := [("is_integer", ["thing"], ["thing"], false),
  ("is_between", ["thing", "least", "most"], ["thing", "least", "most"], false),
  ("is_count", ["thing"], ["thing"], false),
  ("is_name", ["thing", "sign"], ["thing"], false),
  ("is_row", ["thing", "many"], ["thing", "many"], false),
  ("is_rising", ["some", "one", "other"], ["some"], false),
  ("are_registers", ["thing", "register"], ["thing"], false),
  ("is_client", ["many", "thing", "s"], ["many", "thing"], false),
  ("is_placement_value", ["thing", "registers", "sites"], ["thing"], false),
  ("need_placement", ["placement"], ["placement"], false),
  ("sites_in", ["placement"], ["placement"], false),
  ("places_in", ["placement"], ["placement"], false)]
def rows1 : List (Str × List Str × List Str × Bool) := [("need_place", ["placement", "place"], ["placement", "place"], false),
  ("need_site", ["placement", "place"], ["placement", "place"], false),
  ("is_site", ["placement", "place"], ["placement", "place"], false),
  ("kept_at", ["placement", "place"], ["placement", "place"], false),
  ("shared_by", ["placement", "one", "other", "register"], ["placement", "one", "other"], false),
  ("is_edge", ["placement", "j", "k"], ["placement", "j", "k"], false),
  ("edges_in", ["placement", "sites", "j", "k"], ["placement"], false),
  ("is_edge_value", ["placement", "thing", "s"], ["placement", "thing"], false),
  ("are_counts_value", ["plan", "place", "thing", "count"], ["plan", "place", "thing"], false),
  ("need_counts", ["plan", "place", "counts"], ["plan", "place", "counts"], false),
  ("book_of", ["plan", "place", "counts"], ["plan", "place", "counts"], false),
  ("row_of", ["plan", "place", "book", "edge"], ["plan", "place", "book"], false)]
def rows2 : List (Str × List Str × List Str × Bool) := [("zeros", ["plan", "place"], ["plan", "place"], false),
  ("is_update_value", ["placement", "plan", "thing"], ["placement", "plan", "thing"], false),
  ("others_with", ["placement", "i", "register", "k"], ["placement", "i", "register"], false),
  ("written_counts", ["placement", "plan", "i", "counts", "register", "book", "k"], ["placement", "plan", "i", "counts", "register"], true),
  ("is_own", ["place", "edge"], ["place", "edge"], false),
  ("counts_own", ["placement", "place", "counted", "edge"], ["placement", "place", "counted"], false),
  ("is_counted_row", ["placement", "place", "thing", "edge"], ["placement", "place", "thing"], false),
  ("is_plan_value", ["placement", "thing", "place", "counted"], ["placement", "thing"], false),
  ("need_plan", ["placement", "plan"], ["placement", "plan"], false),
  ("new_counts", ["placement", "plan", "place"], ["placement", "plan", "place"], false),
  ("are_counts", ["placement", "plan", "place", "thing"], ["placement", "plan", "place", "thing"], false),
  ("is_update", ["placement", "plan", "thing"], ["placement", "plan", "thing"], false)]
def rows3 : List (Str × List Str × List Str × Bool) := [("written", ["placement", "plan", "place", "counts", "register"], ["placement", "plan", "place", "counts", "register"], false),
  ("_law_deck", ["script", "mixed", "cell"], ["script"], false),
  ("_law_draw", ["deck", "many", "figure", "cell"], ["deck", "many"], false),
  ("_law_pick", ["deck", "some"], ["deck", "some"], false),
  ("_law_names", ["deck", "many", "left", "found", "turn", "letter"], ["deck", "many"], false),
  ("_law_some", ["deck", "many", "least", "left", "found", "turn"], ["deck", "many", "least"], false),
  ("_law_placement", ["deck", "sites", "clients", "registers", "kept", "some", "name", "site", "visits", "client", "names"], ["deck", "sites", "clients", "registers"], false),
  ("_law_ring", ["deck", "many", "sites", "kept", "visits", "some", "clients", "site", "other", "name", "names"], ["deck", "many", "sites"], false),
  ("_law_tree", ["deck", "sites", "kept", "some", "site", "other", "names"], ["deck", "sites"], false),
  ("_law_drawn", ["deck", "sites", "way", "clients"], ["deck"], false),
  ("_law_map", ["placement", "sites", "clients", "n", "many", "steps", "one", "other", "both", "at", "visits", "site", "near", "name"], ["placement"], false),
  ("_law_edges", ["world", "step"], ["world"], false)]
def rows4 : List (Str × List Str × List Str × Bool) := [("_law_plan", ["deck", "world", "edges", "found", "way", "place", "few", "some", "edge"], ["deck", "world"], false),
  ("law", ["script", "deck", "turn", "placement", "world", "plan", "place", "zeros_v", "told", "sites", "site", "done", "counts", "go", "due", "edge", "kept", "update", "name"], ["script"], false)]
def rowsN : List (Str × List Str × List Str × Bool) := rows0 ++ rows1 ++ rows2 ++ rows3 ++ rows4
def mLs : List (Nat × Nat) := [(149, 20), (166, 19), (166, 55), (172, 19), (172, 38), (177, 19), (184, 27), (184, 57), (199, 19), (233, 44), (251, 46), (258, 18)]
def tDs : List (Nat × Nat) := [(218, 12)]
def wDs : List (Nat × Nat) := [(231, 24)]
def cfg : MP.Cfg where
  fns := rowsN.map fun r => (r.1, r.2.2.1)
  cst := [("LETTERS", .str "abcdefghijklmnopqrstuvwxyz"), ("MOST_LETTERS", .int 10)]
  bts := ["isinstance", "int", "bool", "str", "tuple", "list", "dict", "len", "all", "any", "range", "zip", "enumerate", "max", "min", "repr", "sorted", "set"]
  kwl := [("new_counts", ["place", "plan", "placement"]), ("written", ["register", "counts", "place", "plan", "placement"])]
  mL := mLs
  tD := tDs
  wD := wDs
def ent (st : Stmt) : Option MP.Entry := match st with
  | .FunctionDef name args body _ _ _ scope _ _ _ => (rowsN.lookup name).map fun r => ⟨⟨name, name, args, body, scope⟩, r.1, r.2.1, r.2.2⟩
  | _ => none
def tab : List MP.Entry := Pr.main.body.filterMap ent
theorem there : MP.allThere cfg tab = true := by kernel_rfl
end CL

set_option Elab.async false
set_option linter.all false
set_option maxRecDepth 100000
set_option maxHeartbeats 4000000
/-! K18b: what the head says of k18's table. -/
namespace CL
open PySem PySem.Spec PyProof.Rows L2
theorem kwA {fd : FuncData} (h1 : fd.params.posonlyargs = []) (h2 : fd.params.args.map (·.arg) = (["placement", "plan", "place"] : List Str)) (h3 : fd.params.kwonlyargs = []) (h4 : fd.params.vararg = none) (h5 : fd.params.kwarg = none) (h6 : fd.defaults = .none)
    (v0 v1 v2 : Value) : bindArgs fd ⟨[], ([("place", v0), ("plan", v1), ("placement", v2)] : List (Str × Value))⟩ = pure ([("placement", v2), ("plan", v1), ("place", v0)] : List (Str × Value)) := by
  unfold bindArgs
  simp only [h1, h2, h3, h4, h5, h6, List.map_nil, List.nil_append, List.append_nil]
  have hs : seqItems? Value.none = pure none := rfl
  have e0 : (["placement", "plan", "place"] : List Str).contains "placement" = true := by decide +kernel
  have e1 : (["placement", "plan", "place"] : List Str).contains "plan" = true := by decide +kernel
  have e2 : (["placement", "plan", "place"] : List Str).contains "place" = true := by decide +kernel
  have n01 : (("placement" : Str) == "plan") = false := by decide +kernel
  have n02 : (("placement" : Str) == "place") = false := by decide +kernel
  have n10 : (("plan" : Str) == "placement") = false := by decide +kernel
  have n12 : (("plan" : Str) == "place") = false := by decide +kernel
  have n20 : (("place" : Str) == "placement") = false := by decide +kernel
  have n21 : (("place" : Str) == "plan") = false := by decide +kernel
  simp [hs, e0, e1, e2, n01, n02, n10, n12, n20, n21, List.lookup_cons, List.filter_cons, List.filterMap_cons]
theorem kwB {fd : FuncData} (h1 : fd.params.posonlyargs = []) (h2 : fd.params.args.map (·.arg) = (["placement", "plan", "place", "counts", "register"] : List Str)) (h3 : fd.params.kwonlyargs = []) (h4 : fd.params.vararg = none) (h5 : fd.params.kwarg = none) (h6 : fd.defaults = .none)
    (v0 v1 v2 v3 v4 : Value) : bindArgs fd ⟨[], ([("register", v0), ("counts", v1), ("place", v2), ("plan", v3), ("placement", v4)] : List (Str × Value))⟩ = pure ([("placement", v4), ("plan", v3), ("place", v2), ("counts", v1), ("register", v0)] : List (Str × Value)) := by
  unfold bindArgs
  simp only [h1, h2, h3, h4, h5, h6, List.map_nil, List.nil_append, List.append_nil]
  have hs : seqItems? Value.none = pure none := rfl
  have e0 : (["placement", "plan", "place", "counts", "register"] : List Str).contains "placement" = true := by decide +kernel
  have e1 : (["placement", "plan", "place", "counts", "register"] : List Str).contains "plan" = true := by decide +kernel
  have e2 : (["placement", "plan", "place", "counts", "register"] : List Str).contains "place" = true := by decide +kernel
  have e3 : (["placement", "plan", "place", "counts", "register"] : List Str).contains "counts" = true := by decide +kernel
  have e4 : (["placement", "plan", "place", "counts", "register"] : List Str).contains "register" = true := by decide +kernel
  have n01 : (("placement" : Str) == "plan") = false := by decide +kernel
  have n02 : (("placement" : Str) == "place") = false := by decide +kernel
  have n03 : (("placement" : Str) == "counts") = false := by decide +kernel
  have n04 : (("placement" : Str) == "register") = false := by decide +kernel
  have n10 : (("plan" : Str) == "placement") = false := by decide +kernel
  have n12 : (("plan" : Str) == "place") = false := by decide +kernel
  have n13 : (("plan" : Str) == "counts") = false := by decide +kernel
  have n14 : (("plan" : Str) == "register") = false := by decide +kernel
  have n20 : (("place" : Str) == "placement") = false := by decide +kernel
  have n21 : (("place" : Str) == "plan") = false := by decide +kernel
  have n23 : (("place" : Str) == "counts") = false := by decide +kernel
  have n24 : (("place" : Str) == "register") = false := by decide +kernel
  have n30 : (("counts" : Str) == "placement") = false := by decide +kernel
  have n31 : (("counts" : Str) == "plan") = false := by decide +kernel
  have n32 : (("counts" : Str) == "place") = false := by decide +kernel
  have n34 : (("counts" : Str) == "register") = false := by decide +kernel
  have n40 : (("register" : Str) == "placement") = false := by decide +kernel
  have n41 : (("register" : Str) == "plan") = false := by decide +kernel
  have n42 : (("register" : Str) == "place") = false := by decide +kernel
  have n43 : (("register" : Str) == "counts") = false := by decide +kernel
  simp [hs, e0, e1, e2, e3, e4, n01, n02, n03, n04, n10, n12, n13, n14, n20, n21, n23, n24, n30, n31, n32, n34, n40, n41, n42, n43, List.lookup_cons, List.filter_cons, List.filterMap_cons]
def defsOf (p : Program) : List He.DefD := p.main.body.filterMap fun st => match st with
  | .FunctionDef name args body _ _ _ scope _ _ _ => some ⟨(name, none), name, name, args, body, scope, [], []⟩
  | _ => none
def fn : List He.DefD := defsOf Pr
def fa : List He.Fa := (rowsN.map fun r => He.Fa.glo r.1) ++ (cfg.bts.map He.Fa.free) ++ [.int "MOST_LETTERS" 10, .str "LETTERS" "abcdefghijklmnopqrstuvwxyz"]
theorem tab_mem {e : MP.Entry} (h : e ∈ tab) : (⟨(e.df.name, none), e.df.name, e.df.name, e.df.params, e.df.body, e.df.scope, [], []⟩ : He.DefD) ∈ fn ∧ e.df.qual = e.df.name ∧ ∃ r, rowsN.lookup e.df.name = some r ∧ e.ps = r.2.1 := by
  unfold tab at h
  obtain ⟨st, h1, h2⟩ := List.mem_filterMap.mp h
  unfold ent at h2
  split at h2 <;> try contradiction
  rename_i name args body _ _ _ scope _ _ _
  rw [Option.map_eq_some_iff] at h2
  obtain ⟨r, h3, rfl⟩ := h2
  exact ⟨List.mem_filterMap.mpr ⟨_, h1, rfl⟩, rfl, r, h3, rfl⟩
theorem lookup_mem {β : Type} {x : Str} : ∀ {l : List (Str × β)} {r : β}, l.lookup x = some r → (x, r) ∈ l
  | [], _, h => by cases h
  | (y, v) :: l, r, h => by
    rw [List.lookup_cons] at h
    split at h
    · rename_i e
      cases h
      rw [eq_of_beq e]; exact List.mem_cons_self
    · exact List.mem_cons_of_mem _ (lookup_mem h)
theorem term_of {e : MP.Entry} (h : e ∈ tab) : (MP.termOf cfg e).isSome = true := List.all_eq_true.mp there e h
section
variable {K : PySem.W.Frag} {h : Heap} {mg : Str → Option Value}
theorem ws3 {ws : List Value} (h : ws.length = 3) : ∃ a b d, ws = [a, b, d] := match ws, h with
  | [a, b, d], _ => ⟨a, b, d, rfl⟩
theorem ws5 {ws : List Value} (h : ws.length = 5) : ∃ a b d x y, ws = [a, b, d, x, y] := match ws, h with
  | [a, b, d, x, y], _ => ⟨a, b, d, x, y, rfl⟩
theorem tab_defs (X : K.In h) (G : h.Ns mainGlobals mg) (c : He.SaysD fa fn K) (e : MP.Entry) (he : e ∈ tab) : ∃ f fd, mg e.df.name = some (.ref f) ∧ FunD K e.df.name e.df.qual e.df.params e.df.body e.df.scope [] [] f fd ∧ MP.kwOk cfg fd e.df.name e.ps := by
  obtain ⟨hm, hq, r, hr, hps⟩ := tab_mem he
  obtain ⟨fd, D⟩ := c.defs hm
  have g := He.glo_ok X G (c.facts (f := He.Fa.glo e.df.name) (List.mem_append_left _ (List.mem_append_left _ (List.mem_map.mpr ⟨_, lookup_mem hr, rfl⟩))))
  refine ⟨He.ga K e.df.name, fd, g, by rw [hq]; exact D, fun ks is hk hp ws zs ho hl => ?_⟩
  obtain ⟨oc, od, dV, kV, doc, pm, an, cdv, ct, osl, rfl, lk, hcd, hdf, _⟩ := D.ex
  have hdV : dV = .none := by
    rcases hdf with ⟨_, z⟩ | ⟨z, _⟩
    · exact z
    · exact absurd rfl z
  obtain ⟨tm, ht⟩ := Option.isSome_iff_exists.mp (term_of he)
  obtain ⟨_, t2, _⟩ := MP.termOf_some ht
  obtain ⟨p1, p2, p3, p4, p5, p6⟩ := MP.plainB_ok t2
  have hk : (e.df.name, ks) = (("new_counts", ["place", "plan", "placement"]) : Str × List Str) ∨ (e.df.name, ks) = (("written", ["register", "counts", "place", "plan", "placement"]) : Str × List Str) := by
    rcases List.mem_cons.mp hk with z | z
    · exact .inl z
    · exact .inr (List.mem_singleton.mp z)
  rcases hk with z | z
  · injection z with z1 z2
    rw [z1] at hr
    have er : rowsN.lookup ("new_counts" : Str) = some ((["placement", "plan", "place"], ["placement", "plan", "place"], false) : List Str × List Str × Bool) := by kernel_rfl
    rw [er] at hr
    cases hr
    rw [hps] at p2 hp ⊢
    subst z2
    have ei : MP.kwPerm ["placement", "plan", "place"] ["place", "plan", "placement"] = some [2, 1, 0] := by kernel_rfl
    rw [show MP.kwPerm _ _ = _ from ei] at hp
    cases hp
    obtain ⟨a, b, d, rfl⟩ := ws3 hl
    cases ho
    exact kwA p1 p2 p4 p3 p5 hdV a b d
  · injection z with z1 z2
    rw [z1] at hr
    have er : rowsN.lookup ("written" : Str) = some ((["placement", "plan", "place", "counts", "register"], ["placement", "plan", "place", "counts", "register"], false) : List Str × List Str × Bool) := by kernel_rfl
    rw [er] at hr
    cases hr
    rw [hps] at p2 hp ⊢
    subst z2
    have ei : MP.kwPerm ["placement", "plan", "place", "counts", "register"] ["register", "counts", "place", "plan", "placement"] = some [4, 3, 2, 1, 0] := by kernel_rfl
    rw [show MP.kwPerm _ _ = _ from ei] at hp
    cases hp
    obtain ⟨a, b, d, x, y, rfl⟩ := ws5 hl
    cases ho
    exact kwB p1 p2 p4 p3 p5 hdV a b d x y
def fnsB : Bool := cfg.fns.all fun p => match tab.find? fun e => e.df.name == p.1 with
  | some e => e.ps == p.2
  | none => false
theorem fnsB_ok : fnsB = true := by kernel_rfl
theorem tabOk (X : K.In h) (G : h.Ns mainGlobals mg) (c : He.SaysD fa fn K) : MP.TabOk K mg cfg tab where
  defs := tab_defs X G c
  fns := fun x ps hx => by
    have q := List.all_eq_true.mp fnsB_ok _ (lookup_mem hx)
    dsimp only at q
    split at q
    · rename_i e he
      exact ⟨e, he, eq_of_beq q⟩
    · cases q
  bts := fun x hx => He.free_ok X G (c.facts (f := He.Fa.free x) (List.mem_append_left _ (List.mem_append_right _ (List.mem_map.mpr ⟨x, hx, rfl⟩))))
  cst := fun x d hx => by
    have q := lookup_mem hx
    rcases List.mem_cons.mp q with z | z
    · cases z
      obtain ⟨t, e⟩ := He.str_ok X G (c.facts (f := He.Fa.str "LETTERS" "abcdefghijklmnopqrstuvwxyz") (List.mem_append_right _ (List.mem_cons_of_mem _ List.mem_cons_self)))
      exact ⟨.str _, _, e, ⟨t, rfl⟩, fun μ H => .str _⟩
    · cases List.mem_singleton.mp z
      obtain ⟨t, e⟩ := He.int_ok X G (c.facts (f := He.Fa.int "MOST_LETTERS" 10) (List.mem_append_right _ List.mem_cons_self))
      exact ⟨.int _, _, e, ⟨t, rfl⟩, fun μ H => .int _⟩
end
end CL

set_option Elab.async false
set_option linter.all false
set_option maxRecDepth 100000
set_option maxHeartbeats 4000000
/-! K18t: k18's table is as WF says. -/
namespace CL
open PySem MP
abbrev T : Str → Option Fn := MP.tabT cfg tab
instance : GA T := by
  constructor <;> kernel_rfl
instance : GZ T := by
  constructor <;> kernel_rfl
instance : GB T := by
  constructor <;> kernel_rfl
instance : GB2 T := by
  constructor <;> kernel_rfl
instance : GB3 T := by
  constructor <;> kernel_rfl
def deckC : DeckC := ⟨"left", (15368018, 2147483629, 21, 2147483563), (54059, 2147483629, 39373, 21, 2147483647, 61027, 21, 2147483587, 69621, 2147483563)⟩
instance : GD deckC T := by
  constructor <;> kernel_rfl
end CL

set_option Elab.async false
set_option linter.all false
set_option maxRecDepth 100000
set_option maxHeartbeats 4000000
/-! K18d: what the claim wants of the head. -/
namespace CL
open PySem PySem.Spec PyProof.Rows L2
noncomputable def runL : List MP.D → MP.Sto → MP.R MP.D := MP.run (fun _ _ => false) (MP.tabT cfg tab) 100 "law"
theorem deckOk : deckC.Ok where
  n1 := by decide
  n2 := by decide
  m0 := by unfold deckC MP.bnd; decide
  m1 := by unfold deckC MP.bnd; decide
  m2 := by unfold deckC MP.bnd; decide
  m3 := by unfold deckC MP.bnd; decide
  d0 := by unfold deckC MP.bnd; decide
  d1 := by unfold deckC MP.bnd; decide
  d2 := by unfold deckC MP.bnd; decide
  d3 := by unfold deckC MP.bnd; decide
  d4 := by unfold deckC MP.bnd; decide
  d5 := by unfold deckC MP.bnd; decide
  d6 := by unfold deckC MP.bnd; decide
  d7 := by unfold deckC MP.bnd; decide
  d8 := by unfold deckC MP.bnd; decide
  d9 := by unfold deckC MP.bnd; decide
theorem lawT : MP.tabT cfg tab "law" = some MP.F18 := by kernel_rfl
theorem math (ns : List Int) : ∃ S, runL [.scr ns] [] = .ok (.bl true) S :=
  MP.law18 (F := fun _ _ => false) (T := MP.tabT cfg tab) (n := 88) lawT deckOk ns
theorem lawFn : cfg.fns.lookup ("law" : Str) = some (["script"] : List Str) := by kernel_rfl
theorem facts {P : Program} {w : World} {K : PySem.W.Frag} {h : Heap} {mg : Str → Option Value} {fl : Addr} (X : K.In h) (G : h.Ns mainGlobals mg) (hmg : mg ("law" : Str) = some (.ref fl)) (c : He.SaysD fa fn K) :
    ∃ fd : FuncData, (∀ (s : Shared) (u : Value), BindsTo s fd ⟨[u], []⟩ [("script", u)]) ∧ ∀ base : Heap, MP.GOk P w K mg base 100 fl fd ["script"] (MP.spOf K runL 1) := by
  have O := tabOk X G c
  obtain ⟨f, fd, g1, g2, g3, g4, _, _⟩ := MP.tab_one (P := P) (w := w) (F := fun _ _ => false) O (fun e he => term_of he) 100 "law" ["script"] lawFn
  have ef : f = fl := by
    rw [hmg] at g1
    injection g1 with g1
    injection g1 with g1
    exact g1.symm
  subst ef
  exact ⟨fd, fun s u => .of_eq (g4 [u] rfl), g3⟩
end CL

set_option Elab.async false
set_option linter.all false
set_option maxRecDepth 100000
set_option maxHeartbeats 0
/-! K18c: the claim, but for its mathematics. -/
namespace CL
open PySem PySem.Spec PyProof.Rows L2
abbrev Rw : PySem.W.OpenLaw := PySem.Challenge.rw_causeloops_k18_whole_counts_of_writes_by
def lawIx : Nat := (Pr.main.body.findIdx? fun st => match st with
  | .FunctionDef name _ _ _ _ _ _ _ _ _ => name == "law"
  | _ => false).getD 0
def loose : List Str := (Pr.main.scope.names.map (·.1)).filter fun x => !(x == "law") && !(x == "__name__")
abbrev R : PySem.W.OpenRow := PySem.W.OpenLaw.row Rw
abbrev hk : PySem.W.Hook := He.hookD 4 fa fn
def ob (s : PySem.W.SharedT) : He.AlD := He.obsDG 4 fa fn (HandSHeadRun.getT s)
theorem ob_eq (s : PySem.W.SharedT) : ob s = hk.obs s.abs := He.obsDG_eq (HandSHeadRun.getT_eq s)
theorem run (w : World) : HandSHeadRun.RunEq R (PySem.W.view R.prog [lawIx]) hk ob 4000 loose w := by
  intro os
  kernel_rfl
end CL
open PySem PySem.W PySem.Calls PyProof.Rows
theorem PySem.Challenge.cw_causeloops_k18_whole_counts_of_writes_by_holds : PySem.Challenge.rw_causeloops_k18_whole_counts_of_writes_by.Holds := by
  w_on; o_law
  refine HandSHeadRun.head_any (r := OpenLaw.row CL.Rw) (q := view (OpenLaw.row CL.Rw).prog [CL.lawIx]) (H := CL.hk) (ob := CL.ob) (M := 4000) (loose := CL.loose) (d := HandSHeadRun.topDef (OpenLaw.row CL.Rw).prog CL.lawIx) (kwd := []) CL.ob_eq
    (by kernel_rfl) (fun s => by kernel_rfl) CL.run (by kernel_rfl) (by kernel_rfl) (by kernel_rfl) (by rfl) (by first | assumption | decide +kernel) (by decide +kernel) ⟨rfl, rfl, rfl, rfl, rfl, by decide +kernel⟩ ?hw ?hc
  case hw => w_witness2
  case hc =>
    refine MP.walk_g (l := CL.Rw) (n := 63) (k := 100) (x := "script") rfl (by decide) (by kernel_rfl) ⟨rfl, by decide, by decide⟩ ?F
    intro w mg fa h Y G hmg0
    obtain ⟨K, KX, c⟩ := Y
    have hmg : mg ("law" : PySem.Str) = some (.ref fa) := by
      have e : (HandSHeadRun.topDef (OpenLaw.row CL.Rw).prog CL.lawIx).name = ("law" : PySem.Str) := by kernel_rfl
      rw [← e]
      exact hmg0
    obtain ⟨fd, hb, hG⟩ := CL.facts (P := CL.Rw.prog) (w := w) KX G hmg c
    exact ⟨K, fd, CL.runL, KX, hb, fun ns _ => CL.math ns, fun base _ _ => hG base⟩
